import PyProof.Rows.All
import Wide.All
import OpenK.AllK
import Wide.FinOn
import HandS.ForMost
import HandS.Walk
import HandS.Defaults
import HandS.Lambda
import HandS.ExcCtx
import HandS.Property
import HandS.ClsMeth
import HandS.TupAny
import HandS.Wide
import HandS.WideBits
import HandS.IsInst
import HandS.Style
import HandS.Text
import KE.KTupSum
import KE.GoesEnum
import HandS.Zip
import HandS.MakeKwOnly
import KE.KStateDown
import HandS.Head0
import HandS.Head1
import HandS.Head2
import HandS.HeadEnd
import HandS.HeadHook1
import HandS.HeadHook2
import HandS.SortKw
import HandS.SortInts
import HandS.Rev
import HandS.FStr
import HandS.ListItems
import PyProof.Draws
import HandS.OwnEq
import KE.KDictZip
import KE.KOpsOwn
import KE.DatumOrd
import PyProof.ListNew
import HandS.Star
import PyProof.ReprRoads
import KE.KFmtOwn
import HandS.TryOnly
import PyProof.Rows.Range3
import HandS.Dict
import HandS.More
import PyProof.StrLawsRepr
import PySem.Challenge.RW_sparepay_k02_cards_made_and_read
import Lean
set_option Elab.async false
set_option linter.all false
set_option maxRecDepth 100000
set_option maxHeartbeats 2000000
/-! Mi0: a mirror of Python code as plain functions on data, over the hand layer. Data D, how data lie in the abstract heap (Rep), steps of the heap (Stp, Gd), slots (Env, Sta), readings of mirrors (rdE, rdT, rdA, rdS, rdI, rdG, spM). -/
namespace Mi
open PySem PySem.Spec PyProof.Rows L2

/-- data -/
inductive D where
  | non | bl (b : Bool) | int (i : Int) | str (x : Str)
  | tup (ds : List D) | lst (ds : List D)
  | obj (c : Str) (ks : List Str) (ds : List D)
  | pur | ty (n : String) | cls (c : Str) | scr (ns : List Int)
  /-- an error that was caught; a dict with texts as keys -/
  | exc (c : Str) (ks : List Str) (ds : List D) | dct (ks : List Str) (ds : List D) | ecl (c : Str)
/-- the errors of the package, their three bases -/
def errV : List Str := ["InvalidName", "InvalidText", "InvalidAmount", "InvalidBill", "InvalidIndex", "NotACard", "NotAWallet", "NotAForm", "NotACourse", "NotFacts", "NotARule", "InvalidCards", "InvalidRow", "InvalidEvents", "InvalidPayment", "InvalidPaid", "InvalidRefused", "InvalidKeys"]
def errN : List Str := ["UnknownName", "InUse"]
def errA : List Str := ["CannotPay", "Full", "TooMany", "NoWallet", "Broken", "NothingToUndo"]
def errB : List Str := ["WrongValue", "WrongName", "NoAnswer"]
def errs : List Str := errV ++ errN ++ errA ++ errB

/-- the tables of code objects that lambdas are written into -/
class Tabl where
  T : List (Addr × Str)
  loose : Bool
variable [TB : Tabl]

/-- the one list that changes through calls (a purse of drawn numbers); idle: none is in use -/
inductive PuS where
  | real (l : List Int) | idle (o : HO)
def PuS.ho : PuS → HO
  | .real l => .lst (l.map V.int)
  | .idle o => o

/-- what is fixed: the written part, the classes by name -/
structure Wo where
  K : PySem.W.Frag
  cl : Str → Addr
  cs : List Str

inductive Rep (W : Wo) (p : Addr) (F : Hp) : V → D → Prop
  | non : Rep W p F .non .non
  | bl (b : Bool) : Rep W p F (.bl b) (.bl b)
  | int (i : Int) : Rep W p F (.int i) (.int i)
  | str (x : Str) : Rep W p F (.str x) (.str x)
  | ty (n : String) : Rep W p F (.ty n) (.ty n)
  | cls (c : Str) (hc : c ∈ W.cs) : Rep W p F (.ref (W.cl c)) (.cls c)
  | pur : Rep W p F (.ref p) .pur
  | scr {a : Addr} {ns : List Int} (h : SqL W.K F a (ns.map V.int)) : Rep W p F (.ref a) (.scr ns)
  | tup {a : Addr} {vs : List V} {ds : List D} (h : SqT W.K F a vs) (l : vs.length = ds.length) (r : ∀ (i : Nat) (v : V) (d : D), vs[i]? = some v → ds[i]? = some d → Rep W p F v d) : Rep W p F (.ref a) (.tup ds)
  | lst {a : Addr} {vs : List V} {ds : List D} (h : F a = some (.lst vs)) (l : vs.length = ds.length) (r : ∀ (i : Nat) (v : V) (d : D), vs[i]? = some v → ds[i]? = some d → Rep W p F v d) : Rep W p F (.ref a) (.lst ds)
  | obj {a dx : Addr} {c : Str} {ks : List Str} {vs : List V} {ds : List D} (hc : c ∈ W.cs) (h : F a = some (.ins (W.cl c) dx (ks.zip vs))) (lk : ks.length = vs.length) (l : vs.length = ds.length)
      (r : ∀ (i : Nat) (v : V) (d : D), vs[i]? = some v → ds[i]? = some d → Rep W p F v d) : Rep W p F (.ref a) (.obj c ks ds)
  | exc {a dx : Addr} {oe : Obj} {u : HO} {fs : Array Value} {c : Str} {ks : List Str} {vs : List V} {ds : List D} (hc : c ∈ errs) (h : F a = some (.frz oe u)) (hk : oe.cls = .ref (W.cl c)) (hf : oe.data = .fields fs) (h2 : fs[2]? = some .none)
      (hx : (oe.dict = some dx ∧ F dx = some (.xd (ks.zip vs))) ∨ (oe.dict = none ∧ ks = [])) (lk : ks.length = vs.length) (l : vs.length = ds.length) (r : ∀ (i : Nat) (v : V) (d : D), vs[i]? = some v → ds[i]? = some d → Rep W p F v d) : Rep W p F (.ref a) (.exc c ks ds)
  | ecl (c : Str) (hc : c ∈ errs) : Rep W p F (.ref (W.cl c)) (.ecl c)
  | dct {a : Addr} {ks : List Str} {vs : List V} {ds : List D} (h : F a = some (.dK ((ks.map Sum.inr).zip vs))) (lk : ks.length = vs.length) (l : vs.length = ds.length)
      (r : ∀ (i : Nat) (v : V) (d : D), vs[i]? = some v → ds[i]? = some d → Rep W p F v d) : Rep W p F (.ref a) (.dct ks ds)

def Reps (W : Wo) (p : Addr) (F : Hp) (vs : List V) (ds : List D) : Prop := vs.length = ds.length ∧ ∀ (i : Nat) (v : V) (d : D), vs[i]? = some v → ds[i]? = some d → Rep W p F v d

theorem sq_t {K : PySem.W.Frag} {H H' : Hp} {a : Addr} {xs : List V} (e : Same H H') (h : SqT K H a xs) : SqT K H' a xs := by
  rcases h with (h | ⟨o, h⟩) | h
  · exact .inl (.inl (e _ _ h))
  · exact .inl (.inr ⟨o, e _ _ h⟩)
  · exact .inr h

theorem sq_l {K : PySem.W.Frag} {H H' : Hp} {a : Addr} {xs : List V} (e : Same H H') (h : SqL K H a xs) : SqL K H' a xs := by
  rcases h with (h | ⟨o, h⟩) | h
  · exact .inl (.inl (e _ _ h))
  · exact .inl (.inr ⟨o, e _ _ h⟩)
  · exact .inr h

section
variable {W : Wo} {p : Addr} {F F' H H' F1 H1 F2 H2 : Hp} {u u1 u2 : PuS}
theorem Rep.mono {v : V} {d : D} (e : Same F F') (h : Rep W p F v d) : Rep W p F' v d := by
  induction h with
  | non => exact .non
  | bl b => exact .bl b
  | int i => exact .int i
  | str x => exact .str x
  | ty n => exact .ty n
  | cls c hc => exact .cls c hc
  | pur => exact .pur
  | scr h => exact .scr (sq_l e h)
  | tup h l r ih => exact .tup (sq_t e h) l ih
  | lst h l r ih => exact .lst (e _ _ h) l ih
  | obj hc h lk l r ih => exact .obj hc (e _ _ h) lk l ih
  | exc hc h hk hf h2 hx lk l r ih => exact .exc hc (e _ _ h) hk hf h2 (hx.imp (fun z => ⟨z.1, e _ _ z.2⟩) id) lk l ih
  | dct h lk l r ih => exact .dct (e _ _ h) lk l ih
  | ecl c hc => exact .ecl c hc
theorem Reps.mono {vs : List V} {ds : List D} (e : Same F F') (h : Reps W p F vs ds) : Reps W p F' vs ds := ⟨h.1, fun i v d a b => (h.2 i v d a b).mono e⟩
theorem Reps.nil : Reps W p F [] [] := ⟨rfl, fun i v d a _ => by simp at a⟩
theorem Reps.cons {v : V} {d : D} {vs : List V} {ds : List D} (h : Rep W p F v d) (r : Reps W p F vs ds) : Reps W p F (v :: vs) (d :: ds) := by
  refine ⟨by simp [r.1], fun i x y a b => ?_⟩
  cases i with
  | zero =>
    simp at a b
    subst a; subst b
    exact h
  | succ i =>
    simp at a b
    exact r.2 i x y a b
theorem Reps.uncons {vs : List V} {d : D} {ds : List D} (r : Reps W p F vs (d :: ds)) : ∃ v vr, vs = v :: vr ∧ Rep W p F v d ∧ Reps W p F vr ds := by
  obtain ⟨l, r⟩ := r
  cases vs with
  | nil => simp at l
  | cons v vr => exact ⟨v, vr, rfl, r 0 v d rfl rfl, by simpa using l, fun i x y a b => r (i + 1) x y (by simpa using a) (by simpa using b)⟩
theorem Reps.none {vs : List V} (r : Reps W p F vs []) : vs = [] := by
  cases vs with
  | nil => rfl
  | cons v vr => have := r.1; simp at this
theorem Reps.append {vs ws : List V} {ds es : List D} (a : Reps W p F vs ds) (b : Reps W p F ws es) : Reps W p F (vs ++ ws) (ds ++ es) := by
  refine ⟨by simp [a.1, b.1], fun i v d h1 h2 => ?_⟩
  by_cases hi : i < vs.length
  · rw [List.getElem?_append_left hi] at h1
    rw [List.getElem?_append_left (by rw [← a.1]; exact hi)] at h2
    exact a.2 i v d h1 h2
  · rw [List.getElem?_append_right (by omega)] at h1
    rw [List.getElem?_append_right (by rw [← a.1]; omega)] at h2
    rw [a.1] at h1
    exact b.2 _ v d h1 h2
theorem Reps.get {vs : List V} {ds : List D} {i : Nat} {d : D} (a : Reps W p F vs ds) (h : ds[i]? = some d) : ∃ v, vs[i]? = some v ∧ Rep W p F v d := by
  have hi : i < vs.length := by
    have := (List.getElem?_eq_some_iff.mp h).1
    rw [a.1]; exact this
  exact ⟨vs[i], List.getElem?_eq_getElem hi, a.2 i _ d (List.getElem?_eq_getElem hi) h⟩

/-! ### steps of the heap -/
structure Stp (p : Addr) (F H F' H' : Hp) : Prop where
  ef : Same F F'
  eh : ∀ a o, a ≠ p → H a = some o → (TB.loose = false ∨ ∀ ps, o ≠ .tbl ps) → H' a = some o
  et : ∀ a ps, a ≠ p → H a = some (.tbl ps) → ∃ qs, H' a = some (.tbl qs)
  nw : ∀ a o, F' a = some o → F a = some o ∨ H a = none
structure Gd (p : Addr) (u : PuS) (F H : Hp) : Prop where
  ex : Same F H
  pu : H p = some u.ho
  off : ∀ l, u = .real l → F p = none
  nt : ∀ a ps, F a ≠ some (.tbl ps)
  tb : LamX.Tabs TB.T H
  hp : ∀ ps, u.ho ≠ .tbl ps
theorem tbl_or (o : HO) : (∃ ps, o = .tbl ps) ∨ ∀ ps, o ≠ .tbl ps := by
  cases o with
  | tbl ps => exact .inl ⟨ps, rfl⟩
  | _ => exact .inr fun ps z => by cases z
theorem Stp.kept (s : Stp p F H F1 H1) {a : Addr} (ha : a ≠ p) (h : H a ≠ none) : H1 a ≠ none := by
  cases q : H a with
  | none => exact absurd q h
  | some o =>
    rcases tbl_or o with ⟨ps, rfl⟩ | n
    · obtain ⟨qs, e⟩ := s.et a ps ha q
      rw [e]; simp
    · rw [s.eh a o ha q (.inr n)]; simp
theorem Stp.refl : Stp p F H F H := ⟨fun _ _ h => h, fun _ _ _ h _ => h, fun _ ps _ h => ⟨ps, h⟩, fun _ _ h => .inl h⟩
theorem Stp.trans (s : Stp p F H F1 H1) (g : H1 p ≠ none) (t : Stp p F1 H1 F2 H2) : Stp p F H F2 H2 := by
  refine ⟨s.ef.trans t.ef, fun a o h e n => t.eh a o h (s.eh a o h e n) n, fun a ps h e => ?_, fun a o e => ?_⟩
  · obtain ⟨qs, e1⟩ := s.et a ps h e
    exact t.et a qs h e1
  rcases t.nw a o e with h | h
  · exact s.nw a o h
  · right
    cases q : H a with
    | none => rfl
    | some x =>
      by_cases ha : a = p
      · subst ha; exact absurd h g
      · exact absurd h (s.kept ha (by rw [q]; simp))
theorem Gd.ne (g : Gd p u F H) : H p ≠ none := by rw [g.pu]; simp
theorem grow {q : Addr} {o : HO} (h : H q = none) : ∀ b x, H b = some x → upd H q o b = some x := fun b x e => by rw [upd_ne (ne_of_none e h)]; exact e
/-- what is written over an object that is neither a table nor a code object leaves the tables -/
theorem tabs_over {T : List (Addr × Str)} {q : Addr} {o : HO} {xs : List V} (hq : H q = some (.lst xs)) (t : LamX.Tabs T H) : LamX.Tabs T (upd H q o) := fun P hP => by
  obtain ⟨ps, h1, h2, h3⟩ := t P hP
  refine ⟨ps, by rw [upd_ne (fun z => by rw [z, hq] at h1; cases h1)]; exact h1, h2, fun ps2 cv e => ?_⟩
  obtain ⟨c, e1, e2⟩ := h3 ps2 cv e
  exact ⟨c, e1, by rw [upd_ne (fun z => by rw [z, hq] at e2; have := Option.some.inj e2; unfold LamX.CodeO at this; cases this)]; exact e2⟩
theorem tabs_overI {T : List (Addr × Str)} {q : Addr} {o : HO} {C dx : Addr} {fs : List (Str × V)} (hq : H q = some (.ins C dx fs)) (t : LamX.Tabs T H) : LamX.Tabs T (upd H q o) := fun P hP => by
  obtain ⟨ps, h1, h2, h3⟩ := t P hP
  refine ⟨ps, by rw [upd_ne (fun z => by rw [z, hq] at h1; cases h1)]; exact h1, h2, fun ps2 cv e => ?_⟩
  obtain ⟨c, e1, e2⟩ := h3 ps2 cv e
  exact ⟨c, e1, by rw [upd_ne (fun z => by rw [z, hq] at e2; have := Option.some.inj e2; unfold LamX.CodeO at this; cases this)]; exact e2⟩
theorem nt_upd {q : Addr} {o : HO} (g : ∀ a ps, F a ≠ some (.tbl ps)) (no : ∀ ps, o ≠ .tbl ps) : ∀ a ps, upd F q o a ≠ some (.tbl ps) := fun a ps z => by
  by_cases ha : a = q
  · subst ha; rw [upd_same] at z; exact no ps (Option.some.inj z)
  · rw [upd_ne ha] at z; exact g a ps z
theorem Gd.new {q : Addr} {o : HO} (g : Gd p u F H) (h : H q = none) (no : ∀ ps, o ≠ .tbl ps := by intro _ z; cases z) : Gd p u (upd F q o) (upd H q o) := by
  have hq : p ≠ q := fun e => g.ne (e ▸ h)
  refine ⟨fun a x e => ?_, by rw [upd_ne hq]; exact g.pu, fun l e => by rw [upd_ne hq]; exact g.off l e, nt_upd g.nt no, g.tb.ext (grow h), g.hp⟩
  by_cases ha : a = q
  · subst ha; rw [upd_same] at e ⊢; exact e
  · rw [upd_ne ha] at e ⊢; exact g.ex a x e
theorem Stp.new {q : Addr} {o : HO} (g : Gd p u F H) (h : H q = none) : Stp p F H (upd F q o) (upd H q o) := by
  refine ⟨fun a x e => ?_, fun a x _ e _ => ?_, fun a ps _ e => ⟨ps, grow h a _ e⟩, fun a x e => ?_⟩
  · rw [upd_ne (ne_of_none (g.ex a x e) h)]; exact e
  · rw [upd_ne (ne_of_none e h)]; exact e
  · by_cases ha : a = q
    · subst ha; exact .inr h
    · rw [upd_ne ha] at e; exact .inl e
/-- a new object that is not frozen -/
theorem Gd.own {q : Addr} {o : HO} (g : Gd p u F H) (h : H q = none) : Gd p u F (upd H q o) := by
  have hq : p ≠ q := fun e => g.ne (e ▸ h)
  exact ⟨fun a x e => by rw [upd_ne (ne_of_none (g.ex a x e) h)]; exact g.ex a x e, by rw [upd_ne hq]; exact g.pu, g.off, g.nt, g.tb.ext (grow h), g.hp⟩
theorem Stp.own {q : Addr} {o : HO} (h : H q = none) : Stp p F H F (upd H q o) :=
  ⟨fun _ _ e => e, fun a x _ e _ => by rw [upd_ne (ne_of_none e h)]; exact e, fun a ps _ e => ⟨ps, grow h a _ e⟩, fun _ _ e => .inl e⟩
theorem Gd.fresh {q : Addr} (g : Gd p u F H) (h : H q = none) : F q = none := by
  cases e : F q with
  | none => rfl
  | some o => rw [g.ex q o e] at h; cases h
theorem Stp.off {q : Addr} (s : Stp p F H F' H') (h : F q = none) (h' : H q ≠ none) : F' q = none := by
  cases e : F' q with
  | none => rfl
  | some o =>
    rcases s.nw q o e with z | z
    · rw [h] at z; cases z
    · exact absurd z h'
end

/-! ### slots -/
inductive Sd where
  | un | sh (d : D) | ow (ds : List D) | oi (c : Str) (ks : List Str) (ds : List D)
abbrev Env := List Sd
def Sd.own : Sd → Bool
  | .ow _ => true
  | .oi _ _ _ => true
  | _ => false
/-- where a body runs: entered at F0, H0; sf: the object that is being made -/
structure Cf where
  W : Wo
  p : Addr
  F0 : Hp
  H0 : Hp
  sf : Addr
  xw : WX
def SdOk (c : Cf) (F H : Hp) (x : Option (Option V)) : Sd → Prop
  | .un => True
  | .sh d => ∃ v, x = some (some v) ∧ Rep c.W c.p F v d
  | .ow ds => ∃ q vs, x = some (some (.ref q)) ∧ H q = some (.lst vs) ∧ F q = none ∧ q ≠ c.p ∧ c.H0 q = none ∧ Reps c.W c.p F vs ds
  | .oi k ks ds => ∃ dx vs, x = some (some (.ref c.sf)) ∧ H c.sf = some (.ins (c.W.cl k) dx (ks.zip vs)) ∧ F c.sf = none ∧ c.sf ≠ c.p ∧ c.H0 c.sf = none ∧ ks.length = vs.length ∧ Reps c.W c.p F vs ds
structure EnvOk (c : Cf) (F H : Hp) (σ : L2.St) (ρ : Env) : Prop where
  len : σ.length = ρ.length
  at_ : ∀ (i : Nat) (s : Sd), ρ[i]? = some s → SdOk c F H σ[i]? s
  ne : ∀ (i j : Nat) (s t : Sd), i ≠ j → ρ[i]? = some s → ρ[j]? = some t → s.own = true → t.own = true → σ[i]? ≠ σ[j]?
structure Sta (c : Cf) (u : PuS) (F H : Hp) (σ : L2.St) (ρ : Env) : Prop where
  ent : Stp c.p c.F0 c.H0 F H
  gd : Gd c.p u F H
  env : EnvOk c F H σ ρ
section
variable {c : Cf} {u u' : PuS} {F H F' H' : Hp} {σ : L2.St} {ρ : Env}
theorem SdOk.step {x : Option (Option V)} {s : Sd} (h : SdOk c F H x s) (t : Stp c.p F H F' H') : SdOk c F' H' x s := by
  cases s with
  | un => trivial
  | sh d => obtain ⟨v, e, r⟩ := h; exact ⟨v, e, r.mono t.ef⟩
  | ow ds => obtain ⟨q, vs, e, hq, hf, hp, h0, r⟩ := h; exact ⟨q, vs, e, t.eh q _ hp hq (.inr (by intro _ z; cases z)), t.off hf (by rw [hq]; simp), hp, h0, r.mono t.ef⟩
  | oi k ks ds => obtain ⟨dx, vs, e, hq, hf, hp, h0, hl, r⟩ := h; exact ⟨dx, vs, e, t.eh _ _ hp hq (.inr (by intro _ z; cases z)), t.off hf (by rw [hq]; simp), hp, h0, hl, r.mono t.ef⟩
theorem Sta.step (s : Sta c u F H σ ρ) (t : Stp c.p F H F' H') (g : Gd c.p u' F' H') : Sta c u' F' H' σ ρ :=
  ⟨s.ent.trans s.gd.ne t, g, s.env.len, fun i x e => (s.env.at_ i x e).step t, s.env.ne⟩
end

/-! ### mirrors -/
abbrev M (α : Type) := PuS → Option (α × PuS)
def M.pure {α : Type} (a : α) : M α := fun u => some (a, u)
def M.bind {α β : Type} (m : M α) (f : α → M β) : M β := fun u => match m u with
  | some (a, u') => f a u'
  | none => none
def lft {α : Type} (o : Option α) : M α := fun u => o.map fun a => (a, u)
instance : Monad M where
  pure := M.pure
  bind := M.bind
/-- what is wanted behind a mirror's step -/
def After {α : Type} (p : Addr) (F H : Hp) (r : Option (α × PuS)) (Φ : α → PuS → Hp → Hp → Prop) : Prop := match r with
  | some (a, u') => ∀ F' H', Stp p F H F' H' → Gd p u' F' H' → Φ a u' F' H'
  | none => False
section
variable {α β : Type} {p : Addr} {F H : Hp} {u : PuS}
theorem After.imp {r : Option (α × PuS)} {Φ Ψ : α → PuS → Hp → Hp → Prop} (h : After p F H r Φ) (k : ∀ a u' F' H', r = some (a, u') → Stp p F H F' H' → Gd p u' F' H' → Φ a u' F' H' → Ψ a u' F' H') : After p F H r Ψ := by
  cases r with
  | none => exact h
  | some x => obtain ⟨a, u'⟩ := x; exact fun F' H' s g => k a u' F' H' rfl s g (h F' H' s g)
theorem After.split {m : M α} {f : α → M β} {Φ : β → PuS → Hp → Hp → Prop} (h : After p F H (M.bind m f u) Φ) : After p F H (m u) fun a u1 F1 H1 => After p F1 H1 (f a u1) Φ := by
  unfold M.bind at h
  cases e : m u with
  | none => rw [e] at h; exact h
  | some x =>
    obtain ⟨a, u1⟩ := x
    rw [e] at h
    intro F1 H1 s g
    show After p F1 H1 (f a u1) Φ
    have h2 : After p F H (f a u1) Φ := h
    cases e2 : f a u1 with
    | none => rw [e2] at h2; exact h2
    | some y =>
      obtain ⟨b, u2⟩ := y
      rw [e2] at h2
      exact fun F2 H2 s2 g2 => h2 F2 H2 (s.trans g.ne s2) g2
theorem After.now {a : α} {Φ : α → PuS → Hp → Hp → Prop} (g : Gd p u F H) (h : After p F H (some (a, u)) Φ) : Φ a u F H := h F H Stp.refl g
end

abbrev ME := Env → M D
abbrev MT := Env → M Bool
abbrev MA := Env → M (List D)
inductive Fl where
  | nx (ρ : Env) | rt (d : D) | bk (ρ : Env) | ct (ρ : Env) | rl (ds : List D)
  | ex (ρ : Env) (c : Str) (ks : List Str) (ds : List D)
abbrev MS := Env → M Fl
abbrev MG := D → Env → Option Env

def rdE (c : Cf) (m : ME) : TE := fun σ H Q => ∃ F u ρ, Sta c u F H σ ρ ∧ After c.p F H (m ρ u) fun d _ F' H' => ∀ v, Rep c.W c.p F' v d → Q v H'
def rdT (c : Cf) (m : MT) : TT := fun σ H Q => ∃ F u ρ, Sta c u F H σ ρ ∧ After c.p F H (m ρ u) fun b _ _ H' => Q b H'
def rdA (c : Cf) (m : MA) : TA := fun σ H Q => ∃ F u ρ, Sta c u F H σ ρ ∧ After c.p F H (m ρ u) fun ds _ F' H' => ∀ vs, Reps c.W c.p F' vs ds → Q vs H'
/-- a fresh list, not frozen -/
def rdL (c : Cf) (m : MA) : TE := fun σ H Q => ∃ F u ρ, Sta c u F H σ ρ ∧ After c.p F H (m ρ u) fun ds _ F' H' => ∀ q vs, F' q = none → H q = none → H' q = some (.lst vs) → Reps c.W c.p F' vs ds → Q (.ref q) H'
/-- what is known of an error in flight: its class, its dict -/
def ExRep (W : Wo) (p : Addr) (F : Hp) (k : Str) (ks : List Str) (ds : List D) (cls : Value) (od : Option Addr) : Prop :=
  cls = .ref (W.cl k) ∧ k ∈ errs ∧ ∃ vs, ks.length = vs.length ∧ Reps W p F vs ds ∧ ((∃ dx, od = some dx ∧ F dx = some (.xd (ks.zip vs))) ∨ (od = none ∧ ks = []))
/-- no error is let out -/
abbrev noX : WX := fun _ _ _ _ => False
def flow (c : Cf) (F : Hp) (Dn : Ends) : Fl → PuS → Prop := fun f u' => match f with
  | .nx ρ' => ∀ σ' F' H', Same F F' → Sta c u' F' H' σ' ρ' → Dn.nx σ' H'
  | .bk ρ' => ∀ σ' F' H', Same F F' → Sta c u' F' H' σ' ρ' → Dn.bk σ' H'
  | .ct ρ' => ∀ σ' F' H', Same F F' → Sta c u' F' H' σ' ρ' → Dn.ct σ' H'
  | .rt d => ∀ v F' H', Stp c.p c.F0 c.H0 F' H' → Gd c.p u' F' H' → Rep c.W c.p F' v d → Dn.rt v H'
  | .rl ds => ∀ q vs F' H', Stp c.p c.F0 c.H0 F' H' → Gd c.p u' F' H' → F' q = none → c.H0 q = none → H' q = some (.lst vs) → Reps c.W c.p F' vs ds → Dn.rt (.ref q) H'
  | .ex ρ' k ks ds => ∀ σ' F' H' cls od, Same F F' → Sta c u' F' H' σ' ρ' → ExRep c.W c.p F' k ks ds cls od → c.xw cls od σ' H'
def flowO (c : Cf) (F : Hp) (Dn : Ends) : Option (Fl × PuS) → Prop
  | some (f, u') => flow c F Dn f u'
  | none => False
def rdS (c : Cf) (m : MS) : TS := fun Dn σ H => ∃ F u ρ, Sta c u F H σ ρ ∧ flowO c F Dn (m ρ u)
/-- two slot lists that differ at most at these places -/
def Agr (is : List Nat) (σ σ' : L2.St) : Prop := σ'.length = σ.length ∧ ∀ j, j ∉ is → σ'[j]? = σ[j]?
def rdG (c : Cf) (is : List Nat) (m : MG) : TG := fun v σ H Q => ∃ F u ρ d, Sta c u F H σ ρ ∧ Rep c.W c.p F v d ∧ match m d ρ with
  | some ρ' => ∀ σ', Sta c u F H σ' ρ' → Agr is σ σ' → Q σ' H
  | none => False
def rdGs (c : Cf) (is : List Nat) (m : List D → Env → Option Env) : TGs := fun vs σ H Q => ∃ F u ρ ds, Sta c u F H σ ρ ∧ Reps c.W c.p F vs ds ∧ match m ds ρ with
  | some ρ' => ∀ σ', Sta c u F H σ' ρ' → Agr is σ σ' → Q σ' H
  | none => False
/-- what a walk over data gives -/
def WalkD (W : Wo) (p : Addr) (J : It) (F : Hp) (ds : List D) : Prop := ∃ (G : Hp → Prop) (Y : Nat → Hp → V → Hp → Prop), Walk J ds.length G Y ∧ (∀ H, Same F H → G H) ∧
  ∀ (i : Nat) (H : Hp) (x : V) (H' F2 : Hp) (u : PuS) (d : D), ds[i]? = some d → Same F F2 → Gd p u F2 H → Y i H x H' → ∃ F3, Stp p F2 H F3 H' ∧ Gd p u F3 H' ∧ Rep W p F3 x d
def rdI (c : Cf) (m : MA) : TI := fun σ H R => ∃ F u ρ, Sta c u F H σ ρ ∧ After c.p F H (m ρ u) fun ds _ F' H' => ∀ J, WalkD c.W c.p J F' ds → R J H'
/-- a def's promise by its mirror -/
def spM (W : Wo) (n : Nat) (mf : List D → M D) : Sp := fun vs H Q _ => vs.length = n ∧ ∃ p F u ds, Gd p u F H ∧ Reps W p F vs ds ∧ After p F H (mf ds u) fun d _ F' H' => ∀ v, Rep W p F' v d → Q v H'

/-! ### the judgements -/
theorem _root_.L2.PE.imp {X : Cx} {e : Expr} {t t' : TE} (h : PE X e t) (k : ∀ σ H Q, t' σ H Q → t σ H Q) : PE X e t' := ⟨fun pins s σ H Q I q => h.run pins s σ H Q I (k σ H Q q)⟩
theorem _root_.L2.PT.imp {X : Cx} {e : Expr} {t t' : TT} (h : PT X e t) (k : ∀ σ H Q, t' σ H Q → t σ H Q) : PT X e t' := ⟨fun pins s σ H Q I q => h.run pins s σ H Q I (k σ H Q q)⟩
theorem _root_.L2.PW.imp {X : Cx} {e : Expr} {t t' : TT} (h : PW X e t) (k : ∀ σ H Q, t' σ H Q → t σ H Q) : PW X e t' := ⟨fun wh pins s σ H Q I q => h.run wh pins s σ H Q I (k σ H Q q)⟩
theorem _root_.L2.PA.imp {X : Cx} {e : List Expr} {t t' : TA} (h : PA X e t) (k : ∀ σ H Q, t' σ H Q → t σ H Q) : PA X e t' := ⟨fun pos pins s σ H Q I q => h.run pos pins s σ H Q I (k σ H Q q)⟩
theorem _root_.L2.PS.imp {X : Cx} {e : Stmt} {t t' : TS} (h : PS X e t) (k : ∀ Dn σ H, t' Dn σ H → t Dn σ H) : PS X e t' := ⟨fun pins s σ H Dn I q => h.run pins s σ H Dn I (k Dn σ H q)⟩
theorem _root_.L2.PSs.imp {X : Cx} {e : List Stmt} {t t' : TS} (h : PSs X e t) (k : ∀ Dn σ H, t' Dn σ H → t Dn σ H) : PSs X e t' := ⟨fun pins s σ H Dn I q => h.run pins s σ H Dn I (k Dn σ H q)⟩
theorem _root_.L2.PG.imp {X : Cx} {e : Expr} {t t' : TG} (h : PG X e t) (k : ∀ v σ H Q, t' v σ H Q → t v σ H Q) : PG X e t' := ⟨fun pins s σ H v u Q I r q => h.run pins s σ H v u Q I r (k v σ H Q q)⟩
theorem _root_.L2.PGs.imp {X : Cx} {e : List Expr} {t t' : TGs} (h : PGs X e t) (k : ∀ v σ H Q, t' v σ H Q → t v σ H Q) : PGs X e t' := ⟨fun pins s σ H v u Q I r q => h.run pins s σ H v u Q I r (k v σ H Q q)⟩
theorem _root_.L2.PI.imp {X : Cx} {tg e : Expr} {t t' : TI} (h : PI X tg e t) (k : ∀ σ H R, t' σ H R → t σ H R) : PI X tg e t' := ⟨fun pins s σ H R I q => h.run pins s σ H R I (k σ H R q)⟩
theorem _root_.L2.PTs.imp {X : Cx} {e : List Expr} {t t' : TT} (h : PTs X e t) (k : ∀ σ H Q, t' σ H Q → t σ H Q) : PTs X e t' := ⟨fun pins s σ H Q I q => h.run pins s σ H Q I (k σ H Q q)⟩

abbrev DE (X : Cx) (c : Cf) (e : Expr) (m : ME) : Prop := PE X e (rdE c m)
abbrev DT (X : Cx) (c : Cf) (e : Expr) (m : MT) : Prop := PT X e (rdT c m)
abbrev DA (X : Cx) (c : Cf) (e : List Expr) (m : MA) : Prop := PA X e (rdA c m)
abbrev DL (X : Cx) (c : Cf) (e : Expr) (m : MA) : Prop := PE X e (rdL c m)
abbrev DS (X : Cx) (c : Cf) (e : Stmt) (m : MS) : Prop := PS X e (rdS c m)
abbrev DB (X : Cx) (c : Cf) (e : List Stmt) (m : MS) : Prop := PSs X e (rdS c m)
end Mi

set_option Elab.async false
set_option linter.all false
set_option maxRecDepth 100000
set_option maxHeartbeats 2000000
/-! Mi1: expressions. -/
namespace Mi
open PySem PySem.Spec PyProof.Rows L2
variable [TB : Tabl]

section
variable {W : Wo} {p : Addr} {F H : Hp}
theorem Rep.int_ {v : V} {i : Int} (h : Rep W p F v (.int i)) : v = .int i := by cases h; rfl
theorem Rep.bl_ {v : V} {i : Bool} (h : Rep W p F v (.bl i)) : v = .bl i := by cases h; rfl
theorem Rep.str_ {v : V} {i : Str} (h : Rep W p F v (.str i)) : v = .str i := by cases h; rfl
theorem Rep.non_ {v : V} (h : Rep W p F v .non) : v = .non := by cases h; rfl
theorem Rep.ty_ {v : V} {n : String} (h : Rep W p F v (.ty n)) : v = .ty n := by cases h; rfl
theorem Rep.tup_ {v : V} {ds : List D} (h : Rep W p F v (.tup ds)) : ∃ a vs, v = .ref a ∧ SqT W.K F a vs ∧ Reps W p F vs ds := by
  cases h with
  | tup h l r => exact ⟨_, _, rfl, h, l, r⟩
theorem Rep.lst_ {v : V} {ds : List D} (h : Rep W p F v (.lst ds)) : ∃ a vs, v = .ref a ∧ F a = some (.lst vs) ∧ Reps W p F vs ds := by
  cases h with
  | lst h l r => exact ⟨_, _, rfl, h, l, r⟩
theorem Rep.obj_ {v : V} {c : Str} {ks : List Str} {ds : List D} (h : Rep W p F v (.obj c ks ds)) : ∃ a dx vs, v = .ref a ∧ F a = some (.ins (W.cl c) dx (ks.zip vs)) ∧ ks.length = vs.length ∧ Reps W p F vs ds := by
  cases h with
  | obj hc h lk l r => exact ⟨_, _, _, rfl, h, lk, l, r⟩
theorem Rep.objc {v : V} {c : Str} {ks : List Str} {ds : List D} (h : Rep W p F v (.obj c ks ds)) : c ∈ W.cs := by
  cases h with
  | obj hc h lk l r => exact hc
theorem Rep.cls_ {v : V} {c : Str} (h : Rep W p F v (.cls c)) : v = .ref (W.cl c) ∧ c ∈ W.cs := by
  cases h with
  | cls _ hc => exact ⟨rfl, hc⟩
theorem Rep.scr_ {v : V} {ns : List Int} (h : Rep W p F v (.scr ns)) : ∃ a, v = .ref a ∧ SqL W.K F a (ns.map V.int) := by
  cases h with
  | scr h => exact ⟨_, rfl, h⟩
theorem Rep.mkT {a : Addr} {vs : List V} {ds : List D} (h : F a = some (.tup vs)) (r : Reps W p F vs ds) : Rep W p F (.ref a) (.tup ds) := .tup (SqT.of h) r.1 r.2
theorem Rep.mkL {a : Addr} {vs : List V} {ds : List D} (h : F a = some (.lst vs)) (r : Reps W p F vs ds) : Rep W p F (.ref a) (.lst ds) := .lst h r.1 r.2
end

/-! ### names, constants -/
def vSh (ρ : Env) (i : Nat) : Option D := match ρ[i]? with
  | some (.sh d) => some d
  | _ => none
def mVar (i : Nat) : ME := fun ρ => lft (vSh ρ i)
def mC (d : D) : ME := fun _ => M.pure d
section
variable {X : Cx} {c : Cf} {pos : Pos}
theorem lft_some {α : Type} {o : Option α} {u : PuS} {p : Addr} {F H : Hp} {Φ : α → PuS → Hp → Hp → Prop} (h : After p F H (lft o u) Φ) : ∃ a, o = some a ∧ After p F H (some (a, u)) Φ := by
  cases o with
  | none => exact absurd h (by intro z; exact z)
  | some a => exact ⟨a, rfl, h⟩
theorem Sta.var {u : PuS} {F H : Hp} {σ : L2.St} {ρ : Env} {i : Nat} {d : D} (S : Sta c u F H σ ρ) (e : vSh ρ i = some d) : ∃ v, σ[i]? = some (some v) ∧ Rep c.W c.p F v d := by
  unfold vSh at e
  cases q : ρ[i]? with
  | none => rw [q] at e; cases e
  | some s =>
    rw [q] at e
    cases s with
    | sh d' => cases e; exact S.env.at_ i _ q
    | _ => cases e
theorem dVar (i : Nat) {x : Str} (hN : X.N[i]? = some x := by rfl) (hv : Vis X.env.scope x := by first | exact Or.inl rfl | exact Or.inr (Or.inl rfl) | exact Or.inr (Or.inr rfl)) (hd : (x == ("__debug__" : Str)) = false := by decide)
    (hcd : (x == ("__classdict__" : Str)) = false := by decide) : DE X c (.Name x pos) (mVar i) :=
  (pe_var hN hv hd hcd).imp fun σ H Q ⟨F, u, ρ, S, h⟩ => by
    obtain ⟨d, e, h⟩ := lft_some h
    obtain ⟨v, e1, r⟩ := S.var e
    exact ⟨v, e1, After.now S.gd h v r⟩
theorem dC_of {e : Expr} {v : V} {d : D} (h : PE X e (tC v)) (r : ∀ F, Rep c.W c.p F v d) : DE X c e (mC d) := h.imp fun σ H Q ⟨F, u, ρ, S, q⟩ => After.now S.gd q v (r F)
theorem dInt {i : Int} {j} : DE X c (.Constant (.int i) j pos) (mC (.int i)) := dC_of pe_int fun _ => .int i
theorem dBl {b : Bool} {j} : DE X c (.Constant (.bool b) j pos) (mC (.bl b)) := dC_of pe_bl fun _ => .bl b
theorem dNon {j} : DE X c (.Constant .none j pos) (mC .non) := dC_of pe_non fun _ => .non
theorem dStr {x : Str} {j} : DE X c (.Constant (.str x) j pos) (mC (.str x)) := dC_of pe_str fun _ => .str x
/-- a module's constant -/
theorem dGI {x : Str} {i : Int} {t : Tok} (hg : Gl X x) (hm : X.mg x = some (.int i t)) (hd : (x == ("__debug__" : Str)) = false := by decide) : DE X c (.Name x pos) (mC (.int i)) := dC_of (pe_glob (v := .int i) hg hm ⟨t, rfl⟩ hd) fun _ => .int i
theorem dGS {x : Str} {i : Str} {t : Tok} (hg : Gl X x) (hm : X.mg x = some (.str i t)) (hd : (x == ("__debug__" : Str)) = false := by decide) : DE X c (.Name x pos) (mC (.str i)) := dC_of (pe_glob (v := .str i) hg hm ⟨t, rfl⟩ hd) fun _ => .str i
theorem dGC {x k : Str} (hc : k ∈ c.W.cs) (hg : Gl X x) (hm : X.mg x = some (.ref (c.W.cl k))) (hd : (x == ("__debug__" : Str)) = false := by decide) : DE X c (.Name x pos) (mC (.cls k)) := dC_of (pe_glob (v := .ref (c.W.cl k)) hg hm rfl hd) fun _ => .cls k hc
theorem dTy {x : Str} {n : String} (hg : Gl X x) (hm : X.mg x = none) (hv : bootBuiltins x = some (.type n)) (hn : x ≠ "__name__" := by decide) (hd : (x == ("__debug__" : Str)) = false := by decide) : DE X c (.Name x pos) (mC (.ty n)) :=
  dC_of (pe_bltn (v := .ty n) hg hm hv rfl hn hd) fun _ => .ty n
end

/-! ### operators -/
/-- a mirror of an operator on values -/
def OpM (W : Wo) (r : R2) (f : D → D → Option D) : Prop := ∀ (p : Addr) (F H : Hp) (u : PuS) (x y : V) (a b : D) (Q : VK), Gd p u F H → Rep W p F x a → Rep W p F y b →
  After p F H (lft (f a b) u) (fun d _ F' H' => ∀ v, Rep W p F' v d → Q v H') → r x y H Q
def UnM (W : Wo) (r : V → Hp → VK → Prop) (f : D → Option D) : Prop := ∀ (p : Addr) (F H : Hp) (u : PuS) (x : V) (a : D) (Q : VK), Gd p u F H → Rep W p F x a →
  After p F H (lft (f a) u) (fun d _ F' H' => ∀ v, Rep W p F' v d → Q v H') → r x H Q
def CallM (W : Wo) (r : List V → Hp → VK → Prop) (f : List D → Option D) : Prop := ∀ (p : Addr) (F H : Hp) (u : PuS) (xs : List V) (as : List D) (Q : VK), Gd p u F H → Reps W p F xs as →
  After p F H (lft (f as) u) (fun d _ F' H' => ∀ v, Rep W p F' v d → Q v H') → r xs H Q
def mBin (f : D → D → Option D) (ma mb : ME) : ME := fun ρ => M.bind (ma ρ) fun x => M.bind (mb ρ) fun y => lft (f x y)
def mUn (f : D → Option D) (ma : ME) : ME := fun ρ => M.bind (ma ρ) fun x => lft (f x)
def mCB (f : List D → Option D) (ms : MA) : ME := fun ρ => M.bind (ms ρ) fun xs => lft (f xs)
def mNil : MA := fun _ => M.pure []
def mCons (m : ME) (ms : MA) : MA := fun ρ => M.bind (m ρ) fun x => M.bind (ms ρ) fun xs => M.pure (x :: xs)
section
variable {X : Cx} {c : Cf} {pos : Pos} {a b e : Expr} {es : List Expr} {ma mb m : ME} {ms : MA} {r : R2}
theorem rd2 {f : D → D → Option D} (hm : OpM c.W r f) : ∀ σ H Q, rdE c (mBin f ma mb) σ H Q → tOp r (rdE c ma) (rdE c mb) σ H Q := fun σ H Q ⟨F, u, ρ, S, h⟩ =>
  ⟨F, u, ρ, S, (After.split h).imp fun x u1 F1 H1 _ s1 g1 h1 v rv => ⟨F1, u1, ρ, S.step s1 g1, (After.split h1).imp fun y u2 F2 H2 _ s2 g2 h2 w rw => hm c.p F2 H2 u2 v w x y Q g2 (rv.mono s2.ef) rw h2⟩⟩
theorem dBin {op : Operator} {f : D → D → Option D} (ho : OpR X (binaryOp op) r) (hm : OpM c.W r f) (ha : DE X c a ma) (hb : DE X c b mb) : DE X c (.BinOp a op b pos) (mBin f ma mb) := (pe_op ho ha hb).imp (rd2 hm)
theorem dCmp {op : CmpOp} {f : D → D → Option D} (ho : OpR X (compareOp op) r) (hm : OpM c.W r f) (ha : DE X c a ma) (hb : DE X c b mb) (hk : behindInMarks op b = false) : DE X c (.Compare a [op] [b] pos) (mBin f ma mb) := (pe_cmpR ho ha hb hk).imp (rd2 hm)
theorem dIx {f : D → D → Option D} (ho : IxR X r) (hm : OpM c.W r f) (ha : DE X c a ma) (hb : DE X c b mb) (hs : PlainIx b := by exact fun _ _ => rfl) : DE X c (.Subscript a b pos) (mBin f ma mb) := (pe_ix ho ha hb hs).imp (rd2 hm)
theorem dUn {op : UnaryOp} {ru : V → Hp → VK → Prop} {f : D → Option D} (ho : UnR X (unaryOp op) ru) (hm : UnM c.W ru f) (ha : DE X c a ma) : DE X c (.UnaryOp op a pos) (mUn f ma) :=
  (pe_un ho ha).imp fun σ H Q ⟨F, u, ρ, S, h⟩ => ⟨F, u, ρ, S, (After.split h).imp fun x u1 F1 H1 _ s1 g1 h1 v rv => hm c.p F1 H1 u1 v x Q g1 rv h1⟩
theorem dNil : DA X c [] mNil := pa_nil.imp fun σ H Q ⟨F, u, ρ, S, h⟩ => After.now S.gd h [] Reps.nil
theorem dCons (ha : DE X c e m) (hr : DA X c es ms) (hs : starEach (e :: es) X.env = (false, eval e X.env) :: starEach es X.env := by rfl) : DA X c (e :: es) (mCons m ms) :=
  (pa_cons ha hr hs).imp fun σ H Q ⟨F, u, ρ, S, h⟩ => ⟨F, u, ρ, S, (After.split h).imp fun x u1 F1 H1 _ s1 g1 h1 v rv => ⟨F1, u1, ρ, S.step s1 g1, (After.split h1).imp fun xs u2 F2 H2 _ s2 g2 h2 vs rvs =>
    After.now g2 h2 (v :: vs) (Reps.cons (rv.mono s2.ef) rvs)⟩⟩
theorem rdCB {rc : List V → Hp → VK → Prop} {f : List D → Option D} (hm : CallM c.W rc f) : ∀ σ H Q, rdE c (mCB f ms) σ H Q → tCB rc (rdA c ms) σ H Q := fun σ H Q ⟨F, u, ρ, S, h⟩ =>
  ⟨F, u, ρ, S, (After.split h).imp fun xs u1 F1 H1 _ s1 g1 h1 vs rvs => hm c.p F1 H1 u1 vs xs Q g1 rvs h1⟩
theorem dCallB {rc : List V → Hp → VK → Prop} {f : List D → Option D} {id : String} {x : Str} {p : Pos} (hm : CallM c.W rc f) (hc : CallR X (.builtin id) rc) (hg : Gl X x) (hmg : X.mg x = none) (hv : bootBuiltins x = some (.builtin id)) (ha : DA X c (e :: es) ms)
    (hn : x ≠ "__name__" := by decide) (hdb : (x == ("__debug__" : Str)) = false := by decide)
    (he : starEach (e :: es) X.env = (false, eval e X.env) :: starEach es X.env := by rfl) (hpl : (backTo pos (starEach es X.env)).any (·.1) = false := by rfl) : DE X c (.Call (.Name x p) (e :: es) [] pos) (mCB f ms) :=
  (pe_callB hc hg hmg hv ha hn hdb he hpl).imp (rdCB hm)
theorem dCallT {rc : List V → Hp → VK → Prop} {f : List D → Option D} {id : String} {x : Str} {p : Pos} (hm : CallM c.W rc f) (hc : CallR X (.type id) rc) (hg : Gl X x) (hmg : X.mg x = none) (hv : bootBuiltins x = some (.type id)) (ha : DA X c (e :: es) ms)
    (hn : x ≠ "__name__" := by decide) (hdb : (x == ("__debug__" : Str)) = false := by decide)
    (he : starEach (e :: es) X.env = (false, eval e X.env) :: starEach es X.env := by rfl) (hpl : (backTo pos (starEach es X.env)).any (·.1) = false := by rfl) : DE X c (.Call (.Name x p) (e :: es) [] pos) (mCB f ms) :=
  (pe_callTy hc hg hmg hv ha hn hdb he hpl).imp (rdCB hm)
end

/-! ### displays -/
def mTup (ms : MA) : ME := fun ρ => M.bind (ms ρ) fun xs => lft (if xs.length ≤ 100000 then some (.tup xs) else none)
def mLst (ms : MA) : ME := fun ρ => M.bind (ms ρ) fun xs => lft (if xs.length ≤ 100000 then some (.lst xs) else none)
def mLstO (ms : MA) : MA := fun ρ => M.bind (ms ρ) fun xs => lft (if xs.length ≤ 100000 then some xs else none)
theorem sz5 {n : Nat} (h : n ≤ 100000) : n ≤ sizeLine := Nat.le_trans h (by decide)
theorem sz5l {n : Nat} (h : n ≤ 100000) : n < sizeLine := Nat.lt_of_le_of_lt h (by decide)
theorem lft_if {α : Type} {b : Prop} [Decidable b] {a : α} {u : PuS} {p : Addr} {F H : Hp} {Φ : α → PuS → Hp → Hp → Prop} (h : After p F H (lft (if b then some a else none) u) Φ) : b ∧ After p F H (some (a, u)) Φ := by
  obtain ⟨a', e, h⟩ := lft_some h
  by_cases hb : b
  · rw [if_pos hb] at e; cases e; exact ⟨hb, h⟩
  · rw [if_neg hb] at e; cases e
section
variable {X : Cx} {c : Cf} {pos : Pos} {es : List Expr} {ms : MA}
theorem dTup {x1} (h : DA X c es ms) : DE X c (.Tuple es x1 pos) (mTup ms) :=
  (pe_tup h).imp fun σ H Q ⟨F, u, ρ, S, h⟩ => ⟨F, u, ρ, S, (After.split h).imp fun xs u1 F1 H1 _ s1 g1 h1 vs rvs => by
    obtain ⟨hl, h2⟩ := lft_if h1
    refine ⟨sz5 (by rw [rvs.1]; exact hl), fun q hq => ?_⟩
    exact h2 _ _ (Stp.new g1 hq) (g1.new hq) _ (Rep.mkT upd_same (rvs.mono (Stp.new g1 hq).ef))⟩
theorem dLst (h : DA X c es ms) : DE X c (.List es pos) (mLst ms) :=
  (pe_lst h).imp fun σ H Q ⟨F, u, ρ, S, h⟩ => ⟨F, u, ρ, S, (After.split h).imp fun xs u1 F1 H1 _ s1 g1 h1 vs rvs => by
    obtain ⟨hl, h2⟩ := lft_if h1
    refine ⟨sz5 (by rw [rvs.1]; exact hl), fun q hq => ?_⟩
    exact h2 _ _ (Stp.new g1 hq) (g1.new hq) _ (Rep.mkL upd_same (rvs.mono (Stp.new g1 hq).ef))⟩
theorem Stp.back {p q : Addr} {F H F' H' : Hp} (s : Stp p F H F' H') (hp : H' p ≠ none) (h : H' q = none) : H q = none := by
  cases e : H q with
  | none => rfl
  | some o =>
    by_cases hq : q = p
    · subst hq; exact absurd h hp
    · exact absurd h (s.kept hq (by rw [e]; simp))
theorem dLstO (h : DA X c es ms) : DL X c (.List es pos) (mLstO ms) :=
  (pe_lst h).imp fun σ H Q ⟨F, u, ρ, S, h⟩ => ⟨F, u, ρ, S, (After.split h).imp fun xs u1 F1 H1 _ s1 g1 h1 vs rvs => by
    obtain ⟨hl, h2⟩ := lft_if h1
    refine ⟨sz5 (by rw [rvs.1]; exact hl), fun q hq => ?_⟩
    exact h2 _ _ (Stp.own hq) (g1.own hq) q vs (g1.fresh hq) (s1.back g1.ne hq) upd_same rvs⟩
end

/-! ### tests -/
def mB (m : ME) : MT := fun ρ => M.bind (m ρ) fun d => match d with
  | .bl b => M.pure b
  | _ => lft none
def mAnd (t v : MT) : MT := fun ρ => M.bind (t ρ) fun b => if b = true then v ρ else M.pure false
def mOr (t v : MT) : MT := fun ρ => M.bind (t ρ) fun b => if b = true then M.pure true else v ρ
def mNot (t : MT) : MT := fun ρ => M.bind (t ρ) fun b => M.pure (!b)
def mIf (t : MT) (ma mb : ME) : ME := fun ρ => M.bind (t ρ) fun b => if b = true then ma ρ else mb ρ
def mAndV (ma mb : ME) : ME := fun ρ => M.bind (ma ρ) fun d => match d with
  | .bl b => if b = true then mb ρ else M.pure (.bl false)
  | _ => lft none
def mOrV (ma mb : ME) : ME := fun ρ => M.bind (ma ρ) fun d => match d with
  | .bl b => if b = true then M.pure (.bl true) else mb ρ
  | _ => lft none
def mNotV (ma : ME) : ME := fun ρ => M.bind (ma ρ) fun d => match d with
  | .bl b => M.pure (.bl (!b))
  | _ => lft none
section
variable {X : Cx} {c : Cf} {pos : Pos} {a b e : Expr} {rest : List Expr} {ma mb m : ME} {t v : MT} {r : R2}
theorem rdB : ∀ σ H Q, rdT c (mB m) σ H Q → tB (rdE c m) σ H Q := fun σ H Q ⟨F, u, ρ, S, h⟩ =>
  ⟨F, u, ρ, S, (After.split h).imp fun d u1 F1 H1 _ s1 g1 h1 w rw => by
    cases d with
    | bl k =>
      have h2 : After c.p F1 H1 (some (k, u1)) (fun b _ _ H' => Q b H') := h1
      exact ⟨k, rw.bl_, After.now g1 h2⟩
    | _ => exact False.elim h1⟩
theorem dTst (h : DE X c e m) (he : ∀ whole, isTrue e X.env whole = (do let v ← whole; standAt e.pos; holding [v] (truthy v)) := by intro _; rfl) : DT X c e (mB m) := (pt_val h he).imp rdB
theorem dTcmp {op : CmpOp} {f : D → D → Option D} (ho : OpR X (compareOp op) r) (hm : OpM c.W r f) (ha : DE X c a ma) (hb : DE X c b mb) (hk : behindInMarks op b = false) : DT X c (.Compare a [op] [b] pos) (mB (mBin f ma mb)) :=
  (pt_cmpR ho ha hb hk).imp fun σ H Q h => by
    obtain ⟨F, u, ρ, S, h⟩ := h
    refine rd2 hm σ H _ ⟨F, u, ρ, S, (After.split h).imp fun d u1 F1 H1 _ s1 g1 h1 w rw => ?_⟩
    cases d with
    | bl k =>
      have h2 : After c.p F1 H1 (some (k, u1)) (fun b _ _ H' => Q b H') := h1
      exact ⟨k, rw.bl_, After.now g1 h2⟩
    | _ => exact False.elim h1
theorem dNotT (h : DT X c e t) : DT X c (.UnaryOp .Not e pos) (mNot t) :=
  (pt_not h).imp fun σ H Q ⟨F, u, ρ, S, h⟩ => ⟨F, u, ρ, S, (After.split h).imp fun b u1 F1 H1 _ s1 g1 h1 => After.now g1 h1⟩
theorem dAnd1 (h : DT X c e t) : PW X (.BoolOp .And [e] pos) (rdT c t) := pw_and1 h
theorem dOr1 (h : DT X c e t) : PW X (.BoolOp .Or [e] pos) (rdT c t) := pw_or1 h
theorem dAndT (h : DT X c a t) (hb : PW X (.BoolOp .And (b :: rest) pos) (rdT c v)) : PW X (.BoolOp .And (a :: b :: rest) pos) (rdT c (mAnd t v)) :=
  (pw_and h hb).imp fun σ H Q ⟨F, u, ρ, S, h⟩ => ⟨F, u, ρ, S, (After.split h).imp fun b u1 F1 H1 _ s1 g1 h1 => by
    cases b with
    | true => exact ⟨F1, u1, ρ, S.step s1 g1, h1⟩
    | false =>
      have h2 : After c.p F1 H1 (some (false, u1)) (fun b _ _ H' => Q b H') := h1
      exact After.now g1 h2⟩
theorem dOrT (h : DT X c a t) (hb : PW X (.BoolOp .Or (b :: rest) pos) (rdT c v)) : PW X (.BoolOp .Or (a :: b :: rest) pos) (rdT c (mOr t v)) :=
  (pw_or h hb).imp fun σ H Q ⟨F, u, ρ, S, h⟩ => ⟨F, u, ρ, S, (After.split h).imp fun b u1 F1 H1 _ s1 g1 h1 => by
    cases b with
    | false => exact ⟨F1, u1, ρ, S.step s1 g1, h1⟩
    | true =>
      have h2 : After c.p F1 H1 (some (true, u1)) (fun b _ _ H' => Q b H') := h1
      exact After.now g1 h2⟩
theorem dIf {k : Expr} (hk : DT X c k t) (ha : DE X c a ma) (hb : DE X c b mb) : DE X c (.IfExp k a b pos) (mIf t ma mb) :=
  (pe_ifExp hk ha hb).imp fun σ H Q ⟨F, u, ρ, S, h⟩ => ⟨F, u, ρ, S, (After.split h).imp fun b u1 F1 H1 _ s1 g1 h1 => by
    cases b with
    | true => exact ⟨F1, u1, ρ, S.step s1 g1, h1⟩
    | false => exact ⟨F1, u1, ρ, S.step s1 g1, h1⟩⟩
theorem dOneV {op} (h : DE X c e m) : DE X c (.BoolOp op [e] pos) m := pe_one h
theorem dAndV (ha : DE X c a ma) (hb : DE X c (.BoolOp .And (b :: rest) pos) mb) : DE X c (.BoolOp .And (a :: b :: rest) pos) (mAndV ma mb) :=
  (pe_and ha hb).imp fun σ H Q ⟨F, u, ρ, S, h⟩ => ⟨F, u, ρ, S, (After.split h).imp fun d u1 F1 H1 _ s1 g1 h1 w rw => by
    cases d with
    | bl k =>
      refine ⟨k, rw.bl_, ?_⟩
      cases k with
      | true => exact ⟨F1, u1, ρ, S.step s1 g1, h1⟩
      | false =>
        have h2 : After c.p F1 H1 (some (D.bl false, u1)) (fun d _ F' H' => ∀ v, Rep c.W c.p F' v d → Q v H') := h1
        exact After.now g1 h2 _ (.bl false)
    | _ => exact False.elim h1⟩
theorem dOrV (ha : DE X c a ma) (hb : DE X c (.BoolOp .Or (b :: rest) pos) mb) : DE X c (.BoolOp .Or (a :: b :: rest) pos) (mOrV ma mb) :=
  (pe_or ha hb).imp fun σ H Q ⟨F, u, ρ, S, h⟩ => ⟨F, u, ρ, S, (After.split h).imp fun d u1 F1 H1 _ s1 g1 h1 w rw => by
    cases d with
    | bl k =>
      refine ⟨k, rw.bl_, ?_⟩
      cases k with
      | false => exact ⟨F1, u1, ρ, S.step s1 g1, h1⟩
      | true =>
        have h2 : After c.p F1 H1 (some (D.bl true, u1)) (fun d _ F' H' => ∀ v, Rep c.W c.p F' v d → Q v H') := h1
        exact After.now g1 h2 _ (.bl true)
    | _ => exact False.elim h1⟩
theorem dNotV (ha : DE X c a ma) : DE X c (.UnaryOp .Not a pos) (mNotV ma) :=
  (pe_not ha).imp fun σ H Q ⟨F, u, ρ, S, h⟩ => ⟨F, u, ρ, S, (After.split h).imp fun d u1 F1 H1 _ s1 g1 h1 w rw => by
    cases d with
    | bl k =>
      have h2 : After c.p F1 H1 (some (D.bl (!k), u1)) (fun d _ F' H' => ∀ v, Rep c.W c.p F' v d → Q v H') := h1
      exact ⟨k, rw.bl_, After.now g1 h2 _ (.bl (!k))⟩
    | _ => exact False.elim h1⟩
end
end Mi

set_option Elab.async false
set_option linter.all false
set_option maxRecDepth 100000
set_option maxHeartbeats 2000000
/-! Mi2: statements, loops, comprehensions. -/
namespace Mi
open PySem PySem.Spec PyProof.Rows L2
variable [TB : Tabl]

/-! ### slots are set -/
section
variable {c : Cf} {u : PuS} {F H : Hp} {σ : L2.St} {ρ : Env}
theorem set_get {α : Type} {l : List α} {i j : Nat} {a b : α} (h : (l.set i a)[j]? = some b) : (i = j ∧ b = a ∧ i < l.length) ∨ (i ≠ j ∧ l[j]? = some b) := by
  by_cases e : i = j
  · subst e
    rw [List.getElem?_set] at h
    simp only [if_true] at h
    split at h
    · rename_i hl
      cases h
      exact .inl ⟨rfl, rfl, hl⟩
    · cases h
  · rw [List.getElem?_set_ne e] at h
    exact .inr ⟨e, h⟩
theorem Sta.set {i : Nat} {v : V} {d : D} (S : Sta c u F H σ ρ) (r : Rep c.W c.p F v d) : Sta c u F H (σ.set i (some v)) (ρ.set i (.sh d)) := by
  refine ⟨S.ent, S.gd, by simpa using S.env.len, fun j s e => ?_, fun j k s t h e1 e2 o1 o2 => ?_⟩
  · rcases set_get e with ⟨rfl, rfl, hl⟩ | ⟨ne, e⟩
    · exact ⟨v, List.getElem?_set_self (by rw [S.env.len]; exact hl), r⟩
    · rw [List.getElem?_set_ne ne]; exact S.env.at_ j s e
  · rcases set_get e1 with ⟨rfl, rfl, _⟩ | ⟨n1, e1⟩
    · cases o1
    · rcases set_get e2 with ⟨rfl, rfl, _⟩ | ⟨n2, e2⟩
      · cases o2
      · rw [List.getElem?_set_ne n1, List.getElem?_set_ne n2]; exact S.env.ne j k s t h e1 e2 o1 o2
theorem SdOk.ref {x : Option (Option V)} {s : Sd} (h : SdOk c F H x s) (o : s.own = true) : ∃ q, x = some (some (.ref q)) ∧ H q ≠ none ∧ F q = none := by
  cases s with
  | un => cases o
  | sh d => cases o
  | ow ds => obtain ⟨q, vs, e, hq, hf, _⟩ := h; exact ⟨q, e, by rw [hq]; simp, hf⟩
  | oi k ks ds => obtain ⟨dx, vs, e, hq, hf, _⟩ := h; exact ⟨_, e, by rw [hq]; simp, hf⟩
/-- a fresh list at q is owned by the slot i -/
theorem Sta.setO {H1 : Hp} {i : Nat} {q : Addr} {vs : List V} {ds : List D} {u1 : PuS} {F1 : Hp} (S : Sta c u F H σ ρ) (s : Stp c.p F H F1 H1) (g : Gd c.p u1 F1 H1) (hF : F1 q = none) (hn : H q = none) (h1 : H1 q = some (.lst vs)) (r : Reps c.W c.p F1 vs ds) :
    Sta c u1 F1 H1 (σ.set i (some (.ref q))) (ρ.set i (.ow ds)) := by
  have S1 := S.step s g
  have hp : q ≠ c.p := fun e => S.gd.ne (e ▸ hn)
  have h0 : c.H0 q = none := S.ent.back S.gd.ne hn
  have nq : ∀ {j : Nat} {t : Sd}, ρ[j]? = some t → t.own = true → σ[j]? ≠ some (some (.ref q)) := fun {j t} e o z => by
    obtain ⟨q', e', hq', _⟩ := (S.env.at_ j t e).ref o
    rw [z] at e'
    injection e' with e'
    injection e' with e'
    injection e' with e'
    subst e'
    exact hq' hn
  refine ⟨S1.ent, S1.gd, by simpa using S.env.len, fun j t e => ?_, fun j k t t' h e1 e2 o1 o2 => ?_⟩
  · rcases set_get e with ⟨rfl, rfl, hl⟩ | ⟨ne, e⟩
    · exact ⟨q, vs, List.getElem?_set_self (by rw [S.env.len]; exact hl), h1, hF, hp, h0, r⟩
    · rw [List.getElem?_set_ne ne]; exact S1.env.at_ j t e
  · rcases set_get e1 with ⟨rfl, rfl, hl⟩ | ⟨n1, e1⟩
    · rcases set_get e2 with ⟨e, _, _⟩ | ⟨n2, e2⟩
      · exact absurd e h
      · rw [List.getElem?_set_self (by rw [S.env.len]; exact hl), List.getElem?_set_ne n2]; exact fun z => nq e2 o2 z.symm
    · rcases set_get e2 with ⟨rfl, rfl, hl⟩ | ⟨n2, e2⟩
      · rw [List.getElem?_set_self (by rw [S.env.len]; exact hl), List.getElem?_set_ne n1]; exact nq e1 o1
      · rw [List.getElem?_set_ne n1, List.getElem?_set_ne n2]; exact S.env.ne j k t t' h e1 e2 o1 o2
/-- the owned list of the slot i is changed -/
theorem Sta.put {i : Nat} {q : Addr} {vs : List V} {ds es : List D} (S : Sta c u F H σ ρ) (e : ρ[i]? = some (.ow ds)) (hq : σ[i]? = some (some (.ref q))) (r : Reps c.W c.p F vs es) :
    Sta c u F (upd H q (.lst vs)) σ (ρ.set i (.ow es)) := by
  obtain ⟨q', ws, e1, h1, hf, hp, h0, _⟩ := S.env.at_ i _ e
  rw [hq] at e1
  injection e1 with e1; injection e1 with e1; injection e1 with e1
  subst e1
  have qs : ∀ {j : Nat} {t : Sd} {a : Addr}, i ≠ j → ρ[j]? = some t → t.own = true → σ[j]? = some (some (.ref a)) → a ≠ q := fun {j t a} ne e2 o z h => by
    subst h
    exact S.env.ne i j _ t ne e e2 rfl o (hq.trans z.symm)
  refine ⟨⟨S.ent.ef, fun a o ha e n => ?_, fun a ps ha e => by
    obtain ⟨qs, e1⟩ := S.ent.et a ps ha e
    exact ⟨qs, by rw [upd_ne (fun z => by rw [z, h1] at e1; cases e1)]; exact e1⟩, S.ent.nw⟩, ⟨fun a o e => ?_, by rw [upd_ne (Ne.symm hp)]; exact S.gd.pu, S.gd.off, S.gd.nt, tabs_over h1 S.gd.tb, S.gd.hp⟩, by simpa using S.env.len, fun j t e2 => ?_, fun j k t t' h e1 e2 o1 o2 => ?_⟩
  · rw [upd_ne (fun z => by rw [z, h0] at e; cases e)]; exact S.ent.eh a o ha e n
  · rw [upd_ne (fun z => by rw [z, hf] at e; cases e)]; exact S.gd.ex a o e
  · rcases set_get e2 with ⟨rfl, rfl, hl⟩ | ⟨ne, e2⟩
    · exact ⟨q, vs, hq, upd_same, hf, hp, h0, r⟩
    · have k := S.env.at_ j t e2
      cases t with
      | un => trivial
      | sh d => exact k
      | ow ds' => obtain ⟨a, xs, z, ha, rest⟩ := k; exact ⟨a, xs, z, by rw [upd_ne (qs ne e2 rfl z)]; exact ha, rest⟩
      | oi kk ks ds' => obtain ⟨dx, xs, z, ha, rest⟩ := k; exact ⟨dx, xs, z, by rw [upd_ne (qs ne e2 rfl z)]; exact ha, rest⟩
  · have back : ∀ {m : Nat} {y : Sd}, (ρ.set i (.ow es))[m]? = some y → y.own = true → ∃ y', ρ[m]? = some y' ∧ y'.own = true := fun {m y} z o => by
      rcases set_get z with ⟨rfl, rfl, _⟩ | ⟨_, z⟩
      · exact ⟨_, e, rfl⟩
      · exact ⟨y, z, o⟩
    obtain ⟨y1, z1, p1⟩ := back e1 o1
    obtain ⟨y2, z2, p2⟩ := back e2 o2
    exact S.env.ne j k y1 y2 h z1 z2 p1 p2
end

/-! ### blocks and small statements -/
def mNext : MS := fun ρ => M.pure (.nx ρ)
def mSeq (m n : MS) : MS := fun ρ => M.bind (m ρ) fun f => match f with
  | .nx ρ' => n ρ'
  | .rt d => M.pure (.rt d)
  | .rl d => M.pure (.rl d)
  | .bk ρ' => M.pure (.bk ρ')
  | .ct ρ' => M.pure (.ct ρ')
  | .ex ρ' k ks ds => M.pure (.ex ρ' k ks ds)
def mDrop (m : ME) : MS := fun ρ => M.bind (m ρ) fun _ => M.pure (.nx ρ)
def mRet (m : ME) : MS := fun ρ => M.bind (m ρ) fun d => M.pure (.rt d)
def mRetN : MS := fun _ => M.pure (.rt .non)
def mIfS (t : MT) (m n : MS) : MS := fun ρ => M.bind (t ρ) fun b => if b = true then m ρ else n ρ
def mBrk : MS := fun ρ => M.pure (.bk ρ)
def mCnt : MS := fun ρ => M.pure (.ct ρ)
def mSet (i : Nat) (m : ME) : MS := fun ρ => M.bind (m ρ) fun d => M.pure (.nx (ρ.set i (.sh d)))
def mSetO (i : Nat) (m : MA) : MS := fun ρ => M.bind (m ρ) fun ds => M.pure (.nx (ρ.set i (.ow ds)))
def mStuck : MS := fun _ => lft none
section
variable {X : Cx} {c : Cf} {pos : Pos} {st : Stmt} {rest : List Stmt} {e : Expr} {m n : MS} {me : ME} {ml : MA} {t : MT}
theorem flowO.split {F : Hp} {Dn : Ends} {u : PuS} {ρ : Env} (h : flowO c F Dn (mSeq m n ρ u)) : flowO c F { Dn with nx := rdS c n Dn } (m ρ u) := by
  unfold mSeq M.bind at h
  cases e : m ρ u with
  | none => rw [e] at h; exact h
  | some x =>
    obtain ⟨f, u1⟩ := x
    rw [e] at h
    cases f with
    | nx ρ1 =>
      intro σ' F' H' sm S'
      have h2 : flowO c F Dn (n ρ1 u1) := h
      refine ⟨F', u1, ρ1, S', ?_⟩
      cases e2 : n ρ1 u1 with
      | none => rw [e2] at h2; exact h2
      | some y =>
        obtain ⟨f2, u2⟩ := y
        rw [e2] at h2
        cases f2 with
        | nx ρ2 => exact fun σ2 F2 H2 s2 => h2 σ2 F2 H2 (sm.trans s2)
        | bk ρ2 => exact fun σ2 F2 H2 s2 => h2 σ2 F2 H2 (sm.trans s2)
        | ct ρ2 => exact fun σ2 F2 H2 s2 => h2 σ2 F2 H2 (sm.trans s2)
        | ex ρ2 k ks ds => exact fun σ2 F2 H2 cls od s2 => h2 σ2 F2 H2 cls od (sm.trans s2)
        | rt d => exact h2
        | rl d => exact h2
    | rt d => exact h
    | rl d => exact h
    | bk ρ1 => exact h
    | ct ρ1 => exact h
    | ex ρ1 k ks ds => exact h
theorem dBnil : DB X c [] mNext := pss_nil.imp fun Dn σ H ⟨F, u, ρ, S, h⟩ => h σ F H (Same.refl F) S
theorem dBcons (h1 : DS X c st m) (h2 : DB X c rest n) : DB X c (st :: rest) (mSeq m n) := (pss_cons h1 h2).imp fun Dn σ H ⟨F, u, ρ, S, h⟩ => ⟨F, u, ρ, S, h.split⟩
theorem dBone (h1 : DS X c st m) : DB X c [st] m := pss_one h1
theorem dPass : DS X c (.Pass pos) mNext := ps_pass.imp fun Dn σ H ⟨F, u, ρ, S, h⟩ => h σ F H (Same.refl F) S
theorem dBrk : DS X c (.Break pos) mBrk := ps_break.imp fun Dn σ H ⟨F, u, ρ, S, h⟩ => h σ F H (Same.refl F) S
theorem dCnt : DS X c (.Continue pos) mCnt := ps_continue.imp fun Dn σ H ⟨F, u, ρ, S, h⟩ => h σ F H (Same.refl F) S
theorem dNever : DS X c st mStuck := ps_never.imp fun Dn σ H ⟨F, u, ρ, S, h⟩ => h
theorem dBnever {sts : List Stmt} : DB X c sts mStuck := pss_never.imp fun Dn σ H ⟨F, u, ρ, S, h⟩ => h
/-- an expression's end, from a statement's -/
theorem flowO.after {α : Type} {F H : Hp} {Dn : Ends} {u : PuS} {ρ : Env} {σ : L2.St} {k : M α} {f : α → M Fl} (S : Sta c u F H σ ρ) (h : flowO c F Dn (M.bind k f u)) :
    After c.p F H (k u) fun a u1 F1 H1 => Sta c u1 F1 H1 σ ρ ∧ flowO c F1 Dn (f a u1) := by
  unfold M.bind at h
  cases e : k u with
  | none => rw [e] at h; exact h
  | some x =>
    obtain ⟨a, u1⟩ := x
    rw [e] at h
    intro F1 H1 s g
    refine ⟨S.step s g, ?_⟩
    have h2 : flowO c F Dn (f a u1) := h
    cases e2 : f a u1 with
    | none => rw [e2] at h2; exact h2
    | some y =>
      obtain ⟨f2, u2⟩ := y
      rw [e2] at h2
      cases f2 with
      | nx ρ2 => exact fun σ2 F2 H2 s2 => h2 σ2 F2 H2 (s.ef.trans s2)
      | bk ρ2 => exact fun σ2 F2 H2 s2 => h2 σ2 F2 H2 (s.ef.trans s2)
      | ct ρ2 => exact fun σ2 F2 H2 s2 => h2 σ2 F2 H2 (s.ef.trans s2)
      | ex ρ2 k ks ds => exact fun σ2 F2 H2 cls od s2 => h2 σ2 F2 H2 cls od (s.ef.trans s2)
      | rt d => exact h2
      | rl d => exact h2
theorem dExpr (he : DE X c e me) (hs : swapsWith e none pos.line X.env = pure false := by rfl) : DS X c (.Expr e pos) (mDrop me) :=
  (ps_expr he hs).imp fun Dn σ H ⟨F, u, ρ, S, h⟩ => ⟨F, u, ρ, S, (flowO.after S h).imp fun d u1 F1 H1 _ s1 g1 h1 v rv => h1.2 σ F1 H1 (Same.refl _) h1.1⟩
theorem dRet (he : DE X c e me) : DS X c (.Return (some e) pos) (mRet me) :=
  (ps_ret he).imp fun Dn σ H ⟨F, u, ρ, S, h⟩ => ⟨F, u, ρ, S, (flowO.after S h).imp fun d u1 F1 H1 _ s1 g1 h1 v rv => h1.2 v F1 H1 h1.1.ent g1 rv⟩
theorem dRetN : DS X c (.Return none pos) mRetN := ps_retN.imp fun Dn σ H ⟨F, u, ρ, S, h⟩ => h .non F H S.ent S.gd .non
theorem dIfS {k : Expr} {a b : List Stmt} (hk : DT X c k t) (ha : DB X c a m) (hb : DB X c b n) : DS X c (.If k a b pos) (mIfS t m n) :=
  (ps_if hk ha hb).imp fun Dn σ H ⟨F, u, ρ, S, h⟩ => ⟨F, u, ρ, S, (flowO.after S h).imp fun b u1 F1 H1 _ s1 g1 h1 => by
    cases b with
    | true => exact ⟨F1, u1, ρ, h1.1, h1.2⟩
    | false => exact ⟨F1, u1, ρ, h1.1, h1.2⟩⟩
theorem dSet {i : Nat} {x : Str} {pos' : Pos} (hN : X.N.Nodup) (hi : X.N[i]? = some x) (hx : Loc X.env.scope x) (he : DE X c e me) (hs : swapsWith e (some (.Name x pos')) pos.line X.env = pure false := by rfl)
    (hf : X.fn x = true ∨ X.env.scope.names.lookup x = some .local := by first | exact .inl rfl | exact .inr rfl | assumption) : DS X c (.Assign [.Name x pos'] e pos) (mSet i me) :=
  (ps_set hN hi hx he hs hf).imp fun Dn σ H ⟨F, u, ρ, S, h⟩ => ⟨F, u, ρ, S, (flowO.after S h).imp fun d u1 F1 H1 _ s1 g1 h1 v rv => h1.2 _ F1 H1 (Same.refl _) (h1.1.set rv)⟩
theorem dSetO {i : Nat} {x : Str} {pos' : Pos} (hN : X.N.Nodup) (hi : X.N[i]? = some x) (hx : Loc X.env.scope x) (he : DL X c e ml) (hs : swapsWith e (some (.Name x pos')) pos.line X.env = pure false := by rfl)
    (hf : X.fn x = true ∨ X.env.scope.names.lookup x = some .local := by first | exact .inl rfl | exact .inr rfl | assumption) : DS X c (.Assign [.Name x pos'] e pos) (mSetO i ml) :=
  (ps_set hN hi hx he hs hf).imp fun Dn σ H ⟨F, u, ρ, S, h⟩ => ⟨F, u, ρ, S, (flowO.after S h).imp fun d u1 F1 H1 _ s1 g1 h1 q vs hF hn h3 r => h1.2 _ F1 H1 (Same.refl _) (S.setO s1 g1 hF hn h3 r)⟩
end

/-! ### targets -/
def mGn (i : Nat) : MG := fun d ρ => some (ρ.set i (.sh d))
def mGnil : List D → Env → Option Env := fun ds ρ => match ds with
  | [] => some ρ
  | _ => none
def mGcons (g : MG) (gs : List D → Env → Option Env) : List D → Env → Option Env := fun ds ρ => match ds with
  | d :: r => (g d ρ).bind fun ρ' => gs r ρ'
  | [] => none
def mGt (n : Nat) (gs : List D → Env → Option Env) : MG := fun d ρ => match d with
  | .tup ds => if ds.length = n then gs ds ρ else none
  | _ => none
def mAsg (m : ME) (g : MG) : MS := fun ρ => M.bind (m ρ) fun d => lft ((g d ρ).map Fl.nx)
abbrev DG (X : Cx) (c : Cf) (e : Expr) (is : List Nat) (g : MG) : Prop := PG X e (rdG c is g)
abbrev DGs (X : Cx) (c : Cf) (e : List Expr) (is : List Nat) (g : List D → Env → Option Env) : Prop := PGs X e (rdGs c is g)
section
variable {X : Cx} {c : Cf} {pos : Pos} {e : Expr} {es : List Expr} {g : MG} {gs : List D → Env → Option Env} {is js : List Nat}
theorem Agr.refl {σ : L2.St} : Agr is σ σ := ⟨rfl, fun _ _ => rfl⟩
theorem Agr.trans {σ σ1 σ2 : L2.St} (a : Agr is σ σ1) (b : Agr js σ1 σ2) : Agr (is ++ js) σ σ2 :=
  ⟨b.1.trans a.1, fun j hj => (b.2 j fun z => hj (List.mem_append_right _ z)).trans (a.2 j fun z => hj (List.mem_append_left _ z))⟩
theorem Agr.set {σ : L2.St} {i : Nat} {x : Option V} : Agr [i] σ (σ.set i x) := ⟨by simp, fun j hj => List.getElem?_set_ne (fun z => hj (by simp [z]))⟩
theorem dGn {i : Nat} {x : Str} (hN : X.N.Nodup) (hi : X.N[i]? = some x) (hx : Loc X.env.scope x) (hf : X.fn x = true ∨ X.env.scope.names.lookup x = some .local := by first | exact .inl rfl | exact .inr rfl | assumption) : DG X c (.Name x pos) [i] (mGn i) :=
  (pg_name hN hi hx hf).imp fun v σ H Q ⟨F, u, ρ, d, S, r, h⟩ => h _ (S.set r) Agr.set
theorem dGnil : DGs X c [] [] mGnil := pgs_nil.imp fun vs σ H Q ⟨F, u, ρ, ds, S, r, h⟩ => by
  cases ds with
  | nil => exact ⟨r.none, h σ S Agr.refl⟩
  | cons d ds => exact False.elim h
theorem dGcons (h1 : DG X c e is g) (h2 : DGs X c es js gs) (hs : (assignEach (e :: es) X.env).map (·.2) = assign e X.env :: (assignEach es X.env).map (·.2) := by rfl) : DGs X c (e :: es) (is ++ js) (mGcons g gs) :=
  (pgs_cons h1 h2 hs).imp fun vs σ H Q ⟨F, u, ρ, ds, S, r, h⟩ => by
    cases ds with
    | nil => exact False.elim h
    | cons d ds =>
      obtain ⟨v, vr, rfl, r1, r2⟩ := r.uncons
      refine ⟨v, vr, rfl, F, u, ρ, d, S, r1, ?_⟩
      have h' : match (g d ρ).bind fun ρ' => gs ds ρ' with
        | some ρ' => ∀ σ', Sta c u F H σ' ρ' → Agr (is ++ js) σ σ' → Q σ' H
        | none => False := h
      cases e1 : g d ρ with
      | none => rw [e1] at h'; exact h'
      | some ρ1 =>
        rw [e1] at h'
        intro σ1 S1 a1
        refine ⟨F, u, ρ1, ds, S1, r2, ?_⟩
        have h3 : match gs ds ρ1 with
          | some ρ' => ∀ σ', Sta c u F H σ' ρ' → Agr (is ++ js) σ σ' → Q σ' H
          | none => False := h'
        cases e2 : gs ds ρ1 with
        | none => rw [e2] at h3; exact h3
        | some ρ2 =>
          rw [e2] at h3
          exact fun σ2 S2 a2 => h3 σ2 S2 (a1.trans a2)
theorem dGt {k n : Nat} (hc : X.calm = true) (h : DGs X c es is gs) (hn : (assignEach es X.env).length = n := by rfl) (hst : (assignEach es X.env).findIdx? (·.1) = none := by rfl) (hK : X.K = c.W.K := by rfl) : DG X c (.Tuple es k pos) is (mGt n gs) :=
  (pg_tup hc h hn hst).imp fun v σ H Q ⟨F, u, ρ, d, S, r, h⟩ => by
    cases d with
    | tup ds =>
      obtain ⟨a, vs, rfl, ht, rs⟩ := r.tup_
      have h' : match (if ds.length = n then gs ds ρ else none) with
        | some ρ' => ∀ σ', Sta c u F H σ' ρ' → Agr is σ σ' → Q σ' H
        | none => False := h
      by_cases hl : ds.length = n
      · rw [if_pos hl] at h'
        exact ⟨a, vs, rfl, by rw [hK]; exact sq_t S.gd.ex ht, rs.1.trans hl, F, u, ρ, ds, S, rs, h'⟩
      · rw [if_neg hl] at h'; exact False.elim h'
    | _ => exact False.elim h
theorem dAsg {tg : Expr} {me : ME} (he : DE X c e me) (hg : DG X c tg is g) (hs : swapsWithSole [tg] e pos.line X.env = pure false := by rfl) (hw : swappedStores [tg] e X.env = pure none := by rfl)
    (h1 : (assignEach [tg] X.env).map (·.2) = [assign tg X.env] := by rfl) : DS X c (.Assign [tg] e pos) (mAsg me g) :=
  (ps_asg he hg hs hw h1).imp fun Dn σ H ⟨F, u, ρ, S, h⟩ => ⟨F, u, ρ, S, (flowO.after S h).imp fun d u1 F1 H1 _ s1 g1 h1 v rv => by
    refine ⟨F1, u1, ρ, d, h1.1, rv, ?_⟩
    have h2 := h1.2
    cases e1 : g d ρ with
    | none => rw [e1] at h2; exact h2
    | some ρ1 =>
      rw [e1] at h2
      exact fun σ' S' _ => h2 σ' F1 H1 (Same.refl _) S'⟩
end

/-! ### augmented assignment to a name -/
def IpM (W : Wo) (r : TIp) (f : D → D → Option D) : Prop := OpM W r f
def mAug (i : Nat) (f : D → D → Option D) (m : ME) : MS := fun ρ => M.bind (lft (vSh ρ i)) fun x => M.bind (m ρ) fun y => M.bind (lft (f x y)) fun z => M.pure (.nx (ρ.set i (.sh z)))
section
variable {X : Cx} {c : Cf} {pos : Pos} {e : Expr} {me : ME}
theorem flowO.lft {α : Type} {F H : Hp} {Dn : Ends} {u : PuS} {ρ : Env} {σ : L2.St} {o : Option α} {f : α → M Fl} (S : Sta c u F H σ ρ) (h : flowO c F Dn (M.bind (Mi.lft o) f u)) : ∃ a, o = some a ∧ flowO c F Dn (f a u) := by
  cases o with
  | none => exact False.elim h
  | some a => exact ⟨a, rfl, h⟩
theorem dAug {i : Nat} {x : Str} {op : Operator} {ti : TIp} {f : D → D → Option D} {pos' : Pos} (hm : IpM c.W ti f) (ho : PIp X op ti) (hN : X.N.Nodup) (hi : X.N[i]? = some x) (hx : Loc X.env.scope x) (he : DE X c e me)
    (hf : X.fn x = true ∨ X.env.scope.names.lookup x = some .local := by first | exact .inl rfl | exact .inr rfl | assumption) : DS X c (.AugAssign (.Name x pos') op e pos) (mAug i f me) :=
  (ps_aug hN hi hx he ho hf).imp fun Dn σ H ⟨F, u, ρ, S, h⟩ => by
    obtain ⟨x0, e0, h⟩ := flowO.lft S h
    obtain ⟨v0, e1, r0⟩ := S.var e0
    refine ⟨v0, e1, F, u, ρ, S, (flowO.after S h).imp fun y u1 F1 H1 _ s1 g1 h1 w rw => ?_⟩
    refine hm c.p F1 H1 u1 v0 w x0 y _ g1 (r0.mono s1.ef) rw ((flowO.after h1.1 h1.2).imp fun z u2 F2 H2 _ s2 g2 h2 v rv => ?_)
    exact h2.2 _ F2 H2 (Same.refl _) (h2.1.set rv)
end

/-! ### loops -/
def loopD (g : MG) (mb : MS) : List D → Env → M Fl
  | [], ρ => M.pure (.nx ρ)
  | d :: ds, ρ => M.bind (lft (g d ρ)) fun ρ1 => M.bind (mb ρ1) fun f => match f with
    | .nx ρ2 => loopD g mb ds ρ2
    | .ct ρ2 => loopD g mb ds ρ2
    | .bk ρ2 => M.pure (.nx ρ2)
    | .rt d => M.pure (.rt d)
    | .rl d => M.pure (.rl d)
    | .ex ρ2 k ks ds => M.pure (.ex ρ2 k ks ds)
def mFor (mi : MA) (g : MG) (mb : MS) : MS := fun ρ => M.bind (mi ρ) fun ds => loopD g mb ds ρ
def loopW (t : MT) (mb : MS) : Nat → Env → M Fl
  | 0, _ => lft none
  | n + 1, ρ => M.bind (t ρ) fun b => if b = true then M.bind (mb ρ) fun f => match f with
    | .nx ρ2 => loopW t mb n ρ2
    | .ct ρ2 => loopW t mb n ρ2
    | .bk ρ2 => M.pure (.nx ρ2)
    | .rt d => M.pure (.rt d)
    | .rl d => M.pure (.rl d)
    | .ex ρ2 k ks ds => M.pure (.ex ρ2 k ks ds)
    else M.pure (.nx ρ)
def mWhile (n : Nat) (t : MT) (mb : MS) : MS := fun ρ => loopW t mb n ρ
abbrev DI (X : Cx) (c : Cf) (tg e : Expr) (m : MA) : Prop := PI X tg e (rdI c m)
section
variable {X : Cx} {c : Cf} {pos : Pos} {tg iter : Expr} {body : List Stmt} {mi : MA} {g : MG} {mb : MS} {is : List Nat}
theorem flowO.mono {F F' : Hp} {Dn : Ends} {r : Option (Fl × PuS)} (e : Same F F') (h : flowO c F Dn r) : flowO c F' Dn r := by
  cases r with
  | none => exact h
  | some x =>
    obtain ⟨f, u⟩ := x
    cases f with
    | nx ρ2 => exact fun σ2 F2 H2 s2 => h σ2 F2 H2 (e.trans s2)
    | bk ρ2 => exact fun σ2 F2 H2 s2 => h σ2 F2 H2 (e.trans s2)
    | ct ρ2 => exact fun σ2 F2 H2 s2 => h σ2 F2 H2 (e.trans s2)
    | ex ρ2 k ks ds => exact fun σ2 F2 H2 cls od s2 => h σ2 F2 H2 cls od (e.trans s2)
    | rt d => exact h
    | rl d => exact h
theorem dFor (hp : PassesOwn (model X.prog X.w) X.A X.env X.xe) (hc : X.calm = true) (hi : DI X c tg iter mi) (hg : DG X c tg is g) (hb : DB X c body mb) (hs : ∀ x, foldedSetIterable iter X.env x = pure x := by intro _; rfl) : DS X c (.For tg iter body [] pos) (mFor mi g mb) :=
  (ps_for hp hc hi hg hb hs).imp fun Dn σ H ⟨F, u, ρ, S, h⟩ => ⟨F, u, ρ, S, (flowO.after S h).imp fun ds u1 F1 H1 _ s1 g1 h1 J hJ => by
    obtain ⟨G, Y, w, hG, hY⟩ := hJ
    refine for_it w (fun i σ H => ∃ F' u' ρ', Same F1 F' ∧ Sta c u' F' H σ ρ' ∧ flowO c F' Dn (loopD g mb (ds.drop i) ρ' u')) ⟨F1, u1, ρ, Same.refl _, h1.1, by simpa using h1.2⟩
      (fun i σ H _ ⟨F', u', ρ', e, S', _⟩ => hG H (e.trans S'.gd.ex)) (fun i x σ H H' hi ⟨F', u', ρ', e, S', hf⟩ hy => ?_) (fun σ H ⟨F', u', ρ', e, S', hf⟩ => ?_)
    · have hd : ds[i]? = some ds[i] := List.getElem?_eq_getElem hi
      obtain ⟨F3, s3, g3, r3⟩ := hY i H x H' F' u' _ hd e S'.gd hy
      rw [List.drop_eq_getElem_cons hi] at hf
      unfold loopD at hf
      obtain ⟨ρ1, e1, hf⟩ := flowO.lft S' hf
      have S3 := S'.step s3 g3
      refine ⟨F3, u', ρ', ds[i], S3, r3, ?_⟩
      rw [e1]
      intro σ1 S1 _
      refine ⟨F3, u', ρ1, S1, ?_⟩
      have hf3 := hf.mono s3.ef
      unfold M.bind at hf3
      cases e2 : mb ρ1 u' with
      | none => rw [e2] at hf3; exact hf3
      | some y =>
        obtain ⟨f2, u2⟩ := y
        rw [e2] at hf3
        cases f2 with
        | nx ρ2 => exact fun σ2 F2 H2 sm S2 => ⟨F2, u2, ρ2, (e.trans s3.ef).trans sm, S2, flowO.mono sm hf3⟩
        | ct ρ2 => exact fun σ2 F2 H2 sm S2 => ⟨F2, u2, ρ2, (e.trans s3.ef).trans sm, S2, flowO.mono sm hf3⟩
        | bk ρ2 => exact fun σ2 F2 H2 sm S2 => hf3 σ2 F2 H2 sm S2
        | ex ρ2 k ks ds => exact fun σ2 F2 H2 cls od sm S2 => hf3 σ2 F2 H2 cls od sm S2
        | rt d => exact hf3
        | rl d => exact hf3
    · rw [List.drop_eq_nil_of_le (Nat.le_refl _)] at hf
      exact hf σ F' H (Same.refl _) S'⟩
theorem dWhile {k : Expr} {t : MT} (n : Nat) (hp : PassesOwn (model X.prog X.w) X.A X.env X.xe) (hk : DT X c k t) (hb : DB X c body mb) : DS X c (.While k body [] pos) (mWhile n t mb) :=
  (ps_while hp hk hb).imp fun Dn σ H ⟨F, u, ρ, S, h⟩ => by
    refine ⟨fun m σ H => ∃ F u ρ, Sta c u F H σ ρ ∧ flowO c F Dn (loopW t mb m ρ u), ⟨n, F, u, ρ, S, h⟩, fun m σ H ⟨F, u, ρ, S, h⟩ => ?_⟩
    cases m with
    | zero => exact False.elim h
    | succ m =>
      unfold loopW at h
      refine ⟨F, u, ρ, S, (flowO.after S h).imp fun b u1 F1 H1 _ s1 g1 h1 => ?_⟩
      cases b with
      | false => exact h1.2 σ F1 H1 (Same.refl _) h1.1
      | true =>
        refine ⟨fun σ' H' => ∃ F u ρ, Sta c u F H' σ' ρ ∧ flowO c F Dn (loopW t mb m ρ u), fun σ' H' z => ⟨m, Nat.lt_succ_self _, z⟩, F1, u1, ρ, h1.1, ?_⟩
        have hf3 : flowO c F1 Dn (M.bind (mb ρ) (fun f => match f with
          | .nx ρ2 => loopW t mb m ρ2
          | .ct ρ2 => loopW t mb m ρ2
          | .bk ρ2 => M.pure (.nx ρ2)
          | .rt d => M.pure (.rt d)
          | .rl d => M.pure (.rl d)
          | .ex ρ2 k ks ds => M.pure (.ex ρ2 k ks ds)) u1) := h1.2
        unfold M.bind at hf3
        cases e2 : mb ρ u1 with
        | none => rw [e2] at hf3; exact hf3
        | some y =>
          obtain ⟨f2, u2⟩ := y
          rw [e2] at hf3
          cases f2 with
          | nx ρ2 => exact fun σ2 F2 H2 sm S2 => ⟨F2, u2, ρ2, S2, flowO.mono sm hf3⟩
          | ct ρ2 => exact fun σ2 F2 H2 sm S2 => ⟨F2, u2, ρ2, S2, flowO.mono sm hf3⟩
          | bk ρ2 => exact fun σ2 F2 H2 sm S2 => hf3 σ2 F2 H2 sm S2
          | ex ρ2 k ks ds => exact fun σ2 F2 H2 cls od sm S2 => hf3 σ2 F2 H2 cls od sm S2
          | rt d => exact hf3
          | rl d => exact hf3
end
end Mi

set_option Elab.async false
set_option linter.all false
set_option maxRecDepth 100000
set_option maxHeartbeats 2000000
/-! Mi3: what is walked, comprehensions, owned lists, calls, classes, a def's promise. -/
namespace Mi
open PySem PySem.Spec PyProof.Rows L2
variable [TB : Tabl]

/-! ### what is walked -/
section
variable {W : Wo} {p : Addr} {F : Hp}
theorem walkD_at {J : It} {G : Hp → Prop} {vs : List V} {ds : List D} (w : Walk J vs.length G (YAt vs)) (hG : ∀ H, Same F H → G H) (r : Reps W p F vs ds) : WalkD W p J F ds := by
  refine ⟨G, YAt vs, by rw [← r.1]; exact w, hG, fun i H x H' F2 u d hd e g hy => ?_⟩
  obtain ⟨rfl, hx⟩ := hy
  exact ⟨F2, Stp.refl, g, (r.2 i x d hx hd).mono e⟩
theorem walkD_list {a : Addr} {vs : List V} {ds : List D} (h : F a = some (.lst vs)) (r : Reps W p F vs ds) : WalkD W p (Itl W.K a) F ds := walkD_at walk_list (fun H e => SqL.of (e _ _ h)) r
theorem walkD_tup {a : Addr} {vs : List V} {ds : List D} (h : SqT W.K F a vs) (r : Reps W p F vs ds) : WalkD W p (Itt W.K a) F ds := walkD_at walk_tup (fun H e => sq_t e h) r
def rngD (lo : Int) (n : Nat) : List D := (List.range n).map fun i => .int (lo + (i : Nat))
theorem rngD_len (lo : Int) (n : Nat) : (rngD lo n).length = n := by simp [rngD]
theorem rngD_at {lo : Int} {n i : Nat} {d : D} (h : (rngD lo n)[i]? = some d) : d = .int (lo + (i : Nat)) := by
  unfold rngD at h
  rw [List.getElem?_map] at h
  by_cases hi : i < n
  · rw [List.getElem?_range hi] at h
    exact (Option.some.inj h).symm
  · rw [List.getElem?_eq_none (by simpa using hi)] at h; cases h
theorem walkD_range {lo : Int} {n : Nat} : WalkD W p (Itr lo n) F (rngD lo n) := by
  refine ⟨_, _, by rw [rngD_len]; exact walk_range, fun _ _ => trivial, fun i H x H' F2 u d hd e g hy => ?_⟩
  obtain ⟨rfl, rfl⟩ := hy
  exact ⟨F2, Stp.refl, g, by rw [rngD_at hd]; exact .int _⟩
/-- pairs of the items of two walks -/
theorem walkD_pair {J : It} {n : Nat} {G : Hp → Prop} {xs ys : Nat → Option V} {ds : List D} (hn : ds.length = n) (w : Walk J n G (YPair xs ys)) (hG : ∀ H, Same F H → G H)
    (r : ∀ i x y d, xs i = some x → ys i = some y → ds[i]? = some d → ∃ a b, d = .tup [a, b] ∧ Rep W p F x a ∧ Rep W p F y b) : WalkD W p J F ds := by
  refine ⟨G, _, by rw [hn]; exact w, hG, fun i H x H' F2 u d hd e g hy => ?_⟩
  obtain ⟨T, x1, y1, rfl, hT, rfl, hx, hy⟩ := hy
  obtain ⟨a, b, rfl, ra, rb⟩ := r i x1 y1 d hx hy hd
  have e2 := e.trans (Stp.new (o := .tup [x1, y1]) g hT).ef
  exact ⟨_, Stp.new g hT, g.new hT, Rep.mkT upd_same (Reps.cons (ra.mono e2) (Reps.cons (rb.mono e2) Reps.nil))⟩
end
def seqD : D → Option (List D)
  | .lst ds => some ds
  | .tup ds => some ds
  | _ => none
def mIseq (m : ME) : MA := fun ρ => M.bind (m ρ) fun d => lft (match d with
  | .lst ds => some ds
  | _ => none)
def mItup (m : ME) : MA := fun ρ => M.bind (m ρ) fun d => lft (match d with
  | .tup ds => some ds
  | _ => none)
def rng1 : List D → Option (List D) := fun ds => match ds with
  | [.int j] => if -100000 ≤ j ∧ j ≤ 100000 then some (rngD 0 j.toNat) else none
  | _ => none
def rng2 : List D → Option (List D) := fun ds => match ds with
  | [.int i, .int j] => if (-100000 ≤ i ∧ i ≤ 100000) ∧ -100000 ≤ j ∧ j ≤ 100000 then some (rngD i (j - i).toNat) else none
  | _ => none
def mIof (f : List D → Option (List D)) (ms : MA) : MA := fun ρ => M.bind (ms ρ) fun ds => lft (f ds)
def zipD : List D → List D → List D := fun xs ys => (xs.zip ys).map fun q => .tup [q.1, q.2]
def enumD (xs : List D) : List D := xs.mapIdx fun i d => .tup [.int (i : Nat), d]
def zip2 : List D → Option (List D) := fun ds => match ds with
  | [.lst xs, .lst ys] => some (zipD xs ys)
  | _ => none
def enum1 : List D → Option (List D) := fun ds => match ds with
  | [.lst xs] => some (enumD xs)
  | _ => none
theorem zipD_at {xs ys : List D} {i : Nat} {d : D} (h : (zipD xs ys)[i]? = some d) : ∃ x y, xs[i]? = some x ∧ ys[i]? = some y ∧ d = .tup [x, y] := by
  unfold zipD at h
  rw [List.getElem?_map] at h
  cases e : (xs.zip ys)[i]? with
  | none => rw [e] at h; cases h
  | some q =>
    rw [e] at h
    obtain ⟨h1, h2⟩ := List.getElem?_zip_eq_some.mp e
    exact ⟨q.1, q.2, h1, h2, (Option.some.inj h).symm⟩
theorem enumD_at {xs : List D} {i : Nat} {d : D} (h : (enumD xs)[i]? = some d) : ∃ x, xs[i]? = some x ∧ d = .tup [.int (i : Nat), x] := by
  unfold enumD at h
  rw [List.getElem?_mapIdx] at h
  cases e : xs[i]? with
  | none => rw [e] at h; cases h
  | some q =>
    rw [e] at h
    exact ⟨q, rfl, (Option.some.inj h).symm⟩
theorem enumD_len (xs : List D) : (enumD xs).length = xs.length := by simp [enumD]
theorem zipD_len (xs ys : List D) : (zipD xs ys).length = min xs.length ys.length := by simp [zipD]
section
variable {X : Cx} {c : Cf} {tg e a b : Expr} {m : ME} {ms : MA} {pos q : Pos}
theorem dIlist (h : DE X c e m) (hK : X.K = c.W.K := by rfl) : DI X c tg e (mIseq m) :=
  (pi_list h).imp fun σ H R ⟨F, u, ρ, S, h⟩ => ⟨F, u, ρ, S, (After.split h).imp fun d u1 F1 H1 _ s1 g1 h1 v rv => by
    obtain ⟨ds, e1, h2⟩ := lft_some h1
    cases d with
    | lst es =>
      cases e1
      obtain ⟨a, vs, rfl, ha, rs⟩ := rv.lst_
      exact ⟨a, rfl, ⟨vs, SqL.of (g1.ex _ _ ha)⟩, by rw [hK]; exact After.now g1 h2 _ (walkD_list ha rs)⟩
    | _ => cases e1⟩
theorem dItup (h : DE X c e m) (hK : X.K = c.W.K := by rfl) : DI X c tg e (mItup m) :=
  (pi_tup h).imp fun σ H R ⟨F, u, ρ, S, h⟩ => ⟨F, u, ρ, S, (After.split h).imp fun d u1 F1 H1 _ s1 g1 h1 v rv => by
    obtain ⟨ds, e1, h2⟩ := lft_some h1
    cases d with
    | tup es =>
      cases e1
      obtain ⟨a, vs, rfl, ha, rs⟩ := rv.tup_
      exact ⟨a, rfl, ⟨vs, by rw [hK]; exact sq_t g1.ex ha⟩, by rw [hK]; exact After.now g1 h2 _ (walkD_tup ha rs)⟩
    | _ => cases e1⟩
theorem dIrng1 (hg : Gl X "range") (hm : X.mg "range" = none) (ha : DA X c [a] ms) (hs : starEach [a] X.env = [(false, eval a X.env)] := by rfl) : DI X c tg (.Call (.Name "range" q) [a] [] pos) (mIof rng1 ms) :=
  (pi_range1 hg hm ha hs).imp fun σ H R ⟨F, u, ρ, S, h⟩ => ⟨F, u, ρ, S, (After.split h).imp fun ds u1 F1 H1 _ s1 g1 h1 vs rv => by
    obtain ⟨es, e1, h2⟩ := lft_some h1
    unfold rng1 at e1
    split at e1
    · rename_i j _h
      split at e1
      · rename_i hj
        cases e1
        obtain ⟨v, vr, rfl, r1, r2⟩ := rv.uncons
        rw [r2.none, r1.int_]
        exact ⟨j, rfl, by omega, by omega, After.now g1 h2 _ walkD_range⟩
      · cases e1
    · cases e1⟩
theorem dIrng2 (hg : Gl X "range") (hm : X.mg "range" = none) (ha : DA X c [a, b] ms) (hs : starEach [a, b] X.env = [(false, eval a X.env), (false, eval b X.env)] := by rfl) (hs2 : starEach [b] X.env = [(false, eval b X.env)] := by rfl) :
    DI X c tg (.Call (.Name "range" q) [a, b] [] pos) (mIof rng2 ms) :=
  (pi_range2 hg hm ha hs hs2).imp fun σ H R ⟨F, u, ρ, S, h⟩ => ⟨F, u, ρ, S, (After.split h).imp fun ds u1 F1 H1 _ s1 g1 h1 vs rv => by
    obtain ⟨es, e1, h2⟩ := lft_some h1
    unfold rng2 at e1
    split at e1
    · rename_i i j _h
      split at e1
      · rename_i hj
        cases e1
        obtain ⟨v, vr, rfl, r1, r2⟩ := rv.uncons
        obtain ⟨w, wr, rfl, r3, r4⟩ := r2.uncons
        rw [r4.none, r1.int_, r3.int_]
        exact ⟨i, j, rfl, ⟨by omega, by omega, by omega, by omega⟩, After.now g1 h2 _ walkD_range⟩
      · cases e1
    · cases e1⟩
theorem dIzip {elts : List Expr} {kk : Nat} {tpos : Pos} (hg : Gl X "zip") (hm : X.mg "zip" = none) (ha : DA X c [a, b] ms) (hs : starEach [a, b] X.env = (false, eval a X.env) :: starEach [b] X.env := by rfl) (hpl : (backTo pos (starEach [b] X.env)).any (·.1) = false := by rfl) (hK : X.K = c.W.K := by rfl) :
    DI X c (.Tuple elts kk tpos) (.Call (.Name "zip" q) [a, b] [] pos) (mIof zip2 ms) :=
  (pi_zip hg hm ha hs hpl).imp fun σ H R ⟨F, u, ρ, S, h⟩ => ⟨F, u, ρ, S, (After.split h).imp fun ds u1 F1 H1 _ s1 g1 h1 vs rv => by
    obtain ⟨es, e1, h2⟩ := lft_some h1
    unfold zip2 at e1
    split at e1
    · rename_i xs ys _h
      cases e1
      obtain ⟨v, vr, rfl, r1, r2⟩ := rv.uncons
      obtain ⟨w, wr, rfl, r3, r4⟩ := r2.uncons
      rw [r4.none]
      obtain ⟨p1, v1, rfl, f1, q1⟩ := r1.lst_
      obtain ⟨p2, v2, rfl, f2, q2⟩ := r3.lst_
      refine ⟨p1, p2, v1, v2, rfl, SqL.of (g1.ex _ _ f1), SqL.of (g1.ex _ _ f2), After.now g1 h2 _ ?_⟩
      rw [hK]
      refine walkD_pair (n := min v1.length v2.length) (by rw [zipD_len, q1.1, q2.1]) (walk_zip rfl) (fun H e => ⟨SqL.of (e _ _ f1), SqL.of (e _ _ f2)⟩) fun i x y d hx hy hd => ?_
      obtain ⟨x', y', e1, e2, rfl⟩ := zipD_at hd
      exact ⟨x', y', rfl, q1.2 i x x' hx e1, q2.2 i y y' hy e2⟩
    · cases e1⟩
theorem dIenum {elts : List Expr} {kk : Nat} {tpos : Pos} (hg : Gl X "enumerate") (hm : X.mg "enumerate" = none) (ha : DA X c [a] ms) (hs : starEach [a] X.env = [(false, eval a X.env)] := by rfl) (hK : X.K = c.W.K := by rfl) :
    DI X c (.Tuple elts kk tpos) (.Call (.Name "enumerate" q) [a] [] pos) (mIof enum1 ms) :=
  (pi_enum hg hm ha hs).imp fun σ H R ⟨F, u, ρ, S, h⟩ => ⟨F, u, ρ, S, (After.split h).imp fun ds u1 F1 H1 _ s1 g1 h1 vs rv => by
    obtain ⟨es, e1, h2⟩ := lft_some h1
    unfold enum1 at e1
    split at e1
    · rename_i xs _h
      cases e1
      obtain ⟨v, vr, rfl, r1, r2⟩ := rv.uncons
      rw [r2.none]
      obtain ⟨p1, v1, rfl, f1, q1⟩ := r1.lst_
      refine ⟨p1, v1, rfl, SqL.of (g1.ex _ _ f1), After.now g1 h2 _ ?_⟩
      rw [hK]
      refine walkD_pair (n := v1.length) (by rw [enumD_len, q1.1]) walk_enum (fun H e => SqL.of (e _ _ f1)) fun i x y d hx hy hd => ?_
      obtain ⟨y', e2, rfl⟩ := enumD_at hd
      cases hx
      exact ⟨_, y', rfl, .int _, q1.2 i y y' hy e2⟩
    · cases e1⟩
end

/-! ### comprehensions -/
def wipeE (ρ : Env) : List Nat → Env
  | [] => ρ
  | v :: vs => (wipeE ρ vs).set v .un
theorem wipe_get {σ : L2.St} {j : Nat} : ∀ {vs : List Nat}, j ∉ vs → (wipe σ vs)[j]? = σ[j]?
  | [], _ => rfl
  | v :: vs, h => by
    show ((wipe σ vs).set v none)[j]? = _
    rw [List.getElem?_set_ne (fun z => h (by simp [z])), wipe_get (fun z => h (List.mem_cons_of_mem _ z))]
theorem wipeE_len (ρ : Env) : ∀ vs : List Nat, (wipeE ρ vs).length = ρ.length
  | [] => rfl
  | v :: vs => by show ((wipeE ρ vs).set v .un).length = _; rw [List.length_set, wipeE_len ρ vs]
theorem wipeE_get {ρ : Env} {j : Nat} {s : Sd} : ∀ {vs : List Nat}, (wipeE ρ vs)[j]? = some s → s = .un ∨ (j ∉ vs ∧ ρ[j]? = some s)
  | [], h => .inr ⟨by simp, h⟩
  | v :: vs, h => by
    have h' : ((wipeE ρ vs).set v .un)[j]? = some s := h
    rcases set_get h' with ⟨_, e, _⟩ | ⟨ne, h2⟩
    · exact .inl e
    · rcases wipeE_get h2 with e | ⟨a, b⟩
      · exact .inl e
      · exact .inr ⟨fun z => (List.mem_cons.mp z).elim (fun q => ne q.symm) a, b⟩
theorem Sta.wipe {c : Cf} {u : PuS} {F H : Hp} {σ : L2.St} {ρ : Env} (S : Sta c u F H σ ρ) (vs : List Nat) : Sta c u F H (wipe σ vs) (wipeE ρ vs) := by
  refine ⟨S.ent, S.gd, by rw [wipe_length, wipeE_len]; exact S.env.len, fun i s e => ?_, fun i j s t h e1 e2 o1 o2 => ?_⟩
  · rcases wipeE_get e with rfl | ⟨hn, e⟩
    · trivial
    · rw [wipe_get hn]; exact S.env.at_ i s e
  · rcases wipeE_get e1 with rfl | ⟨n1, e1⟩
    · cases o1
    · rcases wipeE_get e2 with rfl | ⟨n2, e2⟩
      · cases o2
      · rw [wipe_get n1, wipe_get n2]; exact S.env.ne i j s t h e1 e2 o1 o2
theorem wipe_in {σ : L2.St} {j : Nat} : ∀ {vs : List Nat}, j ∈ vs → (wipe σ vs)[j]? = if j < σ.length then some none else none
  | [], h => by cases h
  | v :: vs, h => by
    show ((wipe σ vs).set v none)[j]? = _
    by_cases e : v = j
    · subst e
      rw [List.getElem?_set]
      simp [wipe_length]
    · rw [List.getElem?_set_ne e]
      exact wipe_in ((List.mem_cons.mp h).resolve_left fun z => e z.symm)
theorem wipe_agr {σ σ' : L2.St} {is vs : List Nat} (h : ∀ i ∈ is, i ∈ vs) (a : Agr is (wipe σ vs) σ') : wipe σ' vs = wipe σ vs := by
  apply List.ext_getElem?
  intro j
  have hl : σ'.length = σ.length := by rw [a.1, wipe_length]
  by_cases hj : j ∈ vs
  · rw [wipe_in hj, wipe_in hj, hl]
  · rw [wipe_get hj, a.2 j (fun z => hj (h j z))]
theorem bind_some {α β : Type} {m : M α} {f : α → M β} {u : PuS} {r : β × PuS} (h : M.bind m f u = some r) : ∃ a u1, m u = some (a, u1) ∧ f a u1 = some r := by
  unfold M.bind at h
  cases e : m u with
  | none => rw [e] at h; cases h
  | some x =>
    obtain ⟨a, u1⟩ := x
    rw [e] at h
    exact ⟨a, u1, rfl, h⟩
def lcD (g : MG) (mt : MT) (me : ME) (ρ : Env) : List D → M (List D)
  | [] => M.pure []
  | d :: ds => M.bind (lft (g d ρ)) fun ρ1 => M.bind (mt ρ1) fun b =>
    if b = true then M.bind (me ρ1) fun y => M.bind (lcD g mt me ρ ds) fun ys => M.pure (y :: ys) else lcD g mt me ρ ds
def mLcO (vs : List Nat) (mi : MA) (g : MG) (mt : MT) (me : ME) : MA := fun ρ => M.bind (mi ρ) fun ds => if ds.length ≤ 100000 then lcD g mt me (wipeE ρ vs) ds else lft none
/-- a fresh list, frozen -/
def mFz (m : MA) : ME := fun ρ => M.bind (m ρ) fun ds => M.pure (.lst ds)
theorem dFz {X : Cx} {c : Cf} {e : Expr} {m : MA} (h : DL X c e m) : DE X c e (mFz m) := h.imp fun σ H Q ⟨F, u, ρ, S, h⟩ => by
  refine ⟨F, u, ρ, S, ?_⟩
  have h' : After c.p F H (M.bind (m ρ) (fun ds => M.pure (.lst ds)) u) fun d _ F' H' => ∀ v, Rep c.W c.p F' v d → Q v H' := h
  unfold M.bind at h'
  cases e1 : m ρ u with
  | none => rw [e1] at h'; exact h'
  | some x =>
    obtain ⟨ds, u1⟩ := x
    rw [e1] at h'
    intro F1 H1 s1 g1 q ws hF hn hq r
    have h2 : After c.p F H (some (D.lst ds, u1)) (fun d _ F' H' => ∀ v, Rep c.W c.p F' v d → Q v H') := h'
    have hsm : Same F1 (upd F1 q (.lst ws)) := fun a o e => by rw [upd_ne (fun z => by rw [z, hF] at e; cases e)]; exact e
    have hpq : c.p ≠ q := fun z => S.gd.ne (z ▸ hn)
    refine h2 (upd F1 q (.lst ws)) H1 ⟨s1.ef.trans hsm, s1.eh, s1.et, fun a o e => ?_⟩ ⟨fun a o e => ?_, g1.pu, fun l e => by rw [upd_ne hpq]; exact g1.off l e, nt_upd g1.nt (by intro _ z; cases z), g1.tb, g1.hp⟩ (.ref q) (Rep.mkL upd_same (r.mono hsm))
    · by_cases ha : a = q
      · subst ha; exact .inr hn
      · rw [upd_ne ha] at e; exact s1.nw a o e
    · by_cases ha : a = q
      · subst ha; rw [upd_same] at e; cases e; exact hq
      · rw [upd_ne ha] at e; exact g1.ex a o e
def mYes : MT := fun _ => M.pure true
section
variable {c : Cf} {is vs : List Nat} {mi : MA} {g : MG} {mt : MT} {me : ME}
/-- the reading of a comprehension, from its mirror: the new list is handed over, not frozen -/
theorem rdLc (his : ∀ i ∈ is, i ∈ vs) (σ : L2.St) (H : Hp) (Q : VK) (F : Hp) (u : PuS) (ρ : Env) (S : Sta c u F H σ ρ)
    (h : After c.p F H (mLcO vs mi g mt me ρ u) fun ds _ F' H' => ∀ q ws, F' q = none → H q = none → H' q = some (.lst ws) → Reps c.W c.p F' ws ds → Q (.ref q) H') : tLc (rdI c mi) (rdG c is g) (rdT c mt) (rdE c me) vs σ H Q := by
  refine ⟨F, u, ρ, S, (After.split h).imp fun ds u1 F1 H1 _ s1 g1 h1 J hJ Dl hD => ?_⟩
  have S1 := S.step s1 g1
  by_cases hlen : ds.length ≤ 100000
  case neg => rw [if_neg hlen] at h1; exact False.elim h1
  rw [if_pos hlen] at h1
  obtain ⟨G, Y, w, hG, hY⟩ := hJ
  -- what is wanted at the end
  cases hr : lcD g mt me (wipeE ρ vs) ds u1 with
  | none => rw [hr] at h1; exact False.elim h1
  | some out =>
    obtain ⟨out, uf⟩ := out
    rw [hr] at h1
    refine lc_it w (fun i H' => ∃ F' u' done acc rest, Stp c.p F1 H1 F' H' ∧ Gd c.p u' F' H' ∧ F' Dl = none ∧ H' Dl = some (.lst acc) ∧ Reps c.W c.p F' acc done ∧ done.length ≤ i ∧
      lcD g mt me (wipeE ρ vs) (ds.drop i) u' = some (rest, uf) ∧ done ++ rest = out) ?_ ?_ ?_ ?_
    · exact ⟨F1, u1, [], [], out, Stp.own hD, g1.own hD, g1.fresh hD, upd_same, Reps.nil, Nat.le_refl _, by simpa using hr, rfl⟩
    · rintro i H' _ ⟨F', u', done, acc, rest, s', g', _⟩
      exact hG H' (s'.ef.trans g'.ex)
    · rintro i x H2 H3 hi ⟨F', u', done, acc, rest, s', g', hf, ha, ra, hl, hd, ho⟩ hy
      have hdi : ds[i]? = some ds[i] := List.getElem?_eq_getElem hi
      obtain ⟨F3, s3, g3, r3⟩ := hY i H2 x H3 F' u' _ hdi s'.ef g' hy
      rw [List.drop_eq_getElem_cons hi] at hd
      unfold lcD at hd
      have S3 : Sta c u' F3 H3 (wipe σ vs) (wipeE ρ vs) := ((S1.step s' g').step s3 g3).wipe vs
      refine ⟨F3, u', wipeE ρ vs, ds[i], S3, r3, ?_⟩
      cases eg : g ds[i] (wipeE ρ vs) with
      | none => rw [eg] at hd; cases hd
      | some ρ1 =>
        rw [eg] at hd
        intro σ2 S2 a2
        refine ⟨wipe_agr his a2, F3, u', ρ1, S2, ?_⟩
        have hd2 : M.bind (mt ρ1) (fun b => if b = true then M.bind (me ρ1) fun y => M.bind (lcD g mt me (wipeE ρ vs) (ds.drop (i + 1))) fun ys => M.pure (y :: ys) else lcD g mt me (wipeE ρ vs) (ds.drop (i + 1))) u' = some (rest, uf) := hd
        unfold M.bind at hd2
        have s13 := s'.trans g'.ne s3
        cases et : mt ρ1 u' with
        | none => rw [et] at hd2; cases hd2
        | some bt =>
          obtain ⟨bt, u2⟩ := bt
          rw [et] at hd2
          intro F4 H4 s4 g4
          have s14 := s13.trans g3.ne s4
          have hf4 : F4 Dl = none := s4.off (s3.off hf (by rw [ha]; simp)) (by rw [s3.eh Dl _ (fun z => g1.ne (z ▸ hD)) ha (.inr (by intro _ z; cases z))]; simp)
          have ha4 : H4 Dl = some (.lst acc) := s4.eh Dl _ (fun z => g1.ne (z ▸ hD)) (s3.eh Dl _ (fun z => g1.ne (z ▸ hD)) ha (.inr (by intro _ z; cases z))) (.inr (by intro _ z; cases z))
          have hpd : Dl ≠ c.p := fun z => g1.ne (z ▸ hD)
          cases bt with
          | false =>
            show ∃ F' u' done acc rest, _
            exact ⟨F4, u2, done, acc, rest, s14, g4, hf4, ha4, ra.mono (s3.ef.trans s4.ef), by omega, hd2, ho⟩
          | true =>
            show rdE c me σ2 H4 _
            refine ⟨F4, u2, ρ1, S2.step s4 g4, ?_⟩
            have hd3 : M.bind (me ρ1) (fun y => M.bind (lcD g mt me (wipeE ρ vs) (ds.drop (i + 1))) fun ys => M.pure (y :: ys)) u2 = some (rest, uf) := hd2
            unfold M.bind at hd3
            cases ee : me ρ1 u2 with
            | none => rw [ee] at hd3; cases hd3
            | some y =>
              obtain ⟨y, u3⟩ := y
              rw [ee] at hd3
              intro F5 H5 s5 g5 v rv
              have ha5 := s5.eh Dl _ hpd ha4 (.inr (by intro _ z; cases z))
              have hf5 : F5 Dl = none := s5.off hf4 (by rw [ha4]; simp)
              refine ⟨acc, ha5, sz5l (by have := ra.1; omega), ?_⟩
              obtain ⟨ys, u4, el, e5⟩ := bind_some (m := lcD g mt me (wipeE ρ vs) (ds.drop (i + 1))) (f := fun ys => M.pure (y :: ys)) (u := u3) (r := (rest, uf)) hd3
              have e5 : some (y :: ys, u4) = some (rest, uf) := e5
              injection e5 with e5
              injection e5 with e6 e7
              subst e6 e7
              have s15 := s14.trans g4.ne s5
              refine ⟨F5, u3, done ++ [y], acc ++ [v], ys, ⟨s15.ef, fun a o hap e n => ?_, fun a ps ha e => by
                obtain ⟨qs, e1⟩ := s15.et a ps ha e
                exact ⟨qs, by rw [upd_ne (ne_of_none e hD)]; exact e1⟩, s15.nw⟩, ⟨fun a o e => ?_, ?_, g5.off, g5.nt, tabs_over ha5 g5.tb, g5.hp⟩, hf5, upd_same, ?_, by simp; omega, el, by simpa using ho⟩
              · rw [upd_ne (ne_of_none e hD)]; exact s15.eh a o hap e n
              · rw [upd_ne (fun z => by rw [z, hf5] at e; cases e)]; exact g5.ex a o e
              · rw [upd_ne (Ne.symm hpd)]; exact g5.pu
              · exact (ra.mono ((s3.ef.trans s4.ef).trans s5.ef)).append (Reps.cons rv Reps.nil)
    · rintro H' ⟨F', u', done, acc, rest, s', g', hf, ha, ra, hl, hd, ho⟩
      rw [List.drop_eq_nil_of_le (Nat.le_refl _)] at hd
      have hd' : some (([] : List D), u') = some (rest, uf) := hd
      injection hd' with hd'
      injection hd' with e1 e2
      subst e1 e2
      rw [List.append_nil] at ho
      subst ho
      exact h1 F' H' s' g' Dl acc hf (s1.back g1.ne hD) ha ra
end
section
variable {X : Cx} {c : Cf} {elt tg iter : Expr} {ifs : List Expr} {scope : Scope} {own : List (Str × Nat)} {pos : Pos} {is : List Nat} {mi : MA} {g : MG} {mt : MT} {me : ME}
theorem dYes : PTs X [] (rdT c mYes) := pts_nil.imp fun σ H Q ⟨F, u, ρ, S, h⟩ => After.now S.gd h
theorem dLcO (hc : X.calm = true) (hN : X.N.Nodup) (hi : DI X c tg iter mi) (ok : BlkOk X.N X.env.scope scope own) (hg : ∀ (s : Shared) (H : Hp) (C : Addr) (cl : List (Str × Addr)) (fp : List Addr), DG (X.blk s H scope (compEnvC scope cl C X.env) fp) c tg is g)
    (ht : ∀ (s : Shared) (H : Hp) (C : Addr) (cl : List (Str × Addr)) (fp : List Addr), PTs (X.blk s H scope (compEnvC scope cl C X.env) fp) ifs (rdT c mt)) (he : ∀ (s : Shared) (H : Hp) (C : Addr) (cl : List (Str × Addr)) (fp : List Addr), DE (X.blk s H scope (compEnvC scope cl C X.env) fp) c elt me)
    (his : ∀ i ∈ is, i ∈ own.map (·.2) := by decide) (hs : ∀ x, foldedSetIterable iter X.env x = pure x := by intro _; rfl) : DL X c (.ListComp elt [⟨tg, iter, ifs, 0⟩] scope pos) (mLcO (own.map (·.2)) mi g mt me) :=
  (pe_lc hc hN hi ok hg ht he hs).imp fun σ H Q ⟨F, u, ρ, S, h⟩ => rdLc his σ H Q F u ρ S h
end
end Mi

set_option Elab.async false
set_option linter.all false
set_option maxRecDepth 100000
set_option maxHeartbeats 2000000
/-! Mi4: owned lists, calls, classes, a def's promise. -/
namespace Mi
open PySem PySem.Spec PyProof.Rows L2
variable [TB : Tabl]

/-! ### owned lists -/
def vOw (ρ : Env) (i : Nat) : Option (List D) := match ρ[i]? with
  | some (.ow ds) => some ds
  | _ => none
def mApp (i : Nat) (m : ME) : MS := fun ρ => M.bind (m ρ) fun d => M.bind (lft (vOw ρ i)) fun ds => M.bind (lft (if ds.length < 100000 then some () else none)) fun _ => M.pure (.nx (ρ.set i (.ow (ds ++ [d]))))
def mPut (i : Nat) (m mi : ME) : MS := fun ρ => M.bind (m ρ) fun d => M.bind (mi ρ) fun k => M.bind (lft (vOw ρ i)) fun ds => M.bind (lft (match k with
  | .int j => ixN ds.length j
  | _ => none)) fun n => M.pure (.nx (ρ.set i (.ow (ds.set n d))))
def mIxO (i : Nat) (mi : ME) : ME := fun ρ => M.bind (mi ρ) fun k => M.bind (lft (vOw ρ i)) fun ds => lft (match k with
  | .int j => atI ds j
  | _ => none)
def mLenO (i : Nat) : ME := fun ρ => M.bind (lft (vOw ρ i)) fun ds => M.pure (.int ds.length)
def frz (i : Nat) (ρ : Env) : Env := match vOw ρ i with
  | some ds => ρ.set i (.sh (.lst ds))
  | none => ρ
def mFrz (i : Nat) (m : MS) : MS := fun ρ => m (frz i ρ)
section
variable {X : Cx} {c : Cf} {pos : Pos} {e ie : Expr} {m mi : ME} {i : Nat} {x : Str}
theorem vOw_at {ρ : Env} {ds : List D} (h : vOw ρ i = some ds) : ρ[i]? = some (.ow ds) := by
  unfold vOw at h
  split at h
  · rename_i z; cases h; exact z
  · cases h
theorem Sta.ow {u : PuS} {F H : Hp} {σ : L2.St} {ρ : Env} {ds : List D} (S : Sta c u F H σ ρ) (h : vOw ρ i = some ds) :
    ∃ q vs, σ[i]? = some (some (.ref q)) ∧ H q = some (.lst vs) ∧ F q = none ∧ q ≠ c.p ∧ c.H0 q = none ∧ Reps c.W c.p F vs ds := S.env.at_ i _ (vOw_at h)
theorem lft_some' {α β : Type} {o : Option α} {f : α → M β} {u : PuS} {p : Addr} {F H : Hp} {Φ : β → PuS → Hp → Hp → Prop} (h : After p F H (M.bind (lft o) f u) Φ) : ∃ a, o = some a ∧ After p F H (f a u) Φ := by
  cases o with
  | none => exact False.elim h
  | some a => exact ⟨a, rfl, h⟩
theorem dApp (i : Nat) {x : Str} {p0 apos cpos : Pos} (he : DE X c e m) (hN : X.N[i]? = some x := by rfl) (hv : Vis X.env.scope x := by first | exact Or.inl rfl | exact Or.inr (Or.inl rfl) | exact Or.inr (Or.inr rfl)) (hd : (x == ("__debug__" : Str)) = false := by decide)
    (hcd : (x == ("__classdict__" : Str)) = false := by decide) (hbase : attributeBase (.Name x p0) "append" X.env (eval (.Name x p0) X.env) = eval (.Name x p0) X.env := by rfl)
    (hfew : ((backTo cpos (starEach [e] X.env)).all (fun x => !x.1) && (backToKw cpos (keywordEach [] X.env)).all (fun x => x.1.isSome)
      && decide (([e] : List Expr).length + ([] : List Keyword).length + (if ([] : List Keyword).isEmpty then 0 else 1) < 30)) = true := by rfl)
    (hline : (apos.endLine == cpos.line) = true := by rfl) (hst : starEach [e] X.env = (false, eval e X.env) :: starEach [] X.env := by rfl) (hplain : (backTo cpos (starEach [] X.env)).any (·.1) = false := by rfl)
    (hs : swapsWith (.Call (.Attribute (.Name x p0) "append" apos) [e] [] cpos) none pos.line X.env = pure false := by rfl) :
    DS X c (.Expr (.Call (.Attribute (.Name x p0) "append" apos) [e] [] cpos) pos) (mApp i m) :=
  (ps_expr (pe_bm PySem.F.plainAttrs_list PySem.F.slot_list_append PySem.F.type_list_append mt_append (pe_var (i := i) hN hv hd hcd) (pa_cons he pa_nil hst) hbase hfew hline hst hplain) hs).imp fun Dn σ H ⟨F, u, ρ, S, h⟩ => by
    unfold mApp at h
    have key : ∀ ds, vOw ρ i = some ds → tDrop (tBM X.K "list" rAppend (tVar i) (tCons (rdE c m) tNil)) Dn σ H := fun ds hds => by
      obtain ⟨q, vs, e1, hq, _⟩ := S.ow hds
      refine ⟨.ref q, e1, .inl ⟨rfl, vs, SqL.of hq⟩, F, u, ρ, S, (flowO.after S h).imp fun d u1 F1 H1 _ s1 g1 h1 v rv => ?_⟩
      obtain ⟨ds', e2, h2⟩ := flowO.lft h1.1 h1.2
      rw [hds] at e2
      cases e2
      obtain ⟨_, e3, h3⟩ := flowO.lft h1.1 h2
      obtain ⟨q', vs', e1', hq', _, _, _, r'⟩ := h1.1.ow hds
      rw [e1] at e1'
      cases e1'
      split at e3
      · rename_i hl
        refine ⟨q, vs', v, rfl, rfl, hq', sz5l (by rw [r'.1]; omega), h3 σ F1 _ (Same.refl _) ?_⟩
        exact h1.1.put (vOw_at hds) e1 (r'.append (Reps.cons rv Reps.nil))
      · cases e3
    cases ho : vOw ρ i with
    | some ds => exact key ds ho
    | none =>
      exfalso
      cases e1 : m ρ u with
      | none =>
        unfold M.bind at h
        rw [e1] at h
        exact h
      | some y =>
        unfold M.bind at h
        rw [e1, ho] at h
        exact h
theorem dPut (i : Nat) {x : Str} {p0 tp : Pos} (he : DE X c e m) (hk : DE X c ie mi) (hN : X.N[i]? = some x := by rfl) (hv : Vis X.env.scope x := by first | exact Or.inl rfl | exact Or.inr (Or.inl rfl) | exact Or.inr (Or.inr rfl)) (hd : (x == ("__debug__" : Str)) = false := by decide)
    (hcd : (x == ("__classdict__" : Str)) = false := by decide)
    (ha : ∀ v, assign (.Subscript (.Name x p0) ie tp) X.env v = (do
      let ov ← holding [v] (eval (.Name x p0) X.env)
      let iv ← holding [v, ov] (eval ie X.env)
      standAt tp
      holding [v, ov, iv] (setItem ov iv v)
      release [v, ov, iv] []) := by intro _; rfl)
    (hs : swapsWithSole [.Subscript (.Name x p0) ie tp] e pos.line X.env = pure false := by rfl) (hw : swappedStores [.Subscript (.Name x p0) ie tp] e X.env = pure none := by rfl)
    (h1 : (assignEach [.Subscript (.Name x p0) ie tp] X.env).map (·.2) = [assign (.Subscript (.Name x p0) ie tp) X.env] := by rfl) : DS X c (.Assign [.Subscript (.Name x p0) ie tp] e pos) (mPut i m mi) :=
  (ps_asg he (pg_sub (pe_var (i := i) hN hv hd hcd) hk set_list ha) hs hw h1).imp fun Dn σ H ⟨F, u, ρ, S, h⟩ => ⟨F, u, ρ, S, (flowO.after S h).imp fun d u1 F1 H1 _ s1 g1 h1 v rv => by
    have key : ∀ ds, vOw ρ i = some ds → ∃ w, σ[i]? = some (some w) ∧ rdE c mi σ H1 fun i' H3 => rSetL w i' v H3 fun H4 => Dn.nx σ H4 := fun ds hds => by
      obtain ⟨q, vs, e1, _⟩ := h1.1.ow hds
      refine ⟨.ref q, e1, F1, u1, ρ, h1.1, (flowO.after h1.1 h1.2).imp fun k u2 F2 H2 _ s2 g2 h2 w rw => ?_⟩
      obtain ⟨ds', e2, h3⟩ := flowO.lft h2.1 h2.2
      rw [hds] at e2
      cases e2
      obtain ⟨n, e3, h4⟩ := flowO.lft h2.1 h3
      obtain ⟨q', vs', e1', hq', _, _, _, r'⟩ := h2.1.ow hds
      rw [e1] at e1'
      cases e1'
      cases k with
      | int j =>
        refine ⟨q, vs', j, n, rfl, rw.int_, hq', by rw [r'.1]; exact e3, h4 σ F2 _ (Same.refl _) (h2.1.put (vOw_at hds) e1 ⟨by simp [r'.1], fun a v' d' ea eb => ?_⟩)⟩
        rcases set_get eb with ⟨rfl, rfl, _⟩ | ⟨ne, eb⟩
        · rcases set_get ea with ⟨_, rfl, _⟩ | ⟨ne, _⟩
          · exact rv.mono s2.ef
          · exact absurd rfl ne
        · rw [List.getElem?_set_ne ne] at ea
          exact r'.2 a v' d' ea eb
      | _ => cases e3
    cases ho : vOw ρ i with
    | some ds => exact key ds ho
    | none =>
      exfalso
      have h2 := h1.2
      unfold M.bind at h2
      cases e1 : mi ρ u1 with
      | none => rw [e1] at h2; exact h2
      | some y => rw [e1, ho] at h2; exact h2⟩
theorem dIxO (i : Nat) {x : Str} {p0 : Pos} (hk : DE X c ie mi) (hN : X.N[i]? = some x := by rfl) (hv : Vis X.env.scope x := by first | exact Or.inl rfl | exact Or.inr (Or.inl rfl) | exact Or.inr (Or.inr rfl)) (hd : (x == ("__debug__" : Str)) = false := by decide)
    (hcd : (x == ("__classdict__" : Str)) = false := by decide) (hs : PlainIx ie := by exact fun _ _ => rfl) : DE X c (.Subscript (.Name x p0) ie pos) (mIxO i mi) :=
  (pe_ix ix_list (pe_var (i := i) hN hv hd hcd) hk hs).imp fun σ H Q ⟨F, u, ρ, S, h⟩ => by
    have key : ∀ ds, vOw ρ i = some ds → ∃ w, σ[i]? = some (some w) ∧ rdE c mi σ H fun y H2 => rIxL X.K w y H2 Q := fun ds hds => by
      obtain ⟨q, vs, e1, _⟩ := S.ow hds
      refine ⟨.ref q, e1, F, u, ρ, S, (After.split h).imp fun k u2 F2 H2 _ s2 g2 h2 w rw => ?_⟩
      obtain ⟨ds', e2, h3⟩ := lft_some' h2
      rw [hds] at e2
      cases e2
      obtain ⟨d, e3, h4⟩ := lft_some h3
      obtain ⟨q', vs', e1', hq', _, _, _, r'⟩ := (S.step s2 g2).ow hds
      rw [e1] at e1'
      cases e1'
      cases k with
      | int j =>
        have e4 : atI ds j = some d := e3
        unfold atI at e4
        cases hj : ixN ds.length j with
        | none => rw [hj] at e4; cases e4
        | some n =>
          rw [hj] at e4
          obtain ⟨v, ev, rv⟩ := r'.get e4
          refine ⟨q, vs', j, v, rfl, rw.int_, SqL.of hq', by unfold atI; rw [r'.1, hj]; exact ev, After.now g2 h4 v rv⟩
      | _ => cases e3
    cases ho : vOw ρ i with
    | some ds => exact key ds ho
    | none =>
      exfalso
      unfold mIxO M.bind at h
      cases e1 : mi ρ u with
      | none => rw [e1] at h; exact h
      | some y => rw [e1, ho] at h; exact h
theorem dLenO (i : Nat) {x : Str} {p0 q0 : Pos} (hg : Gl X "len") (hm : X.mg "len" = none) (hN : X.N[i]? = some x := by rfl) (hv : Vis X.env.scope x := by first | exact Or.inl rfl | exact Or.inr (Or.inl rfl) | exact Or.inr (Or.inr rfl)) (hd : (x == ("__debug__" : Str)) = false := by decide)
    (hcd : (x == ("__classdict__" : Str)) = false := by decide) : DE X c (.Call (.Name "len" q0) [.Name x p0] [] pos) (mLenO i) :=
  (pe_callB call_len_seq hg hm PySem.boot_len (pa_cons (pe_var (i := i) hN hv hd hcd) pa_nil)).imp fun σ H Q ⟨F, u, ρ, S, h⟩ => by
    obtain ⟨ds, e1, h2⟩ := lft_some' h
    obtain ⟨q, vs, e2, hq, _, _, _, r⟩ := S.ow e1
    have h3 : After c.p F H (some (D.int ds.length, u)) (fun d _ F' H' => ∀ v, Rep c.W c.p F' v d → Q v H') := h2
    refine ⟨.ref q, e2, q, vs, rfl, .inl (SqL.of hq), After.now S.gd h3 _ ?_⟩
    rw [r.1]
    exact .int _
theorem Sta.frz {u : PuS} {F H : Hp} {σ : L2.St} {ρ : Env} (S : Sta c u F H σ ρ) (i : Nat) : ∃ F', Same F F' ∧ Sta c u F' H σ (frz i ρ) := by
  unfold Mi.frz
  cases ho : vOw ρ i with
  | none => exact ⟨F, Same.refl F, S⟩
  | some ds =>
    obtain ⟨q, vs, e1, hq, hf, hp, h0, r⟩ := S.ow ho
    have hsm : Same F (upd F q (.lst vs)) := fun a o e => by rw [upd_ne (fun z => by rw [z, hf] at e; cases e)]; exact e
    have qs : ∀ {j : Nat} {t : Sd} {a : Addr}, i ≠ j → ρ[j]? = some t → t.own = true → σ[j]? = some (some (.ref a)) → a ≠ q := fun {j t a} ne e2 o z h => by
      subst h
      exact S.env.ne i j _ t ne (vOw_at ho) e2 rfl o (e1.trans z.symm)
    refine ⟨upd F q (.lst vs), hsm, ⟨S.ent.ef.trans hsm, S.ent.eh, S.ent.et, fun a o e => ?_⟩, ⟨fun a o e => ?_, S.gd.pu, fun l e => by rw [upd_ne (Ne.symm hp)]; exact S.gd.off l e, nt_upd S.gd.nt (by intro _ z; cases z), S.gd.tb, S.gd.hp⟩, by simpa using S.env.len, fun j t e => ?_, fun j k t t' h ea eb o1 o2 => ?_⟩
    · by_cases ha : a = q
      · subst ha; exact .inr h0
      · rw [upd_ne ha] at e; exact S.ent.nw a o e
    · by_cases ha : a = q
      · subst ha; rw [upd_same] at e; cases e; exact hq
      · rw [upd_ne ha] at e; exact S.gd.ex a o e
    · rcases set_get e with ⟨rfl, rfl, _⟩ | ⟨ne, e⟩
      · exact ⟨.ref q, e1, Rep.mkL upd_same (r.mono hsm)⟩
      · have k := S.env.at_ j t e
        cases t with
        | un => trivial
        | sh d => obtain ⟨v, z, r'⟩ := k; exact ⟨v, z, r'.mono hsm⟩
        | ow es => obtain ⟨a, xs, z, ha, hfa, w1, w2, r'⟩ := k; exact ⟨a, xs, z, ha, by rw [upd_ne (qs ne e rfl z)]; exact hfa, w1, w2, r'.mono hsm⟩
        | oi kk ks es => obtain ⟨dx, xs, z, ha, hfa, w1, w2, w3, r'⟩ := k; exact ⟨dx, xs, z, ha, by rw [upd_ne (qs ne e rfl z)]; exact hfa, w1, w2, w3, r'.mono hsm⟩
    · rcases set_get ea with ⟨rfl, rfl, _⟩ | ⟨n1, ea⟩
      · cases o1
      · rcases set_get eb with ⟨rfl, rfl, _⟩ | ⟨n2, eb⟩
        · cases o2
        · exact S.env.ne j k t t' h ea eb o1 o2
theorem dFrz (i : Nat) {ss : List Stmt} {ms : MS} (h : DB X c ss ms) : DB X c ss (mFrz i ms) := h.imp fun Dn σ H ⟨F, u, ρ, S, h⟩ => by
  obtain ⟨F', sm, S'⟩ := S.frz i
  exact ⟨F', u, _, S', flowO.mono sm h⟩
theorem dFrzS (i : Nat) {st : Stmt} {ms : MS} (h : DS X c st ms) : DS X c st (mFrz i ms) := h.imp fun Dn σ H ⟨F, u, ρ, S, h⟩ => by
  obtain ⟨F', sm, S'⟩ := S.frz i
  exact ⟨F', u, _, S', flowO.mono sm h⟩
end

/-! ### a def's promise -/
def startE (n : Nat) (ds : List D) : Env := ds.map Sd.sh ++ List.replicate (n - ds.length) Sd.un
def mFn (n : Nat) (mb : MS) : List D → M D := fun ds u => match mb (startE n ds) u with
  | some (.rt d, u') => some (d, u')
  | some (.nx _, u') => some (.non, u')
  | _ => none
theorem env_start {c : Cf} {F H : Hp} {N : List Str} {vs : List V} {ds : List D} (r : Reps c.W c.p F vs ds) : EnvOk c F H (L2.start N vs) (startE N.length ds) := by
  have hl := r.1
  have nown : ∀ {i : Nat} {s : Sd}, (startE N.length ds)[i]? = some s → s.own = false := fun {i s} e => by
    unfold startE at e
    by_cases hi : i < (ds.map Sd.sh).length
    · rw [List.getElem?_append_left hi, List.getElem?_map] at e
      cases q : ds[i]? with
      | none => rw [q] at e; cases e
      | some d => rw [q] at e; cases e; rfl
    · rw [List.getElem?_append_right (by omega), List.getElem?_replicate] at e
      split at e
      · cases e; rfl
      · cases e
  refine ⟨?_, fun i s e => ?_, fun i j s t _ e1 _ o1 _ => by rw [nown e1] at o1; cases o1⟩
  · unfold L2.start startE
    simp [hl]
  · unfold startE at e
    by_cases hi : i < (ds.map Sd.sh).length
    · rw [List.getElem?_append_left hi, List.getElem?_map] at e
      cases q : ds[i]? with
      | none => rw [q] at e; cases e
      | some d =>
        rw [q] at e
        cases e
        obtain ⟨v, ev, rv⟩ := r.get q
        refine ⟨v, ?_, rv⟩
        unfold L2.start
        rw [List.getElem?_append_left (by simpa [hl] using hi), List.getElem?_map, ev]
        rfl
    · rw [List.getElem?_append_right (by omega), List.getElem?_replicate] at e
      split at e
      · cases e; trivial
      · cases e
section
variable {P : Program} {w : World} {K : PySem.W.Frag} {mg : Str → Option Value} {base : Heap} {x qual : Str} {params : Arguments} {body : List Stmt} {scope : Scope} {dvs : List V} {kws : List (Str × V)} {f : Addr} {fd : FuncData} {W : Wo} {N ps : List Str} {k : Nat} {mb : MS}
/-- a def by its body's mirror -/
theorem fn_mir (F : FunD K x qual params body scope dvs kws f fd) (S : FnScope N ps scope)
    (hb : ∀ (cdv : Value) (A : Around) (outer : List PySem.Env) (s : Shared) (H : Hp) (E : XK) (p : Addr) (F0 : Hp), Room k (A.deeper (envOfC qual scope s.heap.objs.size f cdv)) → DB (cxOf CX0 P w K mg base N qual scope f cdv A outer s H E).nox ⟨W, p, F0, H, 0, noX⟩ body mb) :
    FnOk P w K mg base CX0 (k + 1) f fd ps (spM W ps.length (mFn N.length mb)) := by
  refine F.ok S (fun vs H Q E h => h.1) (fun cdv A outer s H vs Q E hr h => ?_)
  obtain ⟨hl, p, F0, u, ds, g, r, h⟩ := h
  refine ⟨_, PSs.nox (hb cdv A outer s H E p F0 hr), F0, u, startE N.length ds, ⟨Stp.refl, g, env_start r⟩, ?_⟩
  unfold mFn at h
  cases e : mb (startE N.length ds) u with
  | none => rw [e] at h; exact h
  | some y =>
    obtain ⟨fl, u1⟩ := y
    rw [e] at h
    cases fl with
    | rt d =>
      intro v F' H' s' g' rv
      have h2 : After p F0 H (some (d, u1)) (fun d _ F' H' => ∀ v, Rep W p F' v d → Q v H') := h
      exact h2 F' H' s' g' v rv
    | rl ds' => exact False.elim h
    | nx ρ' =>
      intro σ' F' H' _ S'
      have h2 : After p F0 H (some (D.non, u1)) (fun d _ F' H' => ∀ v, Rep W p F' v d → Q v H') := h
      exact h2 F' H' S'.ent S'.gd .non .non
    | bk ρ' => exact False.elim h
    | ct ρ' => exact False.elim h
    | ex ρ' k' ks' ds' => exact False.elim h
end

/-! ### calls -/
def mCall (n : Nat) (mf : List D → M D) (ms : MA) : ME := fun ρ => M.bind (ms ρ) fun ds => if ds.length = n then mf ds else lft none
section
variable {X : Cx} {c : Cf} {CX : CXT} {k n : Nat} {f : Addr} {fd : FuncData} {ps : List Str} {x m : Str} {p pos apos : Pos} {e o : Expr} {es : List Expr} {ms : MA} {mo : ME} {mf : List D → M D}
theorem call_ok {p : Addr} {F H : Hp} {u : PuS} {vs : List V} {ds : List D} {W : Wo} {Q : VK} {E : XK} (g : Gd p u F H) (r : Reps W p F vs ds) (h : After p F H ((if ds.length = n then mf ds else lft none) u) fun d _ F' H' => ∀ v, Rep W p F' v d → Q v H') : spM W n mf vs H Q E := by
  by_cases hl : ds.length = n
  · rw [if_pos hl] at h
    exact ⟨r.1.trans hl, p, F, u, ds, g, r, h⟩
  · rw [if_neg hl] at h; exact False.elim h
theorem dCall (G : FnOk X.prog X.w X.K X.mg X.base CX0 k f fd ps (spM c.W n mf)) (hr : Room k X.A) (hg : Gl X x) (hm : X.mg x = some (.ref f)) (hk : PySem.W.keepIn X.K (.ref f) = true) (hb : Binds X.K fd ps [])
    (ha : DA X c (e :: es) ms) (hdb : (x == ("__debug__" : Str)) = false := by decide) (he : starEach (e :: es) X.env = (false, eval e X.env) :: starEach es X.env := by rfl) (hpl : (backTo pos (starEach es X.env)).any (·.1) = false := by rfl) :
    DE X c (.Call (.Name x p) (e :: es) [] pos) (mCall n mf ms) :=
  (pe_call G hr hg hm hk hb .nil pass0 ha hdb he hpl).imp fun σ H Q ⟨F, u, ρ, S, h⟩ => ⟨F, u, ρ, S, (After.split h).imp fun ds u1 F1 H1 _ s1 g1 h1 vs rvs => by
    show spM c.W n mf (vs ++ []) H1 Q E0
    rw [List.append_nil]
    exact call_ok g1 rvs h1⟩
theorem dCall0 (G : FnOk X.prog X.w X.K X.mg X.base CX0 k f fd ps (spM c.W 0 mf)) (hr : Room k X.A) (hg : Gl X x) (hm : X.mg x = some (.ref f)) (hk : PySem.W.keepIn X.K (.ref f) = true) (hb : Binds X.K fd ps [])
    (hdb : (x == ("__debug__" : Str)) = false := by decide) : DE X c (.Call (.Name x p) [] [] pos) (mCall 0 mf mNil) :=
  (pe_call0 G hr hg hm hk hb .nil pass0 hdb).imp fun σ H Q ⟨F, u, ρ, S, h⟩ => by
    show spM c.W 0 mf ([] ++ []) H Q E0
    exact call_ok (ds := []) S.gd Reps.nil h

/-! ### fields, properties, methods -/
def isC (k : Str) (ks : List Str) : D → Bool
  | .obj c ks' _ => decide (c = k) && decide (ks' = ks)
  | _ => false
/-- the field number i of an object of the class k with the fields ks -/
def fldD (k : Str) (ks : List Str) (i : Nat) : D → Option D := fun d => match d with
  | .obj c ks' ds => if c = k ∧ ks' = ks then ds[i]? else none
  | _ => none
theorem zip_lookup {ks : List Str} {vs : List V} {i : Nat} {f : Str} {v : V} (nd : ks.Nodup) (hk : ks[i]? = some f) (hv : vs[i]? = some v) : (ks.zip vs).lookup f = some v := by
  induction ks generalizing vs i with
  | nil => cases hk
  | cons a ks ih =>
    cases vs with
    | nil => cases hv
    | cons b vs =>
      cases i with
      | zero =>
        simp at hk hv
        subst hk hv
        simp [List.lookup]
      | succ i =>
        simp at hk hv
        have hne : (f == a) = false := by
          rw [beq_eq_false_iff_ne]
          rintro rfl
          exact (List.nodup_cons.mp nd).1 (List.mem_of_getElem? hk)
        show (match f == a with | true => some b | false => (ks.zip vs).lookup f) = some v
        rw [hne]
        exact ih (List.nodup_cons.mp nd).2 hk hv
theorem zip_none {ks : List Str} {vs : List V} {f : Str} (h : f ∉ ks) : (ks.zip vs).lookup f = none := by
  induction ks generalizing vs with
  | nil => rfl
  | cons a ks ih =>
    cases vs with
    | nil => rfl
    | cons b vs =>
      have hne : (f == a) = false := by
        rw [beq_eq_false_iff_ne]
        rintro rfl
        exact h (List.mem_cons_self ..)
      show (match f == a with | true => some b | false => (ks.zip vs).lookup f) = none
      rw [hne]
      exact ih fun z => h (List.mem_cons_of_mem _ z)
theorem dFld {ck f : Str} {ks : List Str} (i : Nat) (hi : ks[i]? = some f) (nd : ks.Nodup) (hc : Cls X.K (c.W.cl ck)) (hn : NoAttr X.K (c.W.cl ck) f) (he : DE X c e mo) (hb : attributeBase e f X.env (eval e X.env) = eval e X.env := by rfl) : DE X c (.Attribute e f pos) (mUn (fldD ck ks i) mo) :=
  (pe_fld he hb).imp fun σ H Q ⟨F, u, ρ, S, h⟩ => ⟨F, u, ρ, S, (After.split h).imp fun d u1 F1 H1 _ s1 g1 h1 v rv => by
    obtain ⟨y, e1, h2⟩ := lft_some h1
    unfold fldD at e1
    split at e1
    · rename_i c' ks' ds _h
      split at e1
      · rename_i hh
        obtain ⟨rfl, rfl⟩ := hh
        obtain ⟨a, dx, vs, rfl, ha, lk, r⟩ := rv.obj_
        obtain ⟨w, ew, rw⟩ := r.get e1
        exact ⟨a, _, dx, _, w, rfl, g1.ex _ _ ha, hc, hn, zip_lookup nd hi ew, After.now g1 h2 w rw⟩
      · cases e1
    · cases e1⟩
def mSelf (k : Str) (mf : List D → M D) (mo : ME) : ME := fun ρ => M.bind (mo ρ) fun d => match d with
  | .obj c ks ds => if c = k then mf [.obj c ks ds] else lft none
  | _ => lft none
theorem dProp {ck f : Str} {pr g : Addr} (he : DE X c e mo) (hc : Cls X.K (c.W.cl ck)) (hp : PropOf X.K (c.W.cl ck) f pr g) (G : FnOk X.prog X.w X.K X.mg X.base CX0 k g fd ps (spM c.W 1 mf)) (hr : Room (k + 1) X.A) (hb : Binds X.K fd ps [])
    (hab : attributeBase e f X.env (eval e X.env) = eval e X.env := by rfl) : DE X c (.Attribute e f pos) (mSelf ck mf mo) :=
  (pe_prop he hc hp G hr hb .nil pass0 hab).imp fun σ H Q ⟨F, u, ρ, S, h⟩ => ⟨F, u, ρ, S, (After.split h).imp fun d u1 F1 H1 _ s1 g1 h1 v rv => by
    split at h1
    · rename_i c' ks' ds _h
      split at h1
      · rename_i hh
        subst hh
        obtain ⟨a, dx, vs, rfl, ha, lk, r⟩ := id rv.obj_
        exact ⟨a, dx, _, rfl, g1.ex _ _ ha, rfl, c.p, F1, u1, [_], g1, Reps.cons rv Reps.nil, h1⟩
      · exact False.elim h1
    · exact False.elim h1⟩
/-- o.m(e, ..) -/
def mMeth (k m : Str) (n : Nat) (mf : List D → M D) (mo : ME) (ms : MA) : ME := fun ρ => M.bind (mo ρ) fun d => match d with
  | .obj c ks ds => if c = k ∧ m ∉ ks then M.bind (ms ρ) fun es => if es.length = n then mf (.obj c ks ds :: es) else lft none else lft none
  | _ => lft none
theorem dMeth {ck : Str} {pl : Sem Bool} (he : DE X c o mo) (hc : Cls X.K (c.W.cl ck)) (hm : Meth X.K (c.W.cl ck) m f) (G : FnOk X.prog X.w X.K X.mg X.base CX0 k f fd ps (spM c.W (n + 1) mf)) (hr : Room k X.A) (hb : Binds X.K fd ps []) (ha : DA X c (e :: es) ms)
    (hst : starEach (e :: es) X.env = (false, eval e X.env) :: starEach es X.env := by rfl) (hpl : (backTo pos (starEach es X.env)).any (·.1) = false := by rfl)
    (ht : eval (.Call (.Attribute o m apos) (e :: es) [] pos) X.env = (do
      let ov ← eval o X.env
      standAt apos.atName
      let (f, first) ← holding [ov] (getMethod ov m pl)
      callWith pos f first (backTo pos (starEach (e :: es) X.env)) (backToKw pos (keywordEach [] X.env))) := by rfl) :
    DE X c (.Call (.Attribute o m apos) (e :: es) [] pos) (mMeth ck m n mf mo ms) :=
  (pe_meth he hc hm G hr hb .nil pass0 ha hst hpl ht).imp fun σ H Q ⟨F, u, ρ, S, h⟩ => ⟨F, u, ρ, S, (After.split h).imp fun d u1 F1 H1 _ s1 g1 h1 v rv => by
    split at h1
    · rename_i c' ks' ds _h
      split at h1
      · rename_i hh
        obtain ⟨hh, hnm⟩ := hh
        subst hh
        obtain ⟨a, dx, vs, rfl, ha, lk, r⟩ := id rv.obj_
        refine ⟨a, dx, _, rfl, g1.ex _ _ ha, zip_none hnm, F1, u1, ρ, S.step s1 g1, (After.split h1).imp fun xs u2 F2 H2 _ s2 g2 h2 ws rws => ?_⟩
        split at h2
        · rename_i hl
          show spM c.W (n + 1) mf (.ref a :: (ws ++ [])) H2 Q E0
          rw [List.append_nil]
          exact ⟨by simp [rws.1, hl], c.p, F2, u2, _ :: xs, g2, Reps.cons (rv.mono s2.ef) rws, h2⟩
        · exact False.elim h2
      · exact False.elim h1
    · exact False.elim h1⟩
theorem dMeth0 {ck : Str} {pl : Sem Bool} (he : DE X c o mo) (hc : Cls X.K (c.W.cl ck)) (hm : Meth X.K (c.W.cl ck) m f) (G : FnOk X.prog X.w X.K X.mg X.base CX0 k f fd ps (spM c.W 1 mf)) (hr : Room k X.A) (hb : Binds X.K fd ps [])
    (ht : eval (.Call (.Attribute o m apos) [] [] pos) X.env = (do
      let ov ← eval o X.env
      standAt apos.atName
      let (f, first) ← holding [ov] (getMethod ov m pl)
      callWith pos f first (backTo pos (starEach [] X.env)) (backToKw pos (keywordEach [] X.env))) := by rfl) :
    DE X c (.Call (.Attribute o m apos) [] [] pos) (mMeth ck m 0 mf mo mNil) :=
  (pe_meth0 he hc hm G hr hb .nil pass0 ht).imp fun σ H Q ⟨F, u, ρ, S, h⟩ => ⟨F, u, ρ, S, (After.split h).imp fun d u1 F1 H1 _ s1 g1 h1 v rv => by
    split at h1
    · rename_i c' ks' ds _h
      split at h1
      · rename_i hh
        obtain ⟨hh, hnm⟩ := hh
        subst hh
        obtain ⟨a, dx, vs, rfl, ha, lk, r⟩ := id rv.obj_
        exact ⟨a, dx, _, rfl, g1.ex _ _ ha, zip_none hnm, rfl, c.p, F1, u1, [_], g1, Reps.cons rv Reps.nil, h1⟩
      · exact False.elim h1
    · exact False.elim h1⟩
end
end Mi

set_option Elab.async false
set_option linter.all false
set_option maxRecDepth 100000
set_option maxHeartbeats 2000000
/-! Mi5: mirrors of operators and built-ins. -/
namespace Mi
open PySem PySem.Spec PyProof.Rows L2
variable [TB : Tabl]

section
variable {W : Wo} {p : Addr} {F H : Hp} {u : PuS}
theorem OpM.ret {Q : VK} {d : D} {o : Option D} {v : V} (g : Gd p u F H) (h : After p F H (lft o u) fun d _ F' H' => ∀ v, Rep W p F' v d → Q v H') (e : o = some d) (r : Rep W p F v d) : Q v H := by
  subst e
  exact After.now g h v r
theorem OpM.new {Q : VK} {d : D} {o : Option D} {q : Addr} {ob : HO} (g : Gd p u F H) (h : After p F H (lft o u) fun d _ F' H' => ∀ v, Rep W p F' v d → Q v H') (e : o = some d) (hq : H q = none) (r : Same F (upd F q ob) → Rep W p (upd F q ob) (.ref q) d) (no : ∀ ps, ob ≠ .tbl ps := by intro _ z; cases z) : Q (.ref q) (upd H q ob) := by
  subst e
  exact h _ _ (Stp.new g hq) (g.new hq no) _ (r (Stp.new g hq).ef)
end

/-! ### ints -/
def int2 (f : Int → Int → Option D) : D → D → Option D
  | .int a, .int b => f a b
  | _, _ => none
theorem int2_some {f : Int → Int → Option D} {a b d : D} (h : int2 f a b = some d) : ∃ i j, a = .int i ∧ b = .int j ∧ f i j = some d := by
  unfold int2 at h
  split at h
  · exact ⟨_, _, rfl, rfl, h⟩
  · cases h
/-- an operator on ints with a condition C, mirrored by the decidable condition c -/
theorem opm_I {W : Wo} {C : Int → Int → Prop} {g : Int → Int → V} {c : Int → Int → Bool} {f : Int → Int → D} (hc : ∀ i j, c i j = true → C i j) (hg : ∀ p F i j, Rep W p F (g i j) (f i j)) : OpM W (rI C g) (int2 fun i j => if c i j = true then some (f i j) else none) := by
  intro p F H u x y a b Q gd rx ry h
  obtain ⟨d, e, _⟩ := lft_some h
  obtain ⟨i, j, rfl, rfl, e2⟩ := int2_some e
  split at e2
  · rename_i hcc
    cases e2
    exact ⟨i, j, rx.int_, ry.int_, hc i j hcc, OpM.ret gd h e (hg p F i j)⟩
  · cases e2
theorem opm_I0 {W : Wo} {g : Int → Int → V} {f : Int → Int → D} (hg : ∀ p F i j, Rep W p F (g i j) (f i j)) : OpM W (rI0 g) (int2 fun i j => some (f i j)) := by
  intro p F H u x y a b Q gd rx ry h
  obtain ⟨d, e, _⟩ := lft_some h
  obtain ⟨i, j, rfl, rfl, e2⟩ := int2_some e
  cases e2
  exact ⟨i, j, rx.int_, ry.int_, OpM.ret gd h e (hg p F i j)⟩
def subD : D → D → Option D := int2 fun i j => some (.int (i - j))
def ltD : D → D → Option D := int2 fun i j => some (.bl (decide (i < j)))
def leD : D → D → Option D := int2 fun i j => some (.bl (decide (i ≤ j)))
def gtD : D → D → Option D := int2 fun i j => some (.bl (decide (j < i)))
def geD : D → D → Option D := int2 fun i j => some (.bl (decide (j ≤ i)))
def fdivC (_ j : Int) : Bool := decide (0 < j ∧ j.natAbs.log2 < 9000)
def fdivD : D → D → Option D := int2 fun i j => if fdivC i j = true then some (.int (i / j)) else none
def modD : D → D → Option D := int2 fun i j => if decide (0 < j) = true then some (.int (i % j)) else none
def powC (i j : Int) : Bool := decide (0 ≤ j ∧ j ≤ 1000000 ∧ i.natAbs < 18446744073709551616)
def powD : D → D → Option D := int2 fun i j => if powC i j = true then some (.int (i ^ j.toNat)) else none
def CMulA (i j : Int) : Prop := CMul i j ∨ CMulW i j
def mulC (i j : Int) : Bool := decide ((-(2 ^ 64) < i ∧ i < 2 ^ 64) ∨ (-(2 ^ 64) < j ∧ j < 2 ^ 64)) || decide (i.natAbs.log2 + j.natAbs.log2 < 1000000)
theorem mulC_ok {i j : Int} (h : mulC i j = true) : CMulA i j := by
  unfold mulC at h
  rcases Bool.or_eq_true_iff.mp h with h | h
  · exact .inl (of_decide_eq_true (p := (-(2 ^ 64) < i ∧ i < 2 ^ 64) ∨ (-(2 ^ 64) < j ∧ j < 2 ^ 64)) h)
  · exact .inr (of_decide_eq_true (p := i.natAbs.log2 + j.natAbs.log2 < 1000000) h)
theorem CMulA.ok {i j : Int} (h : CMulA i j) : IntMulOk i j := h.elim CMul.ok CMulW.ok
theorem op_mulB {X : Cx} : OpR X (binaryOp .Mult) (rI CMulA fun i j => .int (i * j)) := opI fun _ _ _ _ _ _ _ hc q => mul_int q hc.ok
def mulID : D → D → Option D := int2 fun i j => if mulC i j = true then some (.int (i * j)) else none
theorem m_sub {W : Wo} : OpM W (rI0 fun i j => .int (i - j)) subD := opm_I0 fun _ _ _ _ => .int _
theorem m_lt {W : Wo} : OpM W (rI0 fun i j => .bl (decide (i < j))) ltD := opm_I0 fun _ _ _ _ => .bl _
theorem m_le {W : Wo} : OpM W (rI0 fun i j => .bl (decide (i ≤ j))) leD := opm_I0 fun _ _ _ _ => .bl _
theorem m_gt {W : Wo} : OpM W (rI0 fun i j => .bl (decide (j < i))) gtD := opm_I0 fun _ _ _ _ => .bl _
theorem m_ge {W : Wo} : OpM W (rI0 fun i j => .bl (decide (j ≤ i))) geD := opm_I0 fun _ _ _ _ => .bl _
theorem m_fdiv {W : Wo} : OpM W (rI CDivW fun i j => .int (i / j)) fdivD := opm_I (fun i j h => of_decide_eq_true (p := 0 < j ∧ j.natAbs.log2 < 9000) h) fun _ _ _ _ => .int _
theorem m_mod {W : Wo} : OpM W (rI (fun _ j => 0 < j) fun i j => .int (i % j)) modD := opm_I (fun i j h => of_decide_eq_true h) fun _ _ _ _ => .int _
theorem m_pow {W : Wo} : OpM W (rI CPow fun i j => .int (i ^ j.toNat)) powD := opm_I (fun i j h => by
  have := of_decide_eq_true h
  exact ⟨this.1, this.2.1, by have e : (2 : Nat) ^ 64 = 18446744073709551616 := by decide
                              rw [e]; exact this.2.2⟩) fun _ _ _ _ => .int _
theorem m_mulI {W : Wo} : OpM W (rI CMulA fun i j => .int (i * j)) mulID := opm_I (fun i j h => mulC_ok h) fun _ _ _ _ => .int _
def negD : D → Option D
  | .int i => some (.int (-i))
  | _ => none
theorem m_neg {W : Wo} : UnM W (rU fun i => .int (-i)) negD := by
  intro p F H u x a Q gd rx h
  obtain ⟨d, e, _⟩ := lft_some h
  cases a with
  | int i => cases e; exact ⟨i, rx.int_, OpM.ret gd h rfl (.int _)⟩
  | _ => cases e

/-! ### + and * -/
def addD : D → D → Option D
  | .int a, .int b => some (.int (a + b))
  | .str a, .str b => if a.length + b.length ≤ 10000000 then some (.str (a ++ b)) else none
  | .lst a, .lst b => if a.length + b.length ≤ 100000 then some (.lst (a ++ b)) else none
  | .tup a, .tup b => if a.length + b.length ≤ 100000 then some (.tup (a ++ b)) else none
  | _, _ => none
def rAddA (K : PySem.W.Frag) : R2 := fun x y H Q => rI0 (fun i j => .int (i + j)) x y H Q ∨ (∃ i j, x = .str i ∧ y = .str j ∧ i.length + j.length ≤ sizeLine ∧ Q (.str (i ++ j)) H) ∨ rCat x y H Q ∨ rCatA K x y H Q
theorem op_addA {X : Cx} : OpR X (binaryOp .Add) (rAddA X.K) := op_add.or (op_add_str.or (op_cat.or op_catA))
theorem m_add {W : Wo} : OpM W (rAddA W.K) addD := by
  intro p F H u x y a b Q gd rx ry h
  obtain ⟨d, e, _⟩ := lft_some h
  unfold addD at e
  split at e
  · cases e
    exact .inl ⟨_, _, rx.int_, ry.int_, OpM.ret gd h rfl (.int _)⟩
  · rename_i i j
    split at e
    · rename_i hl
      cases e
      exact .inr (.inl ⟨i, j, rx.str_, ry.str_, Nat.le_trans hl (by decide), OpM.ret gd h (if_pos hl) (.str _)⟩)
    · cases e
  · rename_i xs ys
    split at e
    · rename_i hl
      cases e
      obtain ⟨a, vs, rfl, ha, ra⟩ := rx.lst_
      obtain ⟨b, ws, rfl, hb, rb⟩ := ry.lst_
      exact .inr (.inr (.inl ⟨a, b, vs, ws, rfl, rfl, gd.ex _ _ ha, gd.ex _ _ hb, sz5 (by rw [ra.1, rb.1]; exact hl), fun q hq => OpM.new gd h (if_pos hl) hq fun sm => Rep.mkL upd_same ((ra.mono sm).append (rb.mono sm))⟩))
    · cases e
  · rename_i xs ys
    split at e
    · rename_i hl
      cases e
      obtain ⟨a, vs, rfl, ha, ra⟩ := id rx.tup_
      obtain ⟨b, ws, rfl, hb, rb⟩ := id ry.tup_
      refine .inr (.inr (.inr ⟨a, b, vs, ws, rfl, rfl, sq_t gd.ex ha, sq_t gd.ex hb, sz5 (by rw [ra.1, rb.1]; exact hl), fun z => ?_, fun z z2 => ?_, fun z z2 q hq => OpM.new gd h (if_pos hl) hq fun sm => Rep.mkT upd_same ((ra.mono sm).append (rb.mono sm))⟩))
      · have e0 : xs = [] := List.eq_nil_of_length_eq_zero (by rw [← ra.1, z]; rfl)
        exact OpM.ret gd h (if_pos hl) (by rw [e0]; exact ry)
      · have e0 : ys = [] := List.eq_nil_of_length_eq_zero (by rw [← rb.1, z2]; rfl)
        exact OpM.ret gd h (if_pos hl) (by rw [e0, List.append_nil]; exact rx)
    · cases e
  · cases e
theorem Reps.rep {W : Wo} {p : Addr} {F : Hp} {vs : List V} {ds : List D} (r : Reps W p F vs ds) : ∀ n : Nat, Reps W p F (List.replicate n vs).flatten (List.replicate n ds).flatten
  | 0 => Reps.nil
  | n + 1 => by
    rw [List.replicate_succ, List.replicate_succ, List.flatten_cons, List.flatten_cons]
    exact r.append (Reps.rep r n)
def mulD : D → D → Option D
  | .int a, .int b => if mulC a b = true then some (.int (a * b)) else none
  | .lst a, .int k => if k ≤ 100000 ∧ -100000 ≤ k ∧ a.length * k.toNat ≤ 100000 then some (.lst (List.replicate k.toNat a).flatten) else none
  | _, _ => none
def rMulA : R2 := fun x y H Q => rI CMulA (fun i j => .int (i * j)) x y H Q ∨ rRep x y H Q
theorem op_mulA {X : Cx} : OpR X (binaryOp .Mult) rMulA := op_mulB.or op_rep
theorem m_mul {W : Wo} : OpM W rMulA mulD := by
  intro p F H u x y a b Q gd rx ry h
  obtain ⟨d, e, _⟩ := lft_some h
  unfold mulD at e
  split at e
  · split at e
    · rename_i hc
      cases e
      exact .inl ⟨_, _, rx.int_, ry.int_, mulC_ok hc, OpM.ret gd h (if_pos hc) (.int _)⟩
    · cases e
  · rename_i xs k
    split at e
    · rename_i hl
      cases e
      obtain ⟨a, vs, rfl, ha, ra⟩ := rx.lst_
      refine .inr ⟨a, k, vs, rfl, ry.int_, gd.ex _ _ ha, by omega, by omega, sz5 (by rw [ra.1]; exact hl.2.2), fun q hq => OpM.new gd h (if_pos hl) hq fun sm => Rep.mkL upd_same ((ra.mono sm).rep _)⟩
    · cases e
  · cases e

/-! ### == and != of plain data -/
mutual
def toPD : D → Option PyData
  | .non => some .none
  | .bl b => some (.bool b)
  | .int i => some (.int i)
  | .str x => some (.str x)
  | .tup ds => (toPDs ds).map .tuple
  | .lst ds => (toPDs ds).map .list
  | _ => none
def toPDs : List D → Option (List PyData)
  | [] => some []
  | d :: ds => match toPD d, toPDs ds with
    | some a, some as => some (a :: as)
    | _, _ => none
end
mutual
theorem dp_of {W : Wo} {p : Addr} {F H : Hp} (sm : Same F H) : ∀ (d : D) (v : V) (a : PyData), Rep W p F v d → toPD d = some a → Dp W.K H v a
  | .non, v, a, r, e => by cases e; cases r; exact .non
  | .bl b, v, a, r, e => by cases e; cases r; exact .bl b
  | .int i, v, a, r, e => by cases e; cases r; exact .int i
  | .str x, v, a, r, e => by cases e; cases r; exact .str x
  | .tup ds, v, a, r, e => by
    obtain ⟨q, vs, rfl, h, rs⟩ := r.tup_
    unfold toPD at e
    cases e1 : toPDs ds with
    | none => rw [e1] at e; cases e
    | some as => rw [e1] at e; cases e; exact .tup (sq_t sm h) (dps_of sm ds vs as rs e1)
  | .lst ds, v, a, r, e => by
    obtain ⟨q, vs, rfl, h, rs⟩ := r.lst_
    unfold toPD at e
    cases e1 : toPDs ds with
    | none => rw [e1] at e; cases e
    | some as => rw [e1] at e; cases e; exact .lst (SqL.of (sm _ _ h)) (dps_of sm ds vs as rs e1)
  | .obj _ _ _, v, a, r, e => by cases e
  | .pur, v, a, r, e => by cases e
  | .ty _, v, a, r, e => by cases e
  | .cls _, v, a, r, e => by cases e
theorem dps_of {W : Wo} {p : Addr} {F H : Hp} (sm : Same F H) : ∀ (ds : List D) (vs : List V) (as : List PyData), Reps W p F vs ds → toPDs ds = some as → DpAll W.K H vs as
  | [], vs, as, r, e => by cases e; rw [r.none]; exact .nil
  | d :: ds, vs, as, r, e => by
    obtain ⟨v, vr, rfl, r1, r2⟩ := r.uncons
    unfold toPDs at e
    cases e1 : toPD d with
    | none => rw [e1] at e; cases e
    | some a =>
      cases e2 : toPDs ds with
      | none => rw [e1, e2] at e; cases e
      | some as' =>
        rw [e1, e2] at e
        cases e
        exact .cons (dp_of sm d v a r1 e1) (dps_of sm ds vr as' r2 e2)
end
def eqD : D → D → Option Bool := fun x y => match toPD x, toPD y with
  | some a, some b => if SeqAt.shaped a = true ∧ SeqAt.shaped b = true then some (PyData.eqv a b) else none
  | _, _ => none
def eqMD : D → D → Option D := fun x y => (eqD x y).map .bl
def neMD : D → D → Option D := fun x y => (eqD x y).map fun b => .bl (!b)
theorem eqD_some {W : Wo} {p : Addr} {F H : Hp} {x y : V} {a b : D} {r : Bool} (sm : Same F H) (rx : Rep W p F x a) (ry : Rep W p F y b) (e : eqD a b = some r) : ∃ d d', Dp W.K H x d ∧ Dp W.K H y d' ∧ SeqAt.shaped d = true ∧ SeqAt.shaped d' = true ∧ PyData.eqv d d' = r := by
  unfold eqD at e
  split at e
  · rename_i d d' e1 e2
    split at e
    · rename_i hs
      cases e
      exact ⟨d, d', dp_of sm a x d rx e1, dp_of sm b y d' ry e2, hs.1, hs.2, rfl⟩
    · cases e
  · cases e
theorem m_eq {W : Wo} : OpM W (rEqD W.K) eqMD := by
  intro p F H u x y a b Q gd rx ry h
  obtain ⟨d, e, _⟩ := lft_some h
  unfold eqMD at e
  cases e1 : eqD a b with
  | none => rw [e1] at e; cases e
  | some r =>
    obtain ⟨d1, d2, h1, h2, h3, h4, h5⟩ := eqD_some gd.ex rx ry e1
    refine ⟨d1, d2, h1, h2, h3, h4, ?_⟩
    rw [h5]
    exact OpM.ret gd h (by unfold eqMD; rw [e1]; rfl) (.bl r)
theorem m_ne {W : Wo} : OpM W (rNeD W.K) neMD := by
  intro p F H u x y a b Q gd rx ry h
  obtain ⟨d, e, _⟩ := lft_some h
  unfold neMD at e
  cases e1 : eqD a b with
  | none => rw [e1] at e; cases e
  | some r =>
    obtain ⟨d1, d2, h1, h2, h3, h4, h5⟩ := eqD_some gd.ex rx ry e1
    refine ⟨d1, d2, h1, h2, h3, h4, ?_⟩
    rw [h5]
    exact OpM.ret gd h (by unfold neMD; rw [e1]; rfl) (.bl !r)

/-! ### is, items, slices -/
def isNonD : D → Bool
  | .non => true
  | _ => false
def isD : D → D → Option D := fun x y => match y with
  | .non => some (.bl (isNonD x))
  | .bl b => match x with
    | .bl a => some (.bl (decide (a = b)))
    | _ => none
  | _ => none
def isntD : D → D → Option D := fun x y => match y with
  | .non => some (.bl (!isNonD x))
  | .bl b => match x with
    | .bl a => some (.bl (!decide (a = b)))
    | _ => none
  | _ => none
theorem Rep.isNon {W : Wo} {p : Addr} {F : Hp} {v : V} {d : D} (r : Rep W p F v d) : decide (v = .non) = isNonD d := by
  cases r <;> rfl
def rIsA : R2 := fun x y H Q => (y = .non ∧ Q (.bl (decide (x = .non))) H) ∨ rIsB x y H Q
def rIsntA : R2 := fun x y H Q => (y = .non ∧ Q (.bl (!decide (x = .non))) H) ∨ rNotB x y H Q
theorem op_isA {X : Cx} : OpR X (compareOp .Is) rIsA := op_isN.or op_isBl
theorem op_isntA {X : Cx} : OpR X (compareOp .IsNot) rIsntA := op_notN.or op_notBl
theorem m_is {W : Wo} : OpM W rIsA isD := by
  intro p F H u x y a b Q gd rx ry h
  obtain ⟨d, e, _⟩ := lft_some h
  unfold isD at e
  split at e
  · cases e
    exact .inl ⟨ry.non_, by rw [rx.isNon]; exact OpM.ret gd h rfl (.bl _)⟩
  · split at e
    · rename_i k l
      cases e
      exact .inr ⟨_, _, rx.bl_, ry.bl_, OpM.ret gd h rfl (.bl _)⟩
    · cases e
  · cases e
theorem m_isnt {W : Wo} : OpM W rIsntA isntD := by
  intro p F H u x y a b Q gd rx ry h
  obtain ⟨d, e, _⟩ := lft_some h
  unfold isntD at e
  split at e
  · cases e
    exact .inl ⟨ry.non_, by rw [rx.isNon]; exact OpM.ret gd h rfl (.bl _)⟩
  · split at e
    · rename_i k l
      cases e
      exact .inr ⟨_, _, rx.bl_, ry.bl_, OpM.ret gd h rfl (.bl _)⟩
    · cases e
  · cases e
def ixD : D → D → Option D
  | .lst ds, .int i => atI ds i
  | .tup ds, .int i => atI ds i
  | .scr ns, .int i => (atI ns i).map .int
  | .str x, .int i => if x.length ≤ 10000000 then (atI x.cps.toList i).map fun c => .str ⟨#[c]⟩ else none
  | _, _ => none
theorem atI_map {α β : Type} (f : α → β) (l : List α) (i : Int) : L2.atI (l.map f) i = (L2.atI l i).map f := by
  unfold L2.atI
  rw [List.length_map]
  cases ixN l.length i with
  | none => rfl
  | some n => show (l.map f)[n]? = (l[n]?).map f; rw [List.getElem?_map]
theorem Reps.atI {W : Wo} {p : Addr} {F : Hp} {vs : List V} {ds : List D} {i : Int} {d : D} (r : Reps W p F vs ds) (h : atI ds i = some d) : ∃ v, L2.atI vs i = some v ∧ Rep W p F v d := by
  unfold L2.atI at h ⊢
  rw [r.1]
  cases hj : ixN ds.length i with
  | none => rw [hj] at h; cases h
  | some n =>
    rw [hj] at h
    obtain ⟨v, ev, rv⟩ := r.get h
    exact ⟨v, ev, rv⟩
theorem m_ix {W : Wo} : OpM W (rIx W.K) ixD := by
  intro p F H u x y a b Q gd rx ry h
  obtain ⟨d, e, _⟩ := lft_some h
  unfold ixD at e
  split at e
  · obtain ⟨q, vs, rfl, hq, r⟩ := rx.lst_
    obtain ⟨v, ev, rv⟩ := r.atI e
    exact .inl ⟨q, vs, _, v, rfl, ry.int_, SqL.of (gd.ex _ _ hq), ev, OpM.ret gd h e rv⟩
  · obtain ⟨q, vs, rfl, hq, r⟩ := rx.tup_
    obtain ⟨v, ev, rv⟩ := r.atI e
    exact .inr (.inl ⟨q, vs, _, v, rfl, ry.int_, sq_t gd.ex hq, ev, OpM.ret gd h e rv⟩)
  · rename_i ns i
    obtain ⟨q, rfl, hq⟩ := rx.scr_
    cases e1 : L2.atI ns i with
    | none => rw [e1] at e; cases e
    | some n =>
      rw [e1] at e
      cases e
      exact .inl ⟨q, _, _, .int n, rfl, ry.int_, sq_l gd.ex hq, by rw [atI_map, e1]; rfl, OpM.ret gd h (show (L2.atI ns i).map D.int = some (.int n) by rw [e1]; rfl) (.int n)⟩
  · rename_i z i
    split at e
    · rename_i hl
      cases e1 : L2.atI z.cps.toList i with
      | none => rw [e1] at e; cases e
      | some k =>
        rw [e1] at e
        cases e
        exact .inr (.inr ⟨z, i, k, rx.str_, ry.int_, Nat.le_trans hl (by decide), e1, OpM.ret gd h (show (if z.length ≤ 10000000 then (L2.atI z.cps.toList i).map fun c => D.str ⟨#[c]⟩ else none) = some (.str ⟨#[k]⟩) by rw [if_pos hl, e1]; rfl) (.str _)⟩)
    · cases e
  · cases e
end Mi

set_option Elab.async false
set_option linter.all false
set_option maxRecDepth 100000
set_option maxHeartbeats 2000000
/-! Mi6: mirrors of built-ins, slices, in, isinstance. -/
namespace Mi
open PySem PySem.Spec PyProof.Rows L2
variable [TB : Tabl]

/-! ### flat data -/
def flatD : D → Option V
  | .non => some .non
  | .bl b => some (.bl b)
  | .int i => some (.int i)
  | .str x => some (.str x)
  | _ => none
theorem flatD_rep {W : Wo} {p : Addr} {F : Hp} {v w : V} {d : D} (r : Rep W p F v d) (h : flatD d = some w) : v = w ∧ flatV w = true := by
  cases r <;> first | (cases h; exact ⟨rfl, rfl⟩) | cases h
def flatDs : List D → Option (List V)
  | [] => some []
  | d :: ds => match flatD d, flatDs ds with
    | some a, some as => some (a :: as)
    | _, _ => none
theorem flatDs_rep {W : Wo} {p : Addr} {F : Hp} : ∀ {vs ws : List V} {ds : List D}, Reps W p F vs ds → flatDs ds = some ws → vs = ws ∧ ws.all flatV = true
  | vs, ws, [], r, h => by cases h; rw [r.none]; exact ⟨rfl, rfl⟩
  | vs, ws, d :: ds, r, h => by
    obtain ⟨v, vr, rfl, r1, r2⟩ := r.uncons
    unfold flatDs at h
    split at h
    · rename_i a as e1 e2
      cases h
      obtain ⟨h1, h2⟩ := flatD_rep r1 e1
      obtain ⟨h3, h4⟩ := flatDs_rep r2 e2
      subst h1 h3
      exact ⟨rfl, by rw [List.all_cons, h2, h4]; rfl⟩
    · cases h
def inS (x y : D) : Option Bool := match x, y with
  | .str a, .str z => match a.cps.toList with
    | [c] => some (decide (c ∈ z.cps.toList))
    | _ => none
  | _, _ => none
def inB (x y : D) : Option Bool := match flatD x with
  | some a => match y with
    | .lst ds => (flatDs ds).map fun ws => inV a ws
    | .tup ds => (flatDs ds).map fun ws => inV a ws
    | _ => none
  | none => none
def inA (x y : D) : Option Bool := match y with
  | .str _ => inS x y
  | _ => inB x y
def inD : D → D → Option D := fun x y => (inA x y).map .bl
def ninD : D → D → Option D := fun x y => (inA x y).map fun b => .bl (!b)
theorem inB_some {W : Wo} {p : Addr} {F H : Hp} {x y : V} {a b : D} {r : Bool} (sm : Same F H) (rx : Rep W p F x a) (ry : Rep W p F y b) (e : inB a b = some r) :
    ∃ q xs, y = .ref q ∧ (SqL W.K H q xs ∨ SqT W.K H q xs) ∧ flatV x = true ∧ xs.all flatV = true ∧ inV x xs = r := by
  unfold inB at e
  split at e
  · rename_i v hv
    obtain ⟨h1, h2⟩ := flatD_rep rx hv
    subst h1
    split at e
    · rename_i ds
      obtain ⟨q, vs, rfl, hq, rs⟩ := ry.lst_
      cases e1 : flatDs ds with
      | none => rw [e1] at e; cases e
      | some ws =>
        rw [e1] at e
        cases e
        obtain ⟨h3, h4⟩ := flatDs_rep rs e1
        subst h3
        exact ⟨q, vs, rfl, .inl (SqL.of (sm _ _ hq)), h2, h4, rfl⟩
    · rename_i ds
      obtain ⟨q, vs, rfl, hq, rs⟩ := ry.tup_
      cases e1 : flatDs ds with
      | none => rw [e1] at e; cases e
      | some ws =>
        rw [e1] at e
        cases e
        obtain ⟨h3, h4⟩ := flatDs_rep rs e1
        subst h3
        exact ⟨q, vs, rfl, .inr (sq_t sm hq), h2, h4, rfl⟩
    · cases e
  · cases e
theorem inS_some {W : Wo} {p : Addr} {F : Hp} {x y : V} {a b : D} {r : Bool} (rx : Rep W p F x a) (ry : Rep W p F y b) (e : inS a b = some r) :
    ∃ (c : Nat) (z : Str), x = .str ⟨#[c]⟩ ∧ y = .str z ∧ decide (c ∈ z.cps.toList) = r := by
  unfold inS at e
  split at e
  · rename_i i z
    split at e
    · rename_i c hc
      cases e
      refine ⟨c, z, ?_, ry.str_, rfl⟩
      rw [rx.str_]
      congr 1
      cases i with
      | mk cps =>
        have : cps = #[c] := by
          apply Array.toList_inj.mp
          simpa using hc
        rw [this]
    · cases e
  · cases e
def rInA (K : PySem.W.Frag) : R2 := fun x y H Q => rIn K false x y H Q ∨ ∃ (c : Nat) (z : Str), x = .str ⟨#[c]⟩ ∧ y = .str z ∧ Q (.bl (decide (c ∈ z.cps.toList))) H
def rNinA (K : PySem.W.Frag) : R2 := fun x y H Q => rIn K true x y H Q ∨ ∃ (c : Nat) (z : Str), x = .str ⟨#[c]⟩ ∧ y = .str z ∧ Q (.bl (!decide (c ∈ z.cps.toList))) H
theorem op_inA {X : Cx} : OpR X (compareOp .In) (rInA X.K) := op_in_seq.or op_in_sign
theorem op_ninA {X : Cx} : OpR X (compareOp .NotIn) (rNinA X.K) := op_notIn_seq.or op_notIn_sign
theorem inA_some {x y : D} {b : Bool} (h : inA x y = some b) : inS x y = some b ∨ inB x y = some b := by
  unfold inA at h
  split at h
  · exact .inl h
  · exact .inr h
theorem m_in {W : Wo} : OpM W (rInA W.K) inD := by
  intro p F H u x y a b Q gd rx ry h
  obtain ⟨d, e, _⟩ := lft_some h
  have e0 := e
  unfold inD at e
  cases e1 : inA a b with
  | none => rw [e1] at e; cases e
  | some r =>
    rw [e1] at e
    cases e
    rcases inA_some e1 with e1 | e1
    · obtain ⟨c, z, rfl, rfl, hr⟩ := inS_some rx ry e1
      exact .inr ⟨c, z, rfl, rfl, by rw [hr]; exact OpM.ret gd h e0 (.bl r)⟩
    · obtain ⟨q, xs, rfl, hq, h1, h2, h3⟩ := inB_some gd.ex rx ry e1
      exact .inl ⟨q, xs, rfl, hq, h1, h2, by rw [h3]; exact OpM.ret gd h e0 (.bl r)⟩
theorem m_nin {W : Wo} : OpM W (rNinA W.K) ninD := by
  intro p F H u x y a b Q gd rx ry h
  obtain ⟨d, e, _⟩ := lft_some h
  have e0 := e
  unfold ninD at e
  cases e1 : inA a b with
  | none => rw [e1] at e; cases e
  | some r =>
    rw [e1] at e
    cases e
    rcases inA_some e1 with e1 | e1
    · obtain ⟨c, z, rfl, rfl, hr⟩ := inS_some rx ry e1
      exact .inr ⟨c, z, rfl, rfl, by rw [hr]; exact OpM.ret gd h e0 (.bl (!r))⟩
    · obtain ⟨q, xs, rfl, hq, h1, h2, h3⟩ := inB_some gd.ex rx ry e1
      exact .inl ⟨q, xs, rfl, hq, h1, h2, by rw [h3]; exact OpM.ret gd h e0 (.bl (!r))⟩

/-! ### slices -/
abbrev MO := Env → M (Option Int)
def rdO (c : Cf) (m : MO) : TO := fun σ H Q => ∃ F u ρ, Sta c u F H σ ρ ∧ After c.p F H (m ρ u) fun o _ _ H' => Q o H'
def mOn : MO := fun _ => M.pure none
def mOs (m : ME) : MO := fun ρ => M.bind (m ρ) fun d => match d with
  | .int i => M.pure (some i)
  | _ => lft none
def cutD (xs : List D) (lo hi : Option Int) : List D := (xs.drop (HT.sIx xs.length 0 lo)).take (HT.sIx xs.length xs.length hi - HT.sIx xs.length 0 lo)
def slD (d : D) (lo hi : Option Int) : Option D := match d with
  | .lst ds => some (.lst (cutD ds lo hi))
  | .tup ds => some (.tup (cutD ds lo hi))
  | .scr ns => some (.lst (cutD (ns.map .int) lo hi))
  | .str x => if x.length ≤ 10000000 then some (.str (cutS x lo hi)) else none
  | _ => none
def mSl (m : ME) (ml mh : MO) : ME := fun ρ => M.bind (m ρ) fun d => M.bind (ml ρ) fun lo => M.bind (mh ρ) fun hi => lft (slD d lo hi)
theorem Reps.drop {W : Wo} {p : Addr} {F : Hp} {vs : List V} {ds : List D} (r : Reps W p F vs ds) (n : Nat) : Reps W p F (vs.drop n) (ds.drop n) :=
  ⟨by simp [r.1], fun i v d h1 h2 => r.2 (n + i) v d (by rw [List.getElem?_drop] at h1; exact h1) (by rw [List.getElem?_drop] at h2; exact h2)⟩
theorem Reps.take {W : Wo} {p : Addr} {F : Hp} {vs : List V} {ds : List D} (r : Reps W p F vs ds) (n : Nat) : Reps W p F (vs.take n) (ds.take n) := by
  refine ⟨by simp [r.1], fun i v d h1 h2 => ?_⟩
  by_cases hi : i < n
  · rw [List.getElem?_take_of_lt hi] at h1 h2
    exact r.2 i v d h1 h2
  · rw [List.getElem?_eq_none (by simp; omega)] at h1
    cases h1
theorem Reps.cut {W : Wo} {p : Addr} {F : Hp} {vs : List V} {ds : List D} (r : Reps W p F vs ds) (lo hi : Option Int) : Reps W p F (cutV vs lo hi) (cutD ds lo hi) := by
  unfold cutV cutD
  rw [r.1]
  exact (r.drop _).take _
theorem Reps.reverse {W : Wo} {p : Addr} {F : Hp} {vs : List V} {ds : List D} (r : Reps W p F vs ds) : Reps W p F vs.reverse ds.reverse := by
  refine ⟨by simp [r.1], fun i v d h1 h2 => ?_⟩
  have hi : i < vs.length := by
    have := (List.getElem?_eq_some_iff.mp h1).1
    simpa using this
  rw [List.getElem?_reverse hi] at h1
  rw [List.getElem?_reverse (by rw [← r.1]; exact hi), ← r.1] at h2
  exact r.2 _ v d h1 h2
theorem reps_ints {W : Wo} {p : Addr} {F : Hp} (ns : List Int) : Reps W p F (ns.map V.int) (ns.map D.int) := by
  induction ns with
  | nil => exact Reps.nil
  | cons n ns ih => exact Reps.cons (.int n) ih
def rSlAll (K : PySem.W.Frag) : V → Option Int → Option Int → Hp → VK → Prop := fun x lo hi H Q => rSlL K x lo hi H Q ∨ rSlA K x lo hi H Q ∨ rSlS x lo hi H Q
theorem cutD_whole {xs : List D} {lo hi : Option Int} (h : HT.sIx xs.length 0 lo = 0 ∧ HT.sIx xs.length xs.length hi = xs.length) : cutD xs lo hi = xs := by
  unfold cutD
  rw [h.1, h.2]
  simp
section
variable {X : Cx} {c : Cf} {e : Expr} {lo hi : Option Expr} {m : ME} {ml mh : MO} {pos p2 : Pos}
theorem dOn : PO X none (rdO c mOn) := by
  have h := po_none (X := X)
  exact ⟨fun pins s σ H Q I ⟨F, u, ρ, S, q⟩ => h.run pins s σ H Q I (After.now S.gd q)⟩
theorem dOs (he : DE X c e m) : PO X (some e) (rdO c (mOs m)) := by
  have h := po_some he
  refine ⟨fun pins s σ H Q I ⟨F, u, ρ, S, q⟩ => h.run pins s σ H Q I ⟨F, u, ρ, S, (After.split q).imp fun d u1 F1 H1 _ s1 g1 h1 v rv => ?_⟩⟩
  cases d with
  | int i =>
    have h2 : After c.p F1 H1 (some (some i, u1)) (fun o _ _ H' => Q o H') := h1
    exact ⟨i, rv.int_, After.now g1 h2⟩
  | _ => exact False.elim h1
theorem sl_all : SlR X (rSlAll X.K) := sl_list.or (sl_tupA.or sl_str)
theorem dSl (he : DE X c e m) (hl : PO X lo (rdO c ml)) (hh : PO X hi (rdO c mh)) (hK : X.K = c.W.K := by rfl) : DE X c (.Subscript e (.Slice lo hi none p2) pos) (mSl m ml mh) :=
  (pe_slice sl_all he hl hh).imp fun σ H Q ⟨F, u, ρ, S, h⟩ => ⟨F, u, ρ, S, (After.split h).imp fun d u1 F1 H1 _ s1 g1 h1 v rv => ⟨F1, u1, ρ, S.step s1 g1, (After.split h1).imp fun l u2 F2 H2 _ s2 g2 h2 => ⟨F2, u2, ρ, (S.step s1 g1).step s2 g2, (After.split h2).imp fun r u3 F3 H3 _ s3 g3 h3 => by
    have rv := rv.mono (s2.ef.trans s3.ef)
    obtain ⟨z, e1, _⟩ := lft_some h3
    rw [hK]
    unfold slD at e1
    split at e1
    · cases e1
      obtain ⟨a, vs, rfl, ha, ra⟩ := rv.lst_
      exact .inl ⟨a, vs, rfl, SqL.of (g3.ex _ _ ha), fun q hq => OpM.new g3 h3 rfl hq fun sm => Rep.mkL upd_same ((ra.mono sm).cut l r)⟩
    · cases e1
      obtain ⟨a, vs, rfl, ha, ra⟩ := id rv.tup_
      refine .inr (.inl ⟨a, vs, rfl, sq_t g3.ex ha, fun hw => ?_, fun _ q hq => OpM.new g3 h3 rfl hq fun sm => Rep.mkT upd_same ((ra.mono sm).cut l r)⟩)
      rw [ra.1] at hw
      exact OpM.ret g3 h3 rfl (by rw [cutD_whole hw]; exact rv)
    · rename_i ns _h _h2
      cases e1
      obtain ⟨a, rfl, ha⟩ := rv.scr_
      exact .inl ⟨a, _, rfl, sq_l g3.ex ha, fun q hq => OpM.new g3 h3 rfl hq fun sm => Rep.mkL upd_same ((reps_ints ns).cut l r)⟩
    · rename_i x _h _h2
      split at e1
      · rename_i hl
        cases e1
        exact .inr (.inr ⟨x, rv.str_, Nat.le_trans hl (by decide), OpM.ret g3 h3 (if_pos hl) (.str _)⟩)
      · cases e1
    · cases e1⟩⟩⟩
def revD : D → Option D
  | .lst ds => some (.lst ds.reverse)
  | _ => none
theorem dRevL {k : Nat} {p1 p3 : Pos} (he : DE X c e m) (hK : X.K = c.W.K := by rfl) : DE X c (.Subscript e (.Slice none none (some (.UnaryOp .USub (.Constant (.int 1) k p1) p2)) p3) pos) (mUn revD m) :=
  (pe_revL he).imp fun σ H Q ⟨F, u, ρ, S, h⟩ => ⟨F, u, ρ, S, (After.split h).imp fun d u1 F1 H1 _ s1 g1 h1 v rv => by
    obtain ⟨z, e1, _⟩ := lft_some h1
    cases d with
    | lst ds =>
      cases e1
      obtain ⟨a, vs, rfl, ha, ra⟩ := rv.lst_
      exact ⟨a, vs, rfl, SqL.of (g1.ex _ _ ha), fun q hq => OpM.new g1 h1 rfl hq fun sm => Rep.mkL upd_same (ra.mono sm).reverse⟩
    | _ => cases e1⟩
end

/-! ### built-ins -/
def lenD : List D → Option D := fun ds => match ds with
  | [.lst xs] => some (.int xs.length)
  | [.tup xs] => some (.int xs.length)
  | [.scr ns] => some (.int ns.length)
  | [.str x] => if x.length ≤ 10000000 then some (.int x.length) else none
  | _ => none
def rLenA (K : PySem.W.Frag) : List V → Hp → VK → Prop := fun xs H Q => (∃ p ys, xs = [.ref p] ∧ (SqL K H p ys ∨ SqT K H p ys) ∧ Q (.int ys.length) H) ∨ ∃ z, xs = [.str z] ∧ z.length ≤ sizeLine ∧ Q (.int z.length) H
theorem call_lenA {X : Cx} : CallR X (.builtin "len") (rLenA X.K) := call_len_seq.or call_len_str
theorem Reps.one {W : Wo} {p : Addr} {F : Hp} {vs : List V} {d : D} (r : Reps W p F vs [d]) : ∃ v, vs = [v] ∧ Rep W p F v d := by
  obtain ⟨v, vr, rfl, h, r2⟩ := r.uncons
  rw [r2.none]
  exact ⟨v, rfl, h⟩
theorem Reps.two {W : Wo} {p : Addr} {F : Hp} {vs : List V} {a b : D} (r : Reps W p F vs [a, b]) : ∃ v w, vs = [v, w] ∧ Rep W p F v a ∧ Rep W p F w b := by
  obtain ⟨v, vr, rfl, h, r2⟩ := r.uncons
  obtain ⟨w, rfl, h2⟩ := r2.one
  exact ⟨v, w, rfl, h, h2⟩
theorem m_len {W : Wo} : CallM W (rLenA W.K) lenD := by
  intro p F H u xs as Q gd r h
  obtain ⟨d, e, _⟩ := lft_some h
  unfold lenD at e
  split at e
  · cases e
    obtain ⟨v, rfl, rv⟩ := r.one
    obtain ⟨q, vs, rfl, hq, rs⟩ := rv.lst_
    exact .inl ⟨q, vs, rfl, .inl (SqL.of (gd.ex _ _ hq)), OpM.ret gd h rfl (by rw [rs.1]; exact .int _)⟩
  · cases e
    obtain ⟨v, rfl, rv⟩ := r.one
    obtain ⟨q, vs, rfl, hq, rs⟩ := rv.tup_
    exact .inl ⟨q, vs, rfl, .inr (sq_t gd.ex hq), OpM.ret gd h rfl (by rw [rs.1]; exact .int _)⟩
  · rename_i ns
    cases e
    obtain ⟨v, rfl, rv⟩ := r.one
    obtain ⟨q, rfl, hq⟩ := rv.scr_
    exact .inl ⟨q, _, rfl, .inl (sq_l gd.ex hq), OpM.ret gd h rfl (by rw [List.length_map]; exact .int _)⟩
  · rename_i x
    split at e
    · rename_i hl
      cases e
      obtain ⟨v, rfl, rv⟩ := r.one
      exact .inr ⟨x, by rw [rv.str_], Nat.le_trans hl (by decide), OpM.ret gd h (if_pos hl) (.int _)⟩
    · cases e
  · cases e
/-- ints out of data -/
def intsD : List D → Option (List Int)
  | [] => some []
  | .int i :: ds => (intsD ds).map (i :: ·)
  | _ => none
theorem intsD_rep {W : Wo} {p : Addr} {F : Hp} : ∀ {vs : List V} {ds : List D} {ns : List Int}, Reps W p F vs ds → intsD ds = some ns → vs = ns.map V.int
  | vs, [], ns, r, h => by cases h; exact r.none
  | vs, d :: ds, ns, r, h => by
    obtain ⟨v, vr, rfl, r1, r2⟩ := r.uncons
    cases d with
    | int i =>
      have h' : (intsD ds).map (i :: ·) = some ns := h
      cases e : intsD ds with
      | none => rw [e] at h'; cases h'
      | some ms =>
        rw [e] at h'
        cases h'
        rw [r1.int_, intsD_rep r2 e]
        rfl
    | _ => cases h
theorem intsD_map (ns : List Int) : intsD (ns.map D.int) = some ns := by
  induction ns with
  | nil => rfl
  | cons n ns ih => show (intsD (ns.map D.int)).map (n :: ·) = _; rw [ih]; rfl
theorem intsD_eq : ∀ {ds : List D} {ns : List Int}, intsD ds = some ns → ds = ns.map D.int
  | [], ns, h => by cases h; rfl
  | d :: ds, ns, h => by
    cases d with
    | int i =>
      have h' : (intsD ds).map (i :: ·) = some ns := h
      cases e : intsD ds with
      | none => rw [e] at h'; cases h'
      | some ms =>
        rw [e] at h'
        cases h'
        rw [intsD_eq e]
        rfl
    | _ => cases h
def rSumT (K : PySem.W.Frag) : List V → Hp → VK → Prop := fun vs H Q => ∃ (a : Addr) (ns : List Int), vs = [V.ref a] ∧ SqT K H a (ns.map V.int) ∧ Q (.int ns.sum) H
theorem cr_sumT {X : Cx} (hc : X.calm = true) : CallR X (.builtin "sum") (rSumT X.K) := by
  intro pins s σ H vs us Q I r h
  obtain ⟨a, ns, rfl, hq, q⟩ := h
  obtain ⟨u1, rfl, ru⟩ := Vals.one r
  cases ru
  obtain ⟨its, rv, ht, hz⟩ := I.tuple hq
  have hi := Vals.ints rv
  obtain ⟨xs, e⟩ := hi.allInts.items
  have hn : numsOf (intItems xs).toList = ns := by rw [← e]; exact hi.numsOf
  rw [nums_intItems] at hn
  rw [e] at ht
  refine PySem.W.ktm_sumG (I.ok.hd hc) ht fun h' tk t' hk => ?_
  rw [preSum_eq, List.take_of_length_le (by simp), hn]
  exact ⟨.int ns.sum, H, I.kept (t' := tk) hk, ⟨_, rfl⟩, q⟩
def sumD : List D → Option D := fun ds => match ds with
  | [.lst xs] => (intsD xs).map fun ns => .int ns.sum
  | [.tup xs] => (intsD xs).map fun ns => .int ns.sum
  | _ => none
def rSumA (K : PySem.W.Frag) : List V → Hp → VK → Prop := fun vs H Q => rSum K vs H Q ∨ rSumT K vs H Q
theorem cr_sumA {X : Cx} (hc : X.calm = true) : CallR X (.builtin "sum") (rSumA X.K) := (cr_sum hc).or (cr_sumT hc)
theorem m_sum {W : Wo} : CallM W (rSumA W.K) sumD := by
  intro p F H u xs as Q gd r h
  obtain ⟨d, e, _⟩ := lft_some h
  unfold sumD at e
  split at e
  · rename_i ds
    obtain ⟨v, rfl, rv⟩ := r.one
    obtain ⟨q, vs, rfl, hq, rs⟩ := rv.lst_
    cases e1 : intsD ds with
    | none => rw [e1] at e; cases e
    | some ns =>
      rw [e1] at e
      cases e
      refine .inl ⟨q, ns, rfl, SqL.of (by rw [← intsD_rep rs e1]; exact gd.ex _ _ hq), OpM.ret gd h (show (intsD ds).map (fun ns => D.int ns.sum) = some (.int ns.sum) by rw [e1]; rfl) (.int _)⟩
  · rename_i ds
    obtain ⟨v, rfl, rv⟩ := r.one
    obtain ⟨q, vs, rfl, hq, rs⟩ := rv.tup_
    cases e1 : intsD ds with
    | none => rw [e1] at e; cases e
    | some ns =>
      rw [e1] at e
      cases e
      refine .inr ⟨q, ns, rfl, by rw [← intsD_rep rs e1]; exact sq_t gd.ex hq, OpM.ret gd h (show (intsD ds).map (fun ns => D.int ns.sum) = some (.int ns.sum) by rw [e1]; rfl) (.int _)⟩
  · cases e
/-- the greatest, the least of a list -/
def maxL : List Int → Int
  | [] => 0
  | [a] => a
  | a :: b :: r => max a (maxL (b :: r))
def minL : List Int → Int
  | [] => 0
  | [a] => a
  | a :: b :: r => min a (minL (b :: r))
theorem maxL_mem : ∀ {ns : List Int}, ns ≠ [] → maxL ns ∈ ns ∧ ∀ y ∈ ns, y ≤ maxL ns
  | [], h => absurd rfl h
  | [a], _ => by simp [maxL]
  | a :: b :: r, _ => by
    obtain ⟨h1, h2⟩ := maxL_mem (ns := b :: r) (by simp)
    refine ⟨?_, fun y hy => ?_⟩
    · show max a (maxL (b :: r)) ∈ a :: b :: r
      by_cases hm : a ≤ maxL (b :: r)
      · rw [Int.max_eq_right hm]; exact List.mem_cons_of_mem _ h1
      · rw [Int.max_eq_left (by omega)]; exact List.mem_cons_self ..
    · show y ≤ max a (maxL (b :: r))
      rcases List.mem_cons.mp hy with rfl | hy
      · exact Int.le_max_left ..
      · exact Int.le_trans (h2 y hy) (Int.le_max_right ..)
theorem minL_mem : ∀ {ns : List Int}, ns ≠ [] → minL ns ∈ ns ∧ ∀ y ∈ ns, minL ns ≤ y
  | [], h => absurd rfl h
  | [a], _ => by simp [minL]
  | a :: b :: r, _ => by
    obtain ⟨h1, h2⟩ := minL_mem (ns := b :: r) (by simp)
    refine ⟨?_, fun y hy => ?_⟩
    · show min a (minL (b :: r)) ∈ a :: b :: r
      by_cases hm : minL (b :: r) ≤ a
      · rw [Int.min_eq_right hm]; exact List.mem_cons_of_mem _ h1
      · rw [Int.min_eq_left (by omega)]; exact List.mem_cons_self ..
    · show min a (minL (b :: r)) ≤ y
      rcases List.mem_cons.mp hy with rfl | hy
      · exact Int.min_le_left ..
      · exact Int.le_trans (Int.min_le_right ..) (h2 y hy)
theorem maxL_is {ns : List Int} {m : Int} (h1 : m ∈ ns) (h2 : ∀ y ∈ ns, y ≤ m) : maxL ns = m := by
  have hne : ns ≠ [] := fun e => by rw [e] at h1; cases h1
  obtain ⟨h3, h4⟩ := maxL_mem hne
  have := h2 _ h3
  have := h4 _ h1
  omega
theorem minL_is {ns : List Int} {m : Int} (h1 : m ∈ ns) (h2 : ∀ y ∈ ns, m ≤ y) : minL ns = m := by
  have hne : ns ≠ [] := fun e => by rw [e] at h1; cases h1
  obtain ⟨h3, h4⟩ := minL_mem hne
  have := h2 _ h3
  have := h4 _ h1
  omega
def maxD : List D → Option D := fun ds => match ds with
  | [.lst xs] => match intsD xs with
    | some (n :: ns) => some (.int (maxL (n :: ns)))
    | _ => none
  | [.int a, .int b] => some (.int (if b > a then b else a))
  | _ => none
def minD : List D → Option D := fun ds => match ds with
  | [.lst xs] => match intsD xs with
    | some (n :: ns) => some (.int (minL (n :: ns)))
    | _ => none
  | [.int a, .int b] => some (.int (if b < a then b else a))
  | _ => none
def rMaxA (K : PySem.W.Frag) : List V → Hp → VK → Prop := fun vs H Q => rMax K vs H Q ∨ ∃ i j, vs = [.int i, .int j] ∧ Q (.int (if j > i then j else i)) H
def rMinA (K : PySem.W.Frag) : List V → Hp → VK → Prop := fun vs H Q => rMin K vs H Q ∨ ∃ i j, vs = [.int i, .int j] ∧ Q (.int (if j < i then j else i)) H
theorem cr_maxA {X : Cx} (hc : X.calm = true) : CallR X (.builtin "max") (rMaxA X.K) := (cr_max hc).or (call_max2 hc)
theorem cr_minA {X : Cx} (hc : X.calm = true) : CallR X (.builtin "min") (rMinA X.K) := (cr_min hc).or (call_min2 hc)
theorem m_max {W : Wo} : CallM W (rMaxA W.K) maxD := by
  intro p F H u xs as Q gd r h
  obtain ⟨d, e, _⟩ := lft_some h
  have e0 := e
  unfold maxD at e
  split at e
  · rename_i ds
    split at e
    · rename_i n ns e1
      cases e
      obtain ⟨v, rfl, rv⟩ := r.one
      obtain ⟨q, vs, rfl, hq, rs⟩ := rv.lst_
      refine .inl ⟨q, n :: ns, rfl, SqL.of (by rw [← intsD_rep rs e1]; exact gd.ex _ _ hq), by simp, fun m hm hle => ?_⟩
      rw [← maxL_is hm hle]
      exact OpM.ret gd h e0 (.int _)
    · cases e
  · rename_i i j
    cases e
    obtain ⟨v, w, rfl, rv, rw⟩ := r.two
    exact .inr ⟨i, j, by rw [rv.int_, rw.int_], OpM.ret gd h e0 (.int _)⟩
  · cases e
theorem m_min {W : Wo} : CallM W (rMinA W.K) minD := by
  intro p F H u xs as Q gd r h
  obtain ⟨d, e, _⟩ := lft_some h
  have e0 := e
  unfold minD at e
  split at e
  · rename_i ds
    split at e
    · rename_i n ns e1
      cases e
      obtain ⟨v, rfl, rv⟩ := r.one
      obtain ⟨q, vs, rfl, hq, rs⟩ := rv.lst_
      refine .inl ⟨q, n :: ns, rfl, SqL.of (by rw [← intsD_rep rs e1]; exact gd.ex _ _ hq), by simp, fun m hm hle => ?_⟩
      rw [← minL_is hm hle]
      exact OpM.ret gd h e0 (.int _)
    · cases e
  · rename_i i j
    cases e
    obtain ⟨v, w, rfl, rv, rw⟩ := r.two
    exact .inr ⟨i, j, by rw [rv.int_, rw.int_], OpM.ret gd h e0 (.int _)⟩
  · cases e
def blsD : List D → Option (List Bool)
  | [] => some []
  | .bl i :: ds => (blsD ds).map (i :: ·)
  | _ => none
theorem blsD_rep {W : Wo} {p : Addr} {F : Hp} : ∀ {vs : List V} {ds : List D} {ns : List Bool}, Reps W p F vs ds → blsD ds = some ns → vs = ns.map V.bl
  | vs, [], ns, r, h => by cases h; exact r.none
  | vs, d :: ds, ns, r, h => by
    obtain ⟨v, vr, rfl, r1, r2⟩ := r.uncons
    cases d with
    | bl i =>
      have h' : (blsD ds).map (i :: ·) = some ns := h
      cases e : blsD ds with
      | none => rw [e] at h'; cases h'
      | some ms =>
        rw [e] at h'
        cases h'
        rw [r1.bl_, blsD_rep r2 e]
        rfl
    | _ => cases h
theorem blsD_map (ns : List Bool) : blsD (ns.map D.bl) = some ns := by
  induction ns with
  | nil => rfl
  | cons n ns ih => show (blsD (ns.map D.bl)).map (n :: ·) = _; rw [ih]; rfl
def allD : List D → Option D := fun ds => match ds with
  | [.lst xs] => (blsD xs).map fun bs => .bl (bs.all id)
  | _ => none
def anyD : List D → Option D := fun ds => match ds with
  | [.lst xs] => (blsD xs).map fun bs => .bl (bs.any id)
  | _ => none
theorem m_all {W : Wo} : CallM W (rAll W.K) allD := by
  intro p F H u xs as Q gd r h
  obtain ⟨d, e, _⟩ := lft_some h
  have e0 := e
  unfold allD at e
  split at e
  · rename_i ds
    cases e1 : blsD ds with
    | none => rw [e1] at e; cases e
    | some bs =>
      rw [e1] at e
      cases e
      obtain ⟨v, rfl, rv⟩ := r.one
      obtain ⟨q, vs, rfl, hq, rs⟩ := rv.lst_
      exact ⟨q, bs, rfl, SqL.of (by rw [← blsD_rep rs e1]; exact gd.ex _ _ hq), OpM.ret gd h e0 (.bl _)⟩
  · cases e
theorem m_any {W : Wo} : CallM W (rAny W.K) anyD := by
  intro p F H u xs as Q gd r h
  obtain ⟨d, e, _⟩ := lft_some h
  have e0 := e
  unfold anyD at e
  split at e
  · rename_i ds
    cases e1 : blsD ds with
    | none => rw [e1] at e; cases e
    | some bs =>
      rw [e1] at e
      cases e
      obtain ⟨v, rfl, rv⟩ := r.one
      obtain ⟨q, vs, rfl, hq, rs⟩ := rv.lst_
      exact ⟨q, bs, rfl, SqL.of (by rw [← blsD_rep rs e1]; exact gd.ex _ _ hq), OpM.ret gd h e0 (.bl _)⟩
  · cases e
def absD : List D → Option D := fun ds => match ds with
  | [.int i] => some (.int (if i < 0 then -i else i))
  | _ => none
theorem m_abs {W : Wo} : CallM W (fun xs H Q => ∃ i, xs = [.int i] ∧ Q (.int (if i < 0 then -i else i)) H) absD := by
  intro p F H u xs as Q gd r h
  obtain ⟨d, e, _⟩ := lft_some h
  have e0 := e
  unfold absD at e
  split at e
  · rename_i i
    cases e
    obtain ⟨v, rfl, rv⟩ := r.one
    exact ⟨i, by rw [rv.int_], OpM.ret gd h e0 (.int _)⟩
  · cases e
/-- int(n) of an int -/
def int1D : List D → Option D := fun ds => match ds with
  | [.int i] => some (.int i)
  | _ => none
theorem m_int1 {W : Wo} : CallM W (fun xs H Q => (∃ i, xs = [.int i] ∧ Q (.int i) H) ∨ ∃ k, xs = [.bl k] ∧ Q (.int (if k then 1 else 0)) H) int1D := by
  intro p F H u xs as Q gd r h
  obtain ⟨d, e, _⟩ := lft_some h
  have e0 := e
  unfold int1D at e
  split at e
  · rename_i i
    cases e
    obtain ⟨v, rfl, rv⟩ := r.one
    exact .inl ⟨i, by rw [rv.int_], OpM.ret gd h e0 (.int _)⟩
  · cases e
def strID : List D → Option D := fun ds => match ds with
  | [.int i] => if i.natAbs.log2 < 1920 then some (.str (toString i)) else none
  | _ => none
theorem m_strI {W : Wo} : CallM W (fun xs H Q => ∃ i, xs = [.int i] ∧ i.natAbs.log2 < 1920 ∧ Q (.str (toString i)) H) strID := by
  intro p F H u xs as Q gd r h
  obtain ⟨d, e, _⟩ := lft_some h
  have e0 := e
  unfold strID at e
  split at e
  · rename_i i
    split at e
    · rename_i hl
      cases e
      obtain ⟨v, rfl, rv⟩ := r.one
      exact ⟨i, by rw [rv.int_], hl, OpM.ret gd h e0 (.str _)⟩
    · cases e
  · cases e
def listD : List D → Option D := fun ds => match ds with
  | [.lst xs] => some (.lst xs)
  | [.tup xs] => some (.lst xs)
  | _ => none
theorem m_list {W : Wo} : CallM W (fun xs H Q => ∃ p ys, xs = [.ref p] ∧ (SqL W.K H p ys ∨ SqT W.K H p ys) ∧ ∀ l, H l = none → Q (.ref l) (upd H l (.lst ys))) listD := by
  intro p F H u xs as Q gd r h
  obtain ⟨d, e, _⟩ := lft_some h
  have e0 := e
  unfold listD at e
  split at e
  · cases e
    obtain ⟨v, rfl, rv⟩ := r.one
    obtain ⟨q, vs, rfl, hq, rs⟩ := rv.lst_
    exact ⟨q, vs, rfl, .inl (SqL.of (gd.ex _ _ hq)), fun l hl => OpM.new gd h e0 hl fun sm => Rep.mkL upd_same (rs.mono sm)⟩
  · cases e
    obtain ⟨v, rfl, rv⟩ := r.one
    obtain ⟨q, vs, rfl, hq, rs⟩ := rv.tup_
    exact ⟨q, vs, rfl, .inr (sq_t gd.ex hq), fun l hl => OpM.new gd h e0 hl fun sm => Rep.mkL upd_same (rs.mono sm)⟩
  · cases e
def tupD : List D → Option D := fun ds => match ds with
  | [.lst xs] => some (.tup xs)
  | [.tup xs] => some (.tup xs)
  | _ => none
theorem m_tup {W : Wo} : CallM W (fun xs H Q => ∃ p ys, xs = [.ref p] ∧ ((SqL W.K H p ys ∧ ∀ l, H l = none → Q (.ref l) (upd H l (.tup ys))) ∨ (SqT W.K H p ys ∧ Q (.ref p) H))) tupD := by
  intro p F H u xs as Q gd r h
  obtain ⟨d, e, _⟩ := lft_some h
  have e0 := e
  unfold tupD at e
  split at e
  · cases e
    obtain ⟨v, rfl, rv⟩ := r.one
    obtain ⟨q, vs, rfl, hq, rs⟩ := rv.lst_
    exact ⟨q, vs, rfl, .inl ⟨SqL.of (gd.ex _ _ hq), fun l hl => OpM.new gd h e0 hl fun sm => Rep.mkT upd_same (rs.mono sm)⟩⟩
  · cases e
    obtain ⟨v, rfl, rv⟩ := r.one
    obtain ⟨q, vs, rfl, hq, rs⟩ := id rv.tup_
    exact ⟨q, vs, rfl, .inr ⟨sq_t gd.ex hq, OpM.ret gd h e0 rv⟩⟩
  · cases e
def dmC (i j : Int) : Bool := decide (0 < j) && !Builtin.divisionGoesByPylong i j
def dmD : List D → Option D := fun ds => match ds with
  | [.int i, .int j] => if dmC i j = true then some (.tup [.int (i / j), .int (i % j)]) else none
  | _ => none
theorem m_dm {W : Wo} : CallM W (fun xs H Q => ∃ i j, xs = [.int i, .int j] ∧ CDivP i j ∧ ∀ p, H p = none → Q (.ref p) (upd H p (.tup [.int (i / j), .int (i % j)]))) dmD := by
  intro p F H u xs as Q gd r h
  obtain ⟨d, e, _⟩ := lft_some h
  have e0 := e
  unfold dmD at e
  split at e
  · rename_i i j
    split at e
    · rename_i hc
      cases e
      obtain ⟨v, w, rfl, rv, rw⟩ := r.two
      have hcc := Bool.and_eq_true_iff.mp (show (decide (0 < j) && !Builtin.divisionGoesByPylong i j) = true from hc)
      exact ⟨i, j, by rw [rv.int_, rw.int_], ⟨of_decide_eq_true hcc.1, by have := hcc.2; simpa using this⟩, fun l hl => OpM.new gd h e0 hl fun sm => Rep.mkT upd_same (Reps.cons (.int _) (Reps.cons (.int _) Reps.nil))⟩
    · cases e
  · cases e

/-! ### isinstance -/
def tyN : D → Option String
  | .non => some "NoneType"
  | .bl _ => some "bool"
  | .int _ => some "int"
  | .str _ => some "str"
  | .tup _ => some "tuple"
  | .lst _ => some "list"
  | .dct _ _ => some "dict"
  | _ => none
/-- the package's classes: which is under which -/
def subC (c k : Str) : Bool := decide (c = k) || (decide (k = "Rule") && (decide (c = "Drain") || decide (c = "Units") || decide (c = "Spare")))
/-- what isinstance asks of the classes -/
structure IsiOk (W : Wo) : Prop where
  ty : ∀ c ∈ W.cs, ∀ (H : Hp) (a dx : Addr) (fs : List (Str × V)), H a = some (.ins (W.cl c) dx fs) → TyOf W.K H (.ref a) (.ref (W.cl c))
  own : ∀ c ∈ W.cs, ∀ k ∈ W.cs, PySem.W.kitOne W.K (.ref (W.cl c)) (.ref (W.cl k)) = some (subC c k)
  bi : ∀ a ∈ ["NoneType", "bool", "int", "str", "tuple", "list", "dict"], ∀ k ∈ W.cs, PySem.W.kitOne W.K (.type a) (.ref (W.cl k)) = some false
  ob : ∀ c ∈ W.cs, ∀ n ∈ ["int", "bool", "str", "tuple", "list"], PySem.W.kitOne W.K (.ref (W.cl c)) (.type n) = some false
def isiB (x y : D) : Option Bool := match y with
  | .ty n => match tyN x with
    | some a => if decide (n ∈ ["int", "bool", "str", "tuple", "list"]) = true then kitB a n else none
    | none => match x with
      | .obj _ _ _ => if n ∈ ["int", "bool", "str", "tuple", "list"] then some false else none
      | _ => none
  | .cls k => match tyN x with
    | some _ => some false
    | none => match x with
      | .obj c _ _ => some (subC c k)
      | _ => none
  | _ => none
def isiD : List D → Option D := fun ds => match ds with
  | [x, y] => (isiB x y).map .bl
  | _ => none
theorem tyN_mem {x : D} {a : String} (h : tyN x = some a) : a ∈ ["NoneType", "bool", "int", "str", "tuple", "list", "dict"] := by
  cases x <;> first | (cases h; decide) | cases h
theorem tyN_ty {W : Wo} {p : Addr} {F H : Hp} {v : V} {x : D} {a : String} (sm : Same F H) (r : Rep W p F v x) (h : tyN x = some a) : TyX W.K H v (.type a) := by
  cases r with
  | non => cases h; exact .base .non
  | bl b => cases h; exact .base (.bl b)
  | int i => cases h; exact .base (.int i)
  | str i => cases h; exact .base (.str i)
  | tup ht _ _ =>
    cases h
    rcases ht with (ht | ⟨o, ht⟩) | ⟨o, its, n, hk, hc, _⟩
    · exact .base (.tup (sm _ _ ht))
    · exact .fTuple (sm _ _ ht)
    · exact .kTuple hk hc
  | lst ht _ _ => cases h; exact .base (.lst (sm _ _ ht))
  | dct ht _ _ => cases h; exact .base (.dK (sm _ _ ht))
  | _ => cases h
theorem m_isi {W : Wo} (I : IsiOk W) : CallM W (rIsi W.K) isiD := by
  intro p F H u xs as Q gd r h
  obtain ⟨d, e, _⟩ := lft_some h
  have e0 := e
  unfold isiD at e
  split at e
  case h_2 => cases e
  rename_i x y
  obtain ⟨v, w, rfl, rv, rw⟩ := r.two
  cases e1 : isiB x y with
  | none => rw [e1] at e; cases e
  | some b =>
    rw [e1] at e
    cases e
    have fin : Q (.bl b) H := OpM.ret gd h e0 (.bl b)
    unfold isiB at e1
    split at e1
    · rename_i n
      have hw := rw.ty_
      subst hw
      split at e1
      · rename_i a ha
        split at e1
        · exact ⟨v, .ty n, .type a, .type n, b, rfl, .ty n, tyN_ty gd.ex rv ha, kit_ty e1, fin⟩
        · cases e1
      · split at e1
        · rename_i c ks ds _
          split at e1
          · rename_i hh
            cases e1
            have hcc := rv.objc
            obtain ⟨a, dx, vs, rfl, ha, _⟩ := rv.obj_
            exact ⟨_, .ty n, _, .type n, false, rfl, .ty n, .base (I.ty c hcc H a dx _ (gd.ex _ _ ha)), I.ob c hcc n hh, fin⟩
          · cases e1
        · cases e1
    · rename_i k
      obtain ⟨hw, hk⟩ := rw.cls_
      subst hw
      split at e1
      · rename_i a ha
        cases e1
        exact ⟨v, .ref (W.cl k), .type a, .ref (W.cl k), false, rfl, .own _, tyN_ty gd.ex rv ha, I.bi a (tyN_mem ha) k hk, fin⟩
      · split at e1
        · rename_i c ks ds _
          cases e1
          have hcc := rv.objc
          obtain ⟨a, dx, vs, rfl, ha, _⟩ := rv.obj_
          exact ⟨_, .ref (W.cl k), _, .ref (W.cl k), _, rfl, .own _, .base (I.ty c hcc H a dx _ (gd.ex _ _ ha)), I.own c hcc k hk, fin⟩
        · cases e1
    · cases e1
end Mi

set_option Elab.async false
set_option linter.all false
set_option maxRecDepth 100000
set_option maxHeartbeats 4000000
/-! Mi7: objects made, == and != by an own __eq__, len by an own __len__, static methods, enumerate and zip of tuples. -/
namespace PySem.W
open PySem PySem.Calls PyProof.Rows Builtin
section
variable {prog : Program} {w : World} {A : Around} {E : Value → Shared → Prop} {s : Shared} {K : Frag} {x C L f : Addr} {h₀ : Heap} {m : Str → Option Value} {ox : Obj} {od : Option Obj} {b tb : Value}
theorem mi_bind_ne (self : Value) : bindSpecial (.builtin "object.__ne__") self = pure (.builtin "object.__ne__", [self]) :=
  (Slot.of (T := "object") (name := "__ne__") (owner := "object") (n := "__ne__") (by rw [typeLookup_type, builtinLookup_eq_fast]; kernel_rfl) (by decide +kernel) (by decide +kernel) (by decide +kernel)
    (.inl (by decide +kernel)) (by rw [isSubtype_type]; kernel_rfl)).bind self
theorem mi_plain_ne : plainId "object.__ne__" = true := by decide +kernel
/-- x != b where x's class has an own __eq__ and no __ne__ -/
theorem mi_ne_K {Q : Value → Shared → Prop} (hu : A.units + 1 < cLine) (F : Fr h₀ L s.heap m) (X₀ : K.In h₀) (I : InstAt s.heap x ox C od) (hb : Looks (model prog w) s.heap (typeOf b) tb) (hn : notFirst K C tb = true)
    (hs : findIn K (.ref C) "__ne__" = some (some (.builtin "object.__ne__"))) (he : findIn K (.ref C) "__eq__" = some (some (.ref f))) (hf : isFn K (.ref f) = true) (hm : mroIn K C (.type "object") = some true)
    (h : wpAny (model prog w) A.in1 (call (.ref f) [.ref x, b]) (fun v s' => ∃ c, v = .bool c ∧ Q (.bool (!c)) s') E s) : wpAny (model prog w) A (richCompare .NotEq (.ref x) b) Q E s := by
  have X := X₀.keeps F.keep
  have inst : Looks (model prog w) s.heap (isInstance (.ref x) (.type "object")) true := I.type.andThen (looks_mroIn X hm)
  have one : wpAny (model prog w) A (tryCompare (.ref x) "__ne__" b) (fun r s' => ∃ v, r = some v ∧ Q v s') E s := by
    unfold tryCompare
    refine wpAny_bind ?_
    simp only [callSpecialIfBound?, bindSpecialIfBound?]
    refine wpAny_holding (wpAny_bind (wpAny_bind (wpAny_bind (I.type.here ((looks_findIn X hs).here ?_)))))
    simp only [mi_bind_ne]
    refine wpAny_bind (wpAny_askSetting (wpAny_ite ?_))
    have fin : wpAny (model prog w) A (call (.builtin "object.__ne__") ([.ref x] ++ [b]) >>= fun v => pure (some v)) (fun r s' => wpAny (model prog w) A (match r with
        | some .notImplemented | none => pure none
        | some v => pure (some v)) (fun r s' => ∃ v, r = some v ∧ Q v s') E s') E s := by
      refine wpAny_bind (wpAny_call (codeAny_call_builtin mi_plain_ne PySem.F.cmpEntry_ne (check_slot PySem.F.cmpKind_ne PySem.F.cmpSplit_ne inst (PySem.F.cmpArgs_ne _ _) ?_)))
      unfold Builtin.«object.__ne__»
      refine wpAny_bind (m := slotArgs "__ne__" 1 _) (wpAny_pure ?_)
      refine wpAny_bind (wpAny_cRoomFor hu ?_)
      refine wpAny_bind (m := callSpecialIfBound? (.ref x) (Str.ofString "__eq__") [b]) (ifBound_K X I he hf (wpAny_mono h (fun v s' hv => ?_) fun _ _ e => e))
      obtain ⟨c, rfl, hq⟩ := hv
      refine wpAny_bind (wpAny_truthy_bool ?_)
      exact wpAny_pure (wpAny_pure (wpAny_pure ⟨_, rfl, hq⟩))
    split
    · exact wpAny_bind (wpAny_pure (wpAny_pure (by exact fin)))
    · exact wpAny_tryCatch (wpAny_bind (wpAny_pure (wpAny_pure (by exact fin))))
  unfold richCompare
  simp only [oneThing_ref]
  refine wpAny_holding (wpAny_bind (wpAny_cRoomFor (by omega) ?_))
  refine wpAny_bind (I.type.here (wpAny_bind (hb.here ?_)))
  split
  · rename_i q
    have e : subIn K tb (.ref C) = some false := by
      rcases Bool.or_eq_true_iff.mp hn with e | e
      · rw [beq_iff_eq.mp e] at q; simp at q
      · exact beq_iff_eq.mp e
    refine wpAny_bind ((looks_subIn X e).here ?_)
    simp only [Bool.false_eq_true, if_false]
    refine wpAny_bind (wpAny_mono one (fun r s' z => ?_) fun _ _ e => e)
    obtain ⟨v, rfl, hq⟩ := z
    exact wpAny_pure hq
  · refine wpAny_bind (wpAny_pure ?_)
    simp only [Bool.false_eq_true, if_false]
    refine wpAny_bind (wpAny_mono one (fun r s' z => ?_) fun _ _ e => e)
    obtain ⟨v, rfl, hq⟩ := z
    exact wpAny_pure hq
end
end PySem.W

set_option Elab.async false
set_option linter.all false
set_option maxRecDepth 100000
set_option maxHeartbeats 4000000
/-! Mi8: objects made, == and != by an own __eq__, len by an own __len__, static methods. -/
namespace Mi
open PySem PySem.Spec PyProof.Rows L2
variable [TB : Tabl]

/-! ### a def called from within a built-in -/
section
variable {X : Cx} {k : Nat} {f : Addr} {fd : FuncData} {ps : List Str} {sp : Sp}
theorem call_at {A : Around} {pins : List (Addr × Obj)} {σ : L2.St} {H : Hp} {s : Shared} {us : List Value} {vs : List V} {Q : VK} {E' : Value → Shared → Prop} (G : FnOk X.prog X.w X.K X.mg X.base CX0 k f fd ps sp) (hr : Room k A) (hfr : A.frames = X.A.frames) (hb : Binds X.K fd ps [])
    (I : Inv X pins σ H s) (r : Vals vs us) (h : sp vs H Q E0) : wpAny (model X.prog X.w) A (call (.ref f) us) (EP X pins σ Q) E' s := by
  have hl := G.len _ _ _ _ h
  have e0 : Env0 X.prog X.w X.K X.mg X.base A X.stack s H := by
    have e := I.env0
    exact ⟨by rw [hfr]; exact e.frames, e.mod, e.bs, e.bsz, e.funs, e.frf, e.hok, e.bare⟩
  refine wpAny_call (codeAny_mono (G.run A X.stack s H ⟨us, []⟩ us vs Q E0 hr e0 (by
    have := hb s us I.kIn (by simpa [← r.length] using hl)
    simpa using this) r h) fun r s' hq => ?_)
  cases r with
  | error e => exact False.elim hq
  | ok fl =>
    cases fl with
    | ret u => exact I.after hq
    | next => exact False.elim hq
    | brk => exact False.elim hq
    | cont => exact False.elim hq
end

/-! ### == and != of two objects of one class -/
/-- what is asked of the class for == -/
structure EqC (K : PySem.W.Frag) (C f : Addr) : Prop where
  eq : PySem.W.findIn K (.ref C) "__eq__" = some (some (.ref f))
  fn : PySem.W.isFn K (.ref f) = true
  ne : PySem.W.findIn K (.ref C) "__ne__" = some (some (.builtin "object.__ne__"))
  mro : PySem.W.mroIn K C (.type "object") = some true
def mEqO (k : Str) (mf : List D → M D) (ma mb : ME) : ME := fun ρ => M.bind (ma ρ) fun x => M.bind (mb ρ) fun y => match x, y with
  | .obj c ks ds, .obj c' ks' ds' => if c = k ∧ c' = k then M.bind (mf [.obj c ks ds, .obj c' ks' ds']) fun r => match r with
    | .bl b => M.pure (.bl b)
    | _ => lft none
    else lft none
  | _, _ => lft none
def mNeO (k : Str) (mf : List D → M D) (ma mb : ME) : ME := fun ρ => M.bind (ma ρ) fun x => M.bind (mb ρ) fun y => match x, y with
  | .obj c ks ds, .obj c' ks' ds' => if c = k ∧ c' = k then M.bind (mf [.obj c ks ds, .obj c' ks' ds']) fun r => match r with
    | .bl b => M.pure (.bl (!b))
    | _ => lft none
    else lft none
  | _, _ => lft none
/-- both operands are instances of the class at C, then its own == -/
def rOwn (C : Addr) (g : Bool → Bool) (sp : Sp) : R2 := fun x y H Q => ∃ a b dx dy fs gs, x = .ref a ∧ y = .ref b ∧ H a = some (.ins C dx fs) ∧ H b = some (.ins C dy gs) ∧ sp [.ref a, .ref b] H (fun v H' => ∃ c, v = .bl c ∧ Q (.bl (g c)) H') E0
section
variable {X : Cx} {k : Nat} {f C : Addr} {fd : FuncData} {ps : List Str} {sp : Sp}
theorem op_eqOwn (G : FnOk X.prog X.w X.K X.mg X.base CX0 k f fd ps sp) (hr : Room k X.A) (hb : Binds X.K fd ps []) (hc : EqC X.K C f) : OpR X (compareOp .Eq) (rOwn C id sp) := by
  intro pins s σ H x y v u Q I rx ry h
  obtain ⟨a, b, dx, dy, fs, gs, rfl, rfl, ha, hb', q⟩ := h
  cases rx
  cases ry
  obtain ⟨mA, J, _⟩ := ins_get I.hok ha
  obtain ⟨mB, J', _⟩ := ins_get I.hok hb'
  obtain ⟨od, J, _⟩ := J.look
  obtain ⟨od', J', _⟩ := J'.look
  obtain ⟨m, hF⟩ := I.fr
  show wpAny (model X.prog X.w) X.A (richCompare .Eq (.ref a) (.ref b)) (EP X pins σ Q) X.xe s
  refine PySem.W.cmp_K (op := .Eq) (tb := .ref C) hr.units0 hF I.ok.mod.kin J J'.type (by simp [PySem.W.notFirst]) hc.eq hc.fn ?_
  refine wpAny_mono (call_at (vs := [.ref a, .ref b]) G hr rfl hb I (.cons rfl (.cons rfl .nil)) q) (fun v s' z => ?_) fun _ _ z => z
  obtain ⟨w, H', I', rw, c, ew, qq⟩ := z
  subst ew
  cases rw
  exact ⟨.bl c, H', I', rfl, qq⟩
theorem op_neOwn (G : FnOk X.prog X.w X.K X.mg X.base CX0 k f fd ps sp) (hr : Room (k + 1) X.A) (hb : Binds X.K fd ps []) (hc : EqC X.K C f) : OpR X (compareOp .NotEq) (rOwn C (fun b => !b) sp) := by
  intro pins s σ H x y v u Q I rx ry h
  obtain ⟨a, b, dx, dy, fs, gs, rfl, rfl, ha, hb', q⟩ := h
  cases rx
  cases ry
  obtain ⟨mA, J, _⟩ := ins_get I.hok ha
  obtain ⟨mB, J', _⟩ := ins_get I.hok hb'
  obtain ⟨od, J, _⟩ := J.look
  obtain ⟨od', J', _⟩ := J'.look
  obtain ⟨m, hF⟩ := I.fr
  show wpAny (model X.prog X.w) X.A (richCompare .NotEq (.ref a) (.ref b)) (EP X pins σ Q) X.xe s
  refine PySem.W.mi_ne_K (tb := .ref C) (by have := hr.units; omega) hF I.ok.mod.kin J J'.type (by simp [PySem.W.notFirst]) hc.ne hc.eq hc.fn hc.mro ?_
  refine wpAny_mono (call_at (vs := [.ref a, .ref b]) G hr.in1 rfl hb I (.cons rfl (.cons rfl .nil)) q) (fun v s' z => ?_) fun _ _ z => z
  obtain ⟨w, H', I', rw, c, ew, qq⟩ := z
  subst ew
  cases rw
  exact ⟨c, rfl, .bl (!c), H', I', rfl, qq⟩
end
section
variable {X : Cx} {c : Cf} {k : Nat} {f : Addr} {fd : FuncData} {ps : List Str} {mf : List D → M D} {ck : Str} {a b : Expr} {ma mb : ME} {pos : Pos}
theorem dEqO (G : FnOk X.prog X.w X.K X.mg X.base CX0 k f fd ps (spM c.W 2 mf)) (hr : Room k X.A) (hb : Binds X.K fd ps []) (hc : EqC X.K (c.W.cl ck) f) (ha : DE X c a ma) (hb' : DE X c b mb) : DE X c (.Compare a [.Eq] [b] pos) (mEqO ck mf ma mb) :=
  (pe_cmpR (op_eqOwn G hr hb hc) ha hb' (nomark _)).imp fun σ H Q ⟨F, u, ρ, S, h⟩ =>
    ⟨F, u, ρ, S, (After.split h).imp fun x u1 F1 H1 _ s1 g1 h1 v rv => ⟨F1, u1, ρ, S.step s1 g1, (After.split h1).imp fun y u2 F2 H2 _ s2 g2 h2 w rw => by
      have rv := rv.mono s2.ef
      split at h2
      · split at h2
        · rename_i hh
          obtain ⟨rfl, e2⟩ := hh
          subst e2
          obtain ⟨p1, dx, vs, rfl, h3, _⟩ := id rv.obj_
          obtain ⟨p2, dy, ws, rfl, h4, _⟩ := id rw.obj_
          refine ⟨p1, p2, dx, dy, _, _, rfl, rfl, g2.ex _ _ h3, g2.ex _ _ h4, rfl, c.p, F2, u2, [_, _], g2, Reps.cons rv (Reps.cons rw Reps.nil), (After.split h2).imp fun d u3 F3 H3 _ s3 g3 h5 z rz => ?_⟩
          split at h5
          · rename_i bb _h
            have h6 : After c.p F3 H3 (some (D.bl bb, u3)) (fun d _ F' H' => ∀ v, Rep c.W c.p F' v d → Q v H') := h5
            exact ⟨bb, rz.bl_, After.now g3 h6 _ (.bl bb)⟩
          · exact False.elim h5
        · exact False.elim h2
      · exact False.elim h2⟩⟩
theorem dNeO (G : FnOk X.prog X.w X.K X.mg X.base CX0 k f fd ps (spM c.W 2 mf)) (hr : Room (k + 1) X.A) (hb : Binds X.K fd ps []) (hc : EqC X.K (c.W.cl ck) f) (ha : DE X c a ma) (hb' : DE X c b mb) : DE X c (.Compare a [.NotEq] [b] pos) (mNeO ck mf ma mb) :=
  (pe_cmpR (op_neOwn G hr hb hc) ha hb' (nomark _)).imp fun σ H Q ⟨F, u, ρ, S, h⟩ =>
    ⟨F, u, ρ, S, (After.split h).imp fun x u1 F1 H1 _ s1 g1 h1 v rv => ⟨F1, u1, ρ, S.step s1 g1, (After.split h1).imp fun y u2 F2 H2 _ s2 g2 h2 w rw => by
      have rv := rv.mono s2.ef
      split at h2
      · split at h2
        · rename_i hh
          obtain ⟨rfl, e2⟩ := hh
          subst e2
          obtain ⟨p1, dx, vs, rfl, h3, _⟩ := id rv.obj_
          obtain ⟨p2, dy, ws, rfl, h4, _⟩ := id rw.obj_
          refine ⟨p1, p2, dx, dy, _, _, rfl, rfl, g2.ex _ _ h3, g2.ex _ _ h4, rfl, c.p, F2, u2, [_, _], g2, Reps.cons rv (Reps.cons rw Reps.nil), (After.split h2).imp fun d u3 F3 H3 _ s3 g3 h5 z rz => ?_⟩
          split at h5
          · rename_i bb _h
            have h6 : After c.p F3 H3 (some (D.bl (!bb), u3)) (fun d _ F' H' => ∀ v, Rep c.W c.p F' v d → Q v H') := h5
            exact ⟨bb, rz.bl_, After.now g3 h6 _ (.bl _)⟩
          · exact False.elim h5
        · exact False.elim h2
      · exact False.elim h2⟩⟩

/-! ### len of an object -/
def mLenOb (k : Str) (mf : List D → M D) (mo : ME) : ME := fun ρ => M.bind (mo ρ) fun d => match d with
  | .obj c ks ds => if c = k then M.bind (mf [.obj c ks ds]) fun r => match r with
    | .int n => if 0 ≤ n ∧ n ≤ 100000 then M.pure (.int n) else lft none
    | _ => lft none
    else lft none
  | _ => lft none
def rLenOb (C : Addr) (sp : Sp) : List V → Hp → VK → Prop := fun xs H Q => ∃ a dx fs, xs = [.ref a] ∧ H a = some (.ins C dx fs) ∧ sp [.ref a] H (fun v H' => ∃ n : Int, v = .int n ∧ 0 ≤ n ∧ n ≤ 100000 ∧ Q (.int n) H') E0
theorem call_lenOb {sp : Sp} {C : Addr} (G : FnOk X.prog X.w X.K X.mg X.base CX0 k f fd ps sp) (hr : Room (k + 1) X.A) (hb : Binds X.K fd ps []) (hs : PySem.W.findIn X.K (.ref C) "__len__" = some (some (.ref f))) (hf : PySem.W.isFn X.K (.ref f) = true) : CallR X (.builtin "len") (rLenOb C sp) := by
  intro pins s σ H vs us Q I r h
  obtain ⟨a, dx, fs, rfl, ha, q⟩ := h
  obtain ⟨u1, rfl, ru⟩ := Vals.one r
  cases ru
  obtain ⟨mA, J, _⟩ := ins_get I.hok ha
  obtain ⟨od, J, _⟩ := J.look
  obtain ⟨m, hF⟩ := I.fr
  refine PySem.W.len_K hF I.ok.mod.kin J hs hf ?_
  refine wpAny_mono (call_at (vs := [.ref a]) G hr.in1 rfl hb I (.cons rfl .nil) q) (fun v s' z => ?_) fun _ _ z => z
  obtain ⟨w, H', I', rw, n, ew, h0, h1, qq⟩ := z
  subst ew
  obtain ⟨t, rfl⟩ := rw
  exact ⟨⟨h0, by omega⟩, .int n, H', I'.tok _, ⟨_, rfl⟩, qq⟩
theorem dLenOb {x : Str} {p0 : Pos} (G : FnOk X.prog X.w X.K X.mg X.base CX0 k f fd ps (spM c.W 1 mf)) (hr : Room (k + 1) X.A) (hb : Binds X.K fd ps []) (hs : PySem.W.findIn X.K (.ref (c.W.cl ck)) "__len__" = some (some (.ref f))) (hf : PySem.W.isFn X.K (.ref f) = true)
    (hg : Gl X "len") (hm : X.mg "len" = none) (ha : DE X c a ma) (he : starEach [a] X.env = (false, eval a X.env) :: starEach [] X.env := by rfl) : DE X c (.Call (.Name "len" p0) [a] [] pos) (mLenOb ck mf ma) :=
  (pe_callB (call_lenOb G hr hb hs hf) hg hm PySem.boot_len (pa_cons ha pa_nil he) (by decide) (by decide) he rfl).imp fun σ H Q ⟨F, u, ρ, S, h⟩ =>
    ⟨F, u, ρ, S, (After.split h).imp fun x u1 F1 H1 _ s1 g1 h1 v rv => by
      split at h1
      · split at h1
        · rename_i hh
          subst hh
          obtain ⟨p1, dx, vs, rfl, h3, _⟩ := id rv.obj_
          refine ⟨p1, dx, _, rfl, g1.ex _ _ h3, rfl, c.p, F1, u1, [_], g1, Reps.cons rv Reps.nil, (After.split h1).imp fun d u3 F3 H3 _ s3 g3 h5 z rz => ?_⟩
          split at h5
          · rename_i n _h
            split at h5
            · rename_i hn
              have h6 : After c.p F3 H3 (some (D.int n, u3)) (fun d _ F' H' => ∀ v, Rep c.W c.p F' v d → Q v H') := h5
              exact ⟨n, rz.int_, hn.1, hn.2, After.now g3 h6 _ (.int n)⟩
            · exact False.elim h5
          · exact False.elim h5
        · exact False.elim h1
      · exact False.elim h1⟩
end

/-! ### static methods called off the class -/
/-- C.m is a static method: its record at q, its def at g -/
structure SMet (K : PySem.W.Frag) (C : Addr) (mc : Value) (m : Str) (q g : Addr) : Prop where
  rd : PySem.W.readsIn K C mc = true
  ga : PySem.W.specialIn K (.ref C) "__getattribute__" = some (some (.builtin "type.__getattribute__"))
  at_ : PySem.W.findCls K (.ref C) mc m = some (.get (.builtin "staticmethod.__get__") (.ref q) .none (.ref C))
  rc : ∃ rest, PySem.W.recIn K q "staticmethod" = some (.ref g :: rest)
  kp : PySem.W.keepIn K (.ref g) = true
def tSMeth (C : Addr) (sp : Sp) (E : XK) (ta : TE) (t : TA) : TE := fun σ H Q => ta σ H fun x H1 => x = .ref C ∧ t σ H1 fun vs H2 => sp vs H2 Q E
section
variable {X : Cx} {c : Cf} {k n : Nat} {C q g : Addr} {mc : Value} {sp : Sp} {fd : FuncData} {ps ks : List Str} {o e : Expr} {es : List Expr} {kws : List Keyword} {m : Str} {pos apos : Pos} {ta : TE} {t tk : TA} {pl : Sem Bool}
theorem getsm_ok {pins : List (Addr × Obj)} {σ : L2.St} {H : Hp} {s : Shared} {A : Around} {E : Value → Shared → Prop} {Q : Value × List Value → Shared → Prop} (I : Inv X pins σ H s) (r : SMet X.K C mc m q g) (h : ∀ s', Inv X pins σ H s' → Q (.ref g, []) s') :
    wpAny (model X.prog X.w) A (getMethod (.ref C) m pl) Q E s := by
  obtain ⟨rest, hp⟩ := r.rc
  refine PySem.W.method_cls I.kIn r.ga (PySem.W.cls_bind I.kIn r.rd r.at_ ?_)
  exact wpAny_call (PySem.W.sm_get (s := { s with toks := s.toks + 1 }) I.kIn hp (PySem.W.handed_on rfl (h _ (I.tok _))))
theorem pe_smeth (he : PE X o ta) (r : SMet X.K C mc m q g) (G : FnOk X.prog X.w X.K X.mg X.base CX0 k g fd ps sp) (hr : Room k X.A) (hb : Binds X.K fd ps []) (ha : PA X (e :: es) t)
    (hst : starEach (e :: es) X.env = (false, eval e X.env) :: starEach es X.env := by rfl) (hpl : (backTo pos (starEach es X.env)).any (·.1) = false := by rfl)
    (ht : eval (.Call (.Attribute o m apos) (e :: es) [] pos) X.env = (do
      let ov ← eval o X.env
      standAt apos.atName
      let (f, first) ← holding [ov] (getMethod ov m pl)
      callWith pos f first (backTo pos (starEach (e :: es) X.env)) (backToKw pos (keywordEach [] X.env))) := by rfl) :
    PE X (.Call (.Attribute o m apos) (e :: es) [] pos) (tSMeth C sp E0 ta t) := by
  refine ⟨fun pins s σ H Q I h => ?_⟩
  refine PySem.W.methodCall_KW (pl := pl) (thn (he.run pins s σ H _ I h) fun u s1 ⟨x, H1, I1, rx, ex, q1⟩ => ?_) ht
  subst ex
  obtain rfl : u = Value.ref C := rx
  refine getsm_ok I1 r fun s2 I2 => ?_
  refine PySem.W.callWith_K (first := []) (h₀ := X.base) I.ok.mod.kin r.kp (thn (ha.run pos pins s2 σ H1 _ I2 q1) fun us s3 ⟨vs, H2, I3, rv, q2⟩ => ⟨I3.kIn, ?_⟩) hst hpl
  have := run_fn (us := us) (vs := vs) (dvs := []) (ds := []) G hr hb .nil pass0 I3 rv (by rw [List.append_nil]; exact q2)
  simpa using this
theorem dSMeth {ck : Str} {mo : ME} {ms : MA} {mf : List D → M D} (he : DE X c o mo) (r : SMet X.K (c.W.cl ck) mc m q g) (G : FnOk X.prog X.w X.K X.mg X.base CX0 k g fd ps (spM c.W n mf)) (hr : Room k X.A) (hb : Binds X.K fd ps []) (ha : DA X c (e :: es) ms) (hmo : mo = mC (.cls ck))
    (hst : starEach (e :: es) X.env = (false, eval e X.env) :: starEach es X.env := by rfl) (hpl : (backTo pos (starEach es X.env)).any (·.1) = false := by rfl)
    (ht : eval (.Call (.Attribute o m apos) (e :: es) [] pos) X.env = (do
      let ov ← eval o X.env
      standAt apos.atName
      let (f, first) ← holding [ov] (getMethod ov m pl)
      callWith pos f first (backTo pos (starEach (e :: es) X.env)) (backToKw pos (keywordEach [] X.env))) := by rfl) :
    DE X c (.Call (.Attribute o m apos) (e :: es) [] pos) (mCall n mf ms) :=
  (pe_smeth he r G hr hb ha hst hpl ht).imp fun σ H Q ⟨F, u, ρ, S, h⟩ => by
    subst hmo
    refine ⟨F, u, ρ, S, fun F1 H1 s1 g1 v rv => ⟨by cases rv; rfl, F1, u, ρ, S.step s1 g1, ?_⟩⟩
    have h' := After.split (p := c.p) (F := F) (H := H) h
    have h2 : After c.p F1 H1 (ms ρ u) fun a u1 F1 H1 => After c.p F1 H1 ((if a.length = n then mf a else lft none) u1) fun d _ F' H' => ∀ v, Rep c.W c.p F' v d → Q v H' := by
      cases e1 : ms ρ u with
      | none => rw [e1] at h'; exact h'
      | some y =>
        obtain ⟨ds, u1⟩ := y
        rw [e1] at h'
        exact fun F2 H2 s2 g2 => h' F2 H2 (s1.trans g1.ne s2) g2
    exact h2.imp fun ds u1 F2 H2 _ s2 g2 h3 vs rvs => call_ok g2 rvs h3
end

/-! ### objects made -/
def spI (W : Wo) (ck : Str) (n : Nat) (mf : List D → M (List Str × List D)) : Sp := fun vs H Q _ => vs.length = n + 1 ∧ ∃ p F u H1 x dx ws ds, vs = .ref x :: ws ∧ H1 x = none ∧ H1 dx = none ∧ dx ≠ x ∧
  H = upd (upd H1 dx (.own x)) x (.ins (W.cl ck) dx []) ∧ Gd p u F H1 ∧ Reps W p F ws ds ∧ After p F H1 (mf ds u) fun r _ F' H' => ∀ dx' vs', F' x = none → H' x = some (.ins (W.cl ck) dx' (r.1.zip vs')) → r.1.length = vs'.length → Reps W p F' vs' r.2 → Q .non H'
def startI (n : Nat) (ck : Str) (ds : List D) : Env := .oi ck [] [] :: startE (n - 1) ds
def mInit (n : Nat) (ck : Str) (mb : MS) : List D → M (List Str × List D) := fun ds u => match mb (startI n ck ds) u with
  | some (.nx ρ', u') => match (ρ'[0]? : Option Sd) with
    | some (Sd.oi k ks es) => if k = ck then some ((ks, es), u') else none
    | _ => none
  | _ => none
section
variable {P : Program} {w : World} {K : PySem.W.Frag} {mg : Str → Option Value} {base : Heap} {x qual : Str} {params : Arguments} {body : List Stmt} {scope : Scope} {dvs : List V} {kws : List (Str × V)} {f : Addr} {fd : FuncData} {W : Wo} {N ps : List Str} {k n : Nat} {mb : MS} {ck nm : Str}
theorem fn_init (F : FunD K x qual params body scope dvs kws f fd) (S : FnScope (nm :: N) ps scope) (hl : ps.length = n + 1)
    (hb : ∀ (cdv : Value) (A : Around) (outer : List PySem.Env) (s : Shared) (H : Hp) (E : XK) (p : Addr) (F0 H0 : Hp) (sf : Addr), Room k (A.deeper (envOfC qual scope s.heap.objs.size f cdv)) → DB (cxOf CX0 P w K mg base (nm :: N) qual scope f cdv A outer s H E).nox ⟨W, p, F0, H0, sf, noX⟩ body mb) :
    FnOk P w K mg base CX0 (k + 1) f fd ps (spI W ck n (mInit (N.length + 1) ck mb)) := by
  refine F.ok S (fun vs H Q E h => h.1.trans hl.symm) (fun cdv A outer s H vs Q E hr h => ?_)
  obtain ⟨hlen, p, F0, u, H1, x, dx, ws, ds, rfl, hx, hdx, hne, rfl, g, r, h⟩ := h
  have hpx : p ≠ x := fun z => g.ne (z ▸ hx)
  have hpd : p ≠ dx := fun z => g.ne (z ▸ hdx)
  have s1 : Stp p F0 H1 F0 (upd (upd H1 dx (.own x)) x (.ins (W.cl ck) dx [])) := ⟨fun _ _ e => e, fun a o _ e _ => by rw [upd_ne (ne_of_none e hx), upd_ne (ne_of_none e hdx)]; exact e, fun a ps _ e => ⟨ps, by rw [upd_ne (ne_of_none e hx), upd_ne (ne_of_none e hdx)]; exact e⟩, fun _ _ e => .inl e⟩
  have g1 : Gd p u F0 (upd (upd H1 dx (.own x)) x (.ins (W.cl ck) dx [])) := ⟨fun a o e => by rw [upd_ne (ne_of_none (g.ex a o e) hx), upd_ne (ne_of_none (g.ex a o e) hdx)]; exact g.ex a o e, by rw [upd_ne hpx, upd_ne hpd]; exact g.pu, g.off, g.nt, g.tb.ext fun b o e => by rw [upd_ne (ne_of_none e hx), upd_ne (ne_of_none e hdx)]; exact e, g.hp⟩
  have hFx : F0 x = none := g.fresh hx
  refine ⟨_, PSs.nox (hb cdv A outer s _ E p F0 H1 x hr), F0, u, startI (N.length + 1) ck ds, ⟨s1, g1, ?_⟩, ?_⟩
  · have e0 := env_start (c := ⟨W, p, F0, H1, x, noX⟩) (H := upd (upd H1 dx (.own x)) x (.ins (W.cl ck) dx [])) (N := N) r
    have es : L2.start (nm :: N) (.ref x :: ws) = some (.ref x) :: L2.start N ws := by
      unfold L2.start
      rw [List.length_cons, List.length_cons, Nat.add_sub_add_right]
      rfl
    have er : startI (N.length + 1) ck ds = .oi ck [] [] :: startE N.length ds := rfl
    rw [es, er]
    have nown : ∀ {i : Nat} {s : Sd}, (startE N.length ds)[i]? = some s → s.own = false := fun {i s} e => by
      unfold startE at e
      by_cases hi : i < (ds.map Sd.sh).length
      · rw [List.getElem?_append_left hi, List.getElem?_map] at e
        cases q : ds[i]? with
        | none => rw [q] at e; cases e
        | some d => rw [q] at e; cases e; rfl
      · rw [List.getElem?_append_right (by omega), List.getElem?_replicate] at e
        split at e
        · cases e; rfl
        · cases e
    refine ⟨by simp [e0.len], fun i t e => ?_, fun i j t t' hij e1 e2 o1 o2 => ?_⟩
    · cases i with
      | zero =>
        simp at e
        subst e
        exact ⟨dx, [], rfl, upd_same, hFx, Ne.symm hpx, hx, rfl, Reps.nil⟩
      | succ i => exact e0.at_ i t (by simpa using e)
    · cases i with
      | zero =>
        cases j with
        | zero => exact absurd rfl hij
        | succ j => rw [nown (by simpa using e2)] at o2; cases o2
      | succ i => rw [nown (by simpa using e1)] at o1; cases o1
  · unfold mInit at h
    cases e : mb (startI (N.length + 1) ck ds) u with
    | none => rw [e] at h; exact h
    | some y =>
      obtain ⟨fl, u1⟩ := y
      rw [e] at h
      cases fl with
      | nx ρ' =>
        intro σ' F' H' _ S'
        have h' : After p F0 H1 (match (ρ'[0]? : Option Sd) with
          | some (Sd.oi k ks es) => if k = ck then some ((ks, es), u1) else none
          | _ => none) fun r _ F' H' => ∀ dx' vs', F' x = none → H' x = some (.ins (W.cl ck) dx' (r.1.zip vs')) → r.1.length = vs'.length → Reps W p F' vs' r.2 → Q .non H' := h
        split at h'
        · rename_i k' ks es e0
          split at h'
          · rename_i hk
            subst hk
            obtain ⟨dx', vs', _, h2, h3, _, _, h5, h6⟩ := S'.env.at_ 0 _ e0
            exact h' F' H' S'.ent S'.gd dx' vs' h3 h2 h5 h6
          · exact False.elim h'
        · exact False.elim h'
      | _ => exact False.elim h
end
/-- self.f = e -/
def mSelfSet (i : Nat) (ck fn : Str) (m : ME) : MS := fun ρ => M.bind (m ρ) fun d => M.bind (lft (match (ρ[i]? : Option Sd) with
  | some (Sd.oi k ks es) => if k = ck ∧ fn ∉ ks ∧ ks.length < 900 then some (ks, es) else none
  | _ => none)) fun q => M.pure (.nx (ρ.set i (.oi ck (q.1 ++ [fn]) (q.2 ++ [d]))))
theorem putF_zip {fn : Str} {y : V} : ∀ {ks : List Str} {vs : List V}, fn ∉ ks → ks.length = vs.length → putF fn y (ks.zip vs) = (ks ++ [fn]).zip (vs ++ [y])
  | [], vs, _, hl => by
    have : vs = [] := List.eq_nil_of_length_eq_zero (by simpa using hl.symm)
    subst this
    rfl
  | a :: ks, [], _, hl => by simp at hl
  | a :: ks, b :: vs, h, hl => by
    show (if a = fn then _ else (a, b) :: putF fn y (ks.zip vs)) = _
    rw [if_neg (fun z => h (by simp [z])), putF_zip (fun z => h (List.mem_cons_of_mem _ z)) (by simpa using hl)]
    rfl
section
variable {X : Cx} {c : Cf} {pos p0 tp : Pos} {e : Expr} {m : ME} {ck fn x : Str}
theorem dSelfSet (i : Nat) (hc : Cls X.K (c.W.cl ck)) (hn : NoAttr X.K (c.W.cl ck) fn) (he : DE X c e m) (hN : X.N[i]? = some x := by rfl) (hv : Vis X.env.scope x := by first | exact Or.inl rfl | exact Or.inr (Or.inl rfl) | exact Or.inr (Or.inr rfl)) (hd : (x == ("__debug__" : Str)) = false := by decide)
    (hcd : (x == ("__classdict__" : Str)) = false := by decide) (hs : swapsWith e (some (.Attribute (.Name x p0) fn tp)) pos.line X.env = pure false := by rfl) : DS X c (.Assign [.Attribute (.Name x p0) fn tp] e pos) (mSelfSet i ck fn m) :=
  (ps_fld (pe_var (i := i) hN hv hd hcd) he hs).imp fun Dn σ H ⟨F, u, ρ, S, h⟩ => ⟨F, u, ρ, S, (flowO.after S h).imp fun d u1 F1 H1 _ s1 g1 h1 v rv => by
    obtain ⟨⟨ks, es⟩, e1, h2⟩ := flowO.lft h1.1 h1.2
    split at e1
    · rename_i k' ks' es' e0
      split at e1
      · rename_i hh
        obtain ⟨rfl, hf, hl⟩ := hh
        cases e1
        have S1 := h1.1
        obtain ⟨dx, vs, q1, q2, q3, q4, q5, q6, q7⟩ := id (S1.env.at_ i _ e0)
        refine ⟨.ref c.sf, q1, c.sf, _, dx, _, rfl, q2, hc, hn, by rw [List.length_zip]; omega, h2 σ F1 _ (Same.refl _) ?_⟩
        rw [putF_zip hf q6]
        have qs : ∀ {j : Nat} {t : Sd} {a : Addr}, i ≠ j → ρ[j]? = some t → t.own = true → σ[j]? = some (some (.ref a)) → a ≠ c.sf := fun {j t a} ne e2 o z h => by
          subst h
          exact S1.env.ne i j _ t ne e0 e2 rfl o (q1.trans z.symm)
        refine ⟨⟨S1.ent.ef, fun a o ha e n => ?_, fun a ps ha e => by
          obtain ⟨qs, e1⟩ := S1.ent.et a ps ha e
          exact ⟨qs, by rw [upd_ne (fun z => by rw [z, q5] at e; cases e)]; exact e1⟩, S1.ent.nw⟩, ⟨fun a o e => ?_, by rw [upd_ne (Ne.symm q4)]; exact S1.gd.pu, S1.gd.off, S1.gd.nt, tabs_overI q2 S1.gd.tb, S1.gd.hp⟩, by simpa using S1.env.len, fun j t e2 => ?_, fun j k t t' h e1 e2 o1 o2 => ?_⟩
        · rw [upd_ne (fun z => by rw [z, q5] at e; cases e)]; exact S1.ent.eh a o ha e n
        · rw [upd_ne (fun z => by rw [z, q3] at e; cases e)]; exact S1.gd.ex a o e
        · rcases set_get e2 with ⟨rfl, rfl, _⟩ | ⟨ne, e2⟩
          · exact ⟨dx, vs ++ [v], q1, upd_same, q3, q4, q5, by simp [q6], q7.append (Reps.cons rv Reps.nil)⟩
          · have k := S1.env.at_ j t e2
            cases t with
            | un => trivial
            | sh d => exact k
            | ow ds' => obtain ⟨a, xs, z, ha, rest⟩ := k; exact ⟨a, xs, z, by rw [upd_ne (qs ne e2 rfl z)]; exact ha, rest⟩
            | oi kk ks' ds' => obtain ⟨dx', xs, z, ha, rest⟩ := k; exact absurd rfl (qs ne e2 rfl z)
        · have back : ∀ {m : Nat} {y : Sd}, (ρ.set i (Sd.oi k' (ks ++ [fn]) (es ++ [d])))[m]? = some y → y.own = true → ∃ y', ρ[m]? = some y' ∧ y'.own = true := fun {m y} z o => by
            rcases set_get z with ⟨rfl, rfl, _⟩ | ⟨_, z⟩
            · exact ⟨_, e0, rfl⟩
            · exact ⟨y, z, o⟩
          obtain ⟨y1, z1, p1⟩ := back e1 o1
          obtain ⟨y2, z2, p2⟩ := back e2 o2
          exact S1.env.ne j k y1 y2 h z1 z2 p1 p2
      · cases e1
    · cases e1⟩
end
/-- C(e, ..) -/
def mMake (ck : Str) (n : Nat) (mf : List D → M (List Str × List D)) (ms : MA) : ME := fun ρ => M.bind (ms ρ) fun ds => if ds.length = n then M.bind (mf ds) fun r => M.pure (.obj ck r.1 r.2) else lft none
section
variable {X : Cx} {c : Cf} {k n : Nat} {f : Addr} {fd : FuncData} {ps : List Str} {x ck : Str} {p pos : Pos} {e : Expr} {es : List Expr} {ms : MA} {mf : List D → M (List Str × List D)}
theorem make_ok {p : Addr} {F1 H1 : Hp} {u1 : PuS} {vs : List V} {ds : List D} {W : Wo} {Q : VK} (hc : ck ∈ W.cs) (g1 : Gd p u1 F1 H1) (rvs : Reps W p F1 vs ds) (h1 : After p F1 H1 ((if ds.length = n then M.bind (mf ds) fun r => M.pure (D.obj ck r.1 r.2) else lft none) u1) fun d _ F' H' => ∀ v, Rep W p F' v d → Q v H')
    (a dx : Addr) (ha : H1 a = none) (hdx : H1 dx = none) (hne : dx ≠ a) : spI W ck n mf (.ref a :: vs) (upd (upd H1 dx (.own a)) a (.ins (W.cl ck) dx [])) (fun v H2 => v = .non ∧ Q (.ref a) H2) E0 := by
  split at h1
  · rename_i hl
    refine ⟨by simp [rvs.1, hl], p, F1, u1, H1, a, dx, vs, ds, rfl, ha, hdx, hne, rfl, g1, rvs, ?_⟩
    unfold M.bind at h1
    cases e1 : mf ds u1 with
    | none => rw [e1] at h1; exact h1
    | some y =>
      obtain ⟨r, u2⟩ := y
      rw [e1] at h1
      have h2 : After p F1 H1 (some (D.obj ck r.1 r.2, u2)) fun d _ F' H' => ∀ v, Rep W p F' v d → Q v H' := h1
      intro F' H' s' g' dx' vs' hF hH hlk hr
      have hsm : Same F' (upd F' a (.ins (W.cl ck) dx' (r.1.zip vs'))) := fun b o e => by rw [upd_ne (fun z => by rw [z, hF] at e; cases e)]; exact e
      have hpa : p ≠ a := fun z => g1.ne (z ▸ ha)
      refine ⟨rfl, h2 (upd F' a (.ins (W.cl ck) dx' (r.1.zip vs'))) H' ⟨s'.ef.trans hsm, s'.eh, s'.et, fun b o e => ?_⟩ ⟨fun b o e => ?_, g'.pu, fun l e => by rw [upd_ne hpa]; exact g'.off l e, nt_upd g'.nt (by intro _ z; cases z), g'.tb, g'.hp⟩ (.ref a) (.obj hc upd_same hlk hr.1 fun i v d x y => (hr.2 i v d x y).mono hsm)⟩
      · by_cases hb : b = a
        · subst hb; exact .inr ha
        · rw [upd_ne hb] at e; exact s'.nw b o e
      · by_cases hb : b = a
        · subst hb; rw [upd_same] at e; cases e; exact hH
        · rw [upd_ne hb] at e; exact g'.ex b o e
  · exact False.elim h1
theorem dMake (hc : ck ∈ c.W.cs) (Mk' : Mk X.K (c.W.cl ck) f) (G : FnOk X.prog X.w X.K X.mg X.base CX0 k f fd ps (spI c.W ck n mf)) (hr : Room (k + 1) X.A) (hg : Gl X x) (hm : X.mg x = some (.ref (c.W.cl ck))) (hb : Binds X.K fd ps [])
    (ha : DA X c (e :: es) ms) (hdb : (x == ("__debug__" : Str)) = false := by decide) (he : starEach (e :: es) X.env = (false, eval e X.env) :: starEach es X.env := by rfl) (hpl : (backTo pos (starEach es X.env)).any (·.1) = false := by rfl) :
    DE X c (.Call (.Name x p) (e :: es) [] pos) (mMake ck n mf ms) :=
  (pe_make Mk' G hr hg hm hb .nil pass0 ha hdb he hpl).imp fun σ H Q ⟨F, u, ρ, S, h⟩ => ⟨F, u, ρ, S, (After.split h).imp fun ds u1 F1 H1 _ s1 g1 h1 vs rvs => by
    intro a dx ha hdx hne
    show spI c.W ck n mf (.ref a :: (vs ++ [])) _ _ _
    rw [List.append_nil]
    exact make_ok hc g1 rvs h1 a dx ha hdx hne⟩
end
end Mi

set_option Elab.async false
set_option linter.all false
set_option maxRecDepth 100000
set_option maxHeartbeats 4000000
/-! Mi9: enumerate and zip of tuples. -/
namespace PySem
theorem mi_meets_enum1 {v : Value} {o : Obj} {H : Heap → Prop} (B : Begins v o H) :
    Meets (Builtin.«enumerate.__new__» ⟨[.type "enumerate", v], []⟩) (fun _ R s => H s.heap ∧
      R (.ok (.ret (.ref (s.heap.push o).objs.size))) { s with heap := (s.heap.push o).push { cls := .type "enumerate", data := .fields #[.none, .bool false, .ref s.heap.objs.size, rawInt 0, .none, .none] } }) :=
  .of_wp fun prog w A R s h => by
    obtain ⟨hp, g, d, tk, os⟩ := s; obtain ⟨h1, h⟩ := h
    have hsub := sub_enumerate
    have q1 : ∀ {A' : Around} {E : Value → Shared → Prop} {Q : Value → Shared → Prop}, Q (.ref hp.objs.size) ⟨hp.push o, g, d, tk, os⟩ → wpAny (model prog w) A' (pyIter v) Q E ⟨hp, g, d, tk, os⟩ :=
      fun q => B.iter prog w _ _ ⟨hp, g, d, tk, os⟩ _ h1 q
    wp_walk using q1
    refine wpAny_stack_any fun st => wpAny_pure ?_
    split
    · rename_i c _ _ _ _ _
      cases (c == Value.type "enumerate")
      · wp_walk using q1
        exact ⟨_, rfl, h⟩
      · wp_walk using q1
        exact ⟨_, rfl, h⟩
    · wp_walk using q1
      exact ⟨_, rfl, h⟩
theorem mi_enum_begins1 {prog : Program} {w : World} {A : Around} {E : Value → Shared → Prop} {s : Shared} {v : Value} {o : Obj} {H : Heap → Prop} {Q : Value → Shared → Prop} (B : Begins v o H) (h1 : H s.heap)
    (h : ∀ h', IsEnum h' (s.heap.objs.size + 1) s.heap.objs.size 0 .none → h'.get? s.heap.objs.size = some o → h'.objs.size = s.heap.objs.size + 2 →
      (∀ b o, s.heap.get? b = some o → h'.get? b = some o) → Q (.ref (s.heap.objs.size + 1)) { s with heap := h' }) :
    wpAny (model prog w) A (call (.type "enumerate") [v]) Q E s := by
  refine callType_new F.called_enumerate (by decide) (F.typeCall_enumerate_1 _) (F.newCall_enumerate_1 _) (fun obj => F.args_object_init_2 obj _) F.entry_enumerate_new
    (mi_meets_enum1 B) ⟨h1, ?_⟩
  have hz : (s.heap.push o).objs.size = s.heap.objs.size + 1 := Heap.size_push ..
  show _ ∧ _
  rw [hz]
  have he : IsEnum ((s.heap.push o).push { cls := .type "enumerate", data := .fields #[.none, .bool false, .ref s.heap.objs.size, rawInt 0, .none, .none] }) (s.heap.objs.size + 1) s.heap.objs.size 0 .none := by
    have := Heap.get?_push_size (s.heap.push o) (o := { cls := .type "enumerate", data := .fields #[.none, .bool false, .ref s.heap.objs.size, rawInt 0, .none, .none] }) rfl
    rw [hz] at this; exact this
  refine ⟨⟨_, he, rfl⟩, h _ he (Heap.get?_push_of_some _ (Heap.get?_push_size _ B.free)) (by rw [Heap.size_push, hz]) fun b o x => Heap.get?_push_of_some _ (Heap.get?_push_of_some _ x)⟩
end PySem

namespace Mi
open PySem PySem.Spec PyProof.Rows L2
variable [TB : Tabl]
/-- the tuple at a, each item in a new pair -/
def IteT (K : PySem.W.Frag) (a : Addr) : It :=
  ⟨fun i H => ∃ (xs : List V) (x : V), SqT K H a xs ∧ xs[i]? = some x, fun i H v H' => ∃ T x, v = .ref T ∧ H T = none ∧ H' = upd H T (.tup [.int (i : Nat), x]) ∧ ∀ xs, SqT K H a xs → xs[i]? = some x, fun i H => ∃ xs : List V, SqT K H a xs ∧ xs.length ≤ i⟩
theorem turn_enumT {P : Program} {w : World} {K : PySem.W.Frag} {elts : List Expr} {kk : Nat} {tpos : Pos} (a e it : Addr) (hai : a ≠ it) (hae : a ≠ e) :
    Turn P w K (.Tuple elts kk tpos) (IteT K a) [e, it] e (fun i h => (∃ old, IsEnum h e it ((i : Nat) : Int) old) ∧ h.IsTupleIter it a i ∧ e ≠ it) where
  mem := by simp
  obj := fun i h st b hb => by
    obtain ⟨⟨old, he⟩, ⟨o, ho, hc, hd⟩, _⟩ := st
    have e' : b = e ∨ b = it := by simpa using hb
    rcases e' with z | z
    · rw [z]; exact ⟨_, he, fun v q => nomatch q⟩
    · rw [z]; exact ⟨o, ho, fun v q => by rw [hd] at q; cases q⟩
  keep := fun i h h' st k => let ⟨⟨old, he⟩, hi, hne⟩ := st; ⟨⟨old, k e (by simp) _ he⟩, hi.at fun o q => k it (by simp) o q, hne⟩
  item := by
    intro X hP hw hK hc i pins s σ H E I hf st hg
    subst hP hw hK
    obtain ⟨⟨old, he⟩, hit, hne⟩ := st
    obtain ⟨xs, x, hq, hx⟩ := hg
    obtain ⟨its, rv, p, hz⟩ := I.tuple hq
    obtain ⟨u, hu, ru⟩ := rv.get hx
    have hel : e < s.heap.objs.size := Heap.lt_size he
    have hil : it < s.heap.objs.size := by obtain ⟨_, q, _⟩ := hit; exact Heap.lt_size q
    have hlt : i < its.toArray.size := by
      have := (List.getElem?_eq_some_iff.mp hu).1
      simpa using this
    have hnf : e ∉ [it, a] := by simp [hne, Ne.symm hae]
    refine wpAny_pyNext_enum_itemD (Draws.tuple (A := X.A.in1) (I.ok.hd hc) it a hai its.toArray) he ⟨hit, p⟩ hlt hne hnf fun x' h' tk hP ho hst' hT hsz hk => ?_
    have ex : x' = u := by
      have e1 : its[i]? = some x' := by simpa using hP
      rw [hu] at e1
      exact (Option.some.inj e1).symm
    subst ex
    refine ⟨_, rfl, wpAny_letOwnedTupleGo_enum (s := { s with heap := h', toks := tk + 1 }) ho fun h'' he' sb => ?_⟩
    have hT2 : h''.get? s.heap.objs.size = some { cls := .type "tuple", data := .seq #[.int i tk, x'] } := (sb.2 _ (Nat.ne_of_gt hel)).trans hT
    have new : ObjOk X.prog X.w (upd H s.heap.objs.size (.tup [.int (i : Nat), x])) h'' s.heap.objs.size (.tup [.int (i : Nat), x]) :=
      ⟨by show 2 ≤ sizeLine; decide, [.int i tk, x'], .cons ⟨_, rfl⟩ (.cons ru .nil), ⟨_, hT2, rfl, _, rfl⟩⟩
    have I1 : Inv X pins σ (upd H s.heap.objs.size (.tup [.int (i : Nat), x])) { s with heap := h'', toks := tk + 1 } :=
      I.turnedNew (ch := [e, it]) (fun b ob hb q => (sb.2 b (fun z => hb (by simp [z]))).trans (hk b ob (fun z => hb (by simp [z])) (fun z => hb (by simp [z])) q)) hf (Nat.le_refl _) new
    refine ⟨.ref s.heap.objs.size, _, I1, rfl, ⟨_, x, rfl, I.hok.fresh (Nat.le_refl _), rfl, fun ys hy => by rw [I.tuple_inj hy hq]; exact hx⟩, ⟨⟨x', ?_⟩, hst'.1.at fun o q => (sb.2 it (Ne.symm hne)).trans q, hne⟩, fun b hb => ?_⟩
    · have e1 : ((i + 1 : Nat) : Int) = (i : Int) + 1 := by omega
      rw [e1]; exact he'
    · have hb' : b < s.heap.objs.size := by
        have e' : b = e ∨ b = it := by simpa using hb
        rcases e' with z | z
        · rw [z]; exact hel
        · rw [z]; exact hil
      rw [upd_ne (Nat.ne_of_lt hb')]
      exact (hf b hb).1
  done := by
    intro X hP hw hK hc i pins s σ H E I hf st hg
    subst hP hw hK
    obtain ⟨⟨old, he⟩, hit, hne⟩ := st
    obtain ⟨xs, hq, hx⟩ := hg
    obtain ⟨its, rv, p, hz⟩ := I.tuple hq
    obtain ⟨f0, f1, f2, f3, f4, f5⟩ := hf it (by simp)
    have hl := rv.length
    have hT : s.TypeIs (.ref e) "enumerate" := ⟨_, he, rfl⟩
    unfold pyNext
    refine wpAny_bind (wpAny_attempt (wpAny_callSpecial?_slot (name := Str.ofString "__next__") hT F.slot_enumerate_next
      (wpAny_call_entry F.slot_enumerate_next hT F.entry_enumerate_next ?_ (F.args_enumerate_next_1 _))))
    show wpAny _ _ (field (.ref e) 2 >>= _) _ _ _
    refine wpAny_bind (wpAny_field he rfl (x := .ref it) rfl ?_)
    refine wpAny_bind (wpAny_nextOf_tuple_end (I.ok.hd hc) hit p (by simp; omega) fun h' x' he' hx' => ?_)
    obtain ⟨o, ho, hcc⟩ := hx'
    refine wpAny_bind (wpAny_isInstance (T := "StopIteration") (b := true) ⟨o, ho, hcc⟩ isSubtype_stop ?_)
    exact wpAny_pure ⟨rfl, I.turned (t' := s.toks) (fun b o hb q => he' b o hb q) f0 f1 f3 f4 f5⟩
  self := fun A i s Q E st h => let ⟨⟨_, he⟩, _⟩ := st; wpAny_pyIter_enum he h
def iEnumT (K : PySem.W.Frag) (ta : TA) : TI := fun σ H R => ta σ H fun vs H1 => ∃ a xs, vs = [.ref a] ∧ SqT K H1 a xs ∧ R (IteT K a) H1
theorem pi_enumT {X : Cx} {e : Expr} {ta : TA} {p pos tpos : Pos} {elts : List Expr} {kk : Nat} (hg : Gl X "enumerate") (hm : X.mg "enumerate" = none) (ha : PA X [e] ta) (hs : starEach [e] X.env = [(false, eval e X.env)] := by rfl) :
    PI X (.Tuple elts kk tpos) (.Call (.Name "enumerate" p) [e] [] pos) (iEnumT X.K ta) := by
  refine ⟨fun pins s σ H R I h => ?_⟩
  refine Call_ (ld_blt I hg hm boot_enumerate (PyProof.Rows.callWith_type1 (thn (ha.run pos pins s σ H _ I h) fun us s1 ⟨vs, H1, I1, r1, q1⟩ => ?_) hs rfl))
  obtain ⟨a, xs, ex, hq, q⟩ := q1
  subst ex
  cases r1 with
  | cons r rr =>
    cases rr
    cases r
    obtain ⟨its, rv, p', hz⟩ := I1.tuple hq
    have la : a < s1.heap.objs.size := p'.lt
    refine mi_enum_begins1 (begins_tuple a its.toArray) p' fun h' he hit hsz hk => wpAny_pyIter_enum he ?_
    have I2 : Inv X pins σ H1 { s1 with heap := h' } := I1.kept (t' := s1.toks) hk
    refine ⟨s1.heap.objs.size + 1, [s1.heap.objs.size + 1, s1.heap.objs.size], _, _, H1, rfl, I2, turn_enumT a (s1.heap.objs.size + 1) s1.heap.objs.size (Nat.ne_of_lt la) (Nat.ne_of_lt (Nat.lt_succ_of_lt la)), ⟨⟨.none, he⟩, ⟨_, hit, rfl, rfl⟩, Nat.succ_ne_self _⟩, fun b hb => ?_, q⟩
    have e' : b = s1.heap.objs.size + 1 ∨ b = s1.heap.objs.size := by simpa using hb
    have hle : s1.heap.objs.size ≤ b := by
      rcases e' with z | z
      · rw [z]; exact Nat.le_add_right _ _
      · rw [z]; exact Nat.le_refl _
    exact I1.fpOk hle (I1.hok.fresh hle)
theorem walk_enumT {K : PySem.W.Frag} {a : Addr} {xs : List V} : Walk (IteT K a) xs.length (fun H => SqT K H a xs) (YPair (fun i => some (.int (i : Nat))) (fun i => xs[i]?)) := by
  refine ⟨fun i _ hi q => ⟨xs, xs[i], q, by simp [hi]⟩, fun _ q => ⟨xs, q, Nat.le_refl _⟩, fun i H v H' _ q y => ?_⟩
  obtain ⟨T, x, h1, h2, h3, h4⟩ := y
  exact ⟨T, .int (i : Nat), x, h1, h2, h3, rfl, h4 xs q⟩
theorem walk_zipT {K : PySem.W.Frag} {a b : Addr} {xs ys : List V} {n : Nat} (hn : n = min xs.length ys.length) : Walk (RZ.ItzT K a b) n (fun H => SqT K H a xs ∧ SqT K H b ys) (YPair (fun i => xs[i]?) (fun i => ys[i]?)) := by
  subst hn
  refine ⟨fun i _ hi q => ?_, fun _ q => ⟨xs, ys, q.1, q.2, by omega⟩, fun i H v H' _ q y => ?_⟩
  · have h1 : i < xs.length := by omega
    have h2 : i < ys.length := by omega
    exact ⟨xs, ys, xs[i], ys[i], q.1, q.2, by simp [h1], by simp [h2]⟩
  · obtain ⟨T, x, z, h1, h2, h3, h4, h5⟩ := y
    exact ⟨T, x, z, h1, h2, h3, h4 xs q.1, h5 ys q.2⟩
def enumT1 : List D → Option (List D) := fun ds => match ds with
  | [.tup xs] => some (enumD xs)
  | _ => none
def zipA2 : List D → Option (List D) := fun ds => match ds with
  | [.lst xs, .lst ys] => some (zipD xs ys)
  | [.tup xs, .tup ys] => some (zipD xs ys)
  | _ => none
section
variable {X : Cx} {c : Cf} {a b : Expr} {ms : MA} {pos q tpos : Pos} {elts : List Expr} {kk : Nat}
theorem dIenumT (hg : Gl X "enumerate") (hm : X.mg "enumerate" = none) (ha : DA X c [a] ms) (hs : starEach [a] X.env = [(false, eval a X.env)] := by rfl) (hK : X.K = c.W.K := by rfl) :
    DI X c (.Tuple elts kk tpos) (.Call (.Name "enumerate" q) [a] [] pos) (mIof enumT1 ms) :=
  (pi_enumT hg hm ha hs).imp fun σ H R ⟨F, u, ρ, S, h⟩ => ⟨F, u, ρ, S, (After.split h).imp fun ds u1 F1 H1 _ s1 g1 h1 vs rv => by
    obtain ⟨es, e1, h2⟩ := lft_some h1
    unfold enumT1 at e1
    split at e1
    · rename_i xs _h
      cases e1
      obtain ⟨v, vr, rfl, r1, r2⟩ := rv.uncons
      rw [r2.none]
      obtain ⟨p1, v1, rfl, f1, q1⟩ := r1.tup_
      refine ⟨p1, v1, rfl, by rw [hK]; exact sq_t g1.ex f1, After.now g1 h2 _ ?_⟩
      rw [hK]
      refine walkD_pair (n := v1.length) (by rw [enumD_len, q1.1]) walk_enumT (fun H e => sq_t e f1) fun i x y d hx hy hd => ?_
      obtain ⟨y', e2, rfl⟩ := enumD_at hd
      cases hx
      exact ⟨_, y', rfl, .int _, q1.2 i y y' hy e2⟩
    · cases e1⟩
theorem dIzipA (hg : Gl X "zip") (hm : X.mg "zip" = none) (ha : DA X c [a, b] ms) (hs : starEach [a, b] X.env = (false, eval a X.env) :: starEach [b] X.env := by rfl) (hpl : (backTo pos (starEach [b] X.env)).any (·.1) = false := by rfl) (hK : X.K = c.W.K := by rfl) :
    DI X c (.Tuple elts kk tpos) (.Call (.Name "zip" q) [a, b] [] pos) (mIof zipA2 ms) :=
  (RZ.pi_zipA hg hm ha hs hpl).imp fun σ H R ⟨F, u, ρ, S, h⟩ => ⟨F, u, ρ, S, (After.split h).imp fun ds u1 F1 H1 _ s1 g1 h1 vs rv => by
    obtain ⟨es, e1, h2⟩ := lft_some h1
    unfold zipA2 at e1
    split at e1
    · rename_i xs ys _h
      cases e1
      obtain ⟨v, vr, rfl, r1, r2⟩ := rv.uncons
      obtain ⟨w, wr, rfl, r3, r4⟩ := r2.uncons
      rw [r4.none]
      obtain ⟨p1, v1, rfl, f1, q1⟩ := r1.lst_
      obtain ⟨p2, v2, rfl, f2, q2⟩ := r3.lst_
      refine ⟨p1, p2, v1, v2, rfl, .inl ⟨SqL.of (g1.ex _ _ f1), SqL.of (g1.ex _ _ f2), After.now g1 h2 _ ?_⟩⟩
      rw [hK]
      refine walkD_pair (n := min v1.length v2.length) (by rw [zipD_len, q1.1, q2.1]) (walk_zip rfl) (fun H e => ⟨SqL.of (e _ _ f1), SqL.of (e _ _ f2)⟩) fun i x y d hx hy hd => ?_
      obtain ⟨x', y', e1, e2, rfl⟩ := zipD_at hd
      exact ⟨x', y', rfl, q1.2 i x x' hx e1, q2.2 i y y' hy e2⟩
    · rename_i xs ys _h
      cases e1
      obtain ⟨v, vr, rfl, r1, r2⟩ := rv.uncons
      obtain ⟨w, wr, rfl, r3, r4⟩ := r2.uncons
      rw [r4.none]
      obtain ⟨p1, v1, rfl, f1, q1⟩ := r1.tup_
      obtain ⟨p2, v2, rfl, f2, q2⟩ := r3.tup_
      refine ⟨p1, p2, v1, v2, rfl, .inr ⟨by rw [hK]; exact sq_t g1.ex f1, by rw [hK]; exact sq_t g1.ex f2, After.now g1 h2 _ ?_⟩⟩
      rw [hK]
      refine walkD_pair (n := min v1.length v2.length) (by rw [zipD_len, q1.1, q2.1]) (walk_zipT rfl) (fun H e => ⟨sq_t e f1, sq_t e f2⟩) fun i x y d hx hy hd => ?_
      obtain ⟨x', y', e1, e2, rfl⟩ := zipD_at hd
      exact ⟨x', y', rfl, q1.2 i x x' hx e1, q2.2 i y y' hy e2⟩
    · cases e1⟩
end
end Mi

set_option Elab.async false
set_option linter.all false
set_option maxRecDepth 100000
set_option maxHeartbeats 4000000
/-! MiA: parallel assignment with fresh lists, keyword calls, fresh slices. -/
namespace Mi
open PySem PySem.Spec PyProof.Rows L2
variable [TB : Tabl]

/-! ### lists of values, some of them fresh lists -/
abbrev MM := Env → M (List Sd)
structure Mats (W : Wo) (p : Addr) (F H H00 : Hp) (vs : List V) (sds : List Sd) : Prop where
  len : vs.length = sds.length
  at_ : ∀ (i : Nat) (v : V) (sd : Sd), vs[i]? = some v → sds[i]? = some sd → match sd with
    | .sh d => Rep W p F v d
    | .ow ds => ∃ q ws, v = .ref q ∧ H q = some (.lst ws) ∧ F q = none ∧ H00 q = none ∧ Reps W p F ws ds
    | _ => False
  ne : ∀ (i j : Nat) (s t : Sd), i ≠ j → sds[i]? = some s → sds[j]? = some t → s.own = true → t.own = true → vs[i]? ≠ vs[j]?
def rdM (c : Cf) (m : MM) : TA := fun σ H Q => ∃ F u ρ, Sta c u F H σ ρ ∧ After c.p F H (m ρ u) fun sds _ F' H' => ∀ vs, Mats c.W c.p F' H' H vs sds → Q vs H'
abbrev DM (X : Cx) (c : Cf) (es : List Expr) (m : MM) : Prop := PA X es (rdM c m)
def mMnil : MM := fun _ => M.pure []
def mMsh (m : ME) (ms : MM) : MM := fun ρ => M.bind (m ρ) fun d => M.bind (ms ρ) fun ds => M.pure (.sh d :: ds)
def mMow (m : MA) (ms : MM) : MM := fun ρ => M.bind (m ρ) fun d => M.bind (ms ρ) fun ds => M.pure (.ow d :: ds)
section
variable {X : Cx} {c : Cf} {pos : Pos} {e a b : Expr} {es : List Expr} {m : ME} {ml : MA} {ms : MM}
theorem dMnil : DM X c [] mMnil := pa_nil.imp fun σ H Q ⟨F, u, ρ, S, h⟩ => After.now S.gd h [] ⟨rfl, fun i v sd a _ => by simp at a, fun i j s t _ a _ => by simp at a⟩
theorem dMsh (ha : DE X c e m) (hr : DM X c es ms) (hs : starEach (e :: es) X.env = (false, eval e X.env) :: starEach es X.env := by rfl) : DM X c (e :: es) (mMsh m ms) :=
  (pa_cons ha hr hs).imp fun σ H Q ⟨F, u, ρ, S, h⟩ => ⟨F, u, ρ, S, (After.split h).imp fun d u1 F1 H1 _ s1 g1 h1 v rv => ⟨F1, u1, ρ, S.step s1 g1, (After.split h1).imp fun ds u2 F2 H2 _ s2 g2 h2 vs R => by
    refine After.now (p := c.p) (F := F2) (H := H2) (u := u2) g2 h2 (v :: vs) ⟨by simp [R.len], fun i w sd ea eb => ?_, fun i j s t hij ea eb o1 o2 => ?_⟩
    · cases i with
      | zero => simp at ea eb; subst ea; subst eb; exact rv.mono s2.ef
      | succ i =>
        simp at ea eb
        have := R.at_ i w sd ea eb
        cases sd with
        | sh d => exact this
        | ow ds => obtain ⟨q, ws, h1, h2, h3, h4, h5⟩ := this; exact ⟨q, ws, h1, h2, h3, s1.back g1.ne h4, h5⟩
        | _ => exact this
    · cases i with
      | zero => simp at ea; subst ea; cases o1
      | succ i =>
        cases j with
        | zero => simp at eb; subst eb; cases o2
        | succ j => simp at ea eb ⊢; exact R.ne i j s t (fun z => hij (by rw [z])) ea eb o1 o2⟩⟩
theorem dMow (ha : DL X c e ml) (hr : DM X c es ms) (hs : starEach (e :: es) X.env = (false, eval e X.env) :: starEach es X.env := by rfl) : DM X c (e :: es) (mMow ml ms) :=
  (pa_cons ha hr hs).imp fun σ H Q ⟨F, u, ρ, S, h⟩ => ⟨F, u, ρ, S, (After.split h).imp fun d u1 F1 H1 _ s1 g1 h1 q ws hF hn hq rw => ⟨F1, u1, ρ, S.step s1 g1, (After.split h1).imp fun ds u2 F2 H2 _ s2 g2 h2 vs R => by
    have hqp : q ≠ c.p := fun z => S.gd.ne (z ▸ hn)
    have hfar : ∀ (j : Nat) (t : Sd), ds[j]? = some t → t.own = true → vs[j]? ≠ some (.ref q) := fun j t ej o z => by
      have := R.at_ j _ t z ej
      cases t with
      | ow es' =>
        obtain ⟨q', ws', e1, _, _, e4, _⟩ := this
        cases e1
        rw [hq] at e4
        cases e4
      | oi _ _ _ => exact this
      | _ => cases o
    refine After.now (p := c.p) (F := F2) (H := H2) (u := u2) g2 h2 (.ref q :: vs) ⟨by simp [R.len], fun i w sd ea eb => ?_, fun i j s t hij ea eb o1 o2 => ?_⟩
    · cases i with
      | zero => simp at ea eb; subst ea; subst eb; exact ⟨q, ws, rfl, s2.eh q _ hqp hq (.inr (by intro _ z; cases z)), s2.off hF (by rw [hq]; simp), hn, rw.mono s2.ef⟩
      | succ i =>
        simp at ea eb
        have := R.at_ i w sd ea eb
        cases sd with
        | sh d => exact this
        | ow ds => obtain ⟨q, ws, h1, h2, h3, h4, h5⟩ := this; exact ⟨q, ws, h1, h2, h3, s1.back g1.ne h4, h5⟩
        | _ => exact this
    · cases i with
      | zero =>
        cases j with
        | zero => exact absurd rfl hij
        | succ j => simp at eb ⊢; exact fun z => hfar j t eb o2 z.symm
      | succ i =>
        cases j with
        | zero => simp at ea ⊢; exact fun z => hfar i s ea o1 z
        | succ j => simp at ea eb ⊢; exact R.ne i j s t (fun z => hij (by rw [z])) ea eb o1 o2⟩⟩
end
section
variable {c : Cf} {u : PuS} {F H : Hp} {σ : L2.St} {ρ : Env}
theorem Sta.setS {i : Nat} {v : V} {sd : Sd} (S : Sta c u F H σ ρ) (ok : SdOk c F H (some (some v)) sd) (far : sd.own = true → ∀ (j : Nat) (t : Sd), j ≠ i → ρ[j]? = some t → t.own = true → σ[j]? ≠ some (some v)) : Sta c u F H (σ.set i (some v)) (ρ.set i sd) := by
  refine ⟨S.ent, S.gd, by simpa using S.env.len, fun j t e => ?_, fun j k s t hjk e1 e2 o1 o2 => ?_⟩
  · rcases set_get e with ⟨rfl, rfl, hl⟩ | ⟨ne, e⟩
    · rw [List.getElem?_set_self (by rw [S.env.len]; exact hl)]; exact ok
    · rw [List.getElem?_set_ne ne]; exact S.env.at_ j t e
  · rcases set_get e1 with ⟨rfl, rfl, hl⟩ | ⟨n1, e1b⟩
    · rcases set_get e2 with ⟨h, _, _⟩ | ⟨n2, e2⟩
      · exact absurd h hjk
      · rw [List.getElem?_set_self (by rw [S.env.len]; exact hl), List.getElem?_set_ne n2]
        exact fun z => far o1 k t (Ne.symm n2) e2 o2 z.symm
    · rcases set_get e2 with ⟨rfl, rfl, hl⟩ | ⟨n2, e2⟩
      · rw [List.getElem?_set_ne n1, List.getElem?_set_self (by rw [S.env.len]; exact hl)]
        exact far o2 j s (Ne.symm n1) e1b o1
      · rw [List.getElem?_set_ne n1, List.getElem?_set_ne n2]; exact S.env.ne j k s t hjk e1b e2 o1 o2
end
/-- set slots in their order -/
def setAll : List Nat → List Sd → Env → Env
  | i :: is, s :: ss, ρ => setAll is ss (ρ.set i s)
  | _, _, ρ => ρ
def setV : List Nat → List V → L2.St → L2.St
  | i :: is, v :: vs, σ => setV is vs (σ.set i (some v))
  | _, _, σ => σ
theorem Mats.tail {W : Wo} {p : Addr} {F H H00 : Hp} {v : V} {vs : List V} {s : Sd} {ss : List Sd} (R : Mats W p F H H00 (v :: vs) (s :: ss)) : Mats W p F H H00 vs ss :=
  ⟨by have := R.len; simpa using this, fun i w sd ea eb => R.at_ (i + 1) w sd (by simpa using ea) (by simpa using eb), fun i j s t hij ea eb o1 o2 => by
    have := R.ne (i + 1) (j + 1) s t (by omega) (by simpa using ea) (by simpa using eb) o1 o2
    simpa using this⟩
/-- all owned slots known: their objects were there, or are among these -/
theorem Sta.setAll {c : Cf} {u0 u : PuS} {F0 H0 F H : Hp} {σ0 : L2.St} {ρ0 : Env} (S0 : Sta c u0 F0 H0 σ0 ρ0) : ∀ {is : List Nat} {vs : List V} {sds : List Sd} {σ : L2.St} {ρ : Env}, Sta c u F H σ ρ → Mats c.W c.p F H H0 vs sds → is.length = vs.length →
    (∀ (j : Nat) (t : Sd) (k : Nat) (s : Sd), ρ[j]? = some t → t.own = true → sds[k]? = some s → s.own = true → σ[j]? ≠ (vs[k]?).map some) →
    Sta c u F H (setV is vs σ) (Mi.setAll is sds ρ)
  | [], vs, sds, σ, ρ, S, R, hl, far => by
    unfold setV Mi.setAll
    exact S
  | i :: is, [], sds, σ, ρ, S, R, hl, far => by simp at hl
  | i :: is, v :: vs, [], σ, ρ, S, R, hl, far => by have := R.len; simp at this
  | i :: is, v :: vs, s :: ss, σ, ρ, S, R, hl, far => by
    show Sta c u F H (setV is vs (σ.set i (some v))) (Mi.setAll is ss (ρ.set i s))
    have hv := R.at_ 0 v s rfl rfl
    refine Sta.setAll S0 (S.setS (i := i) (v := v) (sd := s) ?_ fun o j t _ e o2 => far j t 0 s e o2 rfl o) R.tail (by simpa using hl) fun j t k s' e o ek ok => ?_
    · cases s with
      | sh d => exact ⟨v, rfl, hv⟩
      | ow ds =>
        obtain ⟨q, ws, rfl, h1, h2, h3, h4⟩ := hv
        exact ⟨q, ws, rfl, h1, h2, fun z => S0.gd.ne (z ▸ h3), S0.ent.back S0.gd.ne h3, h4⟩
      | un => trivial
      | oi _ _ _ => exact False.elim hv
    · rcases set_get e with ⟨rfl, rfl, hl'⟩ | ⟨ne, e⟩
      · rw [List.getElem?_set_self (by rw [S.env.len]; exact hl')]
        have := R.ne 0 (k + 1) t s' (by omega) rfl (by simpa using ek) o ok
        intro z
        apply this
        simp at this ⊢
        cases q : vs[k]? with
        | none => rw [q] at z; cases z
        | some w => rw [q] at z; cases z; rfl
      · rw [List.getElem?_set_ne ne]
        have := far j t (k + 1) s' e o (by simpa using ek) ok
        simpa using this
theorem Mats.fresh {c : Cf} {u0 : PuS} {F0 H0 F H : Hp} {σ0 : L2.St} {ρ0 : Env} {vs : List V} {sds : List Sd} (S0 : Sta c u0 F0 H0 σ0 ρ0) (R : Mats c.W c.p F H H0 vs sds) (j : Nat) (t : Sd) (k : Nat) (s : Sd) (e : ρ0[j]? = some t) (o : t.own = true) (ek : sds[k]? = some s) (ok : s.own = true) : σ0[j]? ≠ (vs[k]?).map some := by
  intro z
  obtain ⟨q, hq, hne, _⟩ := (S0.env.at_ j t e).ref o
  rw [hq] at z
  cases ev : vs[k]? with
  | none => rw [ev] at z; cases z
  | some w =>
    rw [ev] at z
    have := R.at_ k w s ev ek
    cases z
    cases s with
    | ow ds =>
      obtain ⟨q', ws, e1, _, _, e4, _⟩ := this
      cases e1
      exact hne e4
    | oi _ _ _ => exact this
    | _ => cases ok
def mPar (is : List Nat) (ms : MM) : MS := fun ρ => M.bind (ms ρ) fun sds => if sds.length = is.length then M.pure (.nx (setAll is sds ρ)) else lft none
section
variable {X : Cx} {c : Cf} {pos : Pos} {a b d : Expr} {ms : MM}
theorem rdPar {is : List Nat} {Dn : Ends} {σ : L2.St} {H : Hp} (h : rdS c (mPar is ms) Dn σ H) : rdM c ms σ H fun vs H1 => vs.length = is.length ∧ Dn.nx (setV is vs σ) H1 := by
  obtain ⟨F, u, ρ, S, h⟩ := h
  refine ⟨F, u, ρ, S, (flowO.after S h).imp fun sds u1 F1 H1 _ s1 g1 h1 vs R => ?_⟩
  have h2 := h1.2
  split at h2
  · rename_i hl
    exact ⟨R.len.trans hl, h2 _ F1 H1 (Same.refl _) (Sta.setAll S h1.1 R (hl.symm.trans R.len.symm) (Mats.fresh S R))⟩
  · exact False.elim h2
theorem dPar {i j : Nat} {x y : Str} {px py pt : Pos} {kt k2 pt2} (hc : X.calm = true) (hN : X.N.Nodup) (hi : X.N[i]? = some x) (hj : X.N[j]? = some y) (hij : i ≠ j)
    (hx : X.env.scope.names.lookup x = some .local) (hy : X.env.scope.names.lookup y = some .local) (ha : DM X c [a, b] ms)
    (hw : swappedStores [.Tuple [.Name x px, .Name y py] kt pt] (.Tuple [a, b] k2 pt2) X.env = pure (some [x, y]) := by rfl)
    (hs : swapsWithSole [.Tuple [.Name x px, .Name y py] kt pt] (.Tuple [a, b] k2 pt2) pos.line X.env = pure false := by rfl) :
    DS X c (.Assign [.Tuple [.Name x px, .Name y py] kt pt] (.Tuple [a, b] k2 pt2) pos) (mPar [i, j] ms) :=
  (ps_par hc hN hi hj hij hx hy ha hw hs).imp fun Dn σ H h => by
    obtain ⟨F, u, ρ, S, h⟩ := rdPar h
    exact ⟨F, u, ρ, S, h.imp fun sds u1 F1 H1 _ s1 g1 h1 vs R => by
      obtain ⟨hl, hq⟩ := h1 vs R
      match vs, hl, hq with
      | [v, w], _, hq => exact ⟨v, w, rfl, hq⟩⟩
theorem dPar3 {i j l : Nat} {x y z : Str} {px py pz pt : Pos} {kt k2 pt2} (hc : X.calm = true) (hN : X.N.Nodup) (hi : X.N[i]? = some x) (hj : X.N[j]? = some y) (hl : X.N[l]? = some z) (hij : i ≠ j) (hil : i ≠ l) (hjl : j ≠ l)
    (hx : X.env.scope.names.lookup x = some .local) (hy : X.env.scope.names.lookup y = some .local) (hz : X.env.scope.names.lookup z = some .local) (ha : DM X c [a, b, d] ms)
    (hw : swappedStores [.Tuple [.Name x px, .Name y py, .Name z pz] kt pt] (.Tuple [a, b, d] k2 pt2) X.env = pure (some [x, y, z]) := by rfl)
    (hs : swapsWithSole [.Tuple [.Name x px, .Name y py, .Name z pz] kt pt] (.Tuple [a, b, d] k2 pt2) pos.line X.env = pure false := by rfl) :
    DS X c (.Assign [.Tuple [.Name x px, .Name y py, .Name z pz] kt pt] (.Tuple [a, b, d] k2 pt2) pos) (mPar [i, j, l] ms) :=
  (ps_par3 hc hN hi hj hl hij hil hjl hx hy hz ha hw hs).imp fun Dn σ H h => by
    obtain ⟨F, u, ρ, S, h⟩ := rdPar h
    exact ⟨F, u, ρ, S, h.imp fun sds u1 F1 H1 _ s1 g1 h1 vs R => by
      obtain ⟨hl, hq⟩ := h1 vs R
      match vs, hl, hq with
      | [v, w, y], _, hq => exact ⟨v, w, y, rfl, hq⟩⟩
end

/-! ### calls with keywords -/
abbrev DK (X : Cx) (c : Cf) (kws : List Keyword) (m : MA) : Prop := PK X kws (rdA c m)
/-- the arguments put in the parameters' order -/
def gI {α : Type} (perm : List Nat) (us ws : List α) : List α := perm.filterMap ((us ++ ws)[·]?)
theorem vals_get {vs : List V} {us : List Value} (r : Vals vs us) (i : Nat) : (∃ v u, vs[i]? = some v ∧ us[i]? = some u ∧ RelV v u) ∨ (vs[i]? = none ∧ us[i]? = none) := by
  induction r generalizing i with
  | nil => right; simp
  | cons h r ih =>
    cases i with
    | zero => left; exact ⟨_, _, rfl, rfl, h⟩
    | succ i => simpa using ih i
theorem gI_rel {perm : List Nat} {vs zs : List V} {us ws : List Value} (r : Vals vs us) (rz : Vals zs ws) : Vals (gI perm vs zs) (gI perm us ws) := by
  have ra : Vals (vs ++ zs) (us ++ ws) := by
    induction r with
    | nil => exact rz
    | cons h r ih => exact .cons h ih
  unfold gI
  induction perm with
  | nil => exact .nil
  | cons i perm ih =>
    rcases vals_get ra i with ⟨v, u, e1, e2, r'⟩ | ⟨e1, e2⟩
    · rw [List.filterMap_cons, List.filterMap_cons, e1, e2]
      exact .cons r' ih
    · rw [List.filterMap_cons, List.filterMap_cons, e1, e2]
      exact ih
theorem gI_reps {W : Wo} {p : Addr} {F : Hp} {perm : List Nat} {vs zs : List V} {ds es : List D} (r : Reps W p F vs ds) (rz : Reps W p F zs es) : Reps W p F (gI perm vs zs) (gI perm ds es) := by
  have ra := r.append rz
  unfold gI
  induction perm with
  | nil => exact Reps.nil
  | cons i perm ih =>
    rw [List.filterMap_cons, List.filterMap_cons]
    cases e : (ds ++ es)[i]? with
    | none =>
      have : (vs ++ zs)[i]? = none := by
        rw [List.getElem?_eq_none_iff] at e ⊢
        rw [ra.1]; exact e
      rw [this]; exact ih
    | some d =>
      obtain ⟨v, ev, rv⟩ := ra.get e
      rw [ev]; exact Reps.cons rv ih
theorem _root_.L2.FunD.kb0 {K : PySem.W.Frag} {x qual : Str} {params : Arguments} {body : List Stmt} {scope : Scope} {kws : List (Str × V)} {f : Addr} {fd : FuncData} {ps : List Str} (F : FunD K x qual params body scope [] kws f fd) (n : Nat) (ks : List Str) (perm : List Nat)
    (h : ∀ (kV doc pm : Value) (an : Option Addr) (cdv ct : Value) (us ws : List Value), us.length = n → ws.length = ks.length → bindArgs (PySem.W.fnOf x qual params body scope .none kV doc pm an cdv ct) ⟨us, ks.zip ws⟩ = pure (ps.zip (gI perm us ws))) : KBn K fd ps n ks (gI perm) (gI perm) := by
  obtain ⟨oc, od, dV, kV, doc, pm, an, cdv, ct, osl, rfl, lk, hcd, hD, hK⟩ := F.ex
  rcases hD with ⟨_, rfl⟩ | ⟨e, _⟩
  · exact ⟨fun s us ws _ l1 l2 => .of_eq (h kV doc pm an cdv ct us ws l1 l2), gI_rel⟩
  · exact absurd rfl e
def mCallK (n nk np : Nat) (perm : List Nat) (mf : List D → M D) (ms mk : MA) : ME := fun ρ => M.bind (ms ρ) fun ds => M.bind (mk ρ) fun es => if ds.length = n ∧ es.length = nk ∧ (gI perm ds es).length = np then mf (gI perm ds es) else lft none
section
variable {X : Cx} {c : Cf} {k n np : Nat} {f : Addr} {fd : FuncData} {ps ks : List Str} {x : Str} {p pos apos : Pos} {e o : Expr} {es : List Expr} {kws : List Keyword} {ms mk : MA} {mf : List D → M D} {perm : List Nat} {mc : Value} {q g : Addr} {m : Str} {pl : Sem Bool} {nm : Option Str} {kpos : Pos} {me : ME}
theorem dKnil : DK X c [] mNil := ⟨fun pos pins s σ H Q I ⟨F, u, ρ, S, h⟩ => pk_nil.run pos pins s σ H Q I (After.now S.gd h [] Reps.nil)⟩
theorem dKcons {nm} (ha : DE X c e me) (hr : DK X c kws mk) : DK X c (⟨nm, e, kpos⟩ :: kws) (mCons me mk) :=
  ⟨fun pos pins s σ H Q I ⟨F, u, ρ, S, h⟩ => (pk_cons (nm := nm) (kpos := kpos) ha hr).run pos pins s σ H Q I ⟨F, u, ρ, S, (After.split h).imp fun d u1 F1 H1 _ s1 g1 h1 v rv => ⟨F1, u1, ρ, S.step s1 g1, (After.split h1).imp fun ds u2 F2 H2 _ s2 g2 h2 vs rvs => After.now (p := c.p) (F := F2) (H := H2) (u := u2) g2 h2 (v :: vs) (Reps.cons (rv.mono s2.ef) rvs)⟩⟩⟩
theorem callK_ok {p : Addr} {F H : Hp} {u : PuS} {vs zs : List V} {ds es : List D} {W : Wo} {Q : VK} {E : XK} {nk : Nat} (g : Gd p u F H) (r : Reps W p F vs ds) (rz : Reps W p F zs es) (h : After p F H ((if ds.length = n ∧ es.length = nk ∧ (gI perm ds es).length = np then mf (gI perm ds es) else lft none) u) fun d _ F' H' => ∀ v, Rep W p F' v d → Q v H') :
    vs.length = n ∧ zs.length = nk ∧ spM W np mf (gI perm vs zs) H Q E := by
  split at h
  · rename_i hh
    have rr := gI_reps (perm := perm) r rz
    exact ⟨r.1.trans hh.1, rz.1.trans hh.2.1, rr.1.trans hh.2.2, p, F, u, _, g, rr, h⟩
  · exact False.elim h
theorem dCallN (G : FnOk X.prog X.w X.K X.mg X.base CX0 k f fd ps (spM c.W np mf)) (hr : Room k X.A) (hg : Gl X x) (hm : X.mg x = some (.ref f)) (hk : PySem.W.keepIn X.K (.ref f) = true) (hb : KBn X.K fd ps n ks (gI perm) (gI perm)) (ha : DA X c (e :: es) ms) (hkw : DK X c kws mk)
    (hall : (backToKw pos (keywordEach kws X.env)).all (·.1.isSome) = true := by rfl) (hks : (backToKw pos (keywordEach kws X.env)).filterMap (·.1) = ks := by rfl)
    (hdb : (x == ("__debug__" : Str)) = false := by decide) (he : starEach (e :: es) X.env = (false, eval e X.env) :: starEach es X.env := by rfl)
    (hpl : ((backTo pos (starEach (e :: es) X.env)).any (·.1) || (backToKw pos (keywordEach kws X.env)).any (·.1.isNone)) = false := by rfl) :
    DE X c (.Call (.Name x p) (e :: es) kws pos) (mCallK n ks.length np perm mf ms mk) :=
  (pe_callN G hr hg hm hk hb pass0 ha hkw hall hks hdb he hpl).imp fun σ H Q ⟨F, u, ρ, S, h⟩ => ⟨F, u, ρ, S, (After.split h).imp fun ds u1 F1 H1 _ s1 g1 h1 vs rvs => ⟨F1, u1, ρ, S.step s1 g1, (After.split h1).imp fun es' u2 F2 H2 _ s2 g2 h2 zs rzs => callK_ok g2 (rvs.mono s2.ef) rzs h2⟩⟩
/-- f(k = v, ..) -/
theorem pe_callN0 {sp : Sp} {tk : TA} {gg : List Value → List Value → List Value} {gV : List V → List V → List V} (F : FnOk X.prog X.w X.K X.mg X.base CX0 k f fd ps sp) (hr : Room k X.A) (hg : Gl X x) (hm : X.mg x = some (.ref f)) (hk : PySem.W.keepIn X.K (.ref f) = true) (hb : KBn X.K fd ps 0 ks gg gV)
    (hkw : PK X kws tk) (hall : (backToKw pos (keywordEach kws X.env)).all (·.1.isSome) = true := by rfl) (hks : (backToKw pos (keywordEach kws X.env)).filterMap (·.1) = ks := by rfl)
    (hdb : (x == ("__debug__" : Str)) = false := by decide)
    (hpl : ((backTo pos (starEach [] X.env)).any (·.1) || (backToKw pos (keywordEach kws X.env)).any (·.1.isNone)) = false := by rfl) :
    PE X (.Call (.Name x p) [] kws pos) (tCallN 0 ks.length sp gV E0 tNil tk) := by
  refine ⟨fun pins s σ H Q I h => ?_⟩
  refine wpAny_Call_Name_kw (ld_glob I hg hm ?_ hdb)
  refine PySem.W.callWith_KW0 (h₀ := X.base) I.ok.mod.kin hk hall ?_ hpl
  refine thn (hkw.run pos pins s σ H _ I h) fun ws s2 ⟨zs, H2, I2, rz, l1, l2, q2⟩ => ⟨I2.kIn, ?_⟩
  rw [hks]
  exact run_fnN (us := []) (vs := []) F hr hb pass0 I2 .nil rz rfl l2 q2
theorem dCallN0 (G : FnOk X.prog X.w X.K X.mg X.base CX0 k f fd ps (spM c.W np mf)) (hr : Room k X.A) (hg : Gl X x) (hm : X.mg x = some (.ref f)) (hk : PySem.W.keepIn X.K (.ref f) = true) (hb : KBn X.K fd ps 0 ks (gI perm) (gI perm)) (hkw : DK X c kws mk)
    (hall : (backToKw pos (keywordEach kws X.env)).all (·.1.isSome) = true := by rfl) (hks : (backToKw pos (keywordEach kws X.env)).filterMap (·.1) = ks := by rfl)
    (hdb : (x == ("__debug__" : Str)) = false := by decide)
    (hpl : ((backTo pos (starEach [] X.env)).any (·.1) || (backToKw pos (keywordEach kws X.env)).any (·.1.isNone)) = false := by rfl) :
    DE X c (.Call (.Name x p) [] kws pos) (mCallK 0 ks.length np perm mf mNil mk) :=
  (pe_callN0 G hr hg hm hk hb hkw hall hks hdb hpl).imp fun σ H Q ⟨F, u, ρ, S, h⟩ => ⟨F, u, ρ, S, (After.split (m := mk ρ) (f := fun es => if ([] : List D).length = 0 ∧ es.length = ks.length ∧ (gI perm [] es).length = np then mf (gI perm [] es) else lft none) h).imp fun es' u2 F2 H2 _ s2 g2 h2 zs rzs => callK_ok (vs := []) (ds := []) g2 Reps.nil rzs h2⟩
/-- C.m(k = v, ..), m a static method -/
theorem pe_smethN0 {sp : Sp} {ta : TE} {tk : TA} {C : Addr} {gg : List Value → List Value → List Value} {gV : List V → List V → List V} (he : PE X o ta) (r : SMet X.K C mc m q g) (G : FnOk X.prog X.w X.K X.mg X.base CX0 k g fd ps sp) (hr : Room k X.A) (hb : KBn X.K fd ps 0 ks gg gV) (hkw : PK X kws tk)
    (hall : (backToKw pos (keywordEach kws X.env)).all (·.1.isSome) = true := by rfl) (hks : (backToKw pos (keywordEach kws X.env)).filterMap (·.1) = ks := by rfl)
    (hpl : ((backTo pos (starEach [] X.env)).any (·.1) || (backToKw pos (keywordEach kws X.env)).any (·.1.isNone)) = false := by rfl)
    (ht : eval (.Call (.Attribute o m apos) [] kws pos) X.env = (do
      let ov ← eval o X.env
      standAt apos.atName
      let (f, first) ← holding [ov] (getMethod ov m pl)
      callWith pos f first (backTo pos (starEach [] X.env)) (backToKw pos (keywordEach kws X.env))) := by rfl) :
    PE X (.Call (.Attribute o m apos) [] kws pos) (fun σ H Q => ta σ H fun x H1 => x = .ref C ∧ tCallN 0 ks.length sp gV E0 tNil tk σ H1 Q) := by
  refine ⟨fun pins s σ H Q I h => ?_⟩
  refine PySem.W.methodCall_KW (pl := pl) (thn (he.run pins s σ H _ I h) fun u s1 ⟨x, H1, I1, rx, ex, q1⟩ => ?_) ht
  subst ex
  obtain rfl : u = Value.ref C := rx
  refine getsm_ok I1 r fun s2 I2 => ?_
  refine PySem.W.callWith_KW0 (first := []) (h₀ := X.base) I.ok.mod.kin r.kp hall ?_ hpl
  refine thn (hkw.run pos pins s2 σ H1 _ I2 q1) fun ws s3 ⟨zs, H2, I3, rz, l1, l2, q2⟩ => ⟨I3.kIn, ?_⟩
  rw [hks]
  exact run_fnN (us := []) (vs := []) G hr hb pass0 I3 .nil rz rfl l2 q2
theorem dSMethN0 {ck : Str} {mo : ME} (he : DE X c o mo) (r : SMet X.K (c.W.cl ck) mc m q g) (G : FnOk X.prog X.w X.K X.mg X.base CX0 k g fd ps (spM c.W np mf)) (hr : Room k X.A) (hb : KBn X.K fd ps 0 ks (gI perm) (gI perm)) (hkw : DK X c kws mk) (hmo : mo = mC (.cls ck))
    (hall : (backToKw pos (keywordEach kws X.env)).all (·.1.isSome) = true := by rfl) (hks : (backToKw pos (keywordEach kws X.env)).filterMap (·.1) = ks := by rfl)
    (hpl : ((backTo pos (starEach [] X.env)).any (·.1) || (backToKw pos (keywordEach kws X.env)).any (·.1.isNone)) = false := by rfl)
    (ht : eval (.Call (.Attribute o m apos) [] kws pos) X.env = (do
      let ov ← eval o X.env
      standAt apos.atName
      let (f, first) ← holding [ov] (getMethod ov m pl)
      callWith pos f first (backTo pos (starEach [] X.env)) (backToKw pos (keywordEach kws X.env))) := by rfl) :
    DE X c (.Call (.Attribute o m apos) [] kws pos) (mCallK 0 ks.length np perm mf mNil mk) :=
  (pe_smethN0 he r G hr hb hkw hall hks hpl ht).imp fun σ H Q ⟨F, u, ρ, S, h⟩ => by
    subst hmo
    refine ⟨F, u, ρ, S, fun F1 H1 s1 g1 v rv => ⟨by cases rv; rfl, F1, u, ρ, S.step s1 g1, ?_⟩⟩
    have h' := After.split (p := c.p) (F := F) (H := H) (m := mk ρ) (f := fun es => if ([] : List D).length = 0 ∧ es.length = ks.length ∧ (gI perm [] es).length = np then mf (gI perm [] es) else lft none) h
    have h2 : After c.p F1 H1 (mk ρ u) fun es u1 F1 H1 => After c.p F1 H1 ((if ([] : List D).length = 0 ∧ es.length = ks.length ∧ (gI perm [] es).length = np then mf (gI perm [] es) else lft none) u1) fun d _ F' H' => ∀ v, Rep c.W c.p F' v d → Q v H' := by
      cases e1 : mk ρ u with
      | none => rw [e1] at h'; exact h'
      | some y =>
        obtain ⟨ds, u1⟩ := y
        rw [e1] at h'
        exact fun F2 H2 s2 g2 => h' F2 H2 (s1.trans g1.ne s2) g2
    exact h2.imp fun es' u2 F2 H2 _ s2 g2 h2 zs rzs => callK_ok (vs := []) (ds := []) g2 Reps.nil rzs h2
end

/-! ### fresh lists out of slices and list(..) -/
def mSlO (m : ME) (ml mh : MO) : MA := fun ρ => M.bind (m ρ) fun d => M.bind (ml ρ) fun lo => M.bind (mh ρ) fun hi => lft (match d with
  | .lst ds => some (cutD ds lo hi)
  | _ => none)
theorem fresh_ok {p : Addr} {F H H00 : Hp} {u : PuS} {vs : List V} {ds : List D} {W : Wo} {Q : VK} (g : Gd p u F H) (bk : ∀ q, H q = none → H00 q = none) (r : Reps W p F vs ds)
    (h : After p F H (some (ds, u)) fun ds _ F' H' => ∀ q vs, F' q = none → H00 q = none → H' q = some (.lst vs) → Reps W p F' vs ds → Q (.ref q) H') (q : Addr) (hq : H q = none) : Q (.ref q) (upd H q (.lst vs)) :=
  h F (upd H q (.lst vs)) (Stp.own hq) (g.own hq) q vs (g.fresh hq) (bk q hq) upd_same r
section
variable {X : Cx} {c : Cf} {e : Expr} {lo hi : Option Expr} {m : ME} {ml mh : MO} {pos p2 : Pos}
theorem dSlO (he : DE X c e m) (hl : PO X lo (rdO c ml)) (hh : PO X hi (rdO c mh)) (hK : X.K = c.W.K := by rfl) : DL X c (.Subscript e (.Slice lo hi none p2) pos) (mSlO m ml mh) :=
  (pe_slice sl_all he hl hh).imp fun σ H Q ⟨F, u, ρ, S, h⟩ => ⟨F, u, ρ, S, (After.split h).imp fun d u1 F1 H1 _ s1 g1 h1 v rv => ⟨F1, u1, ρ, S.step s1 g1, (After.split h1).imp fun l u2 F2 H2 _ s2 g2 h2 => ⟨F2, u2, ρ, (S.step s1 g1).step s2 g2, (After.split h2).imp fun r u3 F3 H3 _ s3 g3 h3 => by
    have rv := rv.mono (s2.ef.trans s3.ef)
    obtain ⟨z, e1, h4⟩ := lft_some h3
    rw [hK]
    split at e1
    · cases e1
      obtain ⟨a, vs, rfl, ha, ra⟩ := rv.lst_
      exact .inl ⟨a, vs, rfl, SqL.of (g3.ex _ _ ha), fun q hq => fresh_ok g3 (fun q hq => s1.back g1.ne (s2.back g2.ne (s3.back g3.ne hq))) (ra.cut l r) h4 q hq⟩
    · cases e1⟩⟩⟩
def mRevO (m : ME) : MA := fun ρ => M.bind (m ρ) fun d => lft (match d with
  | .lst ds => some ds.reverse
  | _ => none)
theorem dRevO {k : Nat} {p1 p3 : Pos} (he : DE X c e m) (hK : X.K = c.W.K := by rfl) : DL X c (.Subscript e (.Slice none none (some (.UnaryOp .USub (.Constant (.int 1) k p1) p2)) p3) pos) (mRevO m) :=
  (pe_revL he).imp fun σ H Q ⟨F, u, ρ, S, h⟩ => ⟨F, u, ρ, S, (After.split h).imp fun d u1 F1 H1 _ s1 g1 h1 v rv => by
    obtain ⟨z, e1, h2⟩ := lft_some h1
    cases d with
    | lst ds =>
      cases e1
      obtain ⟨a, vs, rfl, ha, ra⟩ := rv.lst_
      exact ⟨a, vs, rfl, SqL.of (g1.ex _ _ ha), fun q hq => fresh_ok g1 (fun q hq => s1.back g1.ne hq) ra.reverse h2 q hq⟩
    | _ => cases e1⟩
/-- a built-in call that gives a fresh list -/
def CallL (W : Wo) (r : List V → Hp → VK → Prop) (f : List D → Option (List D)) : Prop := ∀ (p : Addr) (F H : Hp) (u : PuS) (xs : List V) (as ds : List D) (Q : VK), Gd p u F H → Reps W p F xs as → f as = some ds →
  (∀ q vs, H q = none → Reps W p F vs ds → Q (.ref q) (upd H q (.lst vs))) → r xs H Q
def mCBO (f : List D → Option (List D)) (ms : MA) : MA := fun ρ => M.bind (ms ρ) fun xs => lft (f xs)
theorem rdCBO {rc : List V → Hp → VK → Prop} {f : List D → Option (List D)} {ms : MA} (hm : CallL c.W rc f) : ∀ σ H Q, rdL c (mCBO f ms) σ H Q → tCB rc (rdA c ms) σ H Q := fun σ H Q ⟨F, u, ρ, S, h⟩ =>
  ⟨F, u, ρ, S, (After.split h).imp fun ds u1 F1 H1 _ s1 g1 h1 vs rvs => by
    obtain ⟨z, e1, h2⟩ := lft_some h1
    exact hm _ _ _ _ _ _ _ _ g1 rvs e1 fun q ws hq rw => fresh_ok g1 (fun q hq => s1.back g1.ne hq) rw h2 q hq⟩
theorem dCallTO {rc : List V → Hp → VK → Prop} {f : List D → Option (List D)} {id : String} {x : Str} {p : Pos} {es : List Expr} {ms : MA} (hm : CallL c.W rc f) (hc : CallR X (.type id) rc) (hg : Gl X x) (hmg : X.mg x = none) (hv : bootBuiltins x = some (.type id)) (ha : DA X c (e :: es) ms)
    (hn : x ≠ "__name__" := by decide) (hdb : (x == ("__debug__" : Str)) = false := by decide) (he : starEach (e :: es) X.env = (false, eval e X.env) :: starEach es X.env := by rfl) (hpl : (backTo pos (starEach es X.env)).any (·.1) = false := by rfl) :
    DL X c (.Call (.Name x p) (e :: es) [] pos) (mCBO f ms) := (pe_callTy hc hg hmg hv ha hn hdb he hpl).imp (rdCBO hm)
def listO : List D → Option (List D) := fun ds => match ds with
  | [.lst xs] => some xs
  | [.tup xs] => some xs
  | _ => none
theorem m_listO {W : Wo} : CallL W (fun xs H Q => ∃ p ys, xs = [.ref p] ∧ (SqL W.K H p ys ∨ SqT W.K H p ys) ∧ ∀ l, H l = none → Q (.ref l) (upd H l (.lst ys))) listO := by
  intro p F H u xs as ds Q gd r e h
  unfold listO at e
  split at e
  · cases e
    obtain ⟨v, rfl, rv⟩ := r.one
    obtain ⟨q, vs, rfl, hq, rs⟩ := rv.lst_
    exact ⟨q, vs, rfl, .inl (SqL.of (gd.ex _ _ hq)), fun l hl => h l vs hl rs⟩
  · cases e
    obtain ⟨v, rfl, rv⟩ := r.one
    obtain ⟨q, vs, rfl, hq, rs⟩ := rv.tup_
    exact ⟨q, vs, rfl, .inr (sq_t gd.ex hq), fun l hl => h l vs hl rs⟩
  · cases e
end
end Mi

set_option Elab.async false
set_option linter.all false
set_option maxRecDepth 100000
set_option maxHeartbeats 4000000
/-! MiB: the head's facts by names: a Hook of this framework's own. -/
namespace Mi
open PySem PySem.Spec PyProof.Rows L2 He
variable [TB : Tabl]

/-! ### the written part: what the module's names reach -/
def refsM (o : Obj) : List Addr := match o.cls with
  | .type "code" => []
  | _ => refsD o
def frontM (g : Addr → Option Obj) (as : List Addr) : List Addr := as.flatMap fun a => match g a with
  | some o => refsM o
  | none => []
def bfsM (g : Addr → Option Obj) : Nat → List Addr → List Addr
  | 0, as => as
  | n + 1, as => as ++ bfsM g n (frontM g as).eraseDups
def asM (g : Addr → Option Obj) (n : Nat) : List Addr := (bfsM g n [mainGlobals, cStatics]).eraseDups
def recFn (K : PySem.W.Frag) (p : Addr) (T : String) : Addr := match PySem.W.recIn K p T with
  | some (.ref g :: _) => g
  | _ => 0
def WW (cs : List Str) (K : PySem.W.Frag) : Wo := ⟨K, ga K, cs⟩
/-! ### places of defs -/
inductive Pl where
  | glob (x : Str) | meth (c m : Str) | prop (c m : Str) | stat (c m : Str) | clsm (c m : Str)
def Pl.ad (K : PySem.W.Frag) : Pl → Addr
  | .glob x => ga K x
  | .meth c m => ma K (ga K c) m
  | .prop c m => recFn K (ma K (ga K c) m) "property"
  | .stat c m => recFn K (ma K (ga K c) m) "staticmethod"
  | .clsm c m => recFn K (ma K (ga K c) m) "classmethod"
def fd0 : FuncData := PySem.W.fnOf "" "" ⟨[], [], none, [], [], none, []⟩ [] ⟨.function, [], false, false, []⟩ .none .none .none .none none .none .none
def fdOf (K : PySem.W.Frag) (a : Addr) : FuncData := match K.lookup a with
  | some ⟨_, _, .func fd, _⟩ => fd
  | _ => fd0
/-- one def: its place, name, qualified name, parameters, body, scope -/
structure DefP where
  at_ : Pl
  name : Str
  qual : Str
  params : Arguments
  body : List Stmt
  scope : Scope
def fnP (K : PySem.W.Frag) (a : Addr) : FnW := match K.lookup a with
  | some ⟨_, _, .func fd, _⟩ => some (fd.name, fd.qualname, fd.params, fd.body, fd.scope, fd.globals, fd.closure, fd.builtins)
  | _ => none
def DefP.val (d : DefP) : FnW := some (d.name, d.qual, d.params, .stmts d.body, d.scope, mainGlobals, [], builtinsNs)
def DefP.ok (K : PySem.W.Frag) (d : DefP) : Bool := PySem.W.keepIn K (.ref (d.at_.ad K)) && (match K.lookup (d.at_.ad K) with
  | some ⟨_, _, .func fd, _⟩ => PySem.W.codeIn K fd.code d.qual && dflB K fd.defaults []
  | _ => false)
abbrev FunP (K : PySem.W.Frag) (d : DefP) : Prop := FunD K d.name d.qual d.params d.body d.scope [] [] (d.at_.ad K) (fdOf K (d.at_.ad K))
theorem DefP.funD {K : PySem.W.Frag} {d : DefP} (e : fnP K (d.at_.ad K) = d.val) (c : d.ok K = true) : FunP K d := by
  obtain ⟨kp, c2⟩ := ba c
  unfold fnP at e
  unfold FunP fdOf
  cases q : K.lookup (d.at_.ad K) with
  | none =>
    rw [q] at c2
    cases c2
  | some o =>
    obtain ⟨oc, od, dt, osl⟩ := o
    rw [q] at c2 e
    cases dt with
    | func fd =>
      obtain ⟨n1, n2, n3, n4, n5, n6, n7, n8, n9, n10, n11, n12, n13, n14, n15⟩ := fd
      have e2 : (some (n1, n2, n3, n4, n5, n6, n7, n15) : FnW) = some (d.name, d.qual, d.params, .stmts d.body, d.scope, mainGlobals, [], builtinsNs) := e
      simp only [Option.some.injEq, Prod.mk.injEq] at e2
      obtain ⟨h1, h2, h3, h4, h5, h6, h7, h8⟩ := e2
      subst h1 h2 h3 h4 h5 h6 h7 h8
      have c3 : (PySem.W.codeIn K n13 d.qual && dflB K n8 []) = true := c2
      obtain ⟨k1, k2⟩ := ba c3
      exact ⟨⟨oc, od, n8, n9, n10, n11, n12, n13, n14, osl, rfl, q, k1, dflB_ok k2, .inl rfl⟩, kp⟩
    | _ => cases c2
/-! ### facts -/
inductive Ft where
  | b (f : Fa) | prop (c f : Str) | stat (c m : Str) | clsm (c m : Str) | eqc (c : Str) | isi (cs : List Str) | len (c : Str) | raw (f : PySem.W.Frag → Bool)
def insB (K : PySem.W.Frag) (C : Addr) : Bool := (PySem.W.plainGet K C Str.empty && (PySem.W.hasDictIn K C && (PySem.W.plainOver K C && eqO (PySem.W.findIn K (.ref C) "__setattr__") (some (some (.builtin "object.__setattr__"))))))
  && (eqO (PySem.W.findIn K (.ref C) "__class__") (some (some (.builtin "object.__class__"))) && (eqO (PySem.W.specialIn K (.builtin "object.__class__") "__get__") (some (some (.builtin "getset_descriptor.__get__")))
  && (decide (PySem.W.takesIn K (.builtin "object.__class__") = some true) && decide (PySem.W.mroIn K C (.type "object") = some true))))
def Ft.ok (K : PySem.W.Frag) : Ft → Bool
  | .b f => f.ok K
  | .prop c f => eqO (PySem.W.findIn K (.ref (ga K c)) f) (some (some (.ref (ma K (ga K c) f)))) && (eqO (PySem.W.specialIn K (.ref (ma K (ga K c) f)) "__get__") (some (some (.builtin "property.__get__"))) && (decide (PySem.W.takesIn K (.ref (ma K (ga K c) f)) = some true) &&
    (match PySem.W.recIn K (ma K (ga K c) f) "property" with
      | some (.ref _ :: _) => true
      | _ => false)))
  | .stat c m => PySem.W.readsIn K (ga K c) (.type "type") && (eqO (PySem.W.specialIn K (.ref (ga K c)) "__getattribute__") (some (some (.builtin "type.__getattribute__"))) && ((match PySem.W.findCls K (.ref (ga K c)) (.type "type") m with
      | some (.get (.builtin "staticmethod.__get__") (.ref q) .none (.ref C)) => decide (q = ma K (ga K c) m) && decide (C = ga K c)
      | _ => false) && ((match PySem.W.recIn K (ma K (ga K c) m) "staticmethod" with
      | some (.ref _ :: _) => true
      | _ => false) && PySem.W.keepIn K (.ref (recFn K (ma K (ga K c) m) "staticmethod")))))
  | .clsm c m => PySem.W.readsIn K (ga K c) (.type "type") && (eqO (PySem.W.specialIn K (.ref (ga K c)) "__getattribute__") (some (some (.builtin "type.__getattribute__"))) && ((match PySem.W.findCls K (.ref (ga K c)) (.type "type") m with
      | some (.get (.builtin "classmethod.__get__") (.ref q) .none (.ref C)) => decide (q = ma K (ga K c) m) && decide (C = ga K c)
      | _ => false) && ((match PySem.W.recIn K (ma K (ga K c) m) "classmethod" with
      | some (.ref _ :: _) => true
      | _ => false) && PySem.W.fnIn K (recFn K (ma K (ga K c) m) "classmethod"))))
  | .eqc c => eqO (PySem.W.findIn K (.ref (ga K c)) "__eq__") (some (some (.ref (ma K (ga K c) "__eq__")))) && (PySem.W.isFn K (.ref (ma K (ga K c) "__eq__")) && (eqO (PySem.W.findIn K (.ref (ga K c)) "__ne__") (some (some (.builtin "object.__ne__"))) && decide (PySem.W.mroIn K (ga K c) (.type "object") = some true)))
  | .isi cs => (cs.all fun c => insB K (ga K c)) && ((cs.all fun c => cs.all fun k => decide (PySem.W.kitOne K (.ref (ga K c)) (.ref (ga K k)) = some (subC c k))) &&
    ((["NoneType", "bool", "int", "str", "tuple", "list", "dict"].all fun a => cs.all fun k => decide (PySem.W.kitOne K (.type a) (.ref (ga K k)) = some false)) &&
    (cs.all fun c => ["int", "bool", "str", "tuple", "list"].all fun n => decide (PySem.W.kitOne K (.ref (ga K c)) (.type n) = some false))))
  | .len c => eqO (PySem.W.findIn K (.ref (ga K c)) "__len__") (some (some (.ref (ma K (ga K c) "__len__")))) && PySem.W.isFn K (.ref (ma K (ga K c) "__len__"))
  | .raw f => f K
section
variable {K : PySem.W.Frag}
theorem prop_ok {c f : Str} (h : (Ft.prop c f).ok K = true) : PropOf K (ga K c) f (ma K (ga K c) f) ((Pl.prop c f).ad K) := by
  obtain ⟨h1, h⟩ := ba h
  obtain ⟨h2, h⟩ := ba h
  obtain ⟨h3, h4⟩ := ba h
  refine ⟨eqO_ok h1, eqO_ok h2, of_decide_eq_true h3, ?_⟩
  unfold Pl.ad recFn
  split at h4
  · rename_i g rest e
    simp only [e]
    exact ⟨rest, rfl⟩
  · cases h4
theorem stat_ok {c m : Str} (h : (Ft.stat c m).ok K = true) : SMet K (ga K c) (.type "type") m (ma K (ga K c) m) ((Pl.stat c m).ad K) := by
  obtain ⟨h1, h⟩ := ba h
  obtain ⟨h2, h⟩ := ba h
  obtain ⟨h3, h⟩ := ba h
  obtain ⟨h4, h5⟩ := ba h
  refine ⟨h1, eqO_ok h2, ?_, ?_, h5⟩
  · split at h3
    · rename_i q C e
      obtain ⟨e1, e2⟩ := ba h3
      rw [e, of_decide_eq_true e1, of_decide_eq_true e2]
    · cases h3
  · unfold Pl.ad recFn
    split at h4
    · rename_i g rest e
      simp only [e]
      exact ⟨rest, rfl⟩
    · cases h4
theorem clsm_ok {c m : Str} (h : (Ft.clsm c m).ok K = true) : ClX.CRead K (ga K c) (.type "type") ∧ ClX.CMet K (ga K c) (.type "type") m (ma K (ga K c) m) ((Pl.clsm c m).ad K) := by
  obtain ⟨h1, h⟩ := ba h
  obtain ⟨h2, h⟩ := ba h
  obtain ⟨h3, h⟩ := ba h
  obtain ⟨h4, h5⟩ := ba h
  refine ⟨⟨h1, eqO_ok h2⟩, ?_, ?_, h5⟩
  · split at h3
    · rename_i q C e
      obtain ⟨e1, e2⟩ := ba h3
      rw [e, of_decide_eq_true e1, of_decide_eq_true e2]
    · cases h3
  · unfold Pl.ad recFn
    split at h4
    · rename_i g rest e
      simp only [e]
      exact ⟨rest, rfl⟩
    · cases h4
theorem eqc_ok {c : Str} (h : (Ft.eqc c).ok K = true) : EqC K (ga K c) ((Pl.meth c "__eq__").ad K) := by
  obtain ⟨h1, h⟩ := ba h
  obtain ⟨h2, h⟩ := ba h
  obtain ⟨h3, h4⟩ := ba h
  exact ⟨eqO_ok h1, h2, eqO_ok h3, of_decide_eq_true h4⟩
theorem len_ok {c : Str} (h : (Ft.len c).ok K = true) : PySem.W.findIn K (.ref (ga K c)) "__len__" = some (some (.ref ((Pl.meth c "__len__").ad K))) ∧ PySem.W.isFn K (.ref ((Pl.meth c "__len__").ad K)) = true := by
  obtain ⟨h1, h2⟩ := ba h
  exact ⟨eqO_ok h1, h2⟩
theorem isi_ok {cs : List Str} (h : (Ft.isi cs).ok K = true) : IsiOk (WW cs K) := by
  obtain ⟨h1, h⟩ := ba h
  obtain ⟨h2, h⟩ := ba h
  obtain ⟨h3, h4⟩ := ba h
  refine ⟨fun c hc H a dx fs e => ?_, fun c hc k hk => ?_, fun a ha k hk => ?_, fun c hc n hn => ?_⟩
  · obtain ⟨k1, k⟩ := ba (List.all_eq_true.mp h1 c hc)
    obtain ⟨k2, k⟩ := ba k
    obtain ⟨k3, k⟩ := ba k
    obtain ⟨k4, k5⟩ := ba k
    obtain ⟨c1, c⟩ := ba k1
    obtain ⟨c2, c⟩ := ba c
    obtain ⟨c3, c4⟩ := ba c
    exact .ins e ⟨c1, c2, c3, eqO_ok c4⟩ (eqO_ok k2) (eqO_ok k3) (of_decide_eq_true k4) (of_decide_eq_true k5)
  · exact of_decide_eq_true (List.all_eq_true.mp (List.all_eq_true.mp h2 c hc) k hk)
  · exact of_decide_eq_true (List.all_eq_true.mp (List.all_eq_true.mp h3 a ha) k hk)
  · exact of_decide_eq_true (List.all_eq_true.mp (List.all_eq_true.mp h4 c hc) n hn)
end
/-! ### the Hook -/
abbrev AlP : Type := Bool × List FnW
def obsP (fa : List Ft) (fn : List DefP) (K : PySem.W.Frag) : AlP := ((fa.all fun f => f.ok K) && fn.all fun d => d.ok K, fn.map fun d => fnP K (d.at_.ad K))
def valP (fn : List DefP) : AlP := (true, fn.map DefP.val)
def SaysP (fa : List Ft) (fn : List DefP) (K : PySem.W.Frag) : Prop := obsP fa fn K = valP fn
def obsPG (n : Nat) (fa : List Ft) (fn : List DefP) (g : Addr → Option Obj) : AlP := obsP fa fn (frG g (asM g n))
def hookP (n : Nat) (fa : List Ft) (fn : List DefP) : PySem.W.Hook where
  α := AlP
  obs := fun s => obsPG n fa fn s.heap.get?
  val := fun _ => valP fn
  says := fun _ h => ∃ K : PySem.W.Frag, K.In h ∧ SaysP fa fn K
  of := fun _ _ e => ⟨_, frG_in, e⟩
  keeps := fun _ _ _ ⟨K, hK, c⟩ k => ⟨K, PySem.W.Frag.In.keeps hK k, c⟩
theorem obsPG_eq {n : Nat} {fa : List Ft} {fn : List DefP} {g : Addr → Option Obj} {s : Shared} (h : ∀ a, g a = s.heap.get? a) : obsPG n fa fn g = (hookP n fa fn).obs s := by
  have e : g = s.heap.get? := funext h
  rw [e] <;> rfl
/-- all that the walk leans on -/
structure HF (fa : List Ft) (fn : List DefP) (K : PySem.W.Frag) (mg : Str → Option Value) : Prop where
  says : SaysP fa fn K
  ns : ∃ h : Heap, K.In h ∧ h.Ns mainGlobals mg
section
variable {fa : List Ft} {fn : List DefP} {K : PySem.W.Frag} {mg : Str → Option Value}
theorem HF.fact (c : HF fa fn K mg) (i : Nat) {f : Ft} (h : fa[i]? = some f) : f.ok K = true := by
  have c1 := (ba (show ((fa.all fun f => f.ok K) && fn.all fun d => d.ok K) = true from congrArg (fun z : AlP => z.1) c.says)).1
  exact List.all_eq_true.mp c1 f (List.mem_of_getElem? h)
theorem HF.fun_ (c : HF fa fn K mg) (i : Nat) {d : DefP} (h : fn[i]? = some d) : FunP K d := by
  have c2 := (ba (show ((fa.all fun f => f.ok K) && fn.all fun d => d.ok K) = true from congrArg (fun z : AlP => z.1) c.says)).2
  have e : fn.map (fun d => fnP K (d.at_.ad K)) = fn.map DefP.val := congrArg (fun z : AlP => z.2) c.says
  have e2 : (fn.map fun d => fnP K (d.at_.ad K))[i]? = (fn.map DefP.val)[i]? := by rw [e]
  rw [List.getElem?_map, List.getElem?_map, h] at e2
  exact DefP.funD (Option.some.inj e2) (List.all_eq_true.mp c2 d (List.mem_of_getElem? h))
theorem HF.glo (c : HF fa fn K mg) (i : Nat) {x : Str} (h : fa[i]? = some (.b (.glo x))) : mg x = some (.ref (ga K x)) := by
  obtain ⟨_, X, G⟩ := c.ns
  exact glo_ok X G (c.fact i h)
theorem HF.free (c : HF fa fn K mg) (i : Nat) {x : Str} (h : fa[i]? = some (.b (.free x))) : mg x = none := by
  obtain ⟨_, X, G⟩ := c.ns
  exact free_ok X G (c.fact i h)
theorem HF.int (c : HF fa fn K mg) (i : Nat) {x : Str} {n : Int} (h : fa[i]? = some (.b (.int x n))) : ∃ t, mg x = some (.int n t) := by
  obtain ⟨_, X, G⟩ := c.ns
  exact int_ok X G (c.fact i h)
theorem HF.str (c : HF fa fn K mg) (i : Nat) {x z : Str} (h : fa[i]? = some (.b (.str x z))) : ∃ t, mg x = some (.str z t) := by
  obtain ⟨_, X, G⟩ := c.ns
  exact str_ok X G (c.fact i h)
theorem HF.cls (c : HF fa fn K mg) (i : Nat) {x : Str} (h : fa[i]? = some (.b (.cls x))) : Cls K (ga K x) := cls_ok (c.fact i h)
theorem HF.noat (c : HF fa fn K mg) (i : Nat) {x f : Str} (h : fa[i]? = some (.b (.noat x f))) : NoAttr K (ga K x) f := noat_ok (c.fact i h)
theorem HF.meth (c : HF fa fn K mg) (i : Nat) {x m : Str} (h : fa[i]? = some (.b (.meth x m))) : Meth K (ga K x) m ((Pl.meth x m).ad K) := meth_ok (c.fact i h)
theorem HF.mkr (c : HF fa fn K mg) (i : Nat) {x : Str} (h : fa[i]? = some (.b (.mkr x))) : Mk K (ga K x) ((Pl.meth x "__init__").ad K) := mkr_ok (c.fact i h)
end
/-- a def's promise at its place -/
abbrev FO (cs : List Str) (P : Program) (w : World) (K : PySem.W.Frag) (mg : Str → Option Value) (base : Heap) (k : Nat) (pl : Pl) (ps : List Str) (n : Nat) (mf : List D → M D) : Prop := FnOk P w K mg base CX0 k (pl.ad K) (fdOf K (pl.ad K)) ps (spM (WW cs K) n mf)
end Mi

set_option Elab.async false
set_option linter.all false
set_option maxRecDepth 100000
set_option maxHeartbeats 4000000
/-! MiC: walks over lists or tuples; owned lists borrowed by an expression; names of built-ins. -/
namespace Mi
open PySem PySem.Spec PyProof.Rows L2
variable [TB : Tabl]

/-! ### built-ins by name -/
theorem bb_len : bootBuiltins "len" = some (.builtin "len") := by decide +kernel
theorem bb_sum : bootBuiltins "sum" = some (.builtin "sum") := by decide +kernel
theorem bb_max : bootBuiltins "max" = some (.builtin "max") := by decide +kernel
theorem bb_min : bootBuiltins "min" = some (.builtin "min") := by decide +kernel
theorem bb_all : bootBuiltins "all" = some (.builtin "all") := by decide +kernel
theorem bb_any : bootBuiltins "any" = some (.builtin "any") := by decide +kernel
theorem bb_abs : bootBuiltins "abs" = some (.builtin "abs") := by decide +kernel
theorem bb_divmod : bootBuiltins "divmod" = some (.builtin "divmod") := by decide +kernel
theorem bb_isinstance : bootBuiltins "isinstance" = some (.builtin "isinstance") := by decide +kernel
theorem bb_int : bootBuiltins "int" = some (.type "int") := by decide +kernel
theorem bb_bool : bootBuiltins "bool" = some (.type "bool") := by decide +kernel
theorem bb_str : bootBuiltins "str" = some (.type "str") := by decide +kernel
theorem bb_list : bootBuiltins "list" = some (.type "list") := by decide +kernel
theorem bb_tuple : bootBuiltins "tuple" = some (.type "tuple") := by decide +kernel

/-! ### walks over lists or tuples -/
theorem _root_.L2.PI.or {X : Cx} {tg e : Expr} {t t' : TI} (h : PI X tg e t) (h' : PI X tg e t') : PI X tg e (fun σ H R => t σ H R ∨ t' σ H R) := ⟨fun pins s σ H R I q => q.elim (h.run pins s σ H R I) (h'.run pins s σ H R I)⟩
/-- what is walked over -/
def itD : D → Option (List D)
  | .lst ds => some ds
  | .tup ds => some ds
  | .str z => some (z.cps.toList.map fun c => .str ⟨#[c]⟩)
  | _ => none
def mIany (m : ME) : MA := fun ρ => M.bind (m ρ) fun d => lft (itD d)
theorem walkD_str {W : Wo} {p : Addr} {F : Hp} {z : Str} : WalkD W p (Its z) F (z.cps.toList.map fun c => .str ⟨#[c]⟩) := by
  refine ⟨_, _, by simpa using walk_str (z := z), fun _ _ => trivial, fun i H x H' F2 u d hd e g hy => ?_⟩
  obtain ⟨rfl, c, hc, rfl⟩ := hy
  refine ⟨F2, Stp.refl, g, ?_⟩
  rw [List.getElem?_map] at hd
  have hc' : z.cps.toList[i]? = some c := by simpa using hc
  rw [hc'] at hd
  cases hd
  exact .str _
def enumA : List D → Option (List D) := fun ds => match ds with
  | [.lst xs] => some (enumD xs)
  | [.tup xs] => some (enumD xs)
  | _ => none
section
variable {X : Cx} {c : Cf} {tg e a b : Expr} {m : ME} {ms : MA} {pos q : Pos}
theorem dIany (h : DE X c e m) (hK : X.K = c.W.K := by rfl) : DI X c tg e (mIany m) :=
  ((dIlist h hK).or ((dItup h hK).or (pi_str h))).imp fun σ H R ⟨F, u, ρ, S, h⟩ => by
    unfold mIany M.bind at h
    cases e1 : m ρ u with
    | none => rw [e1] at h; exact False.elim h
    | some y =>
      obtain ⟨d, u1⟩ := y
      rw [e1] at h
      cases d with
      | lst ds => exact .inl ⟨F, u, ρ, S, by unfold mIseq M.bind; rw [e1]; exact h⟩
      | tup ds => exact .inr (.inl ⟨F, u, ρ, S, by unfold mItup M.bind; rw [e1]; exact h⟩)
      | str z =>
        refine .inr (.inr ⟨F, u, ρ, S, ?_⟩)
        rw [e1]
        exact fun F' H' s' g' v rv => ⟨z, rv.str_, h F' H' s' g' _ walkD_str⟩
      | _ => exact False.elim h
theorem dIenumA {elts : List Expr} {kk : Nat} {tpos : Pos} (hg : Gl X "enumerate") (hm : X.mg "enumerate" = none) (ha : DA X c [a] ms) (hs : starEach [a] X.env = [(false, eval a X.env)] := by rfl) (hK : X.K = c.W.K := by rfl) :
    DI X c (.Tuple elts kk tpos) (.Call (.Name "enumerate" q) [a] [] pos) (mIof enumA ms) :=
  ((dIenum hg hm ha hs hK).or (dIenumT hg hm ha hs hK)).imp fun σ H R ⟨F, u, ρ, S, h⟩ => by
    unfold mIof M.bind at h
    cases e1 : ms ρ u with
    | none => rw [e1] at h; exact False.elim h
    | some y =>
      obtain ⟨ds, u1⟩ := y
      rw [e1] at h
      have key : ∀ f, enumA ds = f ds → rdI c (mIof f ms) σ H R := fun f hf => ⟨F, u, ρ, S, by
        unfold mIof M.bind
        rw [e1]
        show After c.p F H (lft (f ds) u1) _
        rw [← hf]
        exact h⟩
      match ds, h, key with
      | [.lst xs], h, key => exact .inl (key _ rfl)
      | [.tup xs], h, key => exact .inr (key _ rfl)
      | [], h, _ => exact False.elim h
      | [.non], h, _ => exact False.elim h
      | [.bl _], h, _ => exact False.elim h
      | [.int _], h, _ => exact False.elim h
      | [.str _], h, _ => exact False.elim h
      | [.obj _ _ _], h, _ => exact False.elim h
      | [.pur], h, _ => exact False.elim h
      | [.ty _], h, _ => exact False.elim h
      | [.cls _], h, _ => exact False.elim h
      | [.scr _], h, _ => exact False.elim h
      | [.exc _ _ _], h, _ => exact False.elim h
      | [.dct _ _], h, _ => exact False.elim h
      | [.ecl _], h, _ => exact False.elim h
      | x :: y :: r, h, _ => exact (by cases x <;> exact False.elim h)
end

/-! ### borrowing -/
mutual
def noLst : D → Bool
  | .lst _ => false
  | .scr _ => false
  | .tup ds => noLsts ds
  | .obj _ _ ds => noLsts ds
  | .exc _ _ ds => noLsts ds
  | .dct _ ds => noLsts ds
  | _ => true
def noLsts : List D → Bool
  | [] => true
  | d :: ds => noLst d && noLsts ds
end
theorem noLsts_at : ∀ {ds : List D} {i : Nat} {d : D}, noLsts ds = true → ds[i]? = some d → noLst d = true
  | [], i, d, _, e => by simp at e
  | a :: ds, 0, d, h, e => by
    simp at e
    subst e
    unfold noLsts at h
    exact (Bool.and_eq_true_iff.mp h).1
  | a :: ds, i + 1, d, h, e => by
    unfold noLsts at h
    exact noLsts_at (Bool.and_eq_true_iff.mp h).2 (by simpa using e)
theorem Rep.without {W : Wo} {p q : Addr} {F F' : Hp} {ws : List V} (hq : F q = some (.lst ws)) (sub : ∀ a o, a ≠ q → F a = some o → F' a = some o) {v : V} {d : D} (h : Rep W p F v d) : noLst d = true → Rep W p F' v d := by
  induction h with
  | non => exact fun _ => .non
  | bl b => exact fun _ => .bl b
  | int i => exact fun _ => .int i
  | str x => exact fun _ => .str x
  | ty n => exact fun _ => .ty n
  | cls c hc => exact fun _ => .cls c hc
  | pur => exact fun _ => .pur
  | scr h => intro n; unfold noLst at n; cases n
  | tup h l r ih =>
    intro n
    unfold noLst at n
    refine .tup ?_ l fun i v d e1 e2 => ih i v d e1 e2 (noLsts_at n e2)
    rcases h with (h | ⟨o, h⟩) | h
    · exact .inl (.inl (sub _ _ (fun z => by rw [z, hq] at h; cases h) h))
    · exact .inl (.inr ⟨o, sub _ _ (fun z => by rw [z, hq] at h; cases h) h⟩)
    · exact .inr h
  | lst h l r ih => intro n; unfold noLst at n; cases n
  | obj hc h lk l r ih =>
    intro n
    unfold noLst at n
    exact .obj hc (sub _ _ (fun z => by rw [z, hq] at h; cases h) h) lk l fun i v d e1 e2 => ih i v d e1 e2 (noLsts_at n e2)
  | exc hc h hk hf h2 hx lk l r ih =>
    intro n
    unfold noLst at n
    exact .exc hc (sub _ _ (fun z => by rw [z, hq] at h; cases h) h) hk hf h2 (hx.imp (fun w => ⟨w.1, sub _ _ (fun z => by have := w.2; rw [z, hq] at this; cases this) w.2⟩) id) lk l fun i v d e1 e2 => ih i v d e1 e2 (noLsts_at n e2)
  | ecl c hc => exact fun _ => .ecl c hc
  | dct h lk l r ih =>
    intro n
    unfold noLst at n
    exact .dct (sub _ _ (fun z => by rw [z, hq] at h; cases h) h) lk l fun i v d e1 e2 => ih i v d e1 e2 (noLsts_at n e2)
def del (F : Hp) (q : Addr) : Hp := fun a => if a = q then none else F a
theorem del_ne {F : Hp} {q a : Addr} (h : a ≠ q) : del F q a = F a := if_neg h
theorem del_of {F : Hp} {q a : Addr} {o : HO} (h : del F q a = some o) : a ≠ q ∧ F a = some o := by
  unfold del at h
  split at h
  · cases h
  · exact ⟨by assumption, h⟩
/-- an owned list lent out: frozen within, taken back behind -/
theorem Sta.lend {c : Cf} {u : PuS} {F H : Hp} {σ : L2.St} {ρ : Env} (S : Sta c u F H σ ρ) (i : Nat) : Mi.frz i ρ = ρ ∨ ∃ q ws F1, Sta c u F1 H σ (Mi.frz i ρ) ∧ F1 q = some (.lst ws) ∧
    ∀ u' F' H', Stp c.p F1 H F' H' → Gd c.p u' F' H' → Stp c.p F H (del F' q) H' ∧ Gd c.p u' (del F' q) H' ∧ F' q = some (.lst ws) := by
  unfold Mi.frz
  cases ho : vOw ρ i with
  | none => exact .inl rfl
  | some ds =>
    right
    obtain ⟨q, vs, e1, hq, hf, hp, h0, r⟩ := S.ow ho
    have hsm : Same F (upd F q (.lst vs)) := fun a o e => by rw [upd_ne (fun z => by rw [z, hf] at e; cases e)]; exact e
    have qs : ∀ {j : Nat} {t : Sd} {a : Addr}, i ≠ j → ρ[j]? = some t → t.own = true → σ[j]? = some (some (.ref a)) → a ≠ q := fun {j t a} ne e2 o z h => by
      subst h
      exact S.env.ne i j _ t ne (vOw_at ho) e2 rfl o (e1.trans z.symm)
    refine ⟨q, vs, upd F q (.lst vs), ⟨⟨S.ent.ef.trans hsm, S.ent.eh, S.ent.et, fun a o e => ?_⟩, ⟨fun a o e => ?_, S.gd.pu, fun l e => by rw [upd_ne (Ne.symm hp)]; exact S.gd.off l e, nt_upd S.gd.nt (by intro _ z; cases z), S.gd.tb, S.gd.hp⟩, by simpa using S.env.len, fun j t e => ?_, fun j k t t' h ea eb o1 o2 => ?_⟩, upd_same, fun u' F' H' s g => ⟨⟨fun a o e => ?_, s.eh, s.et, fun a o e => ?_⟩, ⟨fun a o e => ?_, g.pu, fun l e => ?_, fun a ps z => g.nt a ps (del_of z).2, g.tb, g.hp⟩, s.ef q _ upd_same⟩⟩
    · by_cases ha : a = q
      · subst ha; exact .inr h0
      · rw [upd_ne ha] at e; exact S.ent.nw a o e
    · by_cases ha : a = q
      · subst ha; rw [upd_same] at e; cases e; exact hq
      · rw [upd_ne ha] at e; exact S.gd.ex a o e
    · rcases set_get e with ⟨rfl, rfl, _⟩ | ⟨ne, e⟩
      · exact ⟨.ref q, e1, Rep.mkL upd_same (r.mono hsm)⟩
      · have k := S.env.at_ j t e
        cases t with
        | un => trivial
        | sh d => obtain ⟨v, z, r'⟩ := k; exact ⟨v, z, r'.mono hsm⟩
        | ow es => obtain ⟨a, xs, z, ha, hfa, w1, w2, r'⟩ := k; exact ⟨a, xs, z, ha, by rw [upd_ne (qs ne e rfl z)]; exact hfa, w1, w2, r'.mono hsm⟩
        | oi kk ks es => obtain ⟨dx, xs, z, ha, hfa, w1, w2, w3, r'⟩ := k; exact ⟨dx, xs, z, ha, by rw [upd_ne (qs ne e rfl z)]; exact hfa, w1, w2, w3, r'.mono hsm⟩
    · rcases set_get ea with ⟨rfl, rfl, _⟩ | ⟨n1, ea⟩
      · cases o1
      · rcases set_get eb with ⟨rfl, rfl, _⟩ | ⟨n2, eb⟩
        · cases o2
        · exact S.env.ne j k t t' h ea eb o1 o2
    · have ha : a ≠ q := fun z => by rw [z, hf] at e; cases e
      rw [del_ne ha]
      exact s.ef a o (by rw [upd_ne ha]; exact e)
    · obtain ⟨ha, e⟩ := del_of e
      rcases s.nw a o e with h | h
      · rw [upd_ne ha] at h; exact .inl h
      · exact .inr h
    · obtain ⟨ha, e⟩ := del_of e
      exact g.ex a o e
    · rw [del_ne (Ne.symm hp)]
      exact g.off l e
def mBor (i : Nat) (m : ME) : ME := fun ρ => M.bind (m (frz i ρ)) fun d => lft (if noLst d = true then some d else none)
def mBorT (i : Nat) (m : MT) : MT := fun ρ => m (frz i ρ)
def mBorL (i : Nat) (m : MA) : MA := fun ρ => M.bind (m (frz i ρ)) fun d => lft (if noLsts d = true then some d else none)
section
variable {X : Cx} {c : Cf} {e : Expr} {m : ME} {mt : MT} {ml : MA} {i : Nat}
theorem dBor (i : Nat) (h : DE X c e m) : DE X c e (mBor i m) := h.imp fun σ H Q ⟨F, u, ρ, S, h⟩ => by
  unfold mBor M.bind at h
  cases e1 : m (frz i ρ) u with
  | none => rw [e1] at h; exact False.elim h
  | some y =>
    obtain ⟨d, u1⟩ := y
    rw [e1] at h
    obtain ⟨hn, h2⟩ := lft_if (b := noLst d = true) (a := d) h
    rcases S.lend i with z | ⟨q, ws, F1, S1, hq, back⟩
    · rw [z] at e1
      exact ⟨F, u, ρ, S, by rw [e1]; exact h2⟩
    · refine ⟨F1, u, frz i ρ, S1, ?_⟩
      rw [e1]
      intro F' H' s' g' v rv
      obtain ⟨s2, g2, hq2⟩ := back _ _ _ s' g'
      exact h2 _ _ s2 g2 v (rv.without hq2 (fun a o ha e => by rw [del_ne ha]; exact e) hn)
theorem dBorT (i : Nat) (h : DT X c e mt) : DT X c e (mBorT i mt) := h.imp fun σ H Q ⟨F, u, ρ, S, h⟩ => by
  unfold mBorT at h
  rcases S.lend i with z | ⟨q, ws, F1, S1, hq, back⟩
  · rw [z] at h
    exact ⟨F, u, ρ, S, h⟩
  · refine ⟨F1, u, frz i ρ, S1, ?_⟩
    cases e1 : mt (frz i ρ) u with
    | none => rw [e1] at h; exact False.elim h
    | some y =>
      obtain ⟨d, u1⟩ := y
      rw [e1] at h
      intro F' H' s' g'
      obtain ⟨s2, g2, hq2⟩ := back _ _ _ s' g'
      exact h _ _ s2 g2
theorem dBorL (i : Nat) (h : DL X c e ml) : DL X c e (mBorL i ml) := h.imp fun σ H Q ⟨F, u, ρ, S, h⟩ => by
  unfold mBorL M.bind at h
  cases e1 : ml (frz i ρ) u with
  | none => rw [e1] at h; exact False.elim h
  | some y =>
    obtain ⟨d, u1⟩ := y
    rw [e1] at h
    obtain ⟨hn, h2⟩ := lft_if (b := noLsts d = true) (a := d) h
    rcases S.lend i with z | ⟨q, ws, F1, S1, hq, back⟩
    · rw [z] at e1
      exact ⟨F, u, ρ, S, by rw [e1]; exact h2⟩
    · refine ⟨F1, u, frz i ρ, S1, ?_⟩
      rw [e1]
      intro F' H' s' g' q' vs hF hn' hv rv
      obtain ⟨s2, g2, hq2⟩ := back _ _ _ s' g'
      refine h2 _ _ s2 g2 q' vs ?_ hn' hv ⟨rv.1, fun j v d e2 e3 => (rv.2 j v d e2 e3).without hq2 (fun a o ha e => by rw [del_ne ha]; exact e) (noLsts_at hn e3)⟩
      unfold del
      split
      · rfl
      · exact hF
end
end Mi

set_option Elab.async false
set_option linter.all false
set_option maxRecDepth 100000
set_option maxHeartbeats 4000000
/-! MiD: == and != of objects as conditions; chained comparisons. -/
namespace Mi
open PySem PySem.Spec PyProof.Rows L2
variable [TB : Tabl]
section
variable {X : Cx} {c : Cf} {k : Nat} {f : Addr} {fd : FuncData} {ps : List Str} {mf : List D → M D} {ck : Str} {a b : Expr} {ma mb : ME} {pos : Pos}
theorem rdEqO : ∀ σ H Q, rdE c (mEqO ck mf ma mb) σ H Q → tOp (rOwn (c.W.cl ck) id (spM c.W 2 mf)) (rdE c ma) (rdE c mb) σ H Q :=
  fun σ H Q ⟨F, u, ρ, S, h⟩ =>
    ⟨F, u, ρ, S, (After.split h).imp fun x u1 F1 H1 _ s1 g1 h1 v rv => ⟨F1, u1, ρ, S.step s1 g1, (After.split h1).imp fun y u2 F2 H2 _ s2 g2 h2 w rw => by
      have rv := rv.mono s2.ef
      split at h2
      · split at h2
        · rename_i hh
          obtain ⟨rfl, e2⟩ := hh
          subst e2
          obtain ⟨p1, dx, vs, rfl, h3, _⟩ := id rv.obj_
          obtain ⟨p2, dy, ws, rfl, h4, _⟩ := id rw.obj_
          refine ⟨p1, p2, dx, dy, _, _, rfl, rfl, g2.ex _ _ h3, g2.ex _ _ h4, rfl, c.p, F2, u2, [_, _], g2, Reps.cons rv (Reps.cons rw Reps.nil), (After.split h2).imp fun d u3 F3 H3 _ s3 g3 h5 z rz => ?_⟩
          split at h5
          · rename_i bb _h
            have h6 : After c.p F3 H3 (some (D.bl bb, u3)) (fun d _ F' H' => ∀ v, Rep c.W c.p F' v d → Q v H') := h5
            exact ⟨bb, rz.bl_, After.now g3 h6 _ (.bl bb)⟩
          · exact False.elim h5
        · exact False.elim h2
      · exact False.elim h2⟩⟩
theorem rdNeO : ∀ σ H Q, rdE c (mNeO ck mf ma mb) σ H Q → tOp (rOwn (c.W.cl ck) (fun b => !b) (spM c.W 2 mf)) (rdE c ma) (rdE c mb) σ H Q :=
  fun σ H Q ⟨F, u, ρ, S, h⟩ =>
    ⟨F, u, ρ, S, (After.split h).imp fun x u1 F1 H1 _ s1 g1 h1 v rv => ⟨F1, u1, ρ, S.step s1 g1, (After.split h1).imp fun y u2 F2 H2 _ s2 g2 h2 w rw => by
      have rv := rv.mono s2.ef
      split at h2
      · split at h2
        · rename_i hh
          obtain ⟨rfl, e2⟩ := hh
          subst e2
          obtain ⟨p1, dx, vs, rfl, h3, _⟩ := id rv.obj_
          obtain ⟨p2, dy, ws, rfl, h4, _⟩ := id rw.obj_
          refine ⟨p1, p2, dx, dy, _, _, rfl, rfl, g2.ex _ _ h3, g2.ex _ _ h4, rfl, c.p, F2, u2, [_, _], g2, Reps.cons rv (Reps.cons rw Reps.nil), (After.split h2).imp fun d u3 F3 H3 _ s3 g3 h5 z rz => ?_⟩
          split at h5
          · rename_i bb _h
            have h6 : After c.p F3 H3 (some (D.bl (!bb), u3)) (fun d _ F' H' => ∀ v, Rep c.W c.p F' v d → Q v H') := h5
            exact ⟨bb, rz.bl_, After.now g3 h6 _ (.bl _)⟩
          · exact False.elim h5
        · exact False.elim h2
      · exact False.elim h2⟩⟩
theorem dTeqO (G : FnOk X.prog X.w X.K X.mg X.base CX0 k f fd ps (spM c.W 2 mf)) (hr : Room k X.A) (hb : Binds X.K fd ps []) (hc : EqC X.K (c.W.cl ck) f) (ha : DE X c a ma) (hb' : DE X c b mb) : DT X c (.Compare a [.Eq] [b] pos) (mB (mEqO ck mf ma mb)) :=
  (pt_cmpR (op_eqOwn G hr hb hc) ha hb' (nomark _)).imp fun σ H Q h => rdEqO σ H _ (rdB σ H Q h)
theorem dTneO (G : FnOk X.prog X.w X.K X.mg X.base CX0 k f fd ps (spM c.W 2 mf)) (hr : Room (k + 1) X.A) (hb : Binds X.K fd ps []) (hc : EqC X.K (c.W.cl ck) f) (ha : DE X c a ma) (hb' : DE X c b mb) : DT X c (.Compare a [.NotEq] [b] pos) (mB (mNeO ck mf ma mb)) :=
  (pt_cmpR (op_neOwn G hr hb hc) ha hb' (nomark _)).imp fun σ H Q h => rdNeO σ H _ (rdB σ H Q h)
end
end Mi

set_option Elab.async false
set_option linter.all false
set_option maxRecDepth 100000
set_option maxHeartbeats 4000000
/-! MiE: the purse read and written; defs that return fresh lists; a call with a purse of its own. -/
namespace Mi
open PySem PySem.Spec PyProof.Rows L2
variable [TB : Tabl]

/-! ### the purse -/
def getP (d k : D) : M D := fun u => match d, k, u with
  | .pur, .int j, .real l => (atI l j).map fun n => (.int n, u)
  | _, _, _ => none
def putP (d k v : D) : M Unit := fun u => match d, k, v, u with
  | .pur, .int j, .int a, .real l => (ixN l.length j).map fun n => ((), .real (l.set n a))
  | _, _, _, _ => none
def mIxP (i : Nat) (mi : ME) : ME := fun ρ => M.bind (mi ρ) fun k => M.bind (lft (vSh ρ i)) fun d => getP d k
def mPutP (i : Nat) (m mi : ME) : MS := fun ρ => M.bind (m ρ) fun v => M.bind (mi ρ) fun k => M.bind (lft (vSh ρ i)) fun d => M.bind (putP d k v) fun _ => M.pure (.nx ρ)
def mDmP (i : Nat) (mi : ME) (j : Nat) (m : ME) : MS := fun ρ => M.bind (m ρ) fun v => match v with
  | .tup [.int a, .int b] => M.bind (mi ρ) fun k => M.bind (lft (vSh ρ i)) fun d => M.bind (putP d k (.int a)) fun _ => M.pure (.nx (ρ.set j (.sh (.int b))))
  | _ => lft none
theorem Sta.purse {c : Cf} {l l' : List Int} {F H : Hp} {σ : L2.St} {ρ : Env} (S : Sta c (.real l) F H σ ρ) : Sta c (.real l') F (upd H c.p (.lst (l'.map V.int))) σ ρ := by
  have hp := S.gd.off l rfl
  refine ⟨⟨S.ent.ef, fun a o h e n => by rw [upd_ne h]; exact S.ent.eh a o h e n, fun a ps h e => by
    rw [upd_ne h]; exact S.ent.et a ps h e, S.ent.nw⟩, ⟨fun a o e => ?_, upd_same, fun _ _ => hp, S.gd.nt, tabs_over S.gd.pu S.gd.tb, (by intro _ z; cases z)⟩, S.env.len, fun i s e => ?_, S.env.ne⟩
  · rw [upd_ne (fun z => by rw [z, hp] at e; cases e)]; exact S.gd.ex a o e
  · have k := S.env.at_ i s e
    cases s with
    | un => trivial
    | sh d => exact k
    | ow es => obtain ⟨a, xs, z, ha, hf, w1, w⟩ := k; exact ⟨a, xs, z, by rw [upd_ne w1]; exact ha, hf, w1, w⟩
    | oi kk ks es => obtain ⟨dx, xs, z, ha, hf, w1, w⟩ := k; exact ⟨dx, xs, z, by rw [upd_ne w1]; exact ha, hf, w1, w⟩
theorem Gd.purse {p : Addr} {l : List Int} {F H : Hp} (g : Gd p (.real l) F H) : H p = some (.lst (l.map V.int)) := g.pu
section
variable {X : Cx} {c : Cf} {pos : Pos} {e ie : Expr} {m mi : ME} {i : Nat} {x : Str}
theorem Rep.pur_ {W : Wo} {p : Addr} {F : Hp} {v : V} (h : Rep W p F v .pur) : v = .ref p := by cases h; rfl
theorem dIxP (i : Nat) {x : Str} {p0 : Pos} (hk : DE X c ie mi) (hN : X.N[i]? = some x := by rfl) (hv : Vis X.env.scope x := by first | exact Or.inl rfl | exact Or.inr (Or.inl rfl) | exact Or.inr (Or.inr rfl)) (hd : (x == ("__debug__" : Str)) = false := by decide)
    (hcd : (x == ("__classdict__" : Str)) = false := by decide) (hs : PlainIx ie := by exact fun _ _ => rfl) : DE X c (.Subscript (.Name x p0) ie pos) (mIxP i mi) :=
  (pe_ix ix_list (pe_var (i := i) hN hv hd hcd) hk hs).imp fun σ H Q ⟨F, u, ρ, S, h⟩ => by
    unfold mIxP at h
    cases ho : vSh ρ i with
    | none =>
      exfalso
      unfold M.bind at h
      cases e1 : mi ρ u with
      | none => rw [e1] at h; exact h
      | some y => rw [e1, ho] at h; exact h
    | some d =>
      obtain ⟨v, ev, rv⟩ := S.var ho
      refine ⟨v, ev, F, u, ρ, S, (After.split h).imp fun k u2 F2 H2 _ s2 g2 h2 w rw => ?_⟩
      obtain ⟨d', e2, h3⟩ := lft_some' h2
      rw [ho] at e2
      cases e2
      cases d with
      | pur =>
        cases k with
        | int j =>
          cases u2 with
          | real l =>
            have h4 : After c.p F2 H2 ((atI l j).map fun n => (D.int n, PuS.real l)) fun d _ F' H' => ∀ v, Rep c.W c.p F' v d → Q v H' := h3
            cases e4 : atI l j with
            | none => rw [e4] at h4; exact False.elim h4
            | some n =>
              rw [e4] at h4
              have h5 : After c.p F2 H2 (some (D.int n, PuS.real l)) fun d _ F' H' => ∀ v, Rep c.W c.p F' v d → Q v H' := h4
              refine ⟨c.p, _, j, .int n, rv.pur_, rw.int_, SqL.of g2.purse, by rw [atI_map, e4]; rfl, After.now g2 h5 _ (.int n)⟩
          | idle o => exact False.elim h3
        | _ => exact False.elim h3
      | _ => cases k <;> exact False.elim h3
theorem put_ok {F H : Hp} {u : PuS} {σ : L2.St} {ρ ρ' : Env} {d k v : D} {vd vk vv : V} {Dn : Ends} {σ' : L2.St} (S : Sta c u F H σ ρ) (rd : Rep c.W c.p F vd d) (rk : Rep c.W c.p F vk k) (rv : Rep c.W c.p F vv v)
    (h : flowO c F Dn (M.bind (putP d k v) (fun _ => M.pure (.nx ρ')) u)) (hs : ∀ {u' F' H'}, Sta c u' F' H' σ ρ → Sta c u' F' H' σ' ρ') : rSetL vd vk vv H fun H4 => Dn.nx σ' H4 := by
  unfold M.bind at h
  cases d with
  | pur =>
    cases k with
    | int j =>
      cases v with
      | int a =>
        cases u with
        | real l =>
          have e0 : putP D.pur (D.int j) (D.int a) (PuS.real l) = (ixN l.length j).map fun n => ((), PuS.real (l.set n a)) := rfl
          rw [e0] at h
          have h2 := h
          cases e1 : ixN l.length j with
          | none => rw [e1] at h2; exact False.elim h2
          | some n =>
            rw [e1] at h2
            refine ⟨c.p, _, j, n, rd.pur_, rk.int_, S.gd.purse, by rw [List.length_map]; exact e1, ?_⟩
            rw [rv.int_, ← List.map_set]
            exact h2 σ' F _ (Same.refl _) (hs (S.purse (l' := l.set n a)))
        | idle o => exact False.elim h
      | _ => exact False.elim h
    | _ => cases v <;> exact False.elim h
  | _ => cases k <;> cases v <;> exact False.elim h
theorem dPutP (i : Nat) {x : Str} {p0 tp : Pos} (he : DE X c e m) (hk : DE X c ie mi) (hN : X.N[i]? = some x := by rfl) (hv : Vis X.env.scope x := by first | exact Or.inl rfl | exact Or.inr (Or.inl rfl) | exact Or.inr (Or.inr rfl)) (hd : (x == ("__debug__" : Str)) = false := by decide)
    (hcd : (x == ("__classdict__" : Str)) = false := by decide)
    (ha : ∀ v, assign (.Subscript (.Name x p0) ie tp) X.env v = (do
      let ov ← holding [v] (eval (.Name x p0) X.env)
      let iv ← holding [v, ov] (eval ie X.env)
      standAt tp
      holding [v, ov, iv] (setItem ov iv v)
      release [v, ov, iv] []) := by intro _; rfl)
    (hs : swapsWithSole [.Subscript (.Name x p0) ie tp] e pos.line X.env = pure false := by rfl) (hw : swappedStores [.Subscript (.Name x p0) ie tp] e X.env = pure none := by rfl)
    (h1 : (assignEach [.Subscript (.Name x p0) ie tp] X.env).map (·.2) = [assign (.Subscript (.Name x p0) ie tp) X.env] := by rfl) : DS X c (.Assign [.Subscript (.Name x p0) ie tp] e pos) (mPutP i m mi) :=
  (ps_asg he (pg_sub (pe_var (i := i) hN hv hd hcd) hk set_list ha) hs hw h1).imp fun Dn σ H ⟨F, u, ρ, S, h⟩ => ⟨F, u, ρ, S, (flowO.after S h).imp fun d u1 F1 H1 _ s1 g1 h1 v rv => by
    cases ho : vSh ρ i with
    | none =>
      exfalso
      have h2 := h1.2
      unfold M.bind at h2
      cases e1 : mi ρ u1 with
      | none => rw [e1] at h2; exact h2
      | some y => rw [e1, ho] at h2; exact h2
    | some dd =>
      obtain ⟨vd, ev, rvd⟩ := h1.1.var ho
      refine ⟨vd, ev, F1, u1, ρ, h1.1, (flowO.after h1.1 h1.2).imp fun k u2 F2 H2 _ s2 g2 h2 w rw => ?_⟩
      obtain ⟨d', e2, h3⟩ := flowO.lft h2.1 h2.2
      rw [ho] at e2
      cases e2
      exact put_ok h2.1 (rvd.mono s2.ef) rw (rv.mono s2.ef) h3 id⟩
/-- x[k], y = e -/
theorem dDmP (i j : Nat) {x y : Str} {p0 p1 tp tq : Pos} {kt : Nat} (hc : X.calm = true) (he : DE X c e m) (hk : DE X c ie mi) (hNd : X.N.Nodup) (hj : X.N[j]? = some y) (hy : Loc X.env.scope y) (hN : X.N[i]? = some x := by rfl) (hv : Vis X.env.scope x := by first | exact Or.inl rfl | exact Or.inr (Or.inl rfl) | exact Or.inr (Or.inr rfl)) (hd : (x == ("__debug__" : Str)) = false := by decide)
    (hcd : (x == ("__classdict__" : Str)) = false := by decide)
    (ha : ∀ v, assign (.Subscript (.Name x p0) ie tp) X.env v = (do
      let ov ← holding [v] (eval (.Name x p0) X.env)
      let iv ← holding [v, ov] (eval ie X.env)
      standAt tp
      holding [v, ov, iv] (setItem ov iv v)
      release [v, ov, iv] []) := by intro _; rfl)
    (hf : X.fn y = true ∨ X.env.scope.names.lookup y = some .local := by first | exact .inl rfl | exact .inr rfl | assumption)
    (ht : (assignEach [.Subscript (.Name x p0) ie tp, .Name y p1] X.env).length = 2 := by rfl) (hst : (assignEach [.Subscript (.Name x p0) ie tp, .Name y p1] X.env).findIdx? (·.1) = none := by rfl)
    (hq1 : (assignEach [.Subscript (.Name x p0) ie tp, .Name y p1] X.env).map (·.2) = assign (.Subscript (.Name x p0) ie tp) X.env :: (assignEach [.Name y p1] X.env).map (·.2) := by rfl)
    (hq2 : (assignEach [.Name y p1] X.env).map (·.2) = assign (.Name y p1) X.env :: (assignEach [] X.env).map (·.2) := by rfl)
    (hs : swapsWithSole [.Tuple [.Subscript (.Name x p0) ie tp, .Name y p1] kt tq] e pos.line X.env = pure false := by rfl) (hw : swappedStores [.Tuple [.Subscript (.Name x p0) ie tp, .Name y p1] kt tq] e X.env = pure none := by rfl)
    (h1 : (assignEach [.Tuple [.Subscript (.Name x p0) ie tp, .Name y p1] kt tq] X.env).map (·.2) = [assign (.Tuple [.Subscript (.Name x p0) ie tp, .Name y p1] kt tq) X.env] := by rfl) (hK : X.K = c.W.K := by rfl) :
    DS X c (.Assign [.Tuple [.Subscript (.Name x p0) ie tp, .Name y p1] kt tq] e pos) (mDmP i mi j m) :=
  (ps_asg he (pg_tup hc (pgs_cons (pg_sub (pe_var (i := i) hN hv hd hcd) hk set_list ha) (pgs_cons (pg_name (i := j) hNd hj hy hf) pgs_nil hq2) hq1) ht hst) hs hw h1).imp fun Dn σ H ⟨F, u, ρ, S, h⟩ => ⟨F, u, ρ, S, (flowO.after S h).imp fun d u1 F1 H1 _ s1 g1 h1 v rv => by
    have h2 := h1.2
    split at h2
    · rename_i a b _hh
      obtain ⟨q, vs, rfl, hq, rs⟩ := rv.tup_
      obtain ⟨v1, v2, rfl, r1, r2⟩ := rs.two
      refine ⟨q, _, rfl, by rw [hK]; exact sq_t g1.ex hq, rfl, v1, [v2], rfl, ?_⟩
      cases ho : vSh ρ i with
      | none =>
        exfalso
        unfold M.bind at h2
        cases e1 : mi ρ u1 with
        | none => rw [e1] at h2; exact h2
        | some y => rw [e1, ho] at h2; exact h2
      | some dd =>
        obtain ⟨vd, ev, rvd⟩ := h1.1.var ho
        refine ⟨vd, ev, F1, u1, ρ, h1.1, (flowO.after h1.1 h2).imp fun k u2 F2 H2 _ s2 g2 h3 w rw => ?_⟩
        obtain ⟨d', e2, h4⟩ := flowO.lft h3.1 h3.2
        rw [ho] at e2
        cases e2
        have h5 := put_ok (Dn := Dn) (ρ' := ρ.set j (.sh (.int b))) (σ' := σ.set j (some v2)) h3.1 (rvd.mono s2.ef) rw (r1.mono s2.ef) h4 fun {u' F' H'} z => by
          rw [r2.int_]
          exact z.set (.int b)
        obtain ⟨pp, xs, kk, n, q1, q2, q3, q4, q5⟩ := h5
        exact ⟨pp, xs, kk, n, q1, q2, q3, q4, v2, [], rfl, rfl, q5⟩
    · exact False.elim h2⟩
end

/-! ### defs that return a fresh list -/
def spL (W : Wo) (n : Nat) (mf : List D → M (List D)) : Sp := fun vs H Q _ => vs.length = n ∧ ∃ p F u ds, Gd p u F H ∧ Reps W p F vs ds ∧
  After p F H (mf ds u) fun es _ F' H' => ∀ q ws, F' q = none → H q = none → H' q = some (.lst ws) → Reps W p F' ws es → Q (.ref q) H'
def mFnL (n : Nat) (mb : MS) : List D → M (List D) := fun ds u => match mb (startE n ds) u with
  | some (.rl d, u') => some (d, u')
  | _ => none
def mRetL (m : MA) : MS := fun ρ => M.bind (m ρ) fun ds => M.pure (.rl ds)
def mRetO (i : Nat) : MS := fun ρ => M.bind (lft (vOw ρ i)) fun ds => M.pure (.rl ds)
section
variable {X : Cx} {c : Cf} {pos : Pos} {e : Expr} {ml : MA}
theorem dRetL (he : DL X c e ml) : DS X c (.Return (some e) pos) (mRetL ml) :=
  (ps_ret he).imp fun Dn σ H ⟨F, u, ρ, S, h⟩ => ⟨F, u, ρ, S, (flowO.after S h).imp fun ds u1 F1 H1 _ s1 g1 h1 q vs hF hn hq r =>
    h1.2 q vs F1 H1 h1.1.ent g1 hF (S.ent.back S.gd.ne hn) hq r⟩
theorem dRetO (i : Nat) {x : Str} {p0 : Pos} (hN : X.N[i]? = some x := by rfl) (hv : Vis X.env.scope x := by first | exact Or.inl rfl | exact Or.inr (Or.inl rfl) | exact Or.inr (Or.inr rfl)) (hd : (x == ("__debug__" : Str)) = false := by decide)
    (hcd : (x == ("__classdict__" : Str)) = false := by decide) : DS X c (.Return (some (.Name x p0)) pos) (mRetO i) :=
  (ps_ret (pe_var (i := i) hN hv hd hcd)).imp fun Dn σ H ⟨F, u, ρ, S, h⟩ => by
    obtain ⟨ds, e1, h2⟩ := flowO.lft S h
    obtain ⟨q, vs, e2, hq, hF, hp, h0, r⟩ := S.ow e1
    exact ⟨.ref q, e2, h2 q vs F H S.ent S.gd hF h0 hq r⟩
end
section
variable {P : Program} {w : World} {K : PySem.W.Frag} {mg : Str → Option Value} {base : Heap} {x qual : Str} {params : Arguments} {body : List Stmt} {scope : Scope} {dvs : List V} {kws : List (Str × V)} {f : Addr} {fd : FuncData} {W : Wo} {N ps : List Str} {k : Nat} {mb : MS}
theorem fn_mirL (F : FunD K x qual params body scope dvs kws f fd) (S : FnScope N ps scope)
    (hb : ∀ (cdv : Value) (A : Around) (outer : List PySem.Env) (s : Shared) (H : Hp) (E : XK) (p : Addr) (F0 : Hp), Room k (A.deeper (envOfC qual scope s.heap.objs.size f cdv)) → DB (cxOf CX0 P w K mg base N qual scope f cdv A outer s H E).nox ⟨W, p, F0, H, 0, noX⟩ body mb) :
    FnOk P w K mg base CX0 (k + 1) f fd ps (spL W ps.length (mFnL N.length mb)) := by
  refine F.ok S (fun vs H Q E h => h.1) (fun cdv A outer s H vs Q E hr h => ?_)
  obtain ⟨hl, p, F0, u, ds, g, r, h⟩ := h
  refine ⟨_, PSs.nox (hb cdv A outer s H E p F0 hr), F0, u, startE N.length ds, ⟨Stp.refl, g, env_start r⟩, ?_⟩
  unfold mFnL at h
  cases e : mb (startE N.length ds) u with
  | none => rw [e] at h; exact h
  | some y =>
    obtain ⟨fl, u1⟩ := y
    rw [e] at h
    cases fl with
    | rl es =>
      intro q ws F' H' s' g' hF hn hq rw
      have h2 : After p F0 H (some (es, u1)) (fun es _ F' H' => ∀ q ws, F' q = none → H q = none → H' q = some (.lst ws) → Reps W p F' ws es → Q (.ref q) H') := h
      exact h2 F' H' s' g' q ws hF hn hq rw
    | nx ρ' => exact False.elim h
    | rt d => exact False.elim h
    | bk ρ' => exact False.elim h
    | ct ρ' => exact False.elim h
    | ex ρ' k' ks' ds' => exact False.elim h
end
def mCallL (n : Nat) (mf : List D → M (List D)) (ms : MA) : MA := fun ρ => M.bind (ms ρ) fun ds => if ds.length = n then mf ds else lft none
section
variable {X : Cx} {c : Cf} {k n : Nat} {f : Addr} {fd : FuncData} {ps : List Str} {x : Str} {p pos : Pos} {e : Expr} {es : List Expr} {ms : MA} {mf : List D → M (List D)}
theorem dCallL (G : FnOk X.prog X.w X.K X.mg X.base CX0 k f fd ps (spL c.W n mf)) (hr : Room k X.A) (hg : Gl X x) (hm : X.mg x = some (.ref f)) (hk : PySem.W.keepIn X.K (.ref f) = true) (hb : Binds X.K fd ps [])
    (ha : DA X c (e :: es) ms) (hdb : (x == ("__debug__" : Str)) = false := by decide) (he : starEach (e :: es) X.env = (false, eval e X.env) :: starEach es X.env := by rfl) (hpl : (backTo pos (starEach es X.env)).any (·.1) = false := by rfl) :
    DL X c (.Call (.Name x p) (e :: es) [] pos) (mCallL n mf ms) :=
  (pe_call G hr hg hm hk hb .nil pass0 ha hdb he hpl).imp fun σ H Q ⟨F, u, ρ, S, h⟩ => ⟨F, u, ρ, S, (After.split h).imp fun ds u1 F1 H1 _ s1 g1 h1 vs rvs => by
    show spL c.W n mf (vs ++ []) H1 Q E0
    rw [List.append_nil]
    split at h1
    · rename_i hl
      exact ⟨rvs.1.trans hl, c.p, F1, u1, ds, g1, rvs, h1.imp fun es u2 F2 H2 _ s2 g2 h2 q ws hF hn hq rw => h2 q ws hF (s1.back g1.ne hn) hq rw⟩
    · exact False.elim h1⟩
/-- f(g(..)), where g makes the purse -/
def mWith (mf : List D → M D) (ml : MA) : ME := fun ρ => M.bind (ml ρ) fun ds => lft (match intsD ds with
  | some l => match mf [.pur] (.real l) with
    | some (.bl b, _) => some (.bl b)
    | _ => none
  | none => none)
theorem dWith {mf : List D → M D} {ml : MA} (G : FnOk X.prog X.w X.K X.mg X.base CX0 k f fd ps (spM c.W 1 mf)) (hr : Room k X.A) (hg : Gl X x) (hm : X.mg x = some (.ref f)) (hk : PySem.W.keepIn X.K (.ref f) = true) (hb : Binds X.K fd ps [])
    (ha : DL X c e ml) (hdb : (x == ("__debug__" : Str)) = false := by decide) (he : starEach [e] X.env = (false, eval e X.env) :: starEach [] X.env := by rfl) (hpl : (backTo pos (starEach [] X.env)).any (·.1) = false := by rfl) :
    DE X c (.Call (.Name x p) [e] [] pos) (mWith mf ml) :=
  (pe_call G hr hg hm hk hb .nil pass0 (pa_cons ha pa_nil he) hdb he hpl).imp fun σ H Q ⟨F, u, ρ, S, h⟩ => ⟨F, u, ρ, S, by
    unfold mWith M.bind at h
    cases e0 : ml ρ u with
    | none => rw [e0] at h; exact False.elim h
    | some y0 =>
      obtain ⟨ds, u1⟩ := y0
      rw [e0] at h
      intro F1 H1 s1 g1 q vs hF hn hq r
      have hqp : q ≠ c.p := fun z => S.gd.ne (z ▸ hn)
      obtain ⟨d, e1, h2⟩ := lft_some h
      cases e2 : intsD ds with
      | none => rw [e2] at e1; cases e1
      | some l =>
        rw [e2] at e1
        have hv := intsD_rep r e2
        subst hv
        show spM c.W 1 mf ([.ref q] ++ []) H1 Q E0
        rw [List.append_nil]
        refine ⟨rfl, q, F1, .real l, [.pur], ⟨g1.ex, hq, fun _ _ => hF, g1.nt, g1.tb, (by intro _ z; cases z)⟩, Reps.cons .pur Reps.nil, ?_⟩
        cases e3 : mf [.pur] (.real l) with
        | none => simp [e3] at e1
        | some y =>
          obtain ⟨r3, u3⟩ := y
          cases r3 with
          | bl b =>
            simp [e3] at e1
            subst e1
            intro F' H' s' g' v rv
            rw [rv.bl_]
            refine h2 F' H' ⟨s1.ef.trans s'.ef, fun a o ha e n => ?_, fun a ps ha e => (let ⟨qs, e1⟩ := s1.et a ps ha e; s'.et a qs (fun z => by rw [z, hn] at e; cases e) e1), fun a o e => ?_⟩ ⟨g'.ex, ?_, fun l' e => ?_, g'.nt, g'.tb, g1.hp⟩ (.bl b) (.bl b)
            · exact s'.eh a o (fun z => by rw [z, hn] at e; cases e) (s1.eh a o ha e n) n
            · rcases s'.nw a o e with z | z
              · exact s1.nw a o z
              · exact .inr (s1.back g1.ne z)
            · exact s'.eh c.p _ (Ne.symm hqp) g1.pu (.inr g1.hp)
            · exact s'.off (g1.off l' e) g1.ne
          | _ => simp [e3] at e1⟩
end
end Mi

set_option Elab.async false
set_option linter.all false
set_option maxRecDepth 100000
set_option maxHeartbeats 4000000
/-! MiF: the law's end. -/
namespace Mi
open PySem PySem.Spec PyProof.Rows L2 He
variable [TB : Tabl]
def noListsB (K : PySem.W.Frag) : Bool := K.all fun q => match q.2.cls with
  | .type c => !(c == "list")
  | _ => true
theorem lookup_mem' {a : Addr} {o : Obj} : ∀ {l : PySem.W.Frag}, l.lookup a = some o → (a, o) ∈ l
  | [], h => by cases h
  | (b, u) :: r, h => by
    have h2 : (match a == b with | true => some u | false => r.lookup a) = some o := h
    cases q : (a == b) with
    | true =>
      rw [q] at h2
      have e : u = o := Option.some.inj h2
      rw [beq_iff_eq.mp q, e]
      exact List.mem_cons_self
    | false =>
      rw [q] at h2
      exact List.mem_cons_of_mem _ (lookup_mem' h2)
/-- all but the tables -/
def noTb (H : Hp) : Hp := fun b => match H b with
  | some (.tbl _) => none
  | x => x
theorem noTb_of {H : Hp} {a : Addr} {o : HO} (h : H a = some o) (n : ∀ ps, o ≠ .tbl ps) : noTb H a = some o := by
  unfold noTb
  rw [h]
  cases o with
  | tbl ps => exact absurd rfl (n ps)
  | _ => rfl
theorem of_noTb {H : Hp} {a : Addr} {o : HO} (h : noTb H a = some o) : H a = some o ∧ ∀ ps, o ≠ .tbl ps := by
  unfold noTb at h
  cases e : H a with
  | none => rw [e] at h; cases h
  | some u =>
    rw [e] at h
    cases u with
    | tbl ps => cases h
    | _ => cases h; exact ⟨rfl, fun _ z => by cases z⟩
theorem law_sp {cs : List Str} {K : PySem.W.Frag} {mf : List D → M D} {E : XK} (hK : noListsB K = true) (n : Nat) (h : ∀ (ns : List Int) (o : HO), ns.length ≤ n → ∃ u', mf [.scr ns] (.idle o) = some (.bl true, u')) (H : Hp) (a : Addr) (ns : List Int) (hl : ns.length ≤ n) (hS : SqL K H a (ns.map V.int)) (hT : LamX.Tabs TB.T H) :
    spM (WW cs K) 1 mf [.ref a] H (fun v _ => v = .bl true) E := by
  have ex : ∃ o, H a = some o ∧ (∀ ps, o ≠ .tbl ps) ∧ SqL K (noTb H) a (ns.map V.int) := by
    rcases hS with (z | ⟨o, z⟩) | ⟨o, its, m, hk, hc, _⟩
    · exact ⟨_, z, (by intro _ z; cases z), .inl (.inl (noTb_of z (by intro _ z; cases z)))⟩
    · exact ⟨_, z, (by intro _ z; cases z), .inl (.inr ⟨o, noTb_of z (by intro _ z; cases z)⟩)⟩
    · exfalso
      have := List.all_eq_true.mp hK _ (lookup_mem' hk)
      simp [hc] at this
  obtain ⟨o, ho, hn, hS'⟩ := ex
  obtain ⟨u', hu⟩ := h ns o hl
  refine ⟨rfl, a, noTb H, .idle o, [.scr ns], ⟨fun _ _ e => (of_noTb e).1, ho, (fun l e => by cases e), fun b ps z => (of_noTb z).2 ps rfl, hT, hn⟩, Reps.cons (.scr hS') Reps.nil, ?_⟩
  rw [hu]
  exact fun F' H' _ _ v rv => rv.bl_
/-! ### name = [..] on one line, the name a plain local -/
def mBorLs (is : List Nat) (ml : MA) : MA := is.foldr mBorL ml
section
variable {X : Cx} {c : Cf}
theorem rdBorL {i : Nat} {ml : MA} : ∀ σ H Q, rdL c (mBorL i ml) σ H Q → rdL c ml σ H Q := fun σ H Q ⟨F, u, ρ, S, h⟩ => by
  unfold mBorL M.bind at h
  cases e1 : ml (frz i ρ) u with
  | none => rw [e1] at h; exact False.elim h
  | some y =>
    obtain ⟨d, u1⟩ := y
    rw [e1] at h
    obtain ⟨hn, h2⟩ := lft_if (b := noLsts d = true) (a := d) h
    rcases S.lend i with z | ⟨q, ws, F1, S1, hq, back⟩
    · rw [z] at e1
      exact ⟨F, u, ρ, S, by rw [e1]; exact h2⟩
    · refine ⟨F1, u, frz i ρ, S1, ?_⟩
      rw [e1]
      intro F' H' s' g' q' vs hF hn' hv rv
      obtain ⟨s2, g2, hq2⟩ := back _ _ _ s' g'
      refine h2 _ _ s2 g2 q' vs ?_ hn' hv ⟨rv.1, fun j v d e2 e3 => (rv.2 j v d e2 e3).without hq2 (fun a o ha e => by rw [del_ne ha]; exact e) (noLsts_at hn e3)⟩
      unfold del
      split
      · rfl
      · exact hF
theorem rdBorLs {ml : MA} : ∀ (is : List Nat) σ H Q, rdL c (mBorLs is ml) σ H Q → rdL c ml σ H Q
  | [], _, _, _, h => h
  | _ :: is, σ, H, Q, h => rdBorLs is σ H Q (rdBorL σ H Q h)
variable {elt tg iter : Expr} {ifs : List Expr} {scope : Scope} {own : List (Str × Nat)} {pos spos py : Pos} {is : List Nat} {mi : MA} {g : MG} {mt : MT} {me : ME} {y : Str} {st : Stmt} {R : TE} {ml : MA}
theorem setO_of (i : Nat) (h : PS X st (tAsg R (gName i))) (hR : ∀ σ H Q, rdL c ml σ H Q → R σ H Q) : DS X c st (mSetO i ml) :=
  h.imp fun Dn σ H ⟨F, u, ρ, S, z⟩ => hR σ H _ ⟨F, u, ρ, S, (flowO.after S z).imp fun ds u1 F1 H1 _ s1 g1 h1 q vs hF hn hq r => h1.2 _ F1 H1 (Same.refl _) (Sta.setO S s1 g1 hF hn hq r)⟩
theorem dLcSetO (i : Nat) (bs : List Nat) (hc : X.calm = true) (hN : X.N.Nodup) (hy : X.N[i]? = some y) (hyl : X.env.scope.names.lookup y = some .local)
    (hsw : swapsWith (.ListComp elt [⟨tg, iter, ifs, 0⟩] scope pos) (some (.Name y py)) spos.line X.env = pure true) (hi : DI X c tg iter mi) (ok : BlkOk X.N X.env.scope scope own)
    (hg : ∀ (s : Shared) (H : Hp) (C : Addr) (cl : List (Str × Addr)) (fp : List Addr), DG (X.blk s H scope (compEnvC scope cl C X.env) fp) c tg is g)
    (ht : ∀ (s : Shared) (H : Hp) (C : Addr) (cl : List (Str × Addr)) (fp : List Addr), PTs (X.blk s H scope (compEnvC scope cl C X.env) fp) ifs (rdT c mt)) (he : ∀ (s : Shared) (H : Hp) (C : Addr) (cl : List (Str × Addr)) (fp : List Addr), DE (X.blk s H scope (compEnvC scope cl C X.env) fp) c elt me)
    (his : ∀ i ∈ is, i ∈ own.map (·.2) := by decide) (hs : ∀ x, foldedSetIterable iter X.env x = pure x := by intro _; rfl) : DS X c (.Assign [.Name y py] (.ListComp elt [⟨tg, iter, ifs, 0⟩] scope pos) spos) (mSetO i (mBorLs bs (mLcO (own.map (·.2)) mi g mt me))) :=
  setO_of i (ps_setLc hc hN hy hyl hsw hi ok hg ht he hs) fun σ H Q h => by
    obtain ⟨F, u, ρ, S, h⟩ := rdBorLs bs σ H Q h
    exact rdLc his σ H Q F u ρ S h
theorem set_of (i : Nat) (h : PS X st (tAsg R (gName i))) (hR : ∀ σ H Q, rdL c ml σ H Q → R σ H Q) : DS X c st (mSet i (mFz ml)) :=
  h.imp fun Dn σ H ⟨F, u, ρ, S, z⟩ => hR σ H _ (by
    have e : PE X (.Constant .none 0 ⟨0, 0, 0, 0⟩) (rdL c ml) → True := fun _ => trivial
    have z2 := flowO.after S z
    refine ⟨F, u, ρ, S, ?_⟩
    unfold mFz M.bind at z2
    cases e1 : ml ρ u with
    | none => rw [e1] at z2; exact z2
    | some x =>
      obtain ⟨ds, u1⟩ := x
      rw [e1] at z2
      intro F1 H1 s1 g1 q ws hF hn hq r
      have h2 : After c.p F H (some (D.lst ds, u1)) (fun a u1 F1 H1 => Sta c u1 F1 H1 σ ρ ∧ flowO c F1 Dn (M.pure (.nx (ρ.set i (.sh a))) u1)) := z2
      have hsm : Same F1 (upd F1 q (.lst ws)) := fun a o e => by rw [upd_ne (fun z => by rw [z, hF] at e; cases e)]; exact e
      have hpq : c.p ≠ q := fun z => S.gd.ne (z ▸ hn)
      have h3 := h2 (upd F1 q (.lst ws)) H1 ⟨s1.ef.trans hsm, s1.eh, s1.et, fun a o e => ?_⟩ ⟨fun a o e => ?_, g1.pu, fun l e => by rw [upd_ne hpq]; exact g1.off l e, nt_upd g1.nt (by intro _ z; cases z), g1.tb, g1.hp⟩
      · exact h3.2 _ _ _ (Same.refl _) (h3.1.set (Rep.mkL upd_same (r.mono hsm)))
      · by_cases ha : a = q
        · subst ha; exact .inr hn
        · rw [upd_ne ha] at e; exact s1.nw a o e
      · by_cases ha : a = q
        · subst ha; rw [upd_same] at e; cases e; exact hq
        · rw [upd_ne ha] at e; exact g1.ex a o e)
theorem dLcSet (i : Nat) (bs : List Nat) (hc : X.calm = true) (hN : X.N.Nodup) (hy : X.N[i]? = some y) (hyl : X.env.scope.names.lookup y = some .local)
    (hsw : swapsWith (.ListComp elt [⟨tg, iter, ifs, 0⟩] scope pos) (some (.Name y py)) spos.line X.env = pure true) (hi : DI X c tg iter mi) (ok : BlkOk X.N X.env.scope scope own)
    (hg : ∀ (s : Shared) (H : Hp) (C : Addr) (cl : List (Str × Addr)) (fp : List Addr), DG (X.blk s H scope (compEnvC scope cl C X.env) fp) c tg is g)
    (ht : ∀ (s : Shared) (H : Hp) (C : Addr) (cl : List (Str × Addr)) (fp : List Addr), PTs (X.blk s H scope (compEnvC scope cl C X.env) fp) ifs (rdT c mt)) (he : ∀ (s : Shared) (H : Hp) (C : Addr) (cl : List (Str × Addr)) (fp : List Addr), DE (X.blk s H scope (compEnvC scope cl C X.env) fp) c elt me)
    (his : ∀ i ∈ is, i ∈ own.map (·.2) := by decide) (hs : ∀ x, foldedSetIterable iter X.env x = pure x := by intro _; rfl) : DS X c (.Assign [.Name y py] (.ListComp elt [⟨tg, iter, ifs, 0⟩] scope pos) spos) (mSet i (mFz (mBorLs bs (mLcO (own.map (·.2)) mi g mt me)))) :=
  set_of i (ps_setLc hc hN hy hyl hsw hi ok hg ht he hs) fun σ H Q h => by
    obtain ⟨F, u, ρ, S, h⟩ := rdBorLs bs σ H Q h
    exact rdLc his σ H Q F u ρ S h
end
end Mi

set_option Elab.async false
set_option linter.all false
set_option maxRecDepth 100000
set_option maxHeartbeats 4000000
/-! MiP: facts about own methods. -/
namespace Mi
open PySem PySem.Spec PyProof.Rows L2 He
variable [TB : Tabl]
/-! ### facts -/
structure OwnM (K : PySem.W.Frag) (C f : Addr) (n : Str) : Prop where
  has : PySem.W.findIn K (.ref C) n = some (some (.ref f))
  fn : PySem.W.isFn K (.ref f) = true
def ownB (c n : Str) (K : PySem.W.Frag) : Bool := eqO (PySem.W.findIn K (.ref (ga K c)) n) (some (some (.ref (ma K (ga K c) n)))) && PySem.W.isFn K (.ref (ma K (ga K c) n))
theorem own_ok {K : PySem.W.Frag} {c n : Str} (h : (Ft.raw (ownB c n)).ok K = true) : OwnM K (ga K c) ((Pl.meth c n).ad K) n := by
  obtain ⟨h1, h2⟩ := ba h
  exact ⟨eqO_ok h1, h2⟩
def ownFB (c n : Str) (K : PySem.W.Frag) : Bool := ownB c n K && PySem.W.fnIn K (ma K (ga K c) n)
theorem ownF_ok {K : PySem.W.Frag} {c n : Str} (h : (Ft.raw (ownFB c n)).ok K = true) : OwnM K (ga K c) ((Pl.meth c n).ad K) n ∧ PySem.W.fnIn K ((Pl.meth c n).ad K) = true := by
  obtain ⟨h1, h2⟩ := ba h
  exact ⟨own_ok h1, h2⟩
def ownSB (c n : Str) (K : PySem.W.Frag) : Bool := ownB c n K && PySem.W.selfFirst K (ga K c)
theorem ownS_ok {K : PySem.W.Frag} {c n : Str} (h : (Ft.raw (ownSB c n)).ok K = true) : OwnM K (ga K c) ((Pl.meth c n).ad K) n ∧ PySem.W.selfFirst K (ga K c) = true := by
  obtain ⟨h1, h2⟩ := ba h
  exact ⟨own_ok h1, h2⟩
/-- with an int on the right -/
structure OwnI (K : PySem.W.Frag) (C f : Addr) (n r : Str) : Prop where
  own : OwnM K C f n
  first : PySem.W.selfFirst K C = true
  rev : ∃ rc, PySem.W.findIn K (.ref C) r = some rc ∧ (rc = none ∨ ∃ g : Addr, rc = some (.ref g))
  int : ∃ fo, PySem.W.findIn K (.type "int") n = some fo
  rint : ∃ fo, PySem.W.findIn K (.type "int") r = some fo
  sub : PySem.W.subIn K (.type "int") (.ref C) = some false
def ownIB (c n r : Str) (K : PySem.W.Frag) : Bool := ownSB c n K && ((match PySem.W.findIn K (.ref (ga K c)) r with
    | some none => true
    | some (some (.ref _)) => true
    | _ => false) && ((PySem.W.findIn K (.type "int") n).isSome && ((PySem.W.findIn K (.type "int") r).isSome && decide (PySem.W.subIn K (.type "int") (.ref (ga K c)) = some false))))
theorem ownI_ok {K : PySem.W.Frag} {c n r : Str} (h : (Ft.raw (ownIB c n r)).ok K = true) : OwnI K (ga K c) ((Pl.meth c n).ad K) n r := by
  obtain ⟨h1, h⟩ := ba h
  obtain ⟨h2, h⟩ := ba h
  obtain ⟨h3, h⟩ := ba h
  obtain ⟨h4, h5⟩ := ba h
  obtain ⟨o, s⟩ := ownS_ok h1
  refine ⟨o, s, ?_, Option.isSome_iff_exists.mp h3, Option.isSome_iff_exists.mp h4, of_decide_eq_true h5⟩
  split at h2
  · rename_i e; exact ⟨none, e, .inl rfl⟩
  · rename_i g e; exact ⟨_, e, .inr ⟨g, rfl⟩⟩
  · cases h2
end Mi

set_option Elab.async false
set_option linter.all false
set_option maxRecDepth 100000
set_option maxHeartbeats 4000000
/-! MiW: what a mirror gives, told by its parts. -/
namespace Mi
open PySem L2
/-- laws without lambdas -/
instance (priority := 50) noTabl : Tabl := ⟨[], false⟩
def Ok {α : Type} (m : M α) (u : PuS) (P : α → PuS → Prop) : Prop := ∃ a u', m u = some (a, u') ∧ P a u'
/-- a branch -/
def Br (b : Bool) (P Q : Prop) : Prop := if b = true then P else Q
@[simp] theorem br_t {P Q : Prop} : Br true P Q ↔ P := by unfold Br; simp
@[simp] theorem br_f {P Q : Prop} : Br false P Q ↔ Q := by unfold Br; simp
@[simp] theorem br_n {b : Bool} {P Q : Prop} : Br (!b) P Q ↔ Br b Q P := by cases b <;> simp
/-- d is a truth -/
def OnB (d : D) (P : Bool → Prop) : Prop := ∃ b, d = .bl b ∧ P b
@[simp] theorem onB_bl {b : Bool} {P : Bool → Prop} : OnB (.bl b) P ↔ P b := ⟨fun ⟨_, e, h⟩ => by cases e; exact h, fun h => ⟨b, rfl, h⟩⟩
theorem br_of {b : Bool} {P Q : Prop} (h1 : b = true → P) (h2 : b = false → Q) : Br b P Q := by cases b <;> simp [*]
theorem brd {p : Prop} [Decidable p] {P Q : Prop} (h1 : p → P) (h2 : ¬ p → Q) : Br (decide p) P Q := by
  by_cases h : p <;> simp [h, h1, h2]
section
variable {α β : Type} {m : M α} {f : α → M β} {u u' : PuS} {a : α} {P Q : α → PuS → Prop} {R : β → PuS → Prop}
theorem Ok.mono (h : Ok m u P) (k : ∀ a u', P a u' → Q a u') : Ok m u Q := by
  obtain ⟨a, u', e, p⟩ := h
  exact ⟨a, u', e, k a u' p⟩
theorem ok_of (e : m u = some (a, u')) : Ok m u P ↔ P a u' := by
  constructor
  · rintro ⟨b, v, e2, p⟩
    rw [e] at e2
    cases e2
    exact p
  · exact fun p => ⟨a, u', e, p⟩
@[simp] theorem ok_pure : Ok (M.pure a) u P ↔ P a u := ok_of rfl
@[simp] theorem ok_bind : Ok (M.bind m f) u R ↔ Ok m u fun a u1 => Ok (f a) u1 R := by
  constructor
  · rintro ⟨b, v, e, p⟩
    obtain ⟨a, u1, e1, e2⟩ := bind_some e
    exact ⟨a, u1, e1, b, v, e2, p⟩
  · rintro ⟨a, u1, e1, b, v, e2, p⟩
    refine ⟨b, v, ?_, p⟩
    unfold M.bind
    rw [e1]
    exact e2
@[simp] theorem ok_lft {o : Option α} : Ok (lft o) u P ↔ ∃ a, o = some a ∧ P a u := by
  cases o with
  | none => constructor
            · rintro ⟨b, v, e, p⟩; cases e
            · rintro ⟨b, e, p⟩; cases e
  | some a => constructor
              · rintro ⟨b, v, e, p⟩; cases e; exact ⟨_, rfl, p⟩
              · rintro ⟨b, e, p⟩; cases e; exact ⟨_, _, rfl, p⟩
@[simp] theorem ok_lfts : Ok (lft (some a)) u P ↔ P a u := ok_of rfl
@[simp] theorem ok_none : Ok (lft (none : Option α)) u P ↔ False := by
  constructor
  · rintro ⟨b, v, e, p⟩; cases e
  · exact False.elim
@[simp] theorem ok_ite {c : Prop} [Decidable c] {m n : M α} : Ok (if c then m else n) u P ↔ if c then Ok m u P else Ok n u P := by split <;> rfl
end
section
variable {ρ : Env} {u : PuS} {P : D → PuS → Prop} {PT : Bool → PuS → Prop} {PA : List D → PuS → Prop} {PS : Fl → PuS → Prop} {m ma mb mi : ME} {t v : MT} {ms mk : MA} {i j n : Nat}
@[simp] theorem ok_var : Ok (mVar i ρ) u P ↔ ∃ d, vSh ρ i = some d ∧ P d u := ok_lft
@[simp] theorem ok_C {d : D} : Ok (mC d ρ) u P ↔ P d u := ok_pure
@[simp] theorem ok_bin {f : D → D → Option D} : Ok (mBin f ma mb ρ) u P ↔ Ok (ma ρ) u fun x u1 => Ok (mb ρ) u1 fun y u2 => ∃ z, f x y = some z ∧ P z u2 := by
  unfold mBin; simp only [ok_bind, ok_lft]
@[simp] theorem ok_un {f : D → Option D} : Ok (mUn f ma ρ) u P ↔ Ok (ma ρ) u fun x u1 => ∃ z, f x = some z ∧ P z u1 := by
  unfold mUn; simp only [ok_bind, ok_lft]
@[simp] theorem ok_CB {f : List D → Option D} : Ok (mCB f ms ρ) u P ↔ Ok (ms ρ) u fun x u1 => ∃ z, f x = some z ∧ P z u1 := by
  unfold mCB; simp only [ok_bind, ok_lft]
@[simp] theorem ok_CBO {f : List D → Option (List D)} : Ok (mCBO f ms ρ) u PA ↔ Ok (ms ρ) u fun x u1 => ∃ z, f x = some z ∧ PA z u1 := by
  unfold mCBO; simp only [ok_bind, ok_lft]
@[simp] theorem ok_Iof {f : List D → Option (List D)} : Ok (mIof f ms ρ) u PA ↔ Ok (ms ρ) u fun x u1 => ∃ z, f x = some z ∧ PA z u1 := by
  unfold mIof; simp only [ok_bind, ok_lft]
@[simp] theorem ok_nil : Ok (mNil ρ) u PA ↔ PA [] u := ok_pure
@[simp] theorem ok_cons : Ok (mCons m ms ρ) u PA ↔ Ok (m ρ) u fun x u1 => Ok (ms ρ) u1 fun xs u2 => PA (x :: xs) u2 := by
  unfold mCons; simp only [ok_bind, ok_pure]
@[simp] theorem ok_tup : Ok (mTup ms ρ) u P ↔ Ok (ms ρ) u fun xs u1 => xs.length ≤ 100000 ∧ P (.tup xs) u1 := by
  unfold mTup; simp only [ok_bind, ok_lft]
  constructor
  · refine fun h => h.mono fun a u' z => ?_
    obtain ⟨d, e, p⟩ := z
    split at e
    · cases e; exact ⟨by assumption, p⟩
    · cases e
  · refine fun h => h.mono fun a u' z => ⟨_, if_pos z.1, z.2⟩
@[simp] theorem ok_lstO : Ok (mLstO ms ρ) u PA ↔ Ok (ms ρ) u fun xs u1 => xs.length ≤ 100000 ∧ PA xs u1 := by
  unfold mLstO; simp only [ok_bind, ok_lft]
  constructor
  · refine fun h => h.mono fun a u' z => ?_
    obtain ⟨d, e, p⟩ := z
    split at e
    · cases e; exact ⟨by assumption, p⟩
    · cases e
  · refine fun h => h.mono fun a u' z => ⟨_, if_pos z.1, z.2⟩
@[simp] theorem ok_B : Ok (mB m ρ) u PT ↔ Ok (m ρ) u fun d u1 => OnB d fun b => PT b u1 := by
  unfold mB; simp only [ok_bind]
  constructor
  · refine fun h => h.mono fun a u' z => ?_
    cases a <;> first | exact ⟨_, rfl, ok_pure.mp z⟩ | exact (ok_none.mp z).elim
  · refine fun h => h.mono fun a u' z => ?_
    obtain ⟨b, rfl, p⟩ := z
    exact ok_pure.mpr p
@[simp] theorem ok_and : Ok (mAnd t v ρ) u PT ↔ Ok (t ρ) u fun b u1 => Br b (Ok (v ρ) u1 PT) (PT false u1) := by
  unfold mAnd; simp only [ok_bind, ok_ite, ok_pure, Br]
@[simp] theorem ok_or : Ok (mOr t v ρ) u PT ↔ Ok (t ρ) u fun b u1 => Br b (PT true u1) (Ok (v ρ) u1 PT) := by
  unfold mOr; simp only [ok_bind, ok_ite, ok_pure, Br]
@[simp] theorem ok_not : Ok (mNot t ρ) u PT ↔ Ok (t ρ) u fun b u1 => PT (!b) u1 := by
  unfold mNot; simp only [ok_bind, ok_pure]
@[simp] theorem ok_if : Ok (mIf t ma mb ρ) u P ↔ Ok (t ρ) u fun b u1 => Br b (Ok (ma ρ) u1 P) (Ok (mb ρ) u1 P) := by
  unfold mIf; simp only [ok_bind, ok_ite, Br]
@[simp] theorem ok_andV : Ok (mAndV ma mb ρ) u P ↔ Ok (ma ρ) u fun d u1 => OnB d fun b => Br b (Ok (mb ρ) u1 P) (P (.bl false) u1) := by
  unfold mAndV; simp only [ok_bind]
  constructor
  · refine fun h => h.mono fun a u' z => ?_
    cases a with
    | bl b => cases b <;> exact ⟨_, rfl, by simpa [ok_pure] using z⟩
    | _ => exact (ok_none.mp z).elim
  · refine fun h => h.mono fun a u' z => ?_
    obtain ⟨b, rfl, p⟩ := z
    cases b <;> simpa [ok_pure] using p
@[simp] theorem ok_orV : Ok (mOrV ma mb ρ) u P ↔ Ok (ma ρ) u fun d u1 => OnB d fun b => Br b (P (.bl true) u1) (Ok (mb ρ) u1 P) := by
  unfold mOrV; simp only [ok_bind]
  constructor
  · refine fun h => h.mono fun a u' z => ?_
    cases a with
    | bl b => cases b <;> exact ⟨_, rfl, by simpa [ok_pure] using z⟩
    | _ => exact (ok_none.mp z).elim
  · refine fun h => h.mono fun a u' z => ?_
    obtain ⟨b, rfl, p⟩ := z
    cases b <;> simpa [ok_pure] using p
@[simp] theorem ok_notV : Ok (mNotV ma ρ) u P ↔ Ok (ma ρ) u fun d u1 => OnB d fun b => P (.bl (!b)) u1 := by
  unfold mNotV; simp only [ok_bind]
  constructor
  · refine fun h => h.mono fun a u' z => ?_
    cases a with
    | bl b => exact ⟨_, rfl, by simpa [ok_pure] using z⟩
    | _ => exact (ok_none.mp z).elim
  · refine fun h => h.mono fun a u' z => ?_
    obtain ⟨b, rfl, p⟩ := z
    simpa [ok_pure] using p
@[simp] theorem ok_Fz : Ok (mFz ms ρ) u P ↔ Ok (ms ρ) u fun ds u1 => P (.lst ds) u1 := by
  unfold mFz; simp only [ok_bind, ok_pure]
@[simp] theorem ok_sl {ml mh : MO} : Ok (mSl m ml mh ρ) u P ↔ Ok (m ρ) u fun d u1 => Ok (ml ρ) u1 fun lo u2 => Ok (mh ρ) u2 fun hi u3 => ∃ z, slD d lo hi = some z ∧ P z u3 := by
  unfold mSl; simp only [ok_bind, ok_lft]
@[simp] theorem ok_slO {ml mh : MO} : Ok (mSlO m ml mh ρ) u PA ↔ Ok (m ρ) u fun d u1 => Ok (ml ρ) u1 fun lo u2 => Ok (mh ρ) u2 fun hi u3 => ∃ ds, d = .lst ds ∧ PA (cutD ds lo hi) u3 := by
  unfold mSlO; simp only [ok_bind, ok_lft]
  constructor
  · refine fun h => h.mono fun a u1 z => z.mono fun lo u2 z => z.mono fun hi u3 z => ?_
    obtain ⟨d, e, p⟩ := z
    cases a <;> first | (cases e; exact ⟨_, rfl, p⟩) | cases e
  · refine fun h => h.mono fun a u1 z => z.mono fun lo u2 z => z.mono fun hi u3 z => ?_
    obtain ⟨d, rfl, p⟩ := z
    exact ⟨_, rfl, p⟩
@[simp] theorem ok_On {P : Option Int → PuS → Prop} : Ok (mOn ρ) u P ↔ P none u := ok_pure
@[simp] theorem ok_Os {P : Option Int → PuS → Prop} : Ok (mOs m ρ) u P ↔ Ok (m ρ) u fun d u1 => ∃ i, d = .int i ∧ P (some i) u1 := by
  unfold mOs; simp only [ok_bind]
  constructor
  · refine fun h => h.mono fun a u' z => ?_
    cases a <;> first | exact ⟨_, rfl, ok_pure.mp z⟩ | exact (ok_none.mp z).elim
  · refine fun h => h.mono fun a u' z => ?_
    obtain ⟨b, rfl, p⟩ := z
    exact ok_pure.mpr p
@[simp] theorem ok_call {mf : List D → M D} : Ok (mCall n mf ms ρ) u P ↔ Ok (ms ρ) u fun ds u1 => ds.length = n ∧ Ok (mf ds) u1 P := by
  unfold mCall; simp only [ok_bind, ok_ite]
  constructor
  · refine fun h => h.mono fun a u' z => ?_
    split at z
    · exact ⟨by assumption, z⟩
    · exact (ok_none.mp z).elim
  · refine fun h => h.mono fun a u' z => ?_
    rw [if_pos z.1]; exact z.2
@[simp] theorem ok_callL {mf : List D → M (List D)} : Ok (mCallL n mf ms ρ) u PA ↔ Ok (ms ρ) u fun ds u1 => ds.length = n ∧ Ok (mf ds) u1 PA := by
  unfold mCallL; simp only [ok_bind, ok_ite]
  constructor
  · refine fun h => h.mono fun a u' z => ?_
    split at z
    · exact ⟨by assumption, z⟩
    · exact (ok_none.mp z).elim
  · refine fun h => h.mono fun a u' z => ?_
    rw [if_pos z.1]; exact z.2
@[simp] theorem ok_callK {nk np : Nat} {perm : List Nat} {mf : List D → M D} : Ok (mCallK n nk np perm mf ms mk ρ) u P ↔ Ok (ms ρ) u fun ds u1 => Ok (mk ρ) u1 fun es u2 => (ds.length = n ∧ es.length = nk ∧ (gI perm ds es).length = np) ∧ Ok (mf (gI perm ds es)) u2 P := by
  unfold mCallK; simp only [ok_bind, ok_ite]
  constructor
  · refine fun h => h.mono fun a u' z => z.mono fun b u2 z => ?_
    split at z
    · exact ⟨by assumption, z⟩
    · exact (ok_none.mp z).elim
  · refine fun h => h.mono fun a u' z => z.mono fun b u2 z => ?_
    rw [if_pos z.1]; exact z.2
@[simp] theorem ok_self {k : Str} {mf : List D → M D} : Ok (mSelf k mf m ρ) u P ↔ Ok (m ρ) u fun d u1 => ∃ ks ds, d = .obj k ks ds ∧ Ok (mf [.obj k ks ds]) u1 P := by
  unfold mSelf; simp only [ok_bind]
  constructor
  · refine fun h => h.mono fun a u' z => ?_
    cases a with
    | obj c ks ds =>
      simp only [ok_ite] at z
      split at z
      · rename_i h; subst h; exact ⟨_, _, rfl, z⟩
      · exact (ok_none.mp z).elim
    | _ => exact (ok_none.mp z).elim
  · refine fun h => h.mono fun a u' z => ?_
    obtain ⟨ks, ds, rfl, z⟩ := z
    simp only [ok_ite, if_true]; exact z
@[simp] theorem ok_meth {k mm : Str} {mf : List D → M D} : Ok (mMeth k mm n mf m ms ρ) u P ↔ Ok (m ρ) u fun d u1 => ∃ ks ds, d = .obj k ks ds ∧ mm ∉ ks ∧ Ok (ms ρ) u1 fun es u2 => es.length = n ∧ Ok (mf (.obj k ks ds :: es)) u2 P := by
  unfold mMeth; simp only [ok_bind]
  constructor
  · refine fun h => h.mono fun a u' z => ?_
    cases a with
    | obj c ks ds =>
      simp only [ok_ite] at z
      split at z
      · rename_i hh
        obtain ⟨rfl, hh2⟩ := hh
        refine ⟨_, _, rfl, hh2, (ok_bind.mp z).mono fun es u2 z => ?_⟩
        simp only [ok_ite] at z
        split at z
        · exact ⟨by assumption, z⟩
        · exact (ok_none.mp z).elim
      · exact (ok_none.mp z).elim
    | _ => exact (ok_none.mp z).elim
  · refine fun h => h.mono fun a u' z => ?_
    obtain ⟨ks, ds, rfl, hm, z⟩ := z
    simp only [ok_ite]
    rw [if_pos (by first | exact ⟨rfl, hm⟩ | exact ⟨trivial, hm⟩), ok_bind]
    refine z.mono fun es u2 z => ?_
    simp only [ok_ite]
    rw [if_pos z.1]; exact z.2
@[simp] theorem ok_eqO {k : Str} {mf : List D → M D} : Ok (mEqO k mf ma mb ρ) u P ↔ Ok (ma ρ) u fun x u1 => Ok (mb ρ) u1 fun y u2 => ∃ ks ds ks' ds', x = .obj k ks ds ∧ y = .obj k ks' ds' ∧ Ok (mf [x, y]) u2 fun r u3 => OnB r fun b => P (.bl b) u3 := by
  unfold mEqO; simp only [ok_bind]
  constructor
  · refine fun h => h.mono fun x u' z => z.mono fun y u2 z1 => ?_
    split at z1
    · simp only [ok_ite] at z1
      split at z1
      · rename_i hh
        obtain ⟨rfl, hh2⟩ := hh
        subst hh2
        refine ⟨_, _, _, _, rfl, rfl, (ok_bind.mp z1).mono fun r u3 z2 => ?_⟩
        split at z2
        · exact ⟨_, rfl, ok_pure.mp z2⟩
        · exact (ok_none.mp z2).elim
      · exact (ok_none.mp z1).elim
    · exact (ok_none.mp z1).elim
  · refine fun h => h.mono fun x u' z => z.mono fun y u2 z => ?_
    obtain ⟨ks, ds, ks', ds', rfl, rfl, z⟩ := z
    simp only [ok_ite]
    rw [if_pos (by first | exact ⟨rfl, rfl⟩ | exact ⟨trivial, trivial⟩), ok_bind]
    refine z.mono fun r u3 z => ?_
    obtain ⟨b, rfl, z⟩ := z
    exact ok_pure.mpr z
@[simp] theorem ok_neO {k : Str} {mf : List D → M D} : Ok (mNeO k mf ma mb ρ) u P ↔ Ok (ma ρ) u fun x u1 => Ok (mb ρ) u1 fun y u2 => ∃ ks ds ks' ds', x = .obj k ks ds ∧ y = .obj k ks' ds' ∧ Ok (mf [x, y]) u2 fun r u3 => OnB r fun b => P (.bl !b) u3 := by
  unfold mNeO; simp only [ok_bind]
  constructor
  · refine fun h => h.mono fun x u' z => z.mono fun y u2 z1 => ?_
    split at z1
    · simp only [ok_ite] at z1
      split at z1
      · rename_i hh
        obtain ⟨rfl, hh2⟩ := hh
        subst hh2
        refine ⟨_, _, _, _, rfl, rfl, (ok_bind.mp z1).mono fun r u3 z2 => ?_⟩
        split at z2
        · exact ⟨_, rfl, ok_pure.mp z2⟩
        · exact (ok_none.mp z2).elim
      · exact (ok_none.mp z1).elim
    · exact (ok_none.mp z1).elim
  · refine fun h => h.mono fun x u' z => z.mono fun y u2 z => ?_
    obtain ⟨ks, ds, ks', ds', rfl, rfl, z⟩ := z
    simp only [ok_ite]
    rw [if_pos (by first | exact ⟨rfl, rfl⟩ | exact ⟨trivial, trivial⟩), ok_bind]
    refine z.mono fun r u3 z => ?_
    obtain ⟨b, rfl, z⟩ := z
    exact ok_pure.mpr z
@[simp] theorem ok_lenOb {k : Str} {mf : List D → M D} : Ok (mLenOb k mf m ρ) u P ↔ Ok (m ρ) u fun d u1 => ∃ ks ds, d = .obj k ks ds ∧ Ok (mf [d]) u1 fun r u2 => ∃ n, r = .int n ∧ (0 ≤ n ∧ n ≤ 100000) ∧ P (.int n) u2 := by
  unfold mLenOb; simp only [ok_bind]
  constructor
  · refine fun h => h.mono fun a u' z => ?_
    cases a with
    | obj c ks ds =>
      simp only [ok_ite] at z
      split at z
      · rename_i h; subst h
        refine ⟨_, _, rfl, (ok_bind.mp z).mono fun r u3 z => ?_⟩
        split at z
        · simp only [ok_ite] at z
          split at z
          · exact ⟨_, rfl, by assumption, ok_pure.mp z⟩
          · exact (ok_none.mp z).elim
        · exact (ok_none.mp z).elim
      · exact (ok_none.mp z).elim
    | _ => exact (ok_none.mp z).elim
  · refine fun h => h.mono fun a u' z => ?_
    obtain ⟨ks, ds, rfl, z⟩ := z
    simp only [ok_ite, if_true]
    rw [ok_bind]
    refine z.mono fun r u3 z => ?_
    obtain ⟨b, rfl, h, z⟩ := z
    simp only [ok_ite]
    rw [if_pos h]
    exact ok_pure.mpr z
@[simp] theorem ok_make {k : Str} {mf : List D → M (List Str × List D)} : Ok (mMake k n mf ms ρ) u P ↔ Ok (ms ρ) u fun ds u1 => ds.length = n ∧ Ok (mf ds) u1 fun r u2 => P (.obj k r.1 r.2) u2 := by
  unfold mMake; simp only [ok_bind, ok_ite]
  constructor
  · refine fun h => h.mono fun a u' z => ?_
    split at z
    · exact ⟨by assumption, by simpa only [ok_bind, ok_pure] using z⟩
    · exact (ok_none.mp z).elim
  · refine fun h => h.mono fun a u' z => ?_
    rw [if_pos z.1]; simpa only [ok_bind, ok_pure] using z.2
@[simp] theorem ok_ixO : Ok (mIxO i mi ρ) u P ↔ Ok (mi ρ) u fun k u1 => ∃ ds j z, vOw ρ i = some ds ∧ k = .int j ∧ atI ds j = some z ∧ P z u1 := by
  unfold mIxO; simp only [ok_bind, ok_lft]
  constructor
  · refine fun h => h.mono fun a u' z => ?_
    obtain ⟨ds, e, d, e2, p⟩ := z
    cases a <;> first | exact ⟨ds, _, d, e, rfl, e2, p⟩ | cases e2
  · refine fun h => h.mono fun a u' z => ?_
    obtain ⟨ds, j, z, e, rfl, e2, p⟩ := z
    exact ⟨ds, e, z, e2, p⟩
@[simp] theorem ok_lenO : Ok (mLenO i ρ) u P ↔ ∃ ds, vOw ρ i = some ds ∧ P (.int ds.length) u := by
  unfold mLenO; simp only [ok_bind, ok_lft, ok_pure]
@[simp] theorem ok_Iany : Ok (mIany m ρ) u PA ↔ Ok (m ρ) u fun d u1 => ∃ ds, itD d = some ds ∧ PA ds u1 := by
  unfold mIany; simp only [ok_bind, ok_lft]
@[simp] theorem s_itL {ds : List D} : itD (.lst ds) = some ds := rfl
@[simp] theorem s_itT {ds : List D} : itD (.tup ds) = some ds := rfl
@[simp] theorem ok_lcO {vs : List Nat} {g : MG} {mt : MT} {me : ME} : Ok (mLcO vs ms g mt me ρ) u PA ↔ Ok (ms ρ) u fun ds u1 => ds.length ≤ 100000 ∧ Ok (lcD g mt me (wipeE ρ vs) ds) u1 PA := by
  unfold mLcO; simp only [ok_bind, ok_ite]
  constructor
  · refine fun h => h.mono fun a u' z => ?_
    split at z
    · exact ⟨by assumption, z⟩
    · exact (ok_none.mp z).elim
  · refine fun h => h.mono fun a u' z => ?_
    rw [if_pos z.1]; exact z.2
@[simp] theorem ok_bor : Ok (mBor i m ρ) u P ↔ Ok (m (frz i ρ)) u fun d u1 => noLst d = true ∧ P d u1 := by
  unfold mBor; simp only [ok_bind, ok_lft]
  constructor
  · refine fun h => h.mono fun a u' z => ?_
    obtain ⟨d, e, p⟩ := z
    split at e
    · cases e; exact ⟨by assumption, p⟩
    · cases e
  · refine fun h => h.mono fun a u' z => ⟨_, if_pos z.1, z.2⟩
@[simp] theorem ok_borT : Ok (mBorT i t ρ) u PT ↔ Ok (t (frz i ρ)) u PT := Iff.rfl
@[simp] theorem ok_borL : Ok (mBorL i ms ρ) u PA ↔ Ok (ms (frz i ρ)) u fun d u1 => noLsts d = true ∧ PA d u1 := by
  unfold mBorL; simp only [ok_bind, ok_lft]
  constructor
  · refine fun h => h.mono fun a u' z => ?_
    obtain ⟨d, e, p⟩ := z
    split at e
    · cases e; exact ⟨by assumption, p⟩
    · cases e
  · refine fun h => h.mono fun a u' z => ⟨_, if_pos z.1, z.2⟩
@[simp] theorem ok_ixP : Ok (mIxP i mi ρ) u P ↔ Ok (mi ρ) u fun k u1 => ∃ d, vSh ρ i = some d ∧ Ok (getP d k) u1 P := by
  unfold mIxP; simp only [ok_bind, ok_lft]
/-! statements -/
@[simp] theorem ok_next : Ok (mNext ρ) u PS ↔ PS (.nx ρ) u := ok_pure
@[simp] theorem ok_seq {m n : MS} : Ok (mSeq m n ρ) u PS ↔ Ok (m ρ) u fun f u1 => match f with
    | .nx ρ1 => Ok (n ρ1) u1 PS
    | f' => PS f' u1 := by
  unfold mSeq; simp only [ok_bind]
  constructor
  · refine fun h => h.mono fun f u' z => ?_
    cases f <;> first | exact z | exact ok_pure.mp z
  · refine fun h => h.mono fun f u' z => ?_
    cases f <;> first | exact z | exact ok_pure.mpr z
@[simp] theorem ok_drop : Ok (mDrop m ρ) u PS ↔ Ok (m ρ) u fun _ u1 => PS (.nx ρ) u1 := by unfold mDrop; simp only [ok_bind, ok_pure]
@[simp] theorem ok_ret : Ok (mRet m ρ) u PS ↔ Ok (m ρ) u fun d u1 => PS (.rt d) u1 := by unfold mRet; simp only [ok_bind, ok_pure]
@[simp] theorem ok_retL : Ok (mRetL ms ρ) u PS ↔ Ok (ms ρ) u fun d u1 => PS (.rl d) u1 := by unfold mRetL; simp only [ok_bind, ok_pure]
@[simp] theorem ok_retN : Ok (mRetN ρ) u PS ↔ PS (.rt .non) u := ok_pure
@[simp] theorem ok_ifS {m n : MS} : Ok (mIfS t m n ρ) u PS ↔ Ok (t ρ) u fun b u1 => Br b (Ok (m ρ) u1 PS) (Ok (n ρ) u1 PS) := by unfold mIfS; simp only [ok_bind, ok_ite, Br]
@[simp] theorem ok_brk : Ok (mBrk ρ) u PS ↔ PS (.bk ρ) u := ok_pure
@[simp] theorem ok_cnt : Ok (mCnt ρ) u PS ↔ PS (.ct ρ) u := ok_pure
@[simp] theorem ok_set : Ok (mSet i m ρ) u PS ↔ Ok (m ρ) u fun d u1 => PS (.nx (ρ.set i (.sh d))) u1 := by unfold mSet; simp only [ok_bind, ok_pure]
@[simp] theorem ok_setO : Ok (mSetO i ms ρ) u PS ↔ Ok (ms ρ) u fun d u1 => PS (.nx (ρ.set i (.ow d))) u1 := by unfold mSetO; simp only [ok_bind, ok_pure]
@[simp] theorem ok_stuck : Ok (mStuck ρ) u PS ↔ False := ok_none
@[simp] theorem ok_for {g : MG} {mb : MS} : Ok (mFor ms g mb ρ) u PS ↔ Ok (ms ρ) u fun ds u1 => Ok (loopD g mb ds ρ) u1 PS := by unfold mFor; simp only [ok_bind]
@[simp] theorem ok_app : Ok (mApp i m ρ) u PS ↔ Ok (m ρ) u fun d u1 => ∃ ds, vOw ρ i = some ds ∧ ds.length < 100000 ∧ PS (.nx (ρ.set i (.ow (ds ++ [d])))) u1 := by
  unfold mApp; simp only [ok_bind, ok_lft, ok_pure]
  constructor
  · refine fun h => h.mono fun f u' z => ?_
    obtain ⟨ds, e, _, e2, p⟩ := z
    split at e2
    · exact ⟨ds, e, by assumption, p⟩
    · cases e2
  · refine fun h => h.mono fun f u' z => ?_
    obtain ⟨ds, e, e2, p⟩ := z
    exact ⟨ds, e, (), if_pos e2, p⟩
@[simp] theorem ok_put {mv : ME} : Ok (mPut i mv mi ρ) u PS ↔ Ok (mv ρ) u fun d u1 => Ok (mi ρ) u1 fun k u2 => ∃ ds j n, vOw ρ i = some ds ∧ k = .int j ∧ ixN ds.length j = some n ∧ PS (.nx (ρ.set i (.ow (ds.set n d)))) u2 := by
  unfold mPut; simp only [ok_bind, ok_lft, ok_pure]
  constructor
  · refine fun h => h.mono fun f u' z => z.mono fun k u2 z => ?_
    obtain ⟨ds, e, n, e2, p⟩ := z
    cases k <;> first | exact ⟨ds, _, n, e, rfl, e2, p⟩ | cases e2
  · refine fun h => h.mono fun f u' z => z.mono fun k u2 z => ?_
    obtain ⟨ds, j, n, e, rfl, e2, p⟩ := z
    exact ⟨ds, e, n, e2, p⟩
@[simp] theorem ok_putP {mv : ME} : Ok (mPutP i mv mi ρ) u PS ↔ Ok (mv ρ) u fun v u1 => Ok (mi ρ) u1 fun k u2 => ∃ d, vSh ρ i = some d ∧ Ok (putP d k v) u2 fun _ u3 => PS (.nx ρ) u3 := by
  unfold mPutP; simp only [ok_bind, ok_lft, ok_pure]
@[simp] theorem ok_frz {m : MS} : Ok (mFrz i m ρ) u PS ↔ Ok (m (frz i ρ)) u PS := Iff.rfl
@[simp] theorem ok_asg {g : MG} : Ok (mAsg m g ρ) u PS ↔ Ok (m ρ) u fun d u1 => ∃ ρ1, g d ρ = some ρ1 ∧ PS (.nx ρ1) u1 := by
  unfold mAsg; simp only [ok_bind, ok_lft]
  constructor
  · refine fun h => h.mono fun f u' z => ?_
    obtain ⟨a, e, p⟩ := z
    cases e1 : g f ρ with
    | none => rw [e1] at e; cases e
    | some r => rw [e1] at e; cases e; exact ⟨r, rfl, p⟩
  · refine fun h => h.mono fun f u' z => ?_
    obtain ⟨a, e, p⟩ := z
    exact ⟨_, by rw [e]; rfl, p⟩
@[simp] theorem ok_Mnil {P : List Sd → PuS → Prop} : Ok (mMnil ρ) u P ↔ P [] u := ok_pure
@[simp] theorem ok_Msh {mm : MM} {P : List Sd → PuS → Prop} : Ok (mMsh m mm ρ) u P ↔ Ok (m ρ) u fun d u1 => Ok (mm ρ) u1 fun ds u2 => P (.sh d :: ds) u2 := by unfold mMsh; simp only [ok_bind, ok_pure]
@[simp] theorem ok_Mow {mm : MM} {P : List Sd → PuS → Prop} : Ok (mMow ms mm ρ) u P ↔ Ok (ms ρ) u fun d u1 => Ok (mm ρ) u1 fun ds u2 => P (.ow d :: ds) u2 := by unfold mMow; simp only [ok_bind, ok_pure]
@[simp] theorem ok_par {is : List Nat} {mm : MM} : Ok (mPar is mm ρ) u PS ↔ Ok (mm ρ) u fun sds u1 => sds.length = is.length ∧ PS (.nx (setAll is sds ρ)) u1 := by
  unfold mPar; simp only [ok_bind, ok_ite]
  constructor
  · refine fun h => h.mono fun f u' z => ?_
    split at z
    · exact ⟨by assumption, ok_pure.mp z⟩
    · exact (ok_none.mp z).elim
  · refine fun h => h.mono fun f u' z => ?_
    rw [if_pos z.1]; exact ok_pure.mpr z.2
@[simp] theorem ok_selfSet {ck fn : Str} : Ok (mSelfSet i ck fn m ρ) u PS ↔ Ok (m ρ) u fun d u1 => ∃ ks es, ρ[i]? = some (Sd.oi ck ks es) ∧ fn ∉ ks ∧ ks.length < 900 ∧ PS (.nx (ρ.set i (.oi ck (ks ++ [fn]) (es ++ [d])))) u1 := by
  unfold mSelfSet; simp only [ok_bind, ok_lft, ok_pure]
  constructor
  · refine fun h => h.mono fun f u' z => ?_
    obtain ⟨q, e, p⟩ := z
    split at e
    · split at e
      · rename_i e0 hh
        obtain ⟨rfl, h1, h2⟩ := hh
        cases e
        exact ⟨_, _, e0, h1, h2, p⟩
      · cases e
    · cases e
  · refine fun h => h.mono fun f u' z => ?_
    obtain ⟨ks, es, e, h1, h2, p⟩ := z
    exact ⟨(ks, es), by rw [e]; exact if_pos ⟨rfl, h1, h2⟩, p⟩
@[simp] theorem ok_fn {n : Nat} {mb : MS} {ds : List D} : Ok (mFn n mb ds) u P ↔ Ok (mb (startE n ds)) u fun f u1 => match f with
    | .rt d => P d u1
    | .nx _ => P .non u1
    | _ => False := by
  constructor
  · rintro ⟨a, u', e, p⟩
    unfold mFn at e
    cases e1 : mb (startE n ds) u with
    | none => rw [e1] at e; cases e
    | some y =>
      obtain ⟨f, u1⟩ := y
      rw [e1] at e
      cases f <;> first | (cases e; exact ⟨_, _, e1, p⟩) | cases e
  · rintro ⟨f, u1, e, p⟩
    cases f <;> first | exact ⟨_, u1, by unfold mFn; rw [e], p⟩ | exact False.elim p
@[simp] theorem ok_fnL {n : Nat} {mb : MS} {ds : List D} : Ok (mFnL n mb ds) u PA ↔ Ok (mb (startE n ds)) u fun f u1 => match f with
    | .rl d => PA d u1
    | _ => False := by
  constructor
  · rintro ⟨a, u', e, p⟩
    unfold mFnL at e
    cases e1 : mb (startE n ds) u with
    | none => rw [e1] at e; cases e
    | some y =>
      obtain ⟨f, u1⟩ := y
      rw [e1] at e
      cases f <;> first | (cases e; exact ⟨_, _, e1, p⟩) | cases e
  · rintro ⟨f, u1, e, p⟩
    cases f <;> first | exact ⟨_, u1, by unfold mFnL; rw [e], p⟩ | exact False.elim p
@[simp] theorem ok_init {n : Nat} {ck : Str} {mb : MS} {ds : List D} {P : List Str × List D → PuS → Prop} : Ok (mInit n ck mb ds) u P ↔ Ok (mb (startI n ck ds)) u fun f u1 => match f with
    | .nx ρ' => ∃ ks es, ρ'[0]? = some (Sd.oi ck ks es) ∧ P (ks, es) u1
    | _ => False := by
  constructor
  · rintro ⟨a, u', e, p⟩
    unfold mInit at e
    cases e1 : mb (startI n ck ds) u with
    | none => rw [e1] at e; cases e
    | some y =>
      obtain ⟨f, u1⟩ := y
      rw [e1] at e
      cases f with
      | nx ρ' =>
        refine ⟨_, _, e1, ?_⟩
        have e' : (match (ρ'[0]? : Option Sd) with
          | some (Sd.oi k ks es) => if k = ck then some ((ks, es), u1) else none
          | _ => none) = some (a, u') := e
        split at e'
        · rename_i e0
          split at e'
          · rename_i hk
            subst hk
            cases e'
            exact ⟨_, _, e0, p⟩
          · cases e'
        · cases e'
      | _ => cases e
  · rintro ⟨f, u1, e, p⟩
    cases f with
    | nx ρ' =>
      obtain ⟨ks, es, e0, p⟩ := p
      refine ⟨(ks, es), u1, ?_, p⟩
      unfold mInit
      rw [e]
      show (match (ρ'[0]? : Option Sd) with
          | some (Sd.oi k ks es) => if k = ck then some ((ks, es), u1) else none
          | _ => none) = _
      rw [e0]
      exact if_pos rfl
    | _ => exact False.elim p
end
/-! loops -/
theorem ok_loop {g : MG} {mb : MS} {P : Fl → PuS → Prop} (Inv : List D → Env → PuS → Prop)
    (step : ∀ d ds ρ u, Inv (d :: ds) ρ u → ∃ ρ1, g d ρ = some ρ1 ∧ Ok (mb ρ1) u fun f u' => match f with
      | .nx ρ2 => Inv ds ρ2 u'
      | .ct ρ2 => Inv ds ρ2 u'
      | .bk ρ2 => P (.nx ρ2) u'
      | .rt d => P (.rt d) u'
      | .rl d => P (.rl d) u'
      | .ex ρ2 k ks ds => P (.ex ρ2 k ks ds) u')
    (stop : ∀ ρ u, Inv [] ρ u → P (.nx ρ) u) : ∀ (ds : List D) (ρ : Env) (u : PuS), Inv ds ρ u → Ok (loopD g mb ds ρ) u P
  | [], ρ, u, h => ok_pure.mpr (stop ρ u h)
  | d :: ds, ρ, u, h => by
    obtain ⟨ρ1, e, h1⟩ := step d ds ρ u h
    unfold loopD
    rw [ok_bind, ok_lft]
    refine ⟨ρ1, e, ?_⟩
    rw [ok_bind]
    refine h1.mono fun f u' z => ?_
    cases f with
    | nx ρ2 => exact ok_loop Inv step stop ds ρ2 u' z
    | ct ρ2 => exact ok_loop Inv step stop ds ρ2 u' z
    | bk ρ2 => exact ok_pure.mpr z
    | rt d => exact ok_pure.mpr z
    | rl d => exact ok_pure.mpr z
    | ex ρ2 k ks ds => exact ok_pure.mpr z
/-- a comprehension that draws nothing -/
theorem lcD_pure {g : MG} {mt : MT} {me : ME} {ρ : Env} {u : PuS} {r : D → Env} {t : D → Bool} {e : D → D} : ∀ (ds : List D), (∀ d ∈ ds, g d ρ = some (r d)) → (∀ d ∈ ds, mt (r d) u = some (t d, u)) → (∀ d ∈ ds, t d = true → me (r d) u = some (e d, u)) →
    lcD g mt me ρ ds u = some ((ds.filter t).map e, u)
  | [], _, _, _ => rfl
  | d :: ds, h1, h2, h3 => by
    have ih := lcD_pure ds (fun x hx => h1 x (List.mem_cons_of_mem _ hx)) (fun x hx => h2 x (List.mem_cons_of_mem _ hx)) (fun x hx => h3 x (List.mem_cons_of_mem _ hx))
    unfold lcD M.bind lft
    rw [h1 d List.mem_cons_self]
    simp only [Option.map]
    rw [h2 d List.mem_cons_self]
    cases ht : t d with
    | false => simp [ht, ih]
    | true =>
      simp only [if_true, M.bind]
      rw [h3 d List.mem_cons_self ht]
      simp only [M.bind]
      rw [ih]
      simp [ht, M.pure]
/-- a comprehension that draws: each element has E, the state keeps I -/
theorem ok_lc {g : MG} {mt : MT} {me : ME} {ρ : Env} (I : PuS → Prop) (E : D → Prop) : ∀ (ds : List D) (u : PuS), I u → (∀ d ∈ ds, ∀ u, I u → ∃ ρ1, g d ρ = some ρ1 ∧ Ok (mt ρ1) u fun b u1 => b = true ∧ Ok (me ρ1) u1 fun y u2 => E y ∧ I u2) →
    Ok (lcD g mt me ρ ds) u fun ys u' => (ys.length = ds.length ∧ ∀ y ∈ ys, E y) ∧ I u'
  | [], u, hu, _ => ok_pure.mpr ⟨⟨rfl, fun y hy => by cases hy⟩, hu⟩
  | d :: ds, u, hu, h => by
    obtain ⟨ρ1, e, h1⟩ := h d List.mem_cons_self u hu
    unfold lcD
    rw [ok_bind, ok_lft]
    refine ⟨ρ1, e, ?_⟩
    rw [ok_bind]
    refine h1.mono fun b u1 z => ?_
    obtain ⟨rfl, z⟩ := z
    simp only [if_true, ok_bind]
    refine z.mono fun y u2 z2 => (ok_lc I E ds u2 z2.2 fun d hd => h d (List.mem_cons_of_mem _ hd)).mono fun ys u3 z3 => ?_
    rw [ok_pure]
    refine ⟨⟨by simp [z3.1.1], fun x hx => ?_⟩, z3.2⟩
    rcases List.mem_cons.mp hx with rfl | hx
    · exact z2.1
    · exact z3.1.2 x hx
theorem ok_list {g : MG} {mb : MS} {P : Fl → PuS → Prop} (xs : List D) (Inv : Nat → Env → PuS → Prop)
    (step : ∀ k d ρ u, xs[k]? = some d → Inv k ρ u → ∃ ρ1, g d ρ = some ρ1 ∧ Ok (mb ρ1) u fun f u' => match f with
      | .nx ρ2 => Inv (k + 1) ρ2 u'
      | .ct ρ2 => Inv (k + 1) ρ2 u'
      | .bk ρ2 => P (.nx ρ2) u'
      | .rt d => P (.rt d) u'
      | .rl d => P (.rl d) u'
      | .ex ρ2 k ks ds => P (.ex ρ2 k ks ds) u')
    (stop : ∀ ρ u, Inv xs.length ρ u → P (.nx ρ) u) (ρ : Env) (u : PuS) (h : Inv 0 ρ u) : Ok (loopD g mb xs ρ) u P := by
  refine ok_loop (fun ds ρ u => ∃ k, k ≤ xs.length ∧ ds = xs.drop k ∧ Inv k ρ u) ?_ ?_ _ ρ u ⟨0, Nat.zero_le _, rfl, h⟩
  · rintro d ds ρ u ⟨k, hk, e, hi⟩
    have hkn : k < xs.length := by
      rcases Nat.lt_or_ge k xs.length with z | z
      · exact z
      · rw [List.drop_eq_nil_of_le z] at e; cases e
    rw [List.drop_eq_getElem_cons hkn] at e
    obtain ⟨e1, e2⟩ := List.cons.inj e
    obtain ⟨ρ1, e4, h1⟩ := step k d ρ u (by rw [e1]; exact List.getElem?_eq_getElem hkn) hi
    refine ⟨ρ1, e4, h1.mono fun f u' z => ?_⟩
    cases f with
    | nx ρ2 => exact ⟨k + 1, hkn, e2, z⟩
    | ct ρ2 => exact ⟨k + 1, hkn, e2, z⟩
    | _ => exact z
  · rintro ρ u ⟨k, hk, e, hi⟩
    have hkn : k = xs.length := by
      have := congrArg List.length e
      simp at this
      omega
    subst hkn
    exact stop ρ u hi
theorem eq_of_ok {α : Type} {m : M α} {u : PuS} {a : α} (h : Ok m u fun b u' => b = a ∧ u' = u) : m u = some (a, u) := by
  obtain ⟨b, u', e, rfl, rfl⟩ := h
  exact e
theorem lc_is {g : MG} {mt : MT} {me : ME} {ρ : Env} {u : PuS} {f : Nat → D} {r : Nat → Env} {t : Nat → Bool} {e : Nat → D} : ∀ (is : List Nat), (∀ i ∈ is, g (f i) ρ = some (r i)) → (∀ i ∈ is, Ok (mt (r i)) u fun b u' => b = t i ∧ u' = u) →
    (∀ i ∈ is, t i = true → Ok (me (r i)) u fun b u' => b = e i ∧ u' = u) → lcD g mt me ρ (is.map f) u = some ((is.filter t).map e, u)
  | [], _, _, _ => rfl
  | i :: is, h1, h2, h3 => by
    have ih := lc_is is (fun x hx => h1 x (List.mem_cons_of_mem _ hx)) (fun x hx => h2 x (List.mem_cons_of_mem _ hx)) (fun x hx => h3 x (List.mem_cons_of_mem _ hx))
    refine eq_of_ok ?_
    rw [List.map_cons]
    unfold lcD
    rw [ok_bind, ok_lft]
    refine ⟨_, h1 i List.mem_cons_self, ?_⟩
    rw [ok_bind, ok_of (eq_of_ok (h2 i List.mem_cons_self))]
    cases ht : t i with
    | false =>
      rw [if_neg (by decide), ok_of ih]
      simp [ht]
    | true =>
      rw [if_pos rfl, ok_bind, ok_of (eq_of_ok (h3 i List.mem_cons_self ht)), ok_bind, ok_of ih, ok_pure]
      simp [ht]
/-- a comprehension over a range that draws nothing -/
theorem ok_lcr {g : MG} {mt : MT} {me : ME} {ρ : Env} {u : PuS} {lo : Int} {n : Nat} (r : Nat → Env) (t : Nat → Bool) (e : Nat → D) {P : List D → PuS → Prop} (h1 : ∀ i, i < n → g (.int (lo + (i : Nat))) ρ = some (r i)) (h2 : ∀ i, i < n → Ok (mt (r i)) u fun b u' => b = t i ∧ u' = u)
    (h3 : ∀ i, i < n → t i = true → Ok (me (r i)) u fun b u' => b = e i ∧ u' = u) (h : P (((List.range n).filter t).map e) u) : Ok (lcD g mt me ρ (rngD lo n)) u P := by
  have := lc_is (g := g) (mt := mt) (me := me) (ρ := ρ) (u := u) (f := fun i => D.int (lo + (i : Nat))) (r := r) (t := t) (e := e) (List.range n) (fun i hi => h1 i (List.mem_range.mp hi)) (fun i hi => h2 i (List.mem_range.mp hi)) (fun i hi => h3 i (List.mem_range.mp hi))
  exact (ok_of this).mpr h
/-- .. over a list -/
theorem ok_lcl {g : MG} {mt : MT} {me : ME} {ρ : Env} {u : PuS} {xs : List Int} (r : Int → Env) (t : Int → Bool) (e : Int → D) {P : List D → PuS → Prop} (h1 : ∀ x ∈ xs, g (.int x) ρ = some (r x)) (h2 : ∀ x ∈ xs, Ok (mt (r x)) u fun b u' => b = t x ∧ u' = u)
    (h3 : ∀ x ∈ xs, t x = true → Ok (me (r x)) u fun b u' => b = e x ∧ u' = u) (h : P ((xs.filter t).map e) u) : Ok (lcD g mt me ρ (xs.map D.int)) u P := by
  have : lcD g mt me ρ (xs.map D.int) u = some ((xs.filter t).map e, u) := by
    clear h
    induction xs with
    | nil => rfl
    | cons x xs ih =>
      have ih := ih (fun y hy => h1 y (List.mem_cons_of_mem _ hy)) (fun y hy => h2 y (List.mem_cons_of_mem _ hy)) (fun y hy => h3 y (List.mem_cons_of_mem _ hy))
      refine eq_of_ok ?_
      rw [List.map_cons]
      unfold lcD
      rw [ok_bind, ok_lft]
      refine ⟨_, h1 x List.mem_cons_self, ?_⟩
      rw [ok_bind, ok_of (eq_of_ok (h2 x List.mem_cons_self))]
      cases ht : t x with
      | false =>
        rw [if_neg (by decide), ok_of ih]
        simp [ht]
      | true =>
        rw [if_pos rfl, ok_bind, ok_of (eq_of_ok (h3 x List.mem_cons_self ht)), ok_bind, ok_of ih, ok_pure]
        simp [ht]
  exact (ok_of this).mpr h
theorem ok_with {mf : List D → M D} {ml : MA} {ρ : Env} {u : PuS} {P : D → PuS → Prop} (b : Bool) (h : Ok (ml ρ) u fun ds u1 => ∃ (l : List Int), ds = l.map D.int ∧ (Ok (mf [.pur]) (.real l) fun d _ => d = .bl b) ∧ P (.bl b) u1) : Ok (mWith mf ml ρ) u P := by
  unfold mWith
  rw [ok_bind]
  refine h.mono fun ds u1 z => ?_
  obtain ⟨l, rfl, ⟨d, u2, e, rfl⟩, p⟩ := z
  rw [ok_lft]
  refine ⟨.bl b, ?_, p⟩
  rw [intsD_map]
  show (match mf [.pur] (.real l) with
    | some (.bl b, _) => some (D.bl b)
    | _ => none) = _
  rw [e]
@[simp] theorem ok_yes {ρ : Env} {u : PuS} {P : Bool → PuS → Prop} : Ok (mYes ρ) u P ↔ P true u := ok_pure
@[simp] theorem ex_two {α β : Type} {a : α} {b : β} {Q : α → β → Prop} : (∃ x y, (a = x ∧ b = y) ∧ Q x y) ↔ Q a b := ⟨fun ⟨_, _, ⟨e1, e2⟩, h⟩ => by rw [← e1, ← e2] at h; exact h, fun h => ⟨a, b, ⟨rfl, rfl⟩, h⟩⟩
/-! data, for simp -/
section
variable {a b i j : Int} {xs ys : List D} {x y : D}
@[simp] theorem s_add : addD (.int a) (.int b) = some (.int (a + b)) := rfl
@[simp] theorem s_sub : subD (.int a) (.int b) = some (.int (a - b)) := rfl
theorem s_mul : mulD (.int a) (.int b) = if mulC a b = true then some (.int (a * b)) else none := rfl
@[simp] theorem s_neg : negD (.int a) = some (.int (-a)) := rfl
@[simp] theorem s_lt : ltD (.int a) (.int b) = some (.bl (decide (a < b))) := rfl
@[simp] theorem s_le : leD (.int a) (.int b) = some (.bl (decide (a ≤ b))) := rfl
@[simp] theorem s_gt : gtD (.int a) (.int b) = some (.bl (decide (b < a))) := rfl
@[simp] theorem s_ge : geD (.int a) (.int b) = some (.bl (decide (b ≤ a))) := rfl
@[simp] theorem e_mul {Q : D → Prop} : (∃ z, mulD (.int a) (.int b) = some z ∧ Q z) ↔ mulC a b = true ∧ Q (.int (a * b)) := by
  rw [s_mul]
  split
  · simp [*]
  · simp [*]
@[simp] theorem mulC_iff : mulC a b = true ↔ (-18446744073709551616 < a ∧ a < 18446744073709551616 ∨ -18446744073709551616 < b ∧ b < 18446744073709551616) ∨ a.natAbs.log2 + b.natAbs.log2 < 1000000 := by
  unfold mulC
  rw [Bool.or_eq_true_iff, decide_eq_true_iff, decide_eq_true_iff]
  exact Iff.rfl
@[simp] theorem e_mod {Q : D → Prop} : (∃ z, modD (.int a) (.int b) = some z ∧ Q z) ↔ 0 < b ∧ Q (.int (a % b)) := by
  show (∃ z, (if decide (0 < b) = true then some (D.int (a % b)) else none) = some z ∧ Q z) ↔ _
  by_cases h : 0 < b <;> simp [h]
theorem log_small (h : b.natAbs < 1000000000) : b.natAbs.log2 < 30 := by
  by_cases z : b.natAbs = 0
  · rw [z]; decide
  · exact (Nat.log2_lt z).mpr (by omega)
@[simp] theorem e_fdiv {Q : D → Prop} : (∃ z, fdivD (.int a) (.int b) = some z ∧ Q z) ↔ fdivC a b = true ∧ Q (.int (a / b)) := by
  show (∃ z, (if fdivC a b = true then some (D.int (a / b)) else none) = some z ∧ Q z) ↔ _
  by_cases h : fdivC a b = true <;> simp [h]
@[simp] theorem fdivC_small (h : 0 < b ∧ b < 1000000000) : fdivC a b = true := by
  unfold fdivC
  have := log_small (b := b) (by omega)
  exact decide_eq_true ⟨h.1, by omega⟩
@[simp] theorem e_pow {Q : D → Prop} : (∃ z, powD (.int a) (.int b) = some z ∧ Q z) ↔ powC a b = true ∧ Q (.int (a ^ b.toNat)) := by
  show (∃ z, (if powC a b = true then some (D.int (a ^ b.toNat)) else none) = some z ∧ Q z) ↔ _
  by_cases h : powC a b = true <;> simp [h]
@[simp] theorem e_dm {Q : D → Prop} : (∃ z, dmD [.int a, .int b] = some z ∧ Q z) ↔ dmC a b = true ∧ Q (.tup [.int (a / b), .int (a % b)]) := by
  show (∃ z, (if dmC a b = true then some (D.tup [.int (a / b), .int (a % b)]) else none) = some z ∧ Q z) ↔ _
  by_cases h : dmC a b = true <;> simp [h]
@[simp] theorem dmC_small (h : 0 < b ∧ b < 1000000000) : dmC a b = true := by
  unfold dmC
  have := log_small (b := b) (by omega)
  have e : Builtin.divisionGoesByPylong a b = false := by
    unfold Builtin.divisionGoesByPylong
    simp only []
    have hb : ¬ ((if (b == 0) = true then 0 else b.natAbs.log2 / 30 + 1) > 300) := by
      split
      · omega
      · omega
    simp only [hb, decide_false, Bool.false_and]
  rw [e, decide_eq_true h.1]; rfl
@[simp] theorem e_rng1 {Q : List D → Prop} : (∃ z, rng1 [.int j] = some z ∧ Q z) ↔ (-100000 ≤ j ∧ j ≤ 100000) ∧ Q (rngD 0 j.toNat) := by
  show (∃ z, (if -100000 ≤ j ∧ j ≤ 100000 then some (rngD 0 j.toNat) else none) = some z ∧ Q z) ↔ _
  by_cases h : -100000 ≤ j ∧ j ≤ 100000 <;> simp [h]
@[simp] theorem e_rng2 {Q : List D → Prop} : (∃ z, rng2 [.int i, .int j] = some z ∧ Q z) ↔ ((-100000 ≤ i ∧ i ≤ 100000) ∧ -100000 ≤ j ∧ j ≤ 100000) ∧ Q (rngD i (j - i).toNat) := by
  show (∃ z, (if (-100000 ≤ i ∧ i ≤ 100000) ∧ -100000 ≤ j ∧ j ≤ 100000 then some (rngD i (j - i).toNat) else none) = some z ∧ Q z) ↔ _
  by_cases h : (-100000 ≤ i ∧ i ≤ 100000) ∧ -100000 ≤ j ∧ j ≤ 100000 <;> simp [h]
@[simp] theorem s_powC : powC a b = true ↔ 0 ≤ b ∧ b ≤ 1000000 ∧ a.natAbs < 18446744073709551616 := by unfold powC; exact decide_eq_true_iff
@[simp] theorem s_ixL : ixD (.lst xs) (.int i) = atI xs i := rfl
@[simp] theorem s_ixT : ixD (.tup xs) (.int i) = atI xs i := rfl
@[simp] theorem s_slL {lo hi : Option Int} : slD (.lst xs) lo hi = some (.lst (cutD xs lo hi)) := rfl
@[simp] theorem s_slT {lo hi : Option Int} : slD (.tup xs) lo hi = some (.tup (cutD xs lo hi)) := rfl
@[simp] theorem s_rev : revD (.lst xs) = some (.lst xs.reverse) := rfl
@[simp] theorem s_listT : listO [.tup xs] = some xs := rfl
@[simp] theorem s_listL : listO [.lst xs] = some xs := rfl
@[simp] theorem s_setAll2 {k l : Nat} {s t : Sd} {ρ : Env} : setAll [k, l] [s, t] ρ = (ρ.set k s).set l t := rfl
@[simp] theorem s_setAll3 {k l m : Nat} {s t r : Sd} {ρ : Env} : setAll [k, l, m] [s, t, r] ρ = ((ρ.set k s).set l t).set m r := rfl
@[simp] theorem s_wipe0 {ρ : Env} : wipeE ρ [] = ρ := rfl
@[simp] theorem s_wipe {ρ : Env} {k : Nat} {ks : List Nat} : wipeE ρ (k :: ks) = (wipeE ρ ks).set k .un := rfl
@[simp] theorem s_frz {ρ : Env} {k : Nat} : frz k ρ = match vOw ρ k with
  | some ds => ρ.set k (.sh (.lst ds))
  | none => ρ := rfl
theorem at_nat {α : Type} {l : List α} {k : Nat} {x : α} (h : l[k]? = some x) : atI l (k : Int) = some x := by
  have hk : k < l.length := (List.getElem?_eq_some_iff.mp h).1
  unfold atI ixN
  rw [if_pos (by omega), if_pos (by omega)]
  simpa using h
theorem at_last {α : Type} {l : List α} {x : α} : atI (l ++ [x]) (-1) = some x := by
  unfold atI ixN
  rw [if_neg (by omega), if_pos (by simp; omega)]
  have : ((-1 : Int) + ((l.length : Int) + 1)).toNat = l.length := by omega
  simp [this]
theorem rngD_zero (n : Nat) : rngD 0 n = (List.range n).map fun k => D.int (k : Nat) := by
  unfold rngD
  simp
/-- each turn of a loop over a range -/
theorem ok_range {g : MG} {mb : MS} {P : Fl → PuS → Prop} (lo : Int) (n : Nat) (Inv : Nat → Env → PuS → Prop)
    (step : ∀ k ρ u, k < n → Inv k ρ u → ∃ ρ1, g (.int (lo + (k : Nat))) ρ = some ρ1 ∧ Ok (mb ρ1) u fun f u' => match f with
      | .nx ρ2 => Inv (k + 1) ρ2 u'
      | .ct ρ2 => Inv (k + 1) ρ2 u'
      | .bk ρ2 => P (.nx ρ2) u'
      | .rt d => P (.rt d) u'
      | .rl d => P (.rl d) u'
      | .ex ρ2 k ks ds => P (.ex ρ2 k ks ds) u')
    (stop : ∀ ρ u, Inv n ρ u → P (.nx ρ) u) (ρ : Env) (u : PuS) (h : Inv 0 ρ u) : Ok (loopD g mb (rngD lo n) ρ) u P := by
  refine ok_loop (fun ds ρ u => ∃ k, k ≤ n ∧ ds = (rngD lo n).drop k ∧ Inv k ρ u) ?_ ?_ _ ρ u ⟨0, Nat.zero_le _, rfl, h⟩
  · rintro d ds ρ u ⟨k, hk, e, hi⟩
    have hkn : k < n := by
      rcases Nat.lt_or_ge k n with z | z
      · exact z
      · rw [List.drop_eq_nil_of_le (by rw [rngD_len]; exact z)] at e; cases e
    rw [List.drop_eq_getElem_cons (by rw [rngD_len]; exact hkn)] at e
    obtain ⟨e1, e2⟩ := List.cons.inj e
    have e3 : d = .int (lo + (k : Nat)) := by rw [e1]; simp [rngD]
    subst e3
    obtain ⟨ρ1, e4, h1⟩ := step k ρ u hkn hi
    refine ⟨ρ1, e4, h1.mono fun f u' z => ?_⟩
    cases f with
    | nx ρ2 => exact ⟨k + 1, hkn, e2, z⟩
    | ct ρ2 => exact ⟨k + 1, hkn, e2, z⟩
    | _ => exact z
  · rintro ρ u ⟨k, hk, e, hi⟩
    have hkn : k = n := by
      have := congrArg List.length e
      simp [rngD_len] at this
      omega
    subst hkn
    exact stop ρ u hi
theorem toPDs_ints (ns : List Int) : toPDs (ns.map D.int) = some (ns.map PyData.int) := by
  induction ns with
  | nil => rfl
  | cons n ns ih =>
    show (match toPD (.int n), toPDs (ns.map D.int) with
      | some a, some b => some (a :: b)
      | _, _ => none) = _
    rw [ih]; rfl
theorem lay_ints (ns : List Int) : PyData.canLayAll0 (ns.map PyData.int) = true := by
  induction ns with
  | nil => rfl
  | cons n ns ih => show (true && _) = true; rw [ih]; rfl
theorem depth_ints (ns : List Int) : PyData.depthAll (ns.map PyData.int) = 0 := by
  induction ns with
  | nil => rfl
  | cons n ns ih => show max 0 (PyData.depthAll (ns.map PyData.int)) = 0; rw [ih]; rfl
theorem eqv_ints : ∀ (xs ys : List Int), PyData.eqvAll (xs.map PyData.int) (ys.map PyData.int) = decide (xs = ys)
  | [], [] => rfl
  | [], _ :: _ => rfl
  | _ :: _, [] => rfl
  | x :: xs, y :: ys => by
    show ((x == y) && PyData.eqvAll (xs.map PyData.int) (ys.map PyData.int)) = _
    rw [eqv_ints xs ys]
    by_cases h : x = y <;> by_cases h2 : xs = ys <;> simp [h, h2]
theorem eq_tups (xs ys : List Int) : eqD (.tup (xs.map D.int)) (.tup (ys.map D.int)) = some (decide (xs = ys)) := by
  have e : ∀ zs : List Int, toPD (.tup (zs.map D.int)) = some (.tuple (zs.map PyData.int)) := fun zs => by
    show (toPDs (zs.map D.int)).map PyData.tuple = _
    rw [toPDs_ints]; rfl
  have sh : ∀ zs : List Int, SeqAt.shaped (.tuple (zs.map PyData.int)) = true := fun zs => by
    show (PyData.canLayAll0 (zs.map PyData.int) && decide (PyData.depthAll (zs.map PyData.int) + 1 ≤ 64)) = true
    rw [lay_ints, depth_ints]; rfl
  unfold eqD
  rw [e, e]
  show (if _ then some (PyData.eqvAll (xs.map PyData.int) (ys.map PyData.int)) else none) = _
  rw [if_pos ⟨sh xs, sh ys⟩, eqv_ints]
theorem eq_lsts (xs ys : List Int) : eqD (.lst (xs.map D.int)) (.lst (ys.map D.int)) = some (decide (xs = ys)) := by
  have e : ∀ zs : List Int, toPD (.lst (zs.map D.int)) = some (.list (zs.map PyData.int)) := fun zs => by
    show (toPDs (zs.map D.int)).map PyData.list = _
    rw [toPDs_ints]; rfl
  have sh : ∀ zs : List Int, SeqAt.shaped (.list (zs.map PyData.int)) = true := fun zs => by
    show (PyData.canLayAll0 (zs.map PyData.int) && decide (PyData.depthAll (zs.map PyData.int) + 1 ≤ 64)) = true
    rw [lay_ints, depth_ints]; rfl
  unfold eqD
  rw [e, e]
  show (if _ then some (PyData.eqvAll (xs.map PyData.int) (ys.map PyData.int)) else none) = _
  rw [if_pos ⟨sh xs, sh ys⟩, eqv_ints]
@[simp] theorem s_eqT {xs ys : List Int} : eqMD (.tup (xs.map D.int)) (.tup (ys.map D.int)) = some (.bl (decide (xs = ys))) := by unfold eqMD; rw [eq_tups]; rfl
@[simp] theorem s_neT {xs ys : List Int} : neMD (.tup (xs.map D.int)) (.tup (ys.map D.int)) = some (.bl (!decide (xs = ys))) := by unfold neMD; rw [eq_tups]; rfl
@[simp] theorem s_eqL {xs ys : List Int} : eqMD (.lst (xs.map D.int)) (.lst (ys.map D.int)) = some (.bl (decide (xs = ys))) := by unfold eqMD; rw [eq_lsts]; rfl
@[simp] theorem s_neL {xs ys : List Int} : neMD (.lst (xs.map D.int)) (.lst (ys.map D.int)) = some (.bl (!decide (xs = ys))) := by unfold neMD; rw [eq_lsts]; rfl
@[simp] theorem s_eqL0 {xs : List Int} : eqMD (.lst (xs.map D.int)) (.lst []) = some (.bl (decide (xs = []))) := s_eqL (ys := [])
@[simp] theorem s_neL0 {xs : List Int} : neMD (.lst (xs.map D.int)) (.lst []) = some (.bl (!decide (xs = []))) := s_neL (ys := [])
@[simp] theorem s_eqI : eqMD (.int a) (.int b) = some (.bl (decide (a = b))) := by
  have : eqD (.int a) (.int b) = some (decide (a = b)) := by
    show (if SeqAt.shaped (.int a) = true ∧ SeqAt.shaped (.int b) = true then some (a == b) else none) = _
    rw [if_pos ⟨rfl, rfl⟩]; rfl
  unfold eqMD; rw [this]; rfl
@[simp] theorem s_neI : neMD (.int a) (.int b) = some (.bl (!decide (a = b))) := by
  have : eqD (.int a) (.int b) = some (decide (a = b)) := by
    show (if SeqAt.shaped (.int a) = true ∧ SeqAt.shaped (.int b) = true then some (a == b) else none) = _
    rw [if_pos ⟨rfl, rfl⟩]; rfl
  unfold neMD; rw [this]; rfl
theorem cut_from {xs : List D} {k : Nat} : cutD xs (some (k : Int)) none = xs.drop k := by
  unfold cutD
  rw [HT.sIx_nat, HT.sIx_none]
  rcases Nat.le_total k xs.length with h | h
  · rw [Nat.min_eq_left h]
    exact List.take_of_length_le (by simp)
  · rw [Nat.min_eq_right h, List.drop_eq_nil_of_le (Nat.le_refl _), List.drop_eq_nil_of_le h]
    simp
theorem cut_to {xs : List D} {k : Nat} : cutD xs none (some (k : Int)) = xs.take k := by
  unfold cutD
  rw [HT.sIx_nat, HT.sIx_none]
  simp
@[simp] theorem s_listDT : listD [.tup xs] = some (.lst xs) := rfl
@[simp] theorem s_enumT : enumA [.tup xs] = some (enumD xs) := rfl
@[simp] theorem s_enumL : enumA [.lst xs] = some (enumD xs) := rfl
@[simp] theorem s_max2 : maxD [.int a, .int b] = some (.int (if b > a then b else a)) := rfl
@[simp] theorem s_min2 : minD [.int a, .int b] = some (.int (if b < a then b else a)) := rfl
theorem s_maxL {n : Int} {ns : List Int} : maxD [.lst ((n :: ns).map D.int)] = some (.int (maxL (n :: ns))) := by
  show (match intsD ((n :: ns).map D.int) with
    | some (n :: ns) => some (D.int (maxL (n :: ns)))
    | _ => none) = _
  rw [intsD_map]
@[simp] theorem s_addL (h : xs.length + ys.length ≤ 100000) : addD (.lst xs) (.lst ys) = some (.lst (xs ++ ys)) := if_pos h
@[simp] theorem s_Gt {n : Nat} {gs : List D → Env → Option Env} {ρ : Env} : mGt n gs (.tup xs) ρ = if xs.length = n then gs xs ρ else none := rfl
@[simp] theorem s_Gc {g : MG} {gs : List D → Env → Option Env} {ρ : Env} : mGcons g gs (x :: xs) ρ = (g x ρ).bind fun ρ' => gs xs ρ' := rfl
@[simp] theorem s_Gnil {ρ : Env} : mGnil [] ρ = some ρ := rfl
@[simp] theorem s_fld {k : Str} {ks : List Str} {n : Nat} : fldD k ks n (.obj k ks xs) = xs[n]? := if_pos ⟨rfl, rfl⟩
@[simp] theorem s_scrLen {ns : List Int} : lenD [.scr ns] = some (.int ns.length) := rfl
@[simp] theorem s_scrIx {ns : List Int} : ixD (.scr ns) (.int i) = (atI ns i).map .int := rfl
@[simp] theorem s_scrSl {ns : List Int} {lo hi : Option Int} : slD (.scr ns) lo hi = some (.lst (cutD (ns.map .int) lo hi)) := rfl
theorem enumD_ints {ns : List Int} {k : Nat} {d : D} (h : (enumD (ns.map D.int))[k]? = some d) : ∃ x, ns[k]? = some x ∧ d = .tup [.int (k : Nat), .int x] := by
  obtain ⟨x, e, rfl⟩ := enumD_at h
  rw [List.getElem?_map] at e
  cases e2 : ns[k]? with
  | none => rw [e2] at e; cases e
  | some y => rw [e2] at e; cases e; exact ⟨y, rfl, rfl⟩
theorem mulC_l (h : -(2 ^ 64) < a ∧ a < 2 ^ 64) : mulC a b = true := by unfold mulC; rw [Bool.or_eq_true_iff]; exact .inl (decide_eq_true (.inl h))
theorem mulC_r (h : -(2 ^ 64) < b ∧ b < 2 ^ 64) : mulC a b = true := by unfold mulC; rw [Bool.or_eq_true_iff]; exact .inl (decide_eq_true (.inr h))
@[simp] theorem s_vSh {ρ : Env} {n : Nat} : vSh ρ n = match ρ[n]? with
  | some (.sh d) => some d
  | _ => none := rfl
@[simp] theorem s_vOw {ρ : Env} {n : Nat} : vOw ρ n = match ρ[n]? with
  | some (.ow d) => some d
  | _ => none := rfl
@[simp] theorem s_start {n : Nat} {ds : List D} : startE n ds = ds.map Sd.sh ++ List.replicate (n - ds.length) Sd.un := rfl
@[simp] theorem s_Gn {n : Nat} {d : D} {ρ : Env} : mGn n d ρ = some (ρ.set n (.sh d)) := rfl
@[simp] theorem s_int1 : int1D [.int a] = some (.int a) := rfl
@[simp] theorem s_lenL : lenD [.lst xs] = some (.int xs.length) := rfl
@[simp] theorem s_lenT : lenD [.tup xs] = some (.int xs.length) := rfl
@[simp] theorem s_tupL : tupD [.lst xs] = some (.tup xs) := rfl
@[simp] theorem s_getP {l : List Int} {P : D → PuS → Prop} : Ok (getP .pur (.int j)) (.real l) P ↔ ∃ n, atI l j = some n ∧ P (.int n) (.real l) := by
  cases e : atI l j with
  | none =>
    constructor
    · rintro ⟨d, u', e2, p⟩
      have e3 : (atI l j).map (fun n => (D.int n, PuS.real l)) = some (d, u') := e2
      rw [e] at e3; cases e3
    · rintro ⟨n, e2, _⟩; cases e2
  | some n =>
    have e3 : getP .pur (.int j) (.real l) = some (.int n, .real l) := by
      show (atI l j).map (fun n => (D.int n, PuS.real l)) = _
      rw [e]; rfl
    rw [ok_of e3]; simp
@[simp] theorem s_putP {l : List Int} {P : Unit → PuS → Prop} : Ok (putP .pur (.int j) (.int a)) (.real l) P ↔ ∃ n, ixN l.length j = some n ∧ P () (.real (l.set n a)) := by
  cases e : ixN l.length j with
  | none =>
    constructor
    · rintro ⟨d, u', e2, p⟩
      have e3 : (ixN l.length j).map (fun n => ((), PuS.real (l.set n a))) = some (d, u') := e2
      rw [e] at e3; cases e3
    · rintro ⟨n, e2, _⟩; cases e2
  | some n =>
    have e3 : putP .pur (.int j) (.int a) (.real l) = some ((), .real (l.set n a)) := by
      show (ixN l.length j).map (fun n => ((), PuS.real (l.set n a))) = _
      rw [e]; rfl
    rw [ok_of e3]; simp
@[simp] theorem ok_dmP {ρ : Env} {u : PuS} {mi m : ME} {n k : Nat} {PS : Fl → PuS → Prop} : Ok (mDmP n mi k m ρ) u PS ↔ Ok (m ρ) u fun v u1 => ∃ a b, v = .tup [.int a, .int b] ∧ Ok (mi ρ) u1 fun kk u2 => ∃ d, vSh ρ n = some d ∧ Ok (putP d kk (.int a)) u2 fun _ u3 => PS (.nx (ρ.set k (.sh (.int b)))) u3 := by
  unfold mDmP; simp only [ok_bind]
  constructor
  · refine fun h => h.mono fun f u' z => ?_
    split at z
    · exact ⟨_, _, rfl, by simpa only [ok_bind, ok_lft, ok_pure] using z⟩
    · exact (ok_none.mp z).elim
  · refine fun h => h.mono fun f u' z => ?_
    obtain ⟨a, b, rfl, z⟩ := z
    simpa only [ok_bind, ok_lft, ok_pure] using z
end
end Mi

set_option Elab.async false
set_option linter.all false
set_option maxRecDepth 100000
set_option maxHeartbeats 4000000
/-! MiG: chained comparisons, += on names, fresh concatenations, range with a step, f-strings. -/
namespace Mi
open PySem PySem.Spec PyProof.Rows L2
variable [TB : Tabl]
/-! ### chained comparisons -/
def mChain (f g : D → D → Option D) (ma mb mc : ME) : ME := fun ρ => M.bind (ma ρ) fun x => M.bind (mb ρ) fun y => M.bind (lft (f x y)) fun z => match z with
  | .bl b => if b = true then M.bind (mc ρ) fun w => lft (g y w) else M.pure (.bl false)
  | _ => lft none
section
variable {X : Cx} {c : Cf} {pos : Pos} {a b d : Expr} {ma mb mc : ME} {r r' : R2} {f g : D → D → Option D}
theorem rdChain (hf : OpM c.W r f) (hg : OpM c.W r' g) : ∀ σ H Q, rdE c (mChain f g ma mb mc) σ H Q → tChain r r' (rdE c ma) (rdE c mb) (rdE c mc) σ H Q := fun σ H Q ⟨F, u, ρ, S, h⟩ =>
  ⟨F, u, ρ, S, (After.split h).imp fun x u1 F1 H1 _ s1 g1 h1 v rv => ⟨F1, u1, ρ, S.step s1 g1, (After.split h1).imp fun y u2 F2 H2 _ s2 g2 h2 w rw =>
    hf c.p F2 H2 u2 v w x y _ g2 (rv.mono s2.ef) rw ((After.split h2).imp fun z u3 F3 H3 _ s3 g3 h3 vz rz => by
      cases z with
      | bl k =>
        refine ⟨k, rz.bl_, ?_⟩
        cases k with
        | true => exact ⟨F3, u3, ρ, ((S.step s1 g1).step s2 g2).step s3 g3, (After.split h3).imp fun w' u4 F4 H4 _ s4 g4 h4 v' rv' => hg c.p F4 H4 u4 w v' y w' Q g4 ((rw.mono s3.ef).mono s4.ef) rv' h4⟩
        | false =>
          have h4 : After c.p F3 H3 (some (D.bl false, u3)) (fun d _ F' H' => ∀ v, Rep c.W c.p F' v d → Q v H') := h3
          exact After.now g3 h4 _ (.bl false)
      | _ => exact False.elim h3)⟩⟩
theorem dChain {op op' : CmpOp} (ho : OpR X (compareOp op) r) (hf : OpM c.W r f) (ho' : OpR X (compareOp op') r') (hg : OpM c.W r' g) (ha : DE X c a ma) (hb : DE X c b mb) (hd : DE X c d mc) (hm : lastMarks [op, op'] [b, d] = false := by with_unfolding_all rfl) :
    DE X c (.Compare a [op, op'] [b, d] pos) (mChain f g ma mb mc) := (pe_chain ho ho' ha hb hd hm).imp (rdChain hf hg)
theorem dTchain {op op' : CmpOp} (ho : OpR X (compareOp op) r) (hf : OpM c.W r f) (ho' : OpR X (compareOp op') r') (hg : OpM c.W r' g) (ha : DE X c a ma) (hb : DE X c b mb) (hd : DE X c d mc) (hm : lastMarks [op, op'] [b, d] = false := by with_unfolding_all rfl) :
    DT X c (.Compare a [op, op'] [b, d] pos) (mB (mChain f g ma mb mc)) :=
  (pt_chain ho ho' ha hb hd hm).imp fun σ H Q h => by
    obtain ⟨F, u, ρ, S, h⟩ := h
    refine rdChain hf hg σ H _ ⟨F, u, ρ, S, (After.split h).imp fun d u1 F1 H1 _ s1 g1 h1 w rw => ?_⟩
    cases d with
    | bl k =>
      have h2 : After c.p F1 H1 (some (k, u1)) (fun b _ _ H' => Q b H') := h1
      exact ⟨k, rw.bl_, After.now g1 h2⟩
    | _ => exact False.elim h1
end
@[simp] theorem ok_chain {ρ : Env} {u : PuS} {P : D → PuS → Prop} {ma mb mc : ME} {f g : D → D → Option D} : Ok (mChain f g ma mb mc ρ) u P ↔ Ok (ma ρ) u fun x u1 => Ok (mb ρ) u1 fun y u2 => ∃ z0, f x y = some z0 ∧ OnB z0 fun b => Br b (Ok (mc ρ) u2 fun w u3 => ∃ z, g y w = some z ∧ P z u3) (P (.bl false) u2) := by
  unfold mChain; simp only [ok_bind, ok_lft]
  constructor
  · refine fun h => h.mono fun x u1 z => z.mono fun y u2 z => ?_
    obtain ⟨d, e, p⟩ := z
    cases d with
    | bl b => exact ⟨_, e, b, rfl, by cases b <;> simpa [ok_pure] using p⟩
    | _ => exact (ok_none.mp p).elim
  · refine fun h => h.mono fun x u1 z => z.mono fun y u2 z => ?_
    obtain ⟨_, e, b, rfl, p⟩ := z
    exact ⟨.bl b, e, by cases b <;> simpa [ok_pure] using p⟩
/-! ### += on a name -/
theorem m_ip {W : Wo} {f : Int → Int → Int} : IpM W (ipI f) (int2 fun i j => some (.int (f i j))) := by
  intro p F H u x y a b Q gd rx ry h
  obtain ⟨d, e, _⟩ := lft_some h
  obtain ⟨i, j, rfl, rfl, e2⟩ := int2_some e
  exact ⟨i, j, rx.int_, ry.int_, OpM.ret gd h rfl (.int _)⟩
theorem m_ipadd {W : Wo} : IpM W (ipI fun i j => i + j) (int2 fun i j => some (.int (i + j))) := m_ip
def addI : D → D → Option D := int2 fun i j => some (.int (i + j))
theorem m_addI {W : Wo} : IpM W (ipI fun i j => i + j) addI := m_ip
theorem m_subI {W : Wo} : IpM W (ipI fun i j => i - j) subD := m_ip
@[simp] theorem s_addI {a b : Int} : addI (.int a) (.int b) = some (.int (a + b)) := rfl
@[simp] theorem ok_aug {ρ : Env} {u : PuS} {i : Nat} {f : D → D → Option D} {m : ME} {P : Fl → PuS → Prop} : Ok (mAug i f m ρ) u P ↔ ∃ x, vSh ρ i = some x ∧ Ok (m ρ) u fun y u1 => ∃ z, f x y = some z ∧ P (.nx (ρ.set i (.sh z))) u1 := by
  unfold mAug; simp only [ok_bind, ok_lft, ok_pure]
/-! ### fresh lists by + -/
def catO : D → D → Option (List D)
  | .lst xs, .lst ys => if xs.length + ys.length ≤ 100000 then some (xs ++ ys) else none
  | _, _ => none
def mBinO (f : D → D → Option (List D)) (ma mb : ME) : MA := fun ρ => M.bind (ma ρ) fun x => M.bind (mb ρ) fun y => lft (f x y)
theorem dCatO {X : Cx} {c : Cf} {pos : Pos} {a b : Expr} {ma mb : ME} (ha : DE X c a ma) (hb : DE X c b mb) : DL X c (.BinOp a .Add b pos) (mBinO catO ma mb) :=
  (pe_op op_cat ha hb).imp fun σ H Q ⟨F, u, ρ, S, h⟩ => ⟨F, u, ρ, S, (After.split h).imp fun x u1 F1 H1 _ s1 g1 h1 v rv => ⟨F1, u1, ρ, S.step s1 g1, (After.split h1).imp fun y u2 F2 H2 _ s2 g2 h2 w rw => by
    obtain ⟨ds, e, h3⟩ := lft_some h2
    unfold catO at e
    split at e
    · split at e
      · rename_i xs ys hl
        cases e
        obtain ⟨p1, v1, rfl, f1, q1⟩ := (rv.mono s2.ef).lst_
        obtain ⟨p2, v2, rfl, f2, q2⟩ := rw.lst_
        refine ⟨p1, p2, v1, v2, rfl, rfl, g2.ex _ _ f1, g2.ex _ _ f2, sz5 (by rw [q1.1, q2.1]; exact hl), fun q hq => ?_⟩
        exact h3 _ _ (Stp.own hq) (g2.own hq) q _ (g2.fresh hq) (s1.back g1.ne (s2.back g2.ne hq)) upd_same (q1.append q2)
      · cases e
    · cases e⟩⟩
@[simp] theorem ok_binO {ρ : Env} {u : PuS} {f : D → D → Option (List D)} {ma mb : ME} {P : List D → PuS → Prop} : Ok (mBinO f ma mb ρ) u P ↔ Ok (ma ρ) u fun x u1 => Ok (mb ρ) u1 fun y u2 => ∃ z, f x y = some z ∧ P z u2 := by
  unfold mBinO; simp only [ok_bind, ok_lft]
@[simp] theorem e_catO {xs ys : List D} {Q : List D → Prop} : (∃ z, catO (.lst xs) (.lst ys) = some z ∧ Q z) ↔ xs.length + ys.length ≤ 100000 ∧ Q (xs ++ ys) := by
  show (∃ z, (if xs.length + ys.length ≤ 100000 then some (xs ++ ys) else none) = some z ∧ Q z) ↔ _
  by_cases h : xs.length + ys.length ≤ 100000 <;> simp [h]
/-! ### while -/
theorem ok_while {t : MT} {mb : MS} {P : Fl → PuS → Prop} (Inv : Nat → Env → PuS → Prop)
    (step : ∀ n ρ u, Inv n ρ u → Ok (t ρ) u fun b u1 => Br b (∃ m, n = m + 1 ∧ Ok (mb ρ) u1 fun f u' => match f with
      | .nx ρ2 => Inv m ρ2 u'
      | .ct ρ2 => Inv m ρ2 u'
      | .bk ρ2 => P (.nx ρ2) u'
      | .rt d => P (.rt d) u'
      | .rl d => P (.rl d) u'
      | .ex ρ2 k ks ds => P (.ex ρ2 k ks ds) u') (P (.nx ρ) u1)) : ∀ (n k : Nat) (ρ : Env) (u : PuS), n < k → Inv n ρ u → Ok (loopW t mb k ρ) u P
  | n, 0, ρ, u, hk, h => by omega
  | n, k + 1, ρ, u, hk, h => by
    unfold loopW
    rw [ok_bind]
    refine (step n ρ u h).mono fun b u1 z => ?_
    cases b with
    | false => simpa [ok_pure] using z
    | true =>
      simp only [if_true, br_t] at z ⊢
      obtain ⟨m, rfl, z⟩ := z
      rw [ok_bind]
      refine z.mono fun f u' z => ?_
      cases f with
      | nx ρ2 => exact ok_while Inv step m k ρ2 u' (by omega) z
      | ct ρ2 => exact ok_while Inv step m k ρ2 u' (by omega) z
      | bk ρ2 => exact ok_pure.mpr z
      | rt d => exact ok_pure.mpr z
      | rl d => exact ok_pure.mpr z
      | ex ρ2 k ks ds => exact ok_pure.mpr z
@[simp] theorem ok_mWhile {n : Nat} {t : MT} {mb : MS} {ρ : Env} {u : PuS} {P : Fl → PuS → Prop} : Ok (mWhile n t mb ρ) u P ↔ Ok (loopW t mb n ρ) u P := Iff.rfl
end Mi

set_option Elab.async false
set_option linter.all false
set_option maxRecDepth 100000
set_option maxHeartbeats 4000000
/-! MiQ: == and != of data that stand for plain things. -/
namespace Mi
open PySem L2
variable [TB : Tabl]
/-- one statement, what follows is hidden -/
theorem seq_step {m n : MS} {ρ : Env} {u : PuS} {P : Fl → PuS → Prop} (h : ∀ k : MS, (∀ ρ1 u1, Ok (n ρ1) u1 P → Ok (k ρ1) u1 P) → Ok (m ρ) u fun f u1 => match f with
    | .nx ρ1 => Ok (k ρ1) u1 P
    | f' => P f' u1) : Ok (mSeq m n ρ) u P := ok_seq.mpr (h n fun _ _ => id)
/-- one statement, with what holds behind it -/
theorem seq_cut {m n : MS} {ρ : Env} {u : PuS} {P : Fl → PuS → Prop} (Q : Env → PuS → Prop) (h1 : Ok (m ρ) u fun f u1 => match f with
    | .nx ρ1 => Q ρ1 u1
    | f' => P f' u1) (h2 : ∀ ρ1 u1, Q ρ1 u1 → Ok (n ρ1) u1 P) : Ok (mSeq m n ρ) u P := ok_seq.mpr (h1.mono fun f u1 z => by
  cases f with
  | nx ρ1 => exact h2 _ _ z
  | _ => exact z)
structure EqT {α : Type} [DecidableEq α] (f : α → D) (g : α → PyData) (k : Nat) : Prop where
  to : ∀ x, toPD (f x) = some (g x)
  lay : ∀ x, PyData.canLay0 (g x) = true
  dep : ∀ x, PyData.depth (g x) ≤ k
  eqv : ∀ x y, PyData.eqv (g x) (g y) = decide (x = y)
section
variable {α β : Type} [DecidableEq α] [DecidableEq β] {f : α → D} {g : α → PyData} {k : Nat}
theorem EqT.shaped (h : EqT f g k) (hk : k ≤ 64) (x : α) : SeqAt.shaped (g x) = true := by
  unfold SeqAt.shaped
  rw [h.lay x, decide_eq_true (Nat.le_trans (h.dep x) hk)]; rfl
theorem EqT.eqD (h : EqT f g k) (hk : k ≤ 64) (x y : α) : Mi.eqD (f x) (f y) = some (decide (x = y)) := by
  unfold Mi.eqD
  rw [h.to, h.to]
  show (if SeqAt.shaped (g x) = true ∧ SeqAt.shaped (g y) = true then some (PyData.eqv (g x) (g y)) else none) = _
  rw [if_pos ⟨h.shaped hk x, h.shaped hk y⟩, h.eqv]
theorem EqT.eq (h : EqT f g k) (hk : k ≤ 64) (x y : α) : eqMD (f x) (f y) = some (.bl (decide (x = y))) := by unfold eqMD; rw [h.eqD hk]; rfl
theorem EqT.ne (h : EqT f g k) (hk : k ≤ 64) (x y : α) : neMD (f x) (f y) = some (.bl (!decide (x = y))) := by unfold neMD; rw [h.eqD hk]; rfl
theorem EqT.int : EqT D.int PyData.int 0 := ⟨fun _ => rfl, fun _ => rfl, fun _ => Nat.le_refl 0, fun x y => by
  show (x == y) = _
  by_cases h : x = y <;> simp [h]⟩
theorem EqT.bl : EqT D.bl PyData.bool 0 := ⟨fun _ => rfl, fun _ => rfl, fun _ => Nat.le_refl 0, fun x y => by
  show (x == y) = _
  by_cases h : x = y <;> simp [h]⟩
theorem EqT.toPDs (h : EqT f g k) : ∀ xs : List α, Mi.toPDs (xs.map f) = some (xs.map g)
  | [] => rfl
  | x :: xs => by
    show (match toPD (f x), Mi.toPDs (xs.map f) with
      | some a, some b => some (a :: b)
      | _, _ => none) = _
    rw [h.toPDs xs, h.to]; rfl
theorem EqT.lays (h : EqT f g k) : ∀ xs : List α, PyData.canLayAll0 (xs.map g) = true
  | [] => rfl
  | x :: xs => by show (PyData.canLay0 (g x) && _) = true; rw [h.lays xs, h.lay]; rfl
theorem EqT.deps (h : EqT f g k) : ∀ xs : List α, PyData.depthAll (xs.map g) ≤ k
  | [] => Nat.zero_le _
  | x :: xs => Nat.max_le.mpr ⟨h.dep x, h.deps xs⟩
theorem EqT.eqvs (h : EqT f g k) : ∀ xs ys : List α, PyData.eqvAll (xs.map g) (ys.map g) = decide (xs = ys)
  | [], [] => rfl
  | [], _ :: _ => rfl
  | _ :: _, [] => rfl
  | x :: xs, y :: ys => by
    show (PyData.eqv (g x) (g y) && PyData.eqvAll (xs.map g) (ys.map g)) = _
    rw [h.eqvs xs ys, h.eqv]
    by_cases h1 : x = y <;> by_cases h2 : xs = ys <;> simp [h1, h2]
theorem EqT.lst (h : EqT f g k) : EqT (fun xs : List α => .lst (xs.map f)) (fun xs => .list (xs.map g)) (k + 1) :=
  ⟨fun xs => by show (Mi.toPDs (xs.map f)).map PyData.list = _; rw [h.toPDs]; rfl, fun xs => h.lays xs, fun xs => Nat.succ_le_succ (h.deps xs), fun xs ys => h.eqvs xs ys⟩
theorem EqT.tup (h : EqT f g k) : EqT (fun xs : List α => .tup (xs.map f)) (fun xs => .tuple (xs.map g)) (k + 1) :=
  ⟨fun xs => by show (Mi.toPDs (xs.map f)).map PyData.tuple = _; rw [h.toPDs]; rfl, fun xs => h.lays xs, fun xs => Nat.succ_le_succ (h.deps xs), fun xs ys => h.eqvs xs ys⟩
/-- pairs -/
theorem EqT.pair {f' : β → D} {g' : β → PyData} {k' : Nat} (h : EqT f g k) (h' : EqT f' g' k') : EqT (fun q : α × β => .tup [f q.1, f' q.2]) (fun q => .tuple [g q.1, g' q.2]) (max k k' + 1) :=
  ⟨fun q => by
    show (match toPD (f q.1), (match toPD (f' q.2), Mi.toPDs [] with
      | some a, some b => some (a :: b)
      | _, _ => none) with
      | some a, some b => some (a :: b)
      | _, _ => none).map PyData.tuple = _
    rw [h.to, h'.to]; rfl,
   fun q => by show (PyData.canLay0 (g q.1) && (PyData.canLay0 (g' q.2) && true)) = true; rw [h.lay, h'.lay]; rfl,
   fun q => by
    show max (PyData.depth (g q.1)) (max (PyData.depth (g' q.2)) 0) + 1 ≤ _
    have := h.dep q.1
    have := h'.dep q.2
    omega,
   fun q r => by
    show (PyData.eqv (g q.1) (g r.1) && (PyData.eqv (g' q.2) (g' r.2) && true)) = _
    rw [h.eqv, h'.eqv]
    obtain ⟨a, b⟩ := q
    obtain ⟨c, d⟩ := r
    by_cases h1 : a = c <;> by_cases h2 : b = d <;> simp [h1, h2]⟩
/-- a thing or None -/
def opD (f : α → D) : Option α → D
  | some x => f x
  | none => .non
def opP (g : α → PyData) : Option α → PyData
  | some x => g x
  | none => .none
theorem eqv_none_l {p : PyData} (h : p ≠ .none) : PyData.eqv .none p = false := by
  cases p <;> first | exact absurd rfl h | rfl
theorem eqv_none_r {p : PyData} (h : p ≠ .none) : PyData.eqv p .none = false := by
  cases p <;> first | exact absurd rfl h | rfl
theorem EqT.opt (h : EqT f g k) (hn : ∀ x, g x ≠ .none) : EqT (opD f) (opP g) k :=
  ⟨fun x => by cases x with
    | none => rfl
    | some x => exact h.to x,
   fun x => by cases x with
    | none => rfl
    | some x => exact h.lay x,
   fun x => by cases x with
    | none => exact Nat.zero_le _
    | some x => exact h.dep x,
   fun x y => by
    cases x with
    | none =>
      cases y with
      | none => rfl
      | some y => show PyData.eqv .none (g y) = _; rw [eqv_none_l (hn y)]; simp
    | some x =>
      cases y with
      | none => show PyData.eqv (g x) .none = _; rw [eqv_none_r (hn x)]; simp
      | some y => show PyData.eqv (g x) (g y) = _; rw [h.eqv]; by_cases e : x = y <;> simp [e]⟩
/-- rows of ints or None -/
theorem EqT.row : EqT (opD fun xs : List Int => .tup (xs.map D.int)) (opP fun xs => .tuple (xs.map PyData.int)) 1 := EqT.opt (EqT.tup EqT.int) fun x h => by cases h
theorem EqT.rowL : EqT (opD fun xs : List Int => .lst (xs.map D.int)) (opP fun xs => .list (xs.map PyData.int)) 1 := EqT.opt (EqT.lst EqT.int) fun x h => by cases h
end
end Mi

set_option Elab.async false
set_option linter.all false
set_option maxRecDepth 100000
set_option maxHeartbeats 4000000
/-! MiR: list(enumerate(x)): an iterator whose tuples are kept. -/
namespace PySem
open PySem PySem.Spec PySem.Calls PyProof.Rows
/-- an iterator that hands out new tuples, which are kept; lo: the list that takes them -/
structure Outs (prog : Program) (w : World) (A : Around) (I : Addr) (fp wr : List Addr) (lo : Addr) (n : Nat) (P : Nat → Array Value → Prop) (St : Nat → Heap → Prop) : Prop where
  sub : ∀ b ∈ wr, b < lo
  frame : ∀ i h h', St i h → (∀ b, b ≠ lo → ∀ o, h.get? b = some o → h'.get? b = some o) → St i h'
  item : ∀ i (s : Shared) (Q : Option Value → Shared → Prop) (E : Value → Shared → Prop), i < n → St i s.heap → lo < s.heap.objs.size →
    (∀ vals h' tk, P i vals → h'.get? s.heap.objs.size = some { cls := .type "tuple", data := .seq vals } → h'.objs.size = s.heap.objs.size + 1 → St (i + 1) h' → (∀ b o, b ∉ wr → s.heap.get? b = some o → h'.get? b = some o) →
      Q (some (.ref s.heap.objs.size)) { s with heap := h', toks := tk }) → wpAny (model prog w) A (pyNext (.ref I)) Q E s
  done : ∀ (s : Shared) (Q : Option Value → Shared → Prop) (E : Value → Shared → Prop), St n s.heap →
    (∀ h' tk, (∀ b o, b ∉ wr → s.heap.get? b = some o → h'.get? b = some o) → Q none { s with heap := h', toks := tk }) → wpAny (model prog w) A (pyNext (.ref I)) Q E s
structure OutG (P : Nat → Array Value → Prop) (lo : Addr) (h : Heap) (as : List Addr) : Prop where
  rise : as.Pairwise (· < ·)
  above : ∀ a ∈ as, lo < a
  tups : ∀ (j : Nat) (a : Addr), as[j]? = some a → ∃ vals, P j vals ∧ h.get? a = some { cls := .type "tuple", data := .seq vals }
section
variable {prog : Program} {w : World} {A : Around} {s : Shared} {R : Result → Shared → Prop} {I S : Addr} {fp wr : List Addr} {n : Nat} {P : Nat → Array Value → Prop} {St : Nat → Heap → Prop}
theorem OutG.there {h : Heap} {as : List Addr} (g : OutG P S h as) {a : Addr} (ha : a ∈ as) : a < h.objs.size := by
  obtain ⟨j, hj⟩ := List.mem_iff_getElem?.mp ha
  obtain ⟨_, _, e⟩ := g.tups j a hj
  exact Heap.lt_size e
theorem outs_loop (O : Outs prog w A.in1 I fp wr S n P St) (hn : n ≤ sizeLine) (res : Value) {h₁ : Heap}
    (hR : ∀ h' tk acc c as, (∀ b o, b ≠ S → b ∉ wr → h₁.get? b = some o → h'.get? b = some o) → h'.get? S = some { cls := .type "list", dict := none, data := .seq acc c, slots := #[] } → as.length = n → OutG P S h' as →
      acc.toList = as.map Value.ref → R (.ok (.ret res)) { s with heap := h', toks := tk }) :
    ∀ (k i : Nat) (h : Heap) (tk c : Nat) (acc : Array Value) (as : List Addr), n - i = k → i ≤ n → St i h → (∀ b o, b ≠ S → b ∉ wr → h₁.get? b = some o → h.get? b = some o) →
      h.get? S = some { cls := .type "list", dict := none, data := .seq acc c, slots := #[] } → acc.toList = as.map Value.ref → as.length = i → OutG P S h as →
      codeAny (model prog w) A (.builtin "list.extend.loop" ⟨[.ref S, .ref I, res], []⟩) R { s with heap := h, toks := tk } := by
  have hSw : S ∉ wr := fun z => Nat.lt_irrefl _ (O.sub S z)
  have hup : ∀ b, S < b → b ∉ wr := fun b hb z => Nat.lt_irrefl _ (Nat.lt_trans hb (O.sub b z))
  intro k
  induction k with
  | zero =>
    intro i h tk c acc as hk hi hst hkeep hS hacc hal hG
    have hin : i = n := by omega
    subst hin
    refine codeAny_builtin PySem.F.entry_extend_loop ?_
    rw [Around.under_plainId PySem.F.plain_extend_loop _]
    show wpAny _ A.in1 (pyNext (.ref I) >>= _) _ _ _
    refine wpAny_bind (O.done { s with heap := h, toks := tk } _ _ hst fun h' tk' he => ?_)
    refine wpAny_pure (hR h' tk' acc c as (fun b o h1 h2 e => he b o h2 (hkeep b o h1 h2 e)) (he S _ hSw hS) (by omega) ⟨hG.rise, hG.above, fun j a hj => ?_⟩ hacc)
    obtain ⟨vals, e1, e2⟩ := hG.tups j a hj
    exact ⟨vals, e1, he a _ (hup a (hG.above a (List.mem_of_getElem? hj))) e2⟩
  | succ k ih =>
    intro i h tk c acc as hk hi hst hkeep hS hacc hal hG
    have hlt : i < n := by omega
    have hsz : acc.size = i := by rw [← Array.length_toList, hacc, List.length_map, hal]
    refine codeAny_builtin PySem.F.entry_extend_loop ?_
    rw [Around.under_plainId PySem.F.plain_extend_loop _]
    show wpAny _ A.in1 (pyNext (.ref I) >>= _) _ _ _
    refine wpAny_bind (O.item i { s with heap := h, toks := tk } _ _ hlt hst (Heap.lt_size hS) fun vals h' tk' hv ht hz hst' hkp => ?_)
    dsimp only at ht hz hkp ⊢
    have hS' := hkp S _ hSw hS
    have up : ∀ b, b ≠ S → ∀ o, h'.get? b = some o → (h'.update S (Obj.mapSeq (·.push (Value.ref h.objs.size)))).get? b = some o := fun b hb o e => (Heap.get?_update_other _ _ (Ne.symm hb)).trans e
    have hSl : S < h.objs.size := Heap.lt_size hS
    show wpAny _ A.in1 (updateSeq S (·.push (Value.ref h.objs.size)) >>= _) _ _ _
    refine wpAny_bind ?_
    refine wpAny_updateSeq hS' rfl (wpAny_pure ⟨plainId_quiet PySem.F.plain_extend_loop _, ih (i + 1) _ tk' _ (acc.push (Value.ref h.objs.size)) (as ++ [h.objs.size]) (by omega) hlt (O.frame _ _ _ hst' up)
      (fun b o h1 h2 e => up b h1 o (hkp b o h2 (hkeep b o h1 h2 e))) (Heap.get?_update_self _ hS' rfl) (by rw [Array.toList_push, hacc, List.map_append]; rfl) (by rw [List.length_append, hal]; rfl) ⟨?_, ?_, ?_⟩⟩) (by rw [hsz]; omega) (by show (acc.push (Value.ref h.objs.size)).size ≤ sizeLine + 1; rw [Array.size_push, hsz]; omega)
    · refine List.pairwise_append.mpr ⟨hG.rise, List.pairwise_singleton _ _, fun a ha b hb => ?_⟩
      rw [List.mem_singleton.mp hb]
      exact hG.there ha
    · intro a ha
      rcases List.mem_append.mp ha with ha | ha
      · exact hG.above a ha
      · rw [List.mem_singleton.mp ha]; exact hSl
    · intro j b hj
      rcases Nat.lt_trichotomy j as.length with h1 | h1 | h1
      · rw [List.getElem?_append_left h1] at hj
        obtain ⟨vals', e1, e2⟩ := hG.tups j b hj
        have hb := hG.above b (List.mem_of_getElem? hj)
        exact ⟨vals', e1, up b (Nat.ne_of_gt hb) _ (hkp b _ (hup b hb) e2)⟩
      · subst h1
        have hb : h.objs.size = b := by simpa using hj
        subst hb
        exact ⟨vals, by rw [hal]; exact hv, up _ (Nat.ne_of_gt hSl) _ ht⟩
      · have hnone : (as ++ [h.objs.size])[j]? = none := List.getElem?_eq_none (by rw [List.length_append, List.length_singleton]; omega)
        rw [hnone] at hj; cases hj
/-- a type without a length -/
structure NoLen (T : String) : Prop where
  len : typeLookup (.type T) "__len__" = pure none
  hint : typeLookup (.type T) "__length_hint__" = pure none
  nl : (Value.type T == Value.type "list") = false
  nt : (Value.type T == Value.type "tuple") = false
theorem outs_extend {T : String} (F : NoLen T) (O : Outs prog w A.in1 I fp wr S n P St) (hT : s.TypeIs (.ref I) T) (hself : ∀ (A : Around) (s' : Shared) (Q : Value → Shared → Prop) (E : Value → Shared → Prop), St 0 s'.heap → Q (.ref I) s' → wpAny (model prog w) A (pyIter (.ref I)) Q E s') (hst : St 0 s.heap) (hSI : S ≠ I) (res : Value) (c₀ : Nat)
    (hS : s.heap.get? S = some { cls := .type "list", data := .seq #[] c₀ })
    (hR : ∀ h' tk acc c as, (∀ b o, b ≠ S → b ∉ wr → s.heap.get? b = some o → h'.get? b = some o) → h'.get? S = some { cls := .type "list", dict := none, data := .seq acc c, slots := #[] } → as.length = n → OutG P S h' as →
      acc.toList = as.map Value.ref → R (.ok (.ret res)) { s with heap := h', toks := tk }) (hn : n ≤ sizeLine) :
    wpAny (model prog w) A.in1 (Builtin.List.listExtendWith (.ref S) (.ref I) res)
      (fun fin s' => match fin with | .done f => R (.ok f) s' | .again c' => c'.quiet = true ∧ codeAny (model prog w) A c' R s') (fun e s' => R (.error e) s') s := by
  unfold Builtin.List.listExtendWith
  refine wpAny_bind (wpAny_typeOf hT ?_)
  have h1 : Builtin.List.listSameRef (.ref S) (.ref I) = false := by simp [Builtin.List.listSameRef, hSI]
  simp only [h1, F.nl, F.nt, Bool.or_false, Bool.false_eq_true, if_false]
  refine wpAny_bind (hself _ _ _ _ hst ?_)
  refine wpAny_bind (wpAny_holding ?_)
  unfold Builtin.List.listLengthHint
  refine wpAny_bind (wpAny_specialOf hT F.len ?_)
  show wpAny _ A.in1 (specialOf (Value.ref I) (Str.ofString "__length_hint__") >>= _) _ _ _
  refine wpAny_bind (wpAny_specialOf hT F.hint ?_)
  refine wpAny_pure ?_
  show wpAny _ A.in1 (rule "list.extend.makes-room" >>= fun _ => Builtin.List.listTouch (.ref S) >>= fun _ =>
    again (.builtin "list.extend.loop" ⟨[.ref S, .ref I, res], []⟩)) _ _ _
  refine wpAny_bind (wpAny_rule ?_)
  refine wpAny_bind ?_
  show wpAny _ A.in1 (updateSeq S (·.push .none) >>= fun _ => updateSeq S (·.pop)) _ _ _
  refine wpAny_bind (wpAny_updateSeq hS rfl ?_)
  have hS₂ := Heap.get?_update_self (Obj.mapSeq (·.push Value.none)) hS rfl
  refine wpAny_updateSeq (hz := by seq_fits) hS₂ rfl ?_
  have hS₃ := Heap.get?_update_self (Obj.mapSeq (·.pop)) hS₂ rfl
  have oth : ∀ b, b ≠ S → ∀ o, s.heap.get? b = some o → ((s.heap.update S (Obj.mapSeq (·.push Value.none))).update S (Obj.mapSeq (·.pop))).get? b = some o :=
    fun b hb o e => (Heap.get?_update_other _ _ (Ne.symm hb)).trans ((Heap.get?_update_other _ _ (Ne.symm hb)).trans e)
  refine wpAny_pure ⟨plainId_quiet PySem.F.plain_extend_loop _, outs_loop (s := s) (h₁ := s.heap) O hn res hR n 0 _ _ _ #[] [] (Nat.sub_zero _) (Nat.zero_le _) (O.frame 0 _ _ hst oth) (fun b o hb _ e => oth b hb o e) hS₃ rfl rfl ⟨List.Pairwise.nil, (fun _ ha => nomatch ha), (fun j a hj => by simp at hj)⟩⟩
theorem outs_call {T : String} {E : Value → Shared → Prop} {Q : Value → Shared → Prop} (F : NoLen T) (O : Outs prog w A.in1.in1 I fp wr s.heap.objs.size n P St) (hT : s.TypeIs (.ref I) T) (hself : ∀ (A : Around) (s' : Shared) (Q : Value → Shared → Prop) (E : Value → Shared → Prop), St 0 s'.heap → Q (.ref I) s' → wpAny (model prog w) A (pyIter (.ref I)) Q E s') (hst : St 0 s.heap) (hn : n ≤ sizeLine)
    (hQ : ∀ h' tk acc c as, (∀ b o, b ∉ wr → s.heap.get? b = some o → h'.get? b = some o) → h'.get? s.heap.objs.size = some { cls := .type "list", dict := none, data := .seq acc c, slots := #[] } → as.length = n → OutG P s.heap.objs.size h' as →
      acc.toList = as.map Value.ref → Q (.ref s.heap.objs.size) { s with heap := h', toks := tk }) :
    wpAny (model prog w) A (call (.type "list") [.ref I]) Q E s := by
  refine callType_codes (Q₁ := fun obj s₁ => obj = .ref s.heap.objs.size ∧ s₁ = { s with heap := s.heap.push { cls := .type "list", data := .seq #[] } }) PySem.F.called_list (PySem.F.typeCall_list_1 _) PySem.F.entry_list_init
    (code_list_new _ ⟨rfl, rfl⟩) fun obj s₁ h₁ => ?_
  obtain ⟨rfl, rfl⟩ := h₁
  have hS : (s.heap.push { cls := .type "list", data := .seq #[] }).get? s.heap.objs.size = some { cls := .type "list", data := .seq #[] } := Heap.get?_push_size _ rfl
  have hIl : I < s.heap.objs.size := let ⟨_, ho, _⟩ := hT; Heap.lt_size ho
  refine ⟨⟨_, hS, rfl⟩, PySem.F.args_list_init_2 _ _, ?_⟩
  show wpAny _ _ (do let old ← Builtin.List.listItems (.ref s.heap.objs.size); Builtin.List.listUpdate (.ref s.heap.objs.size) (fun _ => #[]); letGo old.toList.reverse; Builtin.List.listExtendWith (.ref s.heap.objs.size) (.ref I) .none) _ _ _
  refine wpAny_bind ?_
  unfold Builtin.List.listItems
  refine wpAny_bind (wpAny_seqItems hS rfl (wpAny_pure ?_))
  show wpAny _ _ (updateSeq s.heap.objs.size (fun _ => #[]) >>= fun _ => letGo (#[] : Array Value).toList.reverse >>= fun _ => Builtin.List.listExtendWith (.ref s.heap.objs.size) (.ref I) .none) _ _ _
  refine wpAny_bind (wpAny_updateSeq hS rfl ?_)
  have hS₂ := Heap.get?_update_self (Obj.mapSeq (fun _ => (#[] : Array Value))) hS rfl
  have oth : ∀ b, b ≠ s.heap.objs.size → ∀ o, s.heap.get? b = some o → ((s.heap.push { cls := .type "list", data := .seq #[] }).update s.heap.objs.size (Obj.mapSeq (fun _ => (#[] : Array Value)))).get? b = some o :=
    fun b hb o e => (Heap.get?_update_other _ _ (Ne.symm hb)).trans (Heap.get?_push_of_some _ e)
  refine wpAny_bind (wpAny_letGo ?_)
  obtain ⟨oI, hoI, hcI⟩ := id hT
  refine outs_extend F O ⟨oI, oth I (Nat.ne_of_lt hIl) oI hoI, hcI⟩ hself (O.frame 0 _ _ hst fun b hb o e => oth b hb o e) (Nat.ne_of_gt hIl) .none _ hS₂ (fun h' tk acc c as hk hS' hl hG hacc => ?_) hn
  exact ⟨rfl, hQ h' tk acc c as (fun b o hb e => hk b o (Nat.ne_of_lt (Heap.lt_size e)) hb (oth b (Nat.ne_of_lt (Heap.lt_size e)) o e)) hS' hl hG hacc⟩
end
/-! ### enumerate -/
abbrev IsEnumO (h : Heap) (e it : Addr) (i : Int) (item : Value) (a : Addr) (f : Bool) : Prop :=
  h.get? e = some { cls := .type "enumerate", dict := none, data := .fields #[rawInt a, .bool f, .ref it, rawInt i, .none, item], slots := #[] }
section
variable {prog : Program} {w : World} {A : Around} {E : Value → Shared → Prop} {s : Shared}
theorem enum_next_out {e it a : Addr} {f : Bool} {oa : Obj} {fp : List Addr} {n i : Nat} {P : Nat → Value → Prop} {St : Nat → Heap → Prop} {item : Value} {Q : Value → Shared → Prop}
    (D : Draws prog w A it fp n P St) (he : IsEnumO s.heap e it i item a f) (ha : s.heap.get? a = some oa) (hae : a ≠ e) (hai : a ≠ it) (hst : St i s.heap) (hlt : i < n) (hne : e ≠ it) (hef : e ∉ fp)
    (hQ : ∀ x h' tk, P i x → IsEnumO h' e it ((i : Int) + 1) item a true → St (i + 1) h' →
      h'.get? s.heap.objs.size = some { cls := .type "tuple", data := .seq #[.int i tk, x] } → h'.objs.size = s.heap.objs.size + 1 →
      (∀ b o, b ≠ e → b ≠ it → s.heap.get? b = some o → h'.get? b = some o) → Q (.ref s.heap.objs.size) { s with heap := h', toks := tk + 1 }) :
    wpAny (model prog w) A (Builtin.«enumerate.__next__» ⟨[.ref e], []⟩) (fun fin s' => ∃ v, fin = .done (.ret v) ∧ Q v s') E s := by
  obtain ⟨hp, g, d, tk₀, os⟩ := s
  show wpAny _ _ (field (.ref e) 2 >>= _) _ _ _
  refine wpAny_bind (wpAny_field he rfl (x := .ref it) rfl ?_)
  refine wpAny_bind (D.item i _ _ _ hlt hst fun x h₁ tk hPx hit₁ hs₁ => ?_)
  replace hs₁ : Heap.SameBut it hp h₁ := hs₁
  have he₁ : IsEnumO h₁ e it i item a f := (hs₁.2 e hne).trans he
  show wpAny _ _ (field (.ref e) 3 >>= _) _ _ ⟨h₁, g, d, tk, os⟩
  refine wpAny_bind (wpAny_field he₁ rfl (x := rawInt i) rfl ?_)
  show wpAny _ _ (field (.ref e) 4 >>= _) _ _ ⟨h₁, g, d, tk, os⟩
  refine wpAny_bind (wpAny_field he₁ rfl (x := .none) rfl ?_)
  show wpAny _ _ (mkInt i >>= _) _ _ ⟨h₁, g, d, tk, os⟩
  refine wpAny_bind (wpAny_mkInt ?_)
  show wpAny _ _ (setField (.ref e) 3 (rawInt ((i : Int) + 1)) >>= _) _ _ ⟨h₁, g, d, tk + 1, os⟩
  refine wpAny_bind (wpAny_setField_rec he₁ (by simp) fun h₂ he₂ hs₂ => ?_)
  replace hs₂ : Heap.SameBut e h₁ h₂ := hs₂
  replace he₂ : IsEnumO h₂ e it ((i : Int) + 1) item a f := he₂
  show wpAny _ _ (setField (.ref e) 4 .none >>= _) _ _ ⟨h₂, g, d, tk + 1, os⟩
  refine wpAny_bind (wpAny_setField_rec he₂ (by simp) fun h₃ he₃ hs₃ => ?_)
  replace hs₃ : Heap.SameBut e h₂ h₃ := hs₃
  replace he₃ : IsEnumO h₃ e it ((i : Int) + 1) item a f := he₃
  show wpAny _ _ (newTuple [.int i tk, x] >>= _) _ _ ⟨h₃, g, d, tk + 1, os⟩
  refine wpAny_bind (wpAny_newTuple ?_)
  have he₄ : IsEnumO (h₃.push { cls := .type "tuple", data := .seq #[.int i tk, x] }) e it ((i : Int) + 1) item a f := Heap.get?_push_of_some _ he₃
  generalize hh₄ : h₃.push { cls := .type "tuple", data := .seq #[.int i tk, x] } = h₄ at he₄
  have hsz : h₃.objs.size = hp.objs.size := by rw [hs₃.1, hs₂.1, hs₁.1]
  have hel : e < hp.objs.size := Heap.lt_size he
  have ht₄ : h₄.get? hp.objs.size = some { cls := .type "tuple", data := .seq #[.int i tk, x] } := by rw [← hh₄, ← hsz]; exact Heap.get?_push_size _ rfl
  have hz₄ : h₄.objs.size = hp.objs.size + 1 := by rw [← hh₄, Heap.size_push, hsz]
  have hk₄ : ∀ b o, b ≠ e → b ≠ it → hp.get? b = some o → h₄.get? b = some o := fun b o hbe hbi hb => by
    rw [← hh₄]; exact Heap.get?_push_of_some _ (hs₃.extBut b o hbe (hs₂.extBut b o hbe (hs₁.extBut b o hbi hb)))
  have hit₄ : St (i + 1) h₄ := D.frame _ _ _ hit₁ fun b hb o y => by
    have hbe : b ≠ e := fun q => hef (q ▸ hb)
    rw [← hh₄]; exact Heap.get?_push_of_some _ (hs₃.extBut b o hbe (hs₂.extBut b o hbe y))
  have ha₄ : h₄.get? a = some oa := hk₄ a oa hae hai ha
  show wpAny _ _ (Builtin.SmallTypes.ownedTupleIsFree (.ref e) >>= _) _ _ ⟨h₄, g, d, tk + 1, os⟩
  rw [hsz]
  clear hh₄ he₃ hs₃ he₂ hs₂ he₁ hs₁ hit₁ hsz h₃ h₂ h₁
  refine wpAny_bind ?_
  unfold Builtin.SmallTypes.ownedTupleIsFree
  refine wpAny_bind (wpAny_field he₄ rfl (x := rawInt a) rfl ?_)
  show wpAny _ _ (loadIfAlive ((a : Int).toNat) >>= _) _ _ _
  rw [Int.toNat_natCast]
  refine wpAny_bind (PySem.W.kdx_alive ha₄ ?_)
  simp only [Option.isNone_some, Bool.false_eq_true, if_false]
  refine wpAny_bind (wpAny_field he₄ rfl (x := .bool f) rfl ?_)
  have fin : ∀ h₅ : Heap, IsEnumO h₅ e it ((i : Int) + 1) item a true → Heap.SameBut e h₄ h₅ → Q (.ref hp.objs.size) ⟨h₅, g, d, tk + 1, os⟩ := fun h₅ he₅ hs₅ =>
    hQ x h₅ tk hPx he₅ (D.frame _ _ _ hit₄ fun b hb o y => hs₅.extBut b o (fun q => hef (q ▸ hb)) y) (hs₅.extBut _ _ (Nat.ne_of_gt hel) ht₄) (by show h₅.objs.size = hp.objs.size + 1; rw [hs₅.1, hz₄]) fun b o hbe hbi hb => hs₅.extBut b o hbe (hk₄ b o hbe hbi hb)
  cases f with
  | true =>
    rw [if_neg (show ¬ ((Value.bool true != Value.bool true) = true) from Bool.false_ne_true)]
    refine wpAny_pure ?_
    simp only [Bool.false_eq_true, if_false]
    exact wpAny_pure ⟨_, rfl, fin h₄ he₄ (Heap.SameBut.refl _ _)⟩
  | false =>
    rw [if_pos (show (Value.bool false != Value.bool true) = true from rfl)]
    refine wpAny_bind (wpAny_setField_rec he₄ (by simp) fun h₅ he₅ hs₅ => ?_)
    replace hs₅ : Heap.SameBut e h₄ h₅ := hs₅
    replace he₅ : IsEnumO h₅ e it ((i : Int) + 1) item a true := he₅
    refine wpAny_pure ?_
    simp only [Bool.false_eq_true, if_false]
    exact wpAny_pure ⟨_, rfl, fin h₅ he₅ hs₅⟩
theorem enum_end_any {e it : Addr} {o0 o1 o3 o4 o5 : Value} {fp : List Addr} {n : Nat} {P : Nat → Value → Prop} {St : Nat → Heap → Prop} {Q : Option Value → Shared → Prop}
    (D : Draws prog w A.in1 it fp n P St) (he : s.heap.get? e = some { cls := .type "enumerate", dict := none, data := .fields #[o0, o1, .ref it, o3, o4, o5], slots := #[] }) (hst : St n s.heap)
    (hQ : ∀ h', Heap.ExtBut it s.heap h' → Q none { s with heap := h' }) : wpAny (model prog w) A (pyNext (.ref e)) Q E s := by
  have hT : s.TypeIs (.ref e) "enumerate" := ⟨_, he, rfl⟩
  unfold pyNext
  refine wpAny_bind (wpAny_attempt (wpAny_callSpecial?_slot (name := Str.ofString "__next__") hT F.slot_enumerate_next
    (wpAny_call_entry F.slot_enumerate_next hT F.entry_enumerate_next ?_ (F.args_enumerate_next_1 _))))
  show wpAny _ _ (field (.ref e) 2 >>= _) _ _ _
  refine wpAny_bind (wpAny_field he rfl (x := .ref it) rfl ?_)
  refine wpAny_bind (D.done _ _ _ hst fun h' x he' hx' => ?_)
  obtain ⟨o, ho, hc⟩ := hx'
  refine wpAny_bind (wpAny_isInstance (T := "StopIteration") (b := true) ⟨o, ho, hc⟩ isSubtype_stop ?_)
  exact wpAny_pure (hQ _ he')
/-- where an enumerate stands whose tuples are kept -/
def EnSt (St : Nat → Heap → Prop) (e it lo : Addr) (i : Nat) (h : Heap) : Prop :=
  St i h ∧ ((i = 0 ∧ ∃ old, IsEnum h e it 0 old) ∨ ∃ item a f oa, 0 < i ∧ IsEnumO h e it (i : Int) item a f ∧ h.get? a = some oa ∧ lo < a)
theorem outs_enum {e it lo : Addr} {fp : List Addr} {n : Nat} {P : Nat → Value → Prop} {St : Nat → Heap → Prop} (D : Draws prog w A.in1 it fp n P St) (hne : e ≠ it) (hef : e ∉ fp) (hlf : lo ∉ fp) (hel : e < lo) (hil : it < lo) :
    Outs prog w A e fp [e, it] lo n (fun i vals => ∃ t x, P i x ∧ vals = #[.int i t, x]) (EnSt St e it lo) where
  sub := fun b hb => by
    have : b = e ∨ b = it := by simpa using hb
    rcases this with rfl | rfl
    · exact hel
    · exact hil
  frame := fun i h h' st hk => by
    refine ⟨D.frame _ _ _ st.1 fun b hb o e => hk b (fun z => hlf (z ▸ hb)) o e, ?_⟩
    rcases st.2 with ⟨h0, old, he⟩ | ⟨item, a, f, oa, hi0, he, ha, hla⟩
    · exact .inl ⟨h0, old, hk e (Nat.ne_of_lt hel) _ he⟩
    · exact .inr ⟨item, a, f, oa, hi0, hk e (Nat.ne_of_lt hel) _ he, hk a (Nat.ne_of_gt hla) _ ha, hla⟩
  item := fun i s Q E hi st hlo hQ => by
    obtain ⟨st1, st2⟩ := st
    rcases st2 with ⟨rfl, old, he⟩ | ⟨item, a, f, oa, hi0, he, ha, hla⟩
    · refine wpAny_pyNext_enum_itemD D he st1 hi hne hef fun x h' tk hP ho hst' hT hsz hk => ?_
      exact hQ _ h' (tk + 1) ⟨tk, x, hP, rfl⟩ hT hsz ⟨hst', .inr ⟨x, _, false, _, Nat.succ_pos _, ho, hT, hlo⟩⟩ fun b o hb y => hk b o (fun z => hb (by simp [z])) (fun z => hb (by simp [z])) y
    · have hT : s.TypeIs (.ref e) "enumerate" := ⟨_, he, rfl⟩
      have hae : a ≠ e := Nat.ne_of_gt (Nat.lt_trans hel hla)
      have hai : a ≠ it := Nat.ne_of_gt (Nat.lt_trans hil hla)
      unfold pyNext
      refine wpAny_bind (wpAny_attempt (wpAny_callSpecial?_slot (name := Str.ofString "__next__") hT F.slot_enumerate_next
        (wpAny_call_entry F.slot_enumerate_next hT F.entry_enumerate_next
          (enum_next_out D he ha hae hai st1 hi hne hef fun x h' tk hP ho hst' hT hsz hk => wpAny_pure ?_) (F.args_enumerate_next_1 _))))
      exact hQ _ h' (tk + 1) ⟨tk, x, hP, rfl⟩ hT hsz ⟨hst', .inr ⟨item, a, true, oa, Nat.succ_pos _, ho, hk a oa hae hai ha, hla⟩⟩ fun b o hb y => hk b o (fun z => hb (by simp [z])) (fun z => hb (by simp [z])) y
  done := fun s Q E st hQ => by
    obtain ⟨st1, st2⟩ := st
    rcases st2 with ⟨h0, old, he⟩ | ⟨item, a, f, oa, hi0, he, ha, hla⟩
    · exact enum_end_any D he st1 fun h' hx => hQ h' s.toks fun b o hb y => hx b o (fun z => hb (by simp [z])) y
    · exact enum_end_any D he st1 fun h' hx => hQ h' s.toks fun b o hb y => hx b o (fun z => hb (by simp [z])) y
theorem nolen_enum : NoLen "enumerate" := ⟨by rw [typeLookup_type, builtinLookup_eq_fast]; kernel_rfl, by rw [typeLookup_type, builtinLookup_eq_fast]; kernel_rfl, by decide, by decide⟩
end
end PySem

set_option Elab.async false
set_option linter.all false
set_option maxRecDepth 100000
set_option maxHeartbeats 4000000
/-! MiS: list(enumerate(x)) as a rule. -/
namespace Mi
open PySem PySem.Spec PyProof.Rows L2
variable [TB : Tabl]
/-- tuples tracked at their addresses -/
def putV : Hp → List Addr → List (List V) → Hp
  | H, a :: as, p :: kvs => putV (upd H a (.tup p)) as kvs
  | H, _, _ => H
theorem putV_off {b : Addr} : ∀ (as : List Addr) (kvs : List (List V)) (H : Hp), b ∉ as → putV H as kvs b = H b
  | [], _, _, _ => rfl
  | _ :: _, [], _, _ => rfl
  | a :: as, p :: kvs, H, h => by
    show putV (upd H a (.tup p)) as kvs b = H b
    rw [putV_off as kvs _ (fun z => h (List.mem_cons_of_mem _ z)), upd_ne (fun z => h (by rw [z]; exact List.mem_cons_self))]
theorem putV_at : ∀ (as : List Addr) (kvs : List (List V)) (H : Hp), as.length = kvs.length → as.Nodup → ∀ (j : Nat) (a : Addr) (vs : List V), as[j]? = some a → kvs[j]? = some vs → putV H as kvs a = some (.tup vs)
  | [], _, _, _, _, j, a, vs, h, _ => by cases h
  | _ :: _, [], _, h, _, _, _, _, _, _ => by cases h
  | a :: as, p :: kvs, H, h, hn, 0, b, vs, e1, e2 => by
    have hn' := List.nodup_cons.mp hn
    cases e1
    cases e2
    show putV (upd H a (.tup p)) as kvs a = some (.tup p)
    rw [putV_off as kvs _ hn'.1, upd_same]
  | a :: as, p :: kvs, H, h, hn, j + 1, b, vs, e1, e2 => putV_at as kvs (upd H a (.tup p)) (Nat.succ.inj h) (List.nodup_cons.mp hn).2 j b vs e1 e2
section
variable {X : Cx}
theorem outs_laid {pins : List (Addr × Obj)} {σ : L2.St} {H : Hp} {s : Shared} {h' : Heap} {tk : Nat} {vss : List (List V)} {acc : Array Value} {c : Nat} {as : List Addr} {S : Addr} {P : Nat → Array Value → Prop} (I : Inv X pins σ H s) (hz : vss.length ≤ sizeLine) (hv : ∀ j vals, P j vals → ∃ vs, vss[j]? = some vs ∧ vs.length ≤ sizeLine ∧ Vals vs vals.toList)
    (hk : ∀ b o, s.heap.get? b = some o → h'.get? b = some o) (hSs : s.heap.objs.size ≤ S) (hS : h'.get? S = some { cls := .type "list", dict := none, data := .seq acc c, slots := #[] }) (hl : as.length = vss.length) (hG : OutG P S h' as) (hacc : acc.toList = as.map Value.ref) :
    ∃ H' : Hp, (∀ b o, H b = some o → H' b = some o) ∧ H S = none ∧ (∀ t ∈ as, H t = none) ∧ S ∉ as ∧ H' S = some (.lst (as.map V.ref)) ∧ (∀ (j : Nat) (a : Addr) (vs : List V), as[j]? = some a → vss[j]? = some vs → H' a = some (.tup vs)) ∧ Inv X pins σ H' { s with heap := h', toks := tk } := by
  have hSn : S ∉ as := fun z => Nat.lt_irrefl _ (hG.above _ z)
  have nd : as.Nodup := List.Pairwise.imp (fun {a b} (h : a < b) => Nat.ne_of_lt h) hG.rise
  have abv : ∀ t ∈ as, s.heap.objs.size ≤ t := fun t ht => Nat.le_of_lt (Nat.lt_of_le_of_lt hSs (hG.above t ht))
  have new : ∀ t ∈ as, H t = none := fun t ht => I.hok.fresh (abv t ht)
  have newS : H S = none := I.hok.fresh hSs
  have atP := putV_at as vss (upd H S (.lst (as.map V.ref))) hl nd
  have off : ∀ b, b ∉ as → b ≠ S → putV (upd H S (.lst (as.map V.ref))) as vss b = H b := fun b h1 h2 => by rw [putV_off as vss _ h1, upd_ne h2]
  have low : ∀ b o, s.heap.get? b = some o → b ∉ as ∧ b ≠ S := fun b o e => ⟨fun z => absurd (Heap.lt_size e) (Nat.not_lt.mpr (abv b z)), fun z => absurd (Heap.lt_size e) (Nat.not_lt.mpr (z ▸ hSs))⟩
  have kp : ∀ b u, H b = some u → (putV (upd H S (.lst (as.map V.ref))) as vss) b = some u := fun b u e => by
    rw [off b (fun z => by rw [new b z] at e; cases e) (fun z => by rw [z, newS] at e; cases e)]
    exact e
  have eS : putV (upd H S (.lst (as.map V.ref))) as vss S = some (.lst (as.map V.ref)) := by rw [putV_off as vss _ hSn, upd_same]
  refine ⟨putV (upd H S (.lst (as.map V.ref))) as vss, kp, newS, new, hSn, eS, atP, ?_⟩
  refine I.call' (ch := []) rfl ⟨fun b o q _ _ _ => hk b o q, fun b o q _ _ _ => ⟨o.slots, hk b o q⟩, fun b o q n _ => ?_, fun b o q _ => ⟨o, hk b o q⟩, fun b xs q => kp b _ q, fun b o u q => kp b _ q, fun b ps q => ⟨#[], by rw [kp b _ q]; simp⟩⟩ (fun b u q => ?_) I.bare fun b z => by simp at z
  · obtain ⟨z1, z2⟩ := low b o q
    rw [off b z1 z2]
    exact n
  · by_cases hb : b ∈ as
    · obtain ⟨j, hj⟩ := List.mem_iff_getElem?.mp hb
      obtain ⟨vals, f1, f2⟩ := hG.tups j b hj
      obtain ⟨vs, g1, g2, g3⟩ := hv j vals f1
      rw [atP j b vs hj g1] at q
      cases q
      exact ⟨g2, vals.toList, g3, ⟨_, f2, rfl, 0, by rw [Array.toArray_toList]⟩⟩
    · by_cases hb2 : b = S
      · rw [hb2] at q ⊢
        rw [eS] at q
        cases q
        refine ⟨by rw [List.length_map]; omega, acc.toList, c, by rw [hacc]; exact LiI.vals_refs as, ?_⟩
        rw [Array.toArray_toList]
        exact hS
      · rw [off b hb hb2] at q
        exact (I.hok b u q).stay (fun d v _ y => hk d v y) (fun d y => kp d _ y) fun d xs y => kp d _ y
/-- a new list of new tuples -/
def NewTs (H : Hp) (vss : List (List V)) (Q : VK) : Prop := ∀ (H' : Hp) (p : Addr) (ts : List Addr), (∀ b o, H b = some o → H' b = some o) → H p = none → (∀ t ∈ ts, H t = none) → p ∉ ts → ts.length = vss.length → H' p = some (.lst (ts.map V.ref)) →
  (∀ (j : Nat) (a : Addr) (vs : List V), ts[j]? = some a → vss[j]? = some vs → H' a = some (.tup vs)) → Q (.ref p) H'
def enV (xs : List V) : List (List V) := xs.mapIdx fun i x => [.int (i : Nat), x]
theorem enV_at {xs : List V} {i : Nat} {x : V} (h : xs[i]? = some x) : (enV xs)[i]? = some [.int (i : Nat), x] := by
  unfold enV
  rw [List.getElem?_mapIdx, h]; rfl
theorem enV_len (xs : List V) : (enV xs).length = xs.length := by simp [enV]
def tLstEn (K : PySem.W.Frag) (ta : TA) : TE := fun σ H Q => ta σ H fun vs H1 => ∃ a xs, vs = [.ref a] ∧ (SqT K H1 a xs ∨ SqL K H1 a xs) ∧ NewTs H1 (enV xs) Q
theorem pe_listEn {e : Expr} {ta : TA} {p p2 pos pos2 : Pos} (hc : X.calm = true) (hg : Gl X "list") (hm : X.mg "list" = none) (hg2 : Gl X "enumerate") (hm2 : X.mg "enumerate" = none) (ha : PA X [e] ta)
    (hs : starEach [e] X.env = [(false, eval e X.env)] := by rfl)
    (hs2 : starEach [.Call (.Name "enumerate" p2) [e] [] pos2] X.env = (false, eval (.Call (.Name "enumerate" p2) [e] [] pos2) X.env) :: starEach [] X.env := by rfl) :
    PE X (.Call (.Name "list" p) [.Call (.Name "enumerate" p2) [e] [] pos2] [] pos) (tLstEn X.K ta) := by
  refine ⟨fun pins s σ H Q I h => ?_⟩
  refine Call_ (ld_blt I hg hm boot_list (PyProof.Rows.callWith_type1 (args_cons (Call_ (ld_blt I hg2 hm2 boot_enumerate (PyProof.Rows.callWith_type1 (thn (ha.run pos2 pins s σ H _ I h) fun us s1 ⟨vs, H1, I1, r1, q1⟩ => ?_) hs rfl))) hs2) hs2 rfl))
  obtain ⟨a, xs, ex, hq, q⟩ := q1
  subst ex
  cases r1 with
  | cons r rr =>
    cases rr
    cases r
    have key : ∀ (its : List Value) (h' : Heap) (fp : List Addr) (St : Nat → Heap → Prop), Vals xs its → xs.length ≤ sizeLine → (D : Draws X.prog X.w X.A.in1.in1.in1 s1.heap.objs.size fp its.toArray.size (fun i v => its.toArray[i]? = some v) St) → (∀ b ∈ fp, b < s1.heap.objs.size + 1) → IsEnum h' (s1.heap.objs.size + 1) s1.heap.objs.size 0 .none → St 0 h' → h'.objs.size = s1.heap.objs.size + 2 →
        (∀ b o, s1.heap.get? b = some o → h'.get? b = some o) → wpAny (model X.prog X.w) X.A (call (.type "list") [.ref (s1.heap.objs.size + 1)]) (EP X pins σ Q) X.xe { s1 with heap := h' } := fun its h' fp St rv hz D hfp he hst hsz hk => by
      have hnf : s1.heap.objs.size + 1 ∉ fp := fun z => Nat.lt_irrefl _ (hfp _ z)
      have hlf : h'.objs.size ∉ fp := fun z => by have q : @LT.lt Nat _ h'.objs.size (s1.heap.objs.size + 1) := hfp _ z; omega
      refine outs_call (s := { s1 with heap := h' }) nolen_enum (outs_enum D (Nat.succ_ne_self _) hnf hlf (by show s1.heap.objs.size + 1 < h'.objs.size; omega) (by show s1.heap.objs.size < h'.objs.size; omega)) ⟨_, he, rfl⟩
        (fun A s' Q E st hQ => ?_) ⟨hst, .inl ⟨rfl, .none, he⟩⟩ (by rw [List.size_toArray, ← rv.length]; exact hz) fun h2 tk acc c as hk2 hS hl hG hacc => ?_
      · rcases st.2 with ⟨_, old, he⟩ | ⟨item, a, f, oa, hi0, _, _, _⟩
        · exact wpAny_pyIter_enum he hQ
        · exact absurd hi0 (Nat.lt_irrefl 0)
      · have hkk : ∀ b o, s1.heap.get? b = some o → h2.get? b = some o := fun b o e => hk2 b o (fun z => by
          have hb : @LT.lt Nat _ b s1.heap.objs.size := Heap.lt_size e
          have : b = s1.heap.objs.size + 1 ∨ b = s1.heap.objs.size := by simpa using z
          rcases this with z | z
          · exact absurd hb (by rw [z]; exact Nat.not_lt.mpr (Nat.le_succ _))
          · exact absurd hb (by rw [z]; exact Nat.lt_irrefl _)) (hk b o e)
        obtain ⟨H', k1, k2, k3, k4, k5, k6, J⟩ := outs_laid (tk := tk) (vss := enV xs) I1 (by rw [enV_len]; exact hz) (fun j vals hP => by
          obtain ⟨t, x, h1, rfl⟩ := hP
          have hj : its[j]? = some x := by simpa using h1
          obtain ⟨v, ev, rvv⟩ : ∃ v, xs[j]? = some v ∧ RelV v x := by
            rcases vals_get rv j with ⟨v, u, e1, e2, r⟩ | ⟨e1, e2⟩
            · rw [hj] at e2; cases e2; exact ⟨v, e1, r⟩
            · rw [hj] at e2; cases e2
          exact ⟨_, enV_at ev, by show 2 ≤ sizeLine; decide, .cons ⟨_, rfl⟩ (.cons rvv .nil)⟩) hkk (by show s1.heap.objs.size ≤ h'.objs.size; omega) hS (by rw [hl, List.size_toArray, enV_len, rv.length]) hG hacc
        exact ⟨.ref _, H', J, rfl, q H' _ as k1 k2 k3 k4 (by rw [hl, List.size_toArray, enV_len, rv.length]) k5 k6⟩
    rcases hq with hq | hq
    · obtain ⟨its, rv, p', hz⟩ := I1.tuple hq
      have la : a < s1.heap.objs.size := p'.lt
      refine mi_enum_begins1 (begins_tuple a its.toArray) p' fun h' he hit hsz hk => args_nil ?_
      exact key its h' _ _ rv hz (Draws.tuple (A := X.A.in1.in1.in1) (I1.ok.hd hc) s1.heap.objs.size a (Nat.ne_of_lt la) its.toArray) (fun b hb => by
        have : b = s1.heap.objs.size ∨ b = a := by simpa using hb
        rcases this with rfl | rfl
        · exact Nat.lt_succ_self _
        · exact Nat.lt_succ_of_lt la) he ⟨⟨_, hit, rfl, rfl⟩, let ⟨o, ho, r⟩ := p'; ⟨o, hk _ _ ho, r⟩⟩ hsz hk
    · obtain ⟨its, rv, p', hz⟩ := I1.list hq
      refine call_enumerate_list p'.isList fun h' he hit hsz hk => args_nil ?_
      have la : a < s1.heap.objs.size := let ⟨_, ho, _⟩ := p'.isList; Heap.lt_size ho
      exact key its h' _ _ rv hz (Draws.list (A := X.A.in1.in1.in1) (I1.ok.hd hc) s1.heap.objs.size a (Nat.ne_of_lt la) its.toArray) (fun b hb => by
        have : b = s1.heap.objs.size ∨ b = a := by simpa using hb
        rcases this with rfl | rfl
        · exact Nat.lt_succ_self _
        · exact Nat.lt_succ_of_lt la) he ⟨hit, p'.isList.at fun o e => hk _ _ e⟩ hsz hk
/-- .. frozen -/
theorem newTs_ok {W : Wo} {p : Addr} {F H : Hp} {u : PuS} {vss : List (List V)} {dss : List (List D)} {Q : VK} (g : Gd p u F H) (hl : vss.length = dss.length) (hr : ∀ (j : Nat) (vs : List V) (ds : List D), vss[j]? = some vs → dss[j]? = some ds → Reps W p F vs ds)
    (h : After p F H (some (D.lst (dss.map D.tup), u)) fun d _ F' H' => ∀ v, Rep W p F' v d → Q v H') : NewTs H vss Q := by
  intro H' q ts hk hq hts hqn htl hH hT
  have hF : ∀ b o, F b = some o → b ≠ q ∧ b ∉ ts := fun b o e => by
    have e' := g.ex _ _ e
    refine ⟨fun z => ?_, fun z => ?_⟩
    · rw [z, hq] at e'; cases e'
    · rw [hts b z] at e'; cases e'
  have hp : p ≠ q ∧ p ∉ ts := ⟨fun z => g.ne (z ▸ hq), fun z => g.ne (hts p z)⟩
  let F' : Hp := fun b => if b = q ∨ b ∈ ts then H' b else F b
  have f1 : ∀ b, b = q ∨ b ∈ ts → F' b = H' b := fun b hb => if_pos hb
  have f2 : ∀ b, ¬ (b = q ∨ b ∈ ts) → F' b = F b := fun b hb => if_neg hb
  have sm : Same F F' := fun b o e => by
    obtain ⟨z1, z2⟩ := hF b o e
    rw [f2 b (fun z => z.elim z1 z2)]; exact e
  have nt : ∀ a ps, F' a ≠ some (.tbl ps) := fun a ps z => by
    by_cases za : a = q ∨ a ∈ ts
    · rw [f1 a za] at z
      rcases za with rfl | za
      · rw [hH] at z; cases z
      · obtain ⟨j, hj⟩ := List.getElem?_of_mem za
        have hi : j < vss.length := by rw [← htl]; exact (List.getElem?_eq_some_iff.mp hj).1
        rw [hT j a _ hj (List.getElem?_eq_getElem hi)] at z; cases z
    · rw [f2 a za] at z; exact g.nt a ps z
  refine h F' H' ⟨sm, fun a o _ e _ => hk a o e, fun a ps _ e => ⟨ps, hk a _ e⟩, fun a o e => ?_⟩ ⟨fun a o e => ?_, ?_, fun l e => ?_, nt, g.tb.ext hk, g.hp⟩ (.ref q) (Rep.mkL (vs := ts.map V.ref) (by rw [f1 q (.inl rfl)]; exact hH) ⟨by simp [htl, hl], fun i v d e1 e2 => ?_⟩)
  · by_cases z : a = q ∨ a ∈ ts
    · rcases z with z | z
      · rw [z]; exact .inr hq
      · exact .inr (hts a z)
    · rw [f2 a z] at e; exact .inl e
  · by_cases z : a = q ∨ a ∈ ts
    · rw [f1 a z] at e; exact e
    · rw [f2 a z] at e; exact hk a o (g.ex a o e)
  · exact hk p _ g.pu
  · rw [f2 p (fun z => z.elim hp.1 hp.2)]; exact g.off l e
  · rw [List.getElem?_map] at e1 e2
    cases e3 : ts[i]? with
    | none => rw [e3] at e1; cases e1
    | some t =>
      rw [e3] at e1
      cases e1
      cases e4 : dss[i]? with
      | none => rw [e4] at e2; cases e2
      | some ds =>
        rw [e4] at e2
        cases e2
        have hi : i < vss.length := by rw [hl]; exact (List.getElem?_eq_some_iff.mp e4).1
        have e5 : vss[i]? = some vss[i] := List.getElem?_eq_getElem hi
        have e6 := hT i t _ e3 e5
        exact Rep.mkT (by rw [f1 t (.inr (List.mem_of_getElem? e3))]; exact e6) ((hr i _ ds e5 e4).mono sm)
/-- list(enumerate(e)) -/
def enL : List D → Option D := fun ds => (enumA ds).map .lst
theorem dLstEn {X : Cx} {c : Cf} {e : Expr} {ms : MA} {p p2 pos pos2 : Pos} (hc : X.calm = true) (hg : Gl X "list") (hm : X.mg "list" = none) (hg2 : Gl X "enumerate") (hm2 : X.mg "enumerate" = none) (ha : DA X c [e] ms)
    (hs : starEach [e] X.env = [(false, eval e X.env)] := by rfl)
    (hs2 : starEach [.Call (.Name "enumerate" p2) [e] [] pos2] X.env = (false, eval (.Call (.Name "enumerate" p2) [e] [] pos2) X.env) :: starEach [] X.env := by rfl) (hK : X.K = c.W.K := by rfl) :
    DE X c (.Call (.Name "list" p) [.Call (.Name "enumerate" p2) [e] [] pos2] [] pos) (mCB enL ms) :=
  (pe_listEn hc hg hm hg2 hm2 ha hs hs2).imp fun σ H Q ⟨F, u, ρ, S, h⟩ => ⟨F, u, ρ, S, (After.split h).imp fun xs u1 F1 H1 _ s1 g1 h1 vs rvs => by
    obtain ⟨d, e1, h2⟩ := lft_some h1
    have key : ∀ (v : V) (ds : List D) (a : Addr) (ws : List V), Reps c.W c.p F1 ws ds → d = .lst (enumD ds) → NewTs H1 (enV ws) Q := fun v ds a ws rs ed => by
      have ed2 : d = .lst ((ds.mapIdx fun i x => [D.int (i : Nat), x]).map D.tup) := by
        rw [ed]; unfold enumD
        congr 1
        apply List.ext_getElem?
        intro i
        rw [List.getElem?_map, List.getElem?_mapIdx, List.getElem?_mapIdx, Option.map_map]
        rfl
      rw [ed2] at h2
      refine newTs_ok g1 (by simp [enV_len, rs.1]) (fun j vs ds' e3 e4 => ?_) h2
      rw [List.getElem?_mapIdx] at e4
      unfold enV at e3
      rw [List.getElem?_mapIdx] at e3
      cases e5 : ds[j]? with
      | none => rw [e5] at e4; cases e4
      | some x =>
        rw [e5] at e4
        cases e4
        obtain ⟨y, ey, ry⟩ := rs.get e5
        rw [ey] at e3
        cases e3
        exact Reps.cons (.int _) (Reps.cons ry Reps.nil)
    unfold enL enumA at e1
    split at e1
    · cases e1
      obtain ⟨v, rfl, rv⟩ := rvs.one
      obtain ⟨a, ws, rfl, ha, rs⟩ := rv.lst_
      exact ⟨a, ws, rfl, .inr (by rw [hK]; exact SqL.of (g1.ex _ _ ha)), key (.ref a) _ a ws rs rfl⟩
    · cases e1
      obtain ⟨v, rfl, rv⟩ := rvs.one
      obtain ⟨a, ws, rfl, ha, rs⟩ := rv.tup_
      exact ⟨a, ws, rfl, .inl (by rw [hK]; exact sq_t g1.ex ha), key (.ref a) _ a ws rs rfl⟩
    · cases e1⟩
end
end Mi

set_option Elab.async false
set_option linter.all false
set_option maxRecDepth 100000
set_option maxHeartbeats 4000000
/-! MiT: reversed, range downwards, sorted ints, f-strings. -/
namespace Mi
open PySem PySem.Spec PyProof.Rows L2
variable [TB : Tabl]
/-! ### reversed(list) -/
def revL : List D → Option (List D) := fun ds => match ds with
  | [.lst xs] => some xs.reverse
  | _ => none
@[simp] theorem s_revL {xs : List D} : revL [.lst xs] = some xs.reverse := rfl
def mIrev (ms : MA) : MA := fun ρ => M.bind (ms ρ) fun ds => lft (revL ds)
theorem dIrev {X : Cx} {c : Cf} {tg e : Expr} {ms : MA} {pos q : Pos} (hg : Gl X "reversed") (hm : X.mg "reversed" = none) (ha : DA X c [e] ms) (hs : starEach [e] X.env = [(false, eval e X.env)] := by rfl) (hK : X.K = c.W.K := by rfl) : DI X c tg (.Call (.Name "reversed" q) [e] [] pos) (mIrev ms) :=
  (pi_reversed hg hm ha hs).imp fun σ H R ⟨F, u, ρ, S, h⟩ => ⟨F, u, ρ, S, (After.split h).imp fun ds u1 F1 H1 _ s1 g1 h1 vs rvs => by
    obtain ⟨es, e1, h2⟩ := lft_some h1
    unfold revL at e1
    split at e1
    · rename_i xs _
      cases e1
      obtain ⟨v, rfl, rv⟩ := rvs.one
      obtain ⟨a, ws, rfl, ha, rs⟩ := rv.lst_
      refine ⟨a, ws, rfl, by rw [hK]; exact SqL.of (g1.ex _ _ ha), ?_⟩
      rw [hK]
      refine After.now g1 h2 _ ⟨_, _, by rw [List.length_reverse, ← rs.1]; exact walk_rev, fun H e => SqL.of (e _ _ ha), fun i H x H' F2 u d hd e g hy => ?_⟩
      obtain ⟨rfl, hx⟩ := hy
      refine ⟨F2, Stp.refl, g, ?_⟩
      have hi : i < xs.length := by
        have := (List.getElem?_eq_some_iff.mp hd).1
        simpa using this
      rw [List.getElem?_reverse hi] at hd
      rw [rs.1] at hx
      exact (rs.2 _ x d hx hd).mono e
    · cases e1⟩
@[simp] theorem ok_Irev {ρ : Env} {u : PuS} {ms : MA} {P : List D → PuS → Prop} : Ok (mIrev ms ρ) u P ↔ Ok (ms ρ) u fun ds u1 => ∃ z, revL ds = some z ∧ P z u1 := by unfold mIrev; simp only [ok_bind, ok_lft]
/-! ### range(a, b, -1) -/
def rngDn (i j : Int) : List D := (List.range (i - j).toNat).map fun k => .int (i - (k : Nat))
def rng3 : List D → Option (List D) := fun ds => match ds with
  | [.int i, .int j, .int k] => if k = -1 ∧ (-100000 ≤ i ∧ i ≤ 100000) ∧ -100000 ≤ j ∧ j ≤ 100000 then some (rngDn i j) else none
  | _ => none
theorem dIrng3 {X : Cx} {cc : Cf} {tg a b c : Expr} {ms : MA} {pos q : Pos} (hg : Gl X "range") (hm : X.mg "range" = none) (ha : DA X cc [a, b, c] ms) (hs : starEach [a, b, c] X.env = (false, eval a X.env) :: starEach [b, c] X.env := by rfl)
    (hpl : (backTo pos (starEach [b, c] X.env)).any (fun x => x.fst) = false := by rfl) : DI X cc tg (.Call (.Name "range" q) [a, b, c] [] pos) (mIof rng3 ms) :=
  (pi_range3 hg hm ha hs hpl).imp fun σ H R ⟨F, u, ρ, S, h⟩ => ⟨F, u, ρ, S, (After.split h).imp fun ds u1 F1 H1 _ s1 g1 h1 vs rv => by
    obtain ⟨es, e1, h2⟩ := lft_some h1
    unfold rng3 at e1
    split at e1
    · rename_i i j k _
      split at e1
      · rename_i hj
        obtain ⟨rfl, hj⟩ := hj
        cases e1
        obtain ⟨v, vr, rfl, r1, r2⟩ := rv.uncons
        obtain ⟨w, wr, rfl, r3, r4⟩ := r2.uncons
        obtain ⟨x, xr, rfl, r5, r6⟩ := r4.uncons
        rw [r6.none, r1.int_, r3.int_, r5.int_]
        refine ⟨i, j, -1, (i - j).toNat, rfl, RgC.neg (by omega) (by omega) (by omega) (by omega), After.now g1 h2 _ ?_⟩
        refine ⟨_, _, by unfold rngDn; rw [List.length_map, List.length_range]; exact walk_rangeC, fun _ _ => trivial, fun n H x H' F2 u d hd e g hy => ?_⟩
        obtain ⟨rfl, rfl⟩ := hy
        refine ⟨F2, Stp.refl, g, ?_⟩
        unfold rngDn at hd
        rw [List.getElem?_map] at hd
        by_cases hn : n < (i - j).toNat
        · rw [List.getElem?_range hn] at hd
          cases hd
          show Rep cc.W cc.p F2 (.int (i + (n : Int) * -1)) (.int (i - (n : Int)))
          rw [show i + (n : Int) * -1 = i - (n : Int) by omega]
          exact .int _
        · rw [List.getElem?_eq_none (by simpa using hn)] at hd; cases hd
      · cases e1
    · cases e1⟩
/-! ### sorted ints -/
def srtI (b : Bool) (ns : List Int) : List Int := ns.mergeSort fun x y => if b = true then decide (y ≤ x) else decide (x ≤ y)
theorem srtI_perm (b : Bool) (ns : List Int) : (srtI b ns).Perm ns := List.mergeSort_perm _ _
theorem srtI_ord (b : Bool) (ns : List Int) : OrdB b (srtI b ns) := by
  have h := List.pairwise_mergeSort (le := fun x y : Int => if b = true then decide (y ≤ x) else decide (x ≤ y)) (by
    intro x y z h1 h2
    cases b with
    | true =>
      have h1 := of_decide_eq_true h1
      have h2 := of_decide_eq_true h2
      exact decide_eq_true (by omega)
    | false =>
      have h1 := of_decide_eq_true h1
      have h2 := of_decide_eq_true h2
      exact decide_eq_true (by omega)) (by
    intro x y
    cases b with
    | true =>
      show (decide (y ≤ x) || decide (x ≤ y)) = true
      by_cases z : y ≤ x
      · simp [z]
      · have : x ≤ y := by omega
        simp [this]
    | false =>
      show (decide (x ≤ y) || decide (y ≤ x)) = true
      by_cases z : y ≤ x
      · simp [z]
      · have : x ≤ y := by omega
        simp [this]) ns
  unfold OrdB srtI
  cases b with
  | true => exact h.imp fun {x y} z => of_decide_eq_true z
  | false => exact h.imp fun {x y} z => of_decide_eq_true z
theorem ordB_uniq {b : Bool} {xs ys : List Int} (h1 : OrdB b xs) (h2 : OrdB b ys) (p : xs.Perm ys) : xs = ys := by
  unfold OrdB at h1 h2
  cases b with
  | true => exact List.Perm.eq_of_pairwise (le := fun x y : Int => x ≥ y) (fun x y _ _ z1 z2 => by omega) h1 h2 p
  | false => exact List.Perm.eq_of_pairwise (le := fun x y : Int => x ≤ y) (fun x y _ _ z1 z2 => by omega) h1 h2 p
theorem bb_sorted : bootBuiltins "sorted" = some (.builtin "sorted") := by decide +kernel
def srtO (b : Bool) : List D → Option (List D) := fun ds => match ds with
  | [.lst xs] => (intsD xs).map fun ns => (srtI b ns).map D.int
  | _ => none
theorem srt_ok {W : Wo} {p : Addr} {F H H00 : Hp} {u : PuS} {vs : List V} {as es : List D} {b : Bool} {Q : VK} (g : Gd p u F H) (bk : ∀ q, H q = none → H00 q = none) (r : Reps W p F vs as) (e : srtO b as = some es)
    (h : After p F H (some (es, u)) fun ds _ F' H' => ∀ q vs, F' q = none → H00 q = none → H' q = some (.lst vs) → Reps W p F' vs ds → Q (.ref q) H') :
    ∃ (a : Addr) (ns : List Int), vs = [V.ref a] ∧ SqL W.K H a (ns.map V.int) ∧ ∀ (ns' : List Int) (q : Addr), ns'.Perm ns → OrdB b ns' → H q = none → Q (.ref q) (upd H q (.lst (ns'.map V.int))) := by
  unfold srtO at e
  split at e
  · rename_i xs
    cases e1 : intsD xs with
    | none => rw [e1] at e; cases e
    | some ns =>
      rw [e1] at e
      cases e
      obtain ⟨v, rfl, rv⟩ := r.one
      obtain ⟨a, ws, rfl, ha, rs⟩ := rv.lst_
      have ew := intsD_rep rs e1
      subst ew
      refine ⟨a, ns, rfl, SqL.of (g.ex _ _ ha), fun ns' q hp ho hq => ?_⟩
      have en : ns' = srtI b ns := ordB_uniq ho (srtI_ord b ns) (hp.trans (srtI_perm b ns).symm)
      subst en
      exact h _ _ (Stp.own hq) (g.own hq) q _ (g.fresh hq) (bk q hq) upd_same (reps_ints _)
  · cases e
theorem dSort {X : Cx} {c : Cf} {e : Expr} {ms : MA} {p pos : Pos} (hg : Gl X "sorted") (hm : X.mg "sorted" = none) (ha : DA X c [e] ms) (hK : X.K = c.W.K := by rfl)
    (he : starEach (e :: []) X.env = (false, eval e X.env) :: starEach [] X.env := by rfl) : DL X c (.Call (.Name "sorted" p) [e] [] pos) (mCBO (srtO false) ms) :=
  (pe_callB cr_sortedI hg hm bb_sorted ha (by decide) (by decide) he).imp fun σ H Q ⟨F, u, ρ, S, h⟩ => ⟨F, u, ρ, S, (After.split h).imp fun xs u1 F1 H1 _ s1 g1 h1 vs rvs => by
    obtain ⟨es, e1, h2⟩ := lft_some h1
    obtain ⟨a, ns, e2, e3, e4⟩ := srt_ok g1 (fun q hq => s1.back g1.ne hq) rvs e1 h2
    exact ⟨a, ns, e2, by rw [hK]; exact e3, fun ns' q hp ho hq => e4 ns' q hp ho hq⟩⟩
theorem dSortR {X : Cx} {c : Cf} {e : Expr} {ms : MA} {b : Bool} {p pos kpos cp : Pos} {kk : Nat} (hg : Gl X "sorted") (hm : X.mg "sorted" = none) (ha : DA X c [e] ms) (hK : X.K = c.W.K := by rfl)
    (he : backTo pos (starEach (e :: []) X.env) = (false, eval e X.env) :: backTo pos (starEach [] X.env) := by rfl) (hpl : (backTo pos (starEach (e :: []) X.env)).any (fun x => x.fst) = false := by rfl) : DL X c (.Call (.Name "sorted" p) [e] [⟨some "reverse", .Constant (.bool b) kk cp, kpos⟩] pos) (mCBO (srtO b) ms) :=
  (pe_callBK (ks := [Str.ofString "reverse"]) cr_sortedRev hg hm bb_sorted ha (dKcons (c := c) (me := mC (.bl b)) dBl dKnil) (by decide) (by decide) he hpl).imp fun σ H Q ⟨F, u, ρ, S, h⟩ => ⟨F, u, ρ, S, (After.split h).imp fun xs u1 F1 H1 _ s1 g1 h1 vs rvs => by
    obtain ⟨es, e1, h2⟩ := lft_some h1
    refine ⟨F1, u1, ρ, S.step s1 g1, ?_⟩
    show After c.p F1 H1 (some ([D.bl b], u1)) _
    intro F2 H2 s2 g2 zs rz
    obtain ⟨z, rfl, rzz⟩ := rz.one
    obtain ⟨a, ns, e2, e3, e4⟩ := srt_ok (H00 := H) g2 (fun q hq => s1.back g1.ne (s2.back g2.ne hq)) (rvs.mono s2.ef) e1 (fun F3 H3 s3 g3 => h2 F3 H3 (s2.trans g2.ne s3) g3)
    exact ⟨a, ns, e2, by rw [rzz.bl_], by rw [hK]; exact e3, fun ns' q hp ho hq => e4 ns' q hp ho hq⟩⟩
/-! ### f-strings -/
def fmtD : D → Option D
  | .str y => if y.length ≤ 100000 then some (.str y) else none
  | .int i => if i.natAbs.log2 < 1920 then some (.str (toString i)) else none
  | _ => none
def mFmt (m : ME) : ME := fun ρ => M.bind (m ρ) fun d => lft (fmtD d)
theorem dFmt {X : Cx} {c : Cf} {e : Expr} {m : ME} {pos : Pos} (he : DE X c e m) : DE X c (.FormattedValue e (-1) none pos) (mFmt m) :=
  (pe_fmt he).imp fun σ H Q ⟨F, u, ρ, S, h⟩ => ⟨F, u, ρ, S, (After.split h).imp fun d u1 F1 H1 _ s1 g1 h1 v rv => by
    obtain ⟨z, e1, h2⟩ := lft_some h1
    unfold fmtD at e1
    cases d with
    | str y =>
      simp only [] at e1
      split at e1
      · rename_i hl
        cases e1
        exact .inl ⟨y, rv.str_, sz5 hl, After.now g1 h2 _ (.str y)⟩
      · cases e1
    | int i =>
      simp only [] at e1
      split at e1
      · rename_i hl
        cases e1
        exact .inr ⟨i, rv.int_, hl, After.now g1 h2 _ (.str _)⟩
      · cases e1
    | _ => cases e1⟩
def mJs : List ME → Str → Env → M Str
  | [], acc, _ => M.pure acc
  | m :: ms, acc, ρ => M.bind (m ρ) fun d => match d with
    | .str y => if (acc ++ y).length ≤ 100000 then mJs ms (acc ++ y) ρ else lft none
    | _ => lft none
def mFs (ms : List ME) : ME := fun ρ => M.bind (mJs ms Str.empty ρ) fun s => M.pure (.str s)
inductive DJ (X : Cx) (c : Cf) : List Expr → List ME → Prop
  | nil : DJ X c [] []
  | cons {e : Expr} {m : ME} {es : List Expr} {ms : List ME} (h : DE X c e m) (r : DJ X c es ms) : DJ X c (e :: es) (m :: ms)
theorem DJ.pj {X : Cx} {c : Cf} {es : List Expr} {ms : List ME} (h : DJ X c es ms) : PJ X es (ms.map (rdE c)) := by
  induction h with
  | nil => exact .nil
  | cons h r ih => exact .cons h ih
theorem rdJs {c : Cf} : ∀ (ms : List ME) (acc : Str) (σ : L2.St) (H : Hp) (Q : Str → Hp → Prop) (F : Hp) (u : PuS) (ρ : Env), Sta c u F H σ ρ → After c.p F H (mJs ms acc ρ u) (fun s _ _ H' => Q s H') → tJs (ms.map (rdE c)) acc σ H Q
  | [], acc, σ, H, Q, F, u, ρ, S, h => After.now S.gd h
  | m :: ms, acc, σ, H, Q, F, u, ρ, S, h => ⟨F, u, ρ, S, (After.split h).imp fun d u1 F1 H1 _ s1 g1 h1 v rv => by
      cases d with
      | str y =>
        have h2 : After c.p F1 H1 ((if (acc ++ y).length ≤ 100000 then mJs ms (acc ++ y) ρ else lft none) u1) (fun s _ _ H' => Q s H') := h1
        by_cases hl : (acc ++ y).length ≤ 100000
        · rw [if_pos hl] at h2
          exact ⟨y, rv.str_, sz5 hl, rdJs ms (acc ++ y) σ H1 Q F1 u1 ρ (S.step s1 g1) h2⟩
        · rw [if_neg hl] at h2; exact False.elim h2
      | _ => exact False.elim h1⟩
theorem dFs {X : Cx} {c : Cf} {v1 v2 : Expr} {rest : List Expr} {ms : List ME} {pos : Pos} (h : DJ X c (v1 :: v2 :: rest) ms) : DE X c (.JoinedStr (v1 :: v2 :: rest) pos) (mFs ms) :=
  (pe_joined h.pj).imp fun σ H Q ⟨F, u, ρ, S, h⟩ => rdJs ms _ σ H _ F u ρ S ((After.split h).imp fun s u1 F1 H1 _ s1 g1 h1 => After.now g1 h1 _ (.str s))
@[simp] theorem ok_Fmt {ρ : Env} {u : PuS} {m : ME} {P : D → PuS → Prop} : Ok (mFmt m ρ) u P ↔ Ok (m ρ) u fun d u1 => ∃ z, fmtD d = some z ∧ P z u1 := by unfold mFmt; simp only [ok_bind, ok_lft]
@[simp] theorem ok_Fs {ρ : Env} {u : PuS} {ms : List ME} {P : D → PuS → Prop} : Ok (mFs ms ρ) u P ↔ Ok (mJs ms Str.empty ρ) u fun s u1 => P (.str s) u1 := by unfold mFs; simp only [ok_bind, ok_pure]
@[simp] theorem ok_Js0 {ρ : Env} {u : PuS} {acc : Str} {P : Str → PuS → Prop} : Ok (mJs [] acc ρ) u P ↔ P acc u := ok_pure
@[simp] theorem ok_Js {ρ : Env} {u : PuS} {acc : Str} {m : ME} {ms : List ME} {P : Str → PuS → Prop} : Ok (mJs (m :: ms) acc ρ) u P ↔ Ok (m ρ) u fun d u1 => ∃ y, d = .str y ∧ (acc ++ y).length ≤ 100000 ∧ Ok (mJs ms (acc ++ y) ρ) u1 P := by
  show Ok (M.bind _ _) u P ↔ _
  rw [ok_bind]
  constructor
  · refine fun h => h.mono fun d u1 z => ?_
    cases d with
    | str y =>
      by_cases hl : (acc ++ y).length ≤ 100000
      · simp only [hl, if_true] at z; exact ⟨y, rfl, hl, z⟩
      · simp only [hl, if_false] at z; exact (ok_none.mp z).elim
    | _ => exact (ok_none.mp z).elim
  · refine fun h => h.mono fun d u1 z => ?_
    obtain ⟨y, rfl, hl, z⟩ := z
    simp only [hl, if_true]; exact z
end Mi

set_option Elab.async false
set_option linter.all false
set_option maxRecDepth 100000
set_option maxHeartbeats 4000000
namespace Mi
open PySem L2
variable [TB : Tabl]
/-- one statement; what follows and what is wanted are hidden -/
theorem seq_go {m n : MS} {ρ : Env} {u : PuS} {P : Fl → PuS → Prop} (h : ∀ (K : Env → PuS → Prop) (R : Fl → PuS → Prop), (∀ ρ1 u1, Ok (n ρ1) u1 P → K ρ1 u1) → (∀ f u1, P f u1 → R f u1) → Ok (m ρ) u fun f u1 => match f with
    | .nx ρ1 => K ρ1 u1
    | f' => R f' u1) : Ok (mSeq m n ρ) u P := ok_seq.mpr ((h (fun ρ1 u1 => Ok (n ρ1) u1 P) P (fun _ _ => id) (fun _ _ => id)).mono fun f u1 z => by
  cases f with
  | nx ρ1 => exact z
  | _ => exact z)
/-- a statement; what is wanted is hidden -/
theorem st_go {m : MS} {ρ : Env} {u : PuS} {P : Fl → PuS → Prop} (h : ∀ (R : Fl → PuS → Prop), (∀ f u1, P f u1 → R f u1) → Ok (m ρ) u R) : Ok (m ρ) u P := h P fun _ _ => id
end Mi

set_option Elab.async false
set_option linter.all false
set_option maxRecDepth 100000
set_option maxHeartbeats 4000000
/-! MiV: a, b, c, d = .., fresh lists among them. -/
namespace Mi
open PySem PySem.Spec PyProof.Rows L2
variable [TB : Tabl]
def gNames : List Nat → TGs
  | [] => gNil
  | i :: is => gCons (gName i) (gNames is)
theorem gNames_ok : ∀ {is : List Nat} {vs : List V} {σ : L2.St} {H : Hp} {Q : L2.St → Hp → Prop}, is.length = vs.length → Q (setV is vs σ) H → gNames is vs σ H Q
  | [], [], σ, H, Q, _, h => ⟨rfl, h⟩
  | [], _ :: _, σ, H, Q, hl, h => by cases hl
  | _ :: _, [], σ, H, Q, hl, h => by cases hl
  | i :: is, v :: vs, σ, H, Q, hl, h => ⟨v, vs, rfl, gNames_ok (by simpa using hl) h⟩
section
variable {X : Cx} {c : Cf} {pos : Pos} {ms : MM}
theorem dNnil : PGs X [] (gNames []) := pgs_nil
theorem dNcons {i : Nat} {is : List Nat} {x : Str} {es : List Expr} {p : Pos} (hN : X.N.Nodup) (hi : X.N[i]? = some x) (hx : Loc X.env.scope x) (hr : PGs X es (gNames is))
    (hf : X.fn x = true ∨ X.env.scope.names.lookup x = some .local := by first | exact .inl rfl | exact .inr rfl | assumption)
    (hs : (assignEach (.Name x p :: es) X.env).map (·.2) = assign (.Name x p) X.env :: (assignEach es X.env).map (·.2) := by rfl) : PGs X (.Name x p :: es) (gNames (i :: is)) := pgs_cons (pg_name hN hi hx hf) hr hs
theorem dParT {is : List Nat} {es vals : List Expr} {k x1 : Nat} {tpos vpos : Pos} (hc : X.calm = true) (hg : PGs X es (gNames is)) (ha : DM X c vals ms) (hle : is.length ≤ 100 := by decide) (hn : (assignEach es X.env).length = is.length := by rfl) (hst : (assignEach es X.env).findIdx? (·.1) = none := by rfl)
    (hs : swapsWithSole [.Tuple es k tpos] (.Tuple vals x1 vpos) pos.line X.env = pure false := by rfl) (hw : swappedStores [.Tuple es k tpos] (.Tuple vals x1 vpos) X.env = pure none := by rfl)
    (h1 : (assignEach [.Tuple es k tpos] X.env).map (·.2) = [assign (.Tuple es k tpos) X.env] := by rfl) : DS X c (.Assign [.Tuple es k tpos] (.Tuple vals x1 vpos) pos) (mPar is ms) :=
  (ps_asg (pe_tup ha) (pg_tup hc hg hn hst) hs hw h1).imp fun Dn σ H ⟨F, u, ρ, S, h⟩ => ⟨F, u, ρ, S, (flowO.after S h).imp fun sds u1 F1 H1 _ s1 g1 h1 vs R => by
    have h2 := h1.2
    split at h2
    · rename_i hl
      have hlv := R.len
      refine ⟨sz5 (by omega), fun p hp => ⟨p, vs, rfl, SqT.of upd_same, by omega, gNames_ok (by omega) ?_⟩⟩
      have R' : Mats c.W c.p F1 (upd H1 p (.tup vs)) H vs sds := ⟨R.len, fun i v sd ea eb => by
        have := R.at_ i v sd ea eb
        cases sd with
        | sh d => exact this
        | ow ds =>
          obtain ⟨q, ws, e1, e2, e3, e4, e5⟩ := this
          exact ⟨q, ws, e1, by rw [upd_ne (ne_of_none e2 hp)]; exact e2, e3, e4, e5⟩
        | _ => exact this, R.ne⟩
      exact h2 _ F1 _ (Same.refl _) (Sta.setAll S (h1.1.step (Stp.own hp) (g1.own hp)) R' (by omega) (Mats.fresh S R))
    · exact False.elim h2⟩
end
@[simp] theorem s_setAll4 {k l m n : Nat} {s t r q : Sd} {ρ : Env} : setAll [k, l, m, n] [s, t, r, q] ρ = (((ρ.set k s).set l t).set m r).set n q := rfl
@[simp] theorem s_setAll5 {k l m n o : Nat} {s t r q p : Sd} {ρ : Env} : setAll [k, l, m, n, o] [s, t, r, q, p] ρ = ((((ρ.set k s).set l t).set m r).set n q).set o p := rfl
end Mi

set_option Elab.async false
set_option linter.all false
set_option maxRecDepth 100000
set_option maxHeartbeats 4000000
/-! MiX: a function called with a fresh purse and further data. -/
namespace Mi
open PySem PySem.Spec PyProof.Rows L2
variable [TB : Tabl]
mutual
def noPu : D → Bool
  | .pur => false
  | .tup ds => noPus ds
  | .lst ds => noPus ds
  | .obj _ _ ds => noPus ds
  | .exc _ _ ds => noPus ds
  | .dct _ ds => noPus ds
  | _ => true
def noPus : List D → Bool
  | [] => true
  | d :: ds => noPu d && noPus ds
end
theorem noPus_at : ∀ {ds : List D} {i : Nat} {d : D}, noPus ds = true → ds[i]? = some d → noPu d = true
  | [], i, d, _, e => by cases e
  | x :: ds, 0, d, h, e => by
    cases e
    unfold noPus at h
    exact (Bool.and_eq_true_iff.mp h).1
  | x :: ds, i + 1, d, h, e => by
    unfold noPus at h
    exact noPus_at (Bool.and_eq_true_iff.mp h).2 (by simpa using e)
theorem noPus_all {ds : List D} (h : ∀ d ∈ ds, noPu d = true) : noPus ds = true := by
  induction ds with
  | nil => rfl
  | cons d ds ih =>
    unfold noPus
    rw [h d List.mem_cons_self, ih fun x hx => h x (List.mem_cons_of_mem _ hx)]
    rfl
theorem noPu_ints (ns : List Int) : noPus (ns.map D.int) = true := noPus_all fun d hd => by
  obtain ⟨n, _, rfl⟩ := List.mem_map.mp hd
  rfl
theorem noPu_lst {ds : List D} (h : noPus ds = true) : noPu (.lst ds) = true := by unfold noPu; exact h
theorem noPu_tup {ds : List D} (h : noPus ds = true) : noPu (.tup ds) = true := by unfold noPu; exact h
theorem Rep.move {W : Wo} {p q : Addr} {F : Hp} {v : V} {d : D} (r : Rep W p F v d) (h : noPu d = true) : Rep W q F v d := by
  induction r with
  | non => exact .non
  | bl b => exact .bl b
  | int i => exact .int i
  | str x => exact .str x
  | ty n => exact .ty n
  | cls c hc => exact .cls c hc
  | pur => unfold noPu at h; cases h
  | scr h1 => exact .scr h1
  | tup h1 l r ih => unfold noPu at h; exact .tup h1 l fun i v d e1 e2 => ih i v d e1 e2 (noPus_at h e2)
  | lst h1 l r ih => unfold noPu at h; exact .lst h1 l fun i v d e1 e2 => ih i v d e1 e2 (noPus_at h e2)
  | obj hc h1 lk l r ih => unfold noPu at h; exact .obj hc h1 lk l fun i v d e1 e2 => ih i v d e1 e2 (noPus_at h e2)
  | exc hc h1 hk hf h2 hx lk l r ih => unfold noPu at h; exact .exc hc h1 hk hf h2 hx lk l fun i v d e1 e2 => ih i v d e1 e2 (noPus_at h e2)
  | ecl c hc => exact .ecl c hc
  | dct h1 lk l r ih => unfold noPu at h; exact .dct h1 lk l fun i v d e1 e2 => ih i v d e1 e2 (noPus_at h e2)
theorem Reps.move {W : Wo} {p q : Addr} {F : Hp} {vs : List V} {ds : List D} (r : Reps W p F vs ds) (h : noPus ds = true) : Reps W q F vs ds := ⟨r.1, fun i v d e1 e2 => (r.2 i v d e1 e2).move (noPus_at h e2)⟩
def mWithA (n : Nat) (mf : List D → M D) (ml ms : MA) : ME := fun ρ => M.bind (ml ρ) fun ds => M.bind (ms ρ) fun es => lft (if es.length + 1 = n ∧ noPus es = true then (match intsD ds with
  | some l => match mf (.pur :: es) (.real l) with
    | some (.bl b, _) => some (.bl b)
    | _ => none
  | none => none) else none)
section
variable {X : Cx} {c : Cf} {pos p : Pos} {x : Str} {f : Addr} {fd : FuncData} {ps : List Str} {k n : Nat} {e : Expr} {es : List Expr}
theorem dWithA {mf : List D → M D} {ml ms : MA} (G : FnOk X.prog X.w X.K X.mg X.base CX0 k f fd ps (spM c.W n mf)) (hr : Room k X.A) (hg : Gl X x) (hm : X.mg x = some (.ref f)) (hk : PySem.W.keepIn X.K (.ref f) = true) (hb : L2.Binds X.K fd ps [])
    (ha : DL X c e ml) (ht : DA X c es ms) (hdb : (x == ("__debug__" : Str)) = false := by decide) (he : starEach (e :: es) X.env = (false, eval e X.env) :: starEach es X.env := by rfl) (hpl : (backTo pos (starEach es X.env)).any (·.1) = false := by rfl) :
    DE X c (.Call (.Name x p) (e :: es) [] pos) (mWithA n mf ml ms) :=
  (pe_call G hr hg hm hk hb .nil pass0 (pa_cons ha ht he) hdb he hpl).imp fun σ H Q ⟨F, u, ρ, S, h⟩ => ⟨F, u, ρ, S, by
    unfold mWithA M.bind at h
    cases e0 : ml ρ u with
    | none => rw [e0] at h; exact False.elim h
    | some y0 =>
      obtain ⟨ds, u1⟩ := y0
      rw [e0] at h
      intro F1 H1 s1 g1 q vs hF hn hq r
      refine ⟨F1, u1, ρ, S.step s1 g1, ?_⟩
      cases e4 : ms ρ u1 with
      | none => simp only [e4] at h; exact False.elim h
      | some y4 =>
      obtain ⟨xs, u2⟩ := y4
      simp only [e4] at h
      intro F2 H2 s2 g2 ws rws
      have hqp : q ≠ c.p := fun z => S.gd.ne (z ▸ hn)
      have s12 := s1.trans g1.ne s2
      obtain ⟨d, e1, h3⟩ := lft_some h
      split at e1
      · rename_i hc
        have hF2 : F2 q = none := s2.off hF (by rw [hq]; exact fun z => by cases z)
        have hq2 : H2 q = some (.lst vs) := s2.eh q _ hqp hq (.inr (by intro _ z; cases z))
        cases e2 : intsD ds with
        | none => rw [e2] at e1; cases e1
        | some l =>
          rw [e2] at e1
          have hv := intsD_rep r e2
          subst hv
          show spM c.W n mf ((.ref q :: ws) ++ []) H2 Q E0
          rw [List.append_nil]
          refine ⟨by rw [List.length_cons, rws.1]; exact hc.1, q, F2, .real l, .pur :: xs, ⟨g2.ex, hq2, fun _ _ => hF2, g2.nt, g2.tb, (by intro _ z; cases z)⟩, Reps.cons .pur (rws.move hc.2), ?_⟩
          cases e3 : mf (.pur :: xs) (.real l) with
          | none => simp [e3] at e1
          | some y =>
            obtain ⟨r3, u3⟩ := y
            cases r3 with
            | bl b =>
              simp [e3] at e1
              subst e1
              intro F' H' s' g' v rv
              rw [rv.bl_]
              refine h3 F' H' ⟨s12.ef.trans s'.ef, fun a o ha e n => ?_, fun a ps ha e => (let ⟨qs, e1⟩ := s12.et a ps ha e; s'.et a qs (fun z => by rw [z, hn] at e; cases e) e1), fun a o e => ?_⟩ ⟨g'.ex, ?_, fun l' e => ?_, g'.nt, g'.tb, g2.hp⟩ (.bl b) (.bl b)
              · exact s'.eh a o (fun z => by rw [z, hn] at e; cases e) (s12.eh a o ha e n) n
              · rcases s'.nw a o e with z | z
                · exact s12.nw a o z
                · exact .inr (s12.back g2.ne z)
              · exact s'.eh c.p _ (Ne.symm hqp) g2.pu (.inr g2.hp)
              · exact s'.off (g2.off l' e) g2.ne
            | _ => simp [e3] at e1
      · cases e1⟩
end
theorem ok_withA {n : Nat} {mf : List D → M D} {ml ms : MA} {ρ : Env} {u : PuS} {P : D → PuS → Prop} (b : Bool) (h : Ok (ml ρ) u fun ds u1 => Ok (ms ρ) u1 fun es u2 => (es.length + 1 = n ∧ noPus es = true) ∧ ∃ (l : List Int), ds = l.map D.int ∧ (Ok (mf (.pur :: es)) (.real l) fun d _ => d = .bl b) ∧ P (.bl b) u2) : Ok (mWithA n mf ml ms ρ) u P := by
  unfold mWithA
  rw [ok_bind]
  refine h.mono fun ds u1 z => ?_
  rw [ok_bind]
  refine z.mono fun es u2 z => ?_
  obtain ⟨hc, l, rfl, ⟨d, u2, e, rfl⟩, p⟩ := z
  rw [ok_lft]
  refine ⟨.bl b, ?_, p⟩
  rw [if_pos hc, intsD_map]
  show (match mf (.pur :: es) (.real l) with
    | some (.bl b, _) => some (D.bl b)
    | _ => none) = _
  rw [e]
end Mi

set_option Elab.async false
set_option linter.all false
set_option maxRecDepth 100000
set_option maxHeartbeats 4000000
/-! MiY: == of equal tuples that hold objects with an own ==. -/
namespace Mi
open PySem PySem.Spec PyProof.Rows L2
variable [TB : Tabl]
def leafB (b : D → Bool) : D → Bool
  | .int _ => true
  | .str _ => true
  | d => b d
def seqB (b : D → Bool) : D → Bool
  | .tup ds => ds.all (leafB b)
  | d => leafB b d
def deepB (b : D → Bool) : D → Bool
  | .tup ds => ds.all (seqB b)
  | _ => false
open Classical in
noncomputable def eqTD (b : D → Bool) : D → D → Option D := fun x y => if x = y ∧ deepB b x = true then some (.bl true) else none
theorem eqTD_same {b : D → Bool} {x : D} (h : deepB b x = true) : eqTD b x x = some (.bl true) := if_pos ⟨rfl, h⟩
def eqR (W : Wo) (b : D → Bool) : Addr → Addr → Hp → Prop := fun x y H => ∃ p F u d, Gd p u F H ∧ Rep W p F (.ref x) d ∧ Rep W p F (.ref y) d ∧ b d = true
theorem Gd.ext {p : Addr} {u : PuS} {F H H' : Hp} (g : Gd p u F H) (e : L2.Ext H H') : Gd p u F H' := ⟨fun a o h => e a o (g.ex a o h), e _ _ g.pu, g.off, g.nt, g.tb.ext e, g.hp⟩
/-- no table is written -/
@[reducible] def strict : Tabl := ⟨[], false⟩
theorem Gd.strict {p : Addr} {u : PuS} {F H : Hp} (g : Gd p u F H) : @Gd Mi.strict p u F H := @Gd.mk Mi.strict p u F H g.ex g.pu g.off g.nt (fun _ h => nomatch h) g.hp
theorem eqR_mon {W : Wo} {b : D → Bool} : ∀ x y H H', L2.Ext H H' → eqR W b x y H → eqR W b x y H' := fun x y H H' e ⟨p, F, u, d, g, r1, r2, h⟩ => ⟨p, F, u, d, g.ext e, r1, r2, h⟩
section
variable {X : Cx} {W : Wo} {k : Nat} {f C : Addr} {fd : FuncData} {ps : List Str} {mf : List D → M D} {b : D → Bool}
theorem eq_fn (F : FnOk X.prog X.w X.K X.mg X.base CX0 k f fd ps (@spM Mi.strict W 2 mf)) (h : ∀ d, b d = true → ∀ u, mf [d, d] u = some (.bl true, u)) : FnOk X.prog X.w X.K X.mg X.base CX0 k f fd ps (spEq (eqR W b)) :=
  F.imp fun vs H Q E ⟨x, y, e, ⟨p, F, u, d, g, r1, r2, hd⟩, hq⟩ => by
    subst e
    refine ⟨rfl, p, F, u, [d, d], g.strict, Reps.cons r1 (Reps.cons r2 Reps.nil), ?_⟩
    rw [h d hd u]
    intro F' H' s' g' v rv
    rw [rv.bl_]
    refine hq H' fun a o e => ?_
    by_cases ha : a = p
    · subst ha
      rw [@Gd.pu Mi.strict _ _ _ _ g', ← g.pu, e]
    · exact @Stp.eh Mi.strict _ _ _ _ _ s' a o ha e (.inl rfl)
def DL1 (W : Wo) (b : D → Bool) (C : Addr) : Eqv := fun x y H => DFlat x y H ∨ DIns C (eqR W b) x y H
def DL2 (W : Wo) (b : D → Bool) (C : Addr) : Eqv := fun x y H => DL1 W b C x y H ∨ DTup W.K (DL1 W b C) x y H
theorem mon_L1 : Mon (DL1 W b C) := Mon.or mon_flat (mon_ins eqR_mon)
theorem mon_L2 : Mon (DL2 W b C) := Mon.or mon_L1 (mon_tup mon_L1)
theorem op_eqT (F : FnOk X.prog X.w X.K X.mg X.base CX0 k f fd ps (@spM Mi.strict W 2 mf)) (h : ∀ d, b d = true → ∀ u, mf [d, d] u = some (.bl true, u)) (hc : EqC X.K C f) (hb : L2.Binds X.K fd ps []) (hK : W.K = X.K) (hr : Room (k + 2) X.A) : OpR X (compareOp .Eq) (rEqG (DTup W.K (DL2 W b C))) := by
  rw [hK]
  have e1 : EqG X k (DL1 W b C) := EqG.or (eqG_flat.mono (Nat.zero_le _)) (eqG_ins (E := E0) (eq_fn F h) hc.eq hc.fn hb pass0)
  have e2 : EqG X (k + 1) (DL2 W b C) := by
    unfold DL2
    rw [hK]
    exact EqG.or (e1.mono (Nat.le_succ _)) (eqG_tup mon_L1 e1)
  exact op_eqG (rcG_tup mon_L2 e2) hr
theorem l1_of {p : Addr} {F H : Hp} {u : PuS} {x y : V} {d : D} {ck : Str} (hC : ∀ d, b d = true → ∃ ks ds, d = .obj ck ks ds) (g : Gd p u F H) (rx : Rep W p F x d) (ry : Rep W p F y d) (h : leafB b d = true) : DL1 W b (W.cl ck) x y H := by
  have ob : b d = true → DL1 W b (W.cl ck) x y H := fun hd => by
    obtain ⟨ks, ds, rfl⟩ := hC d hd
    cases rx with
    | obj hc h1 lk l r =>
      cases ry with
      | obj hc' h1' lk' l' r' => exact .inr ⟨_, _, _, _, _, _, rfl, rfl, g.ex _ _ h1, g.ex _ _ h1', p, F, u, _, g, .obj hc h1 lk l r, .obj hc' h1' lk' l' r', hd⟩
  cases d with
  | int i =>
    cases rx
    cases ry
    exact .inl ⟨rfl, rfl, by simp [eqV]⟩
  | str s =>
    cases rx
    cases ry
    exact .inl ⟨rfl, rfl, by simp [eqV]⟩
  | _ => exact ob h
theorem m_eqT {ck : Str} (hC : ∀ d, b d = true → ∃ ks ds, d = .obj ck ks ds) : OpM W (rEqG (DTup W.K (DL2 W b (W.cl ck)))) (eqTD b) := by
  intro p F H u x y a a' Q g rx ry h
  unfold eqTD at h
  by_cases hc : a = a' ∧ deepB b a = true
  · rw [if_pos hc] at h
    obtain ⟨rfl, hd⟩ := hc
    refine ⟨?_, fun H' e => h F H' ⟨fun _ _ e => e, fun a o _ e' _ => e a o e', fun a ps _ e' => ⟨ps, e a _ e'⟩, fun _ _ e => .inl e⟩ (g.ext e) _ (.bl true)⟩
    cases a with
    | tup ds =>
      cases rx with
      | tup h1 l r =>
        cases ry with
        | tup h1' l' r' =>
          refine ⟨_, _, _, _, rfl, rfl, sq_t g.ex h1, sq_t g.ex h1', by omega, fun i v w e1 e2 => ?_⟩
          have hi : i < ds.length := by rw [← l]; exact (List.getElem?_eq_some_iff.mp e1).1
          have ed : ds[i]? = some ds[i] := List.getElem?_eq_getElem hi
          have hl := List.all_eq_true.mp (show ds.all (seqB b) = true from hd) ds[i] (List.getElem_mem hi)
          have q1 := r i v _ e1 ed
          have q2 := r' i w _ e2 ed
          generalize ds[i] = dd at hl q1 q2
          cases dd with
          | tup es =>
            cases q1 with
            | tup k1 m1 s1 =>
              cases q2 with
              | tup k1' m1' s1' =>
                refine .inr ⟨_, _, _, _, rfl, rfl, sq_t g.ex k1, sq_t g.ex k1', by omega, fun j v w f1 f2 => ?_⟩
                have hj : j < es.length := by rw [← m1]; exact (List.getElem?_eq_some_iff.mp f1).1
                have ee : es[j]? = some es[j] := List.getElem?_eq_getElem hj
                have hl2 := List.all_eq_true.mp (show es.all (leafB b) = true from hl) es[j] (List.getElem_mem hj)
                exact l1_of hC g (s1 j v _ f1 ee) (s1' j w _ f2 ee) hl2
          | _ => exact .inl (l1_of hC g q1 q2 hl)
    | _ => cases hd
  · rw [if_neg hc] at h
    exact h.elim
end
end Mi

set_option Elab.async false
set_option linter.all false
set_option maxRecDepth 100000
set_option maxHeartbeats 4000000
/-! MiZ: list(zip(xs, ys)) of two lists as a rule. -/
namespace PySem
open PySem PySem.Spec PySem.Calls PyProof.Rows
section
variable {prog : Program} {w : World} {A : Around}
def ZpSt (z TI TO i1 i2 l1 l2 lo : Addr) (xs ys : Array Value) (i : Nat) (h : Heap) : Prop :=
  IsPair h TI (.ref i1) (.ref i2) ∧ h.IsListIter i1 l1 i ∧ h.IsListIter i2 l2 i ∧ h.IsList l1 xs ∧ h.IsList l2 ys ∧
    ((IsZip h z TI TO .none ∧ ∃ a b, IsPair h TO a b) ∨ ∃ T f oT, IsZipHeld h z TI TO T f ∧ h.get? T = some oT ∧ lo < T)
theorem outs_zip {z TI TO i1 i2 l1 l2 lo : Addr} {xs ys : Array Value} (D : ZipApart z TI TO i1 i2 l1 l2) (hA : A.handled = none) (dz : z < lo) (dTI : TI < lo) (dTO : TO < lo) (di1 : i1 < lo) (di2 : i2 < lo) (dl1 : l1 < lo) (dl2 : l2 < lo) :
    Outs prog w A z [] [z, TO, i1, i2] lo (min xs.size ys.size) (fun i vals => ∃ x y, xs[i]? = some x ∧ ys[i]? = some y ∧ vals = #[x, y]) (ZpSt z TI TO i1 i2 l1 l2 lo xs ys) where
  sub := fun b hb => by
    have : b = z ∨ b = TO ∨ b = i1 ∨ b = i2 := by simpa using hb
    rcases this with rfl | rfl | rfl | rfl <;> assumption
  frame := fun i h₁ h₂ st hk => by
    obtain ⟨hTI, h1, h2, hl1, hl2, hz⟩ := st
    refine ⟨hk _ (Nat.ne_of_lt dTI) _ hTI, h1.at fun o e => hk _ (Nat.ne_of_lt di1) o e, h2.at fun o e => hk _ (Nat.ne_of_lt di2) o e, hl1.at fun o e => hk _ (Nat.ne_of_lt dl1) o e, hl2.at fun o e => hk _ (Nat.ne_of_lt dl2) o e, ?_⟩
    rcases hz with ⟨hz, a, b, hTO⟩ | ⟨T, f, oT, hz, hT, r⟩
    · exact .inl ⟨hk _ (Nat.ne_of_lt dz) _ hz, a, b, hk _ (Nat.ne_of_lt dTO) _ hTO⟩
    · exact .inr ⟨T, f, oT, hk _ (Nat.ne_of_lt dz) _ hz, hk _ (Nat.ne_of_gt r) _ hT, r⟩
  item := fun i s₁ Q₁ E₁ hi st hds hQ => by
    obtain ⟨hTI, h1, h2, hl1, hl2, hz⟩ := st
    have hix : i < xs.size := Nat.lt_of_lt_of_le hi (Nat.min_le_left ..)
    have hiy : i < ys.size := Nat.lt_of_lt_of_le hi (Nat.min_le_right ..)
    have ex := Array.getElem?_eq_getElem hix
    have ey := Array.getElem?_eq_getElem hiy
    rcases hz with ⟨hz, a, b, hTO⟩ | ⟨T, f, oT, hz, hT, r⟩
    · refine wpAny_pyNext_zip_item D hz hTI hTO h1 h2 hl1 hl2 ex ey fun h' a1 a2 a3 a4 a5 a6 hk => ?_
      exact hQ _ h' s₁.toks ⟨_, _, ex, ey, rfl⟩ a5 a6
        ⟨hk _ _ D.TIz D.TITO D.TIi1 D.TIi2 hTI, a3, a4, hl1.at fun o e => hk _ o D.l1z D.l1TO D.l1i1 D.l1i2 e, hl2.at fun o e => hk _ o D.l2z D.l2TO D.l2i1 D.l2i2 e,
          .inr ⟨s₁.heap.objs.size, false, _, a1, a5, hds⟩⟩
        fun c o hc e => hk c o (fun x => hc (by simp [x])) (fun x => hc (by simp [x])) (fun x => hc (by simp [x])) (fun x => hc (by simp [x])) e
    · refine wpAny_pyNext_zip_item_held D hz hT hTI h1 h2 hl1 hl2 ex ey fun h' a1 a3 a4 a5 a6 hk => ?_
      exact hQ _ h' s₁.toks ⟨_, _, ex, ey, rfl⟩ a5 a6
        ⟨hk _ _ D.TIz D.TIi1 D.TIi2 hTI, a3, a4, hl1.at fun o e => hk _ o D.l1z D.l1i1 D.l1i2 e, hl2.at fun o e => hk _ o D.l2z D.l2i1 D.l2i2 e,
          .inr ⟨T, true, oT, a1, hk _ _ (Nat.ne_of_gt (Nat.lt_trans dz r)) (Nat.ne_of_gt (Nat.lt_trans di1 r)) (Nat.ne_of_gt (Nat.lt_trans di2 r)) hT, r⟩⟩
        fun c o hc e => hk c o (fun x => hc (by simp [x])) (fun x => hc (by simp [x])) (fun x => hc (by simp [x])) e
  done := fun s₁ Q₁ E₁ st hQ => by
    obtain ⟨hTI, h1, h2, hl1, hl2, hz⟩ := st
    have hend : xs[min xs.size ys.size]? = none ∨ ys[min xs.size ys.size]? = none := by
      rcases Nat.le_total xs.size ys.size with h | h
      · exact .inl (Array.getElem?_eq_none (by rw [Nat.min_eq_left h]; exact Nat.le_refl _))
      · exact .inr (Array.getElem?_eq_none (by rw [Nat.min_eq_right h]; exact Nat.le_refl _))
    rcases hz with ⟨hz, a, b, hTO⟩ | ⟨T, f, oT, hz, hT, r⟩
    · exact wpAny_pyNext_zip_end hA D hz hTI hTO h1 h2 hl1 hl2 hend fun h' hk => hQ h' s₁.toks fun c o hc e => hk c o (fun x => hc (by simp [x])) (fun x => hc (by simp [x])) (fun x => hc (by simp [x])) (fun x => hc (by simp [x])) e
    · exact wpAny_pyNext_zip_end_held hA D hz hT hTI h1 h2 hl1 hl2 hend fun h' hk => hQ h' s₁.toks fun c o hc e => hk c o (fun x => hc (by simp [x])) (fun x => hc (by simp [x])) (fun x => hc (by simp [x])) e
theorem nolen_zip : NoLen "zip" := ⟨by rw [typeLookup_type, builtinLookup_eq_fast]; kernel_rfl, by rw [typeLookup_type, builtinLookup_eq_fast]; kernel_rfl, by decide, by decide⟩
end
end PySem
namespace Mi
open PySem PySem.Spec PyProof.Rows L2
variable [TB : Tabl]
def zpV (xs ys : List V) : List (List V) := List.zipWith (fun x y => [x, y]) xs ys
theorem zpV_len (xs ys : List V) : (zpV xs ys).length = min xs.length ys.length := by simp [zpV]
theorem zpV_at {xs ys : List V} {i : Nat} {x y : V} (h : xs[i]? = some x) (h2 : ys[i]? = some y) : (zpV xs ys)[i]? = some [x, y] := by
  unfold zpV
  rw [List.getElem?_zipWith, h, h2]
section
variable {X : Cx}
def tLstZip (K : PySem.W.Frag) (ta : TA) : TE := fun σ H Q => ta σ H fun vs H1 => ∃ a b xs ys, vs = [.ref a, .ref b] ∧ SqL K H1 a xs ∧ SqL K H1 b ys ∧ NewTs H1 (zpV xs ys) Q
theorem pe_listZip {e e2 : Expr} {ta : TA} {p p2 pos pos2 : Pos} (hc : X.calm = true) (hg : Gl X "list") (hm : X.mg "list" = none) (hg2 : Gl X "zip") (hm2 : X.mg "zip" = none) (ha : PA X [e, e2] ta)
    (hs : starEach [e, e2] X.env = (false, eval e X.env) :: starEach [e2] X.env := by rfl) (hpl : (backTo pos2 (starEach [e2] X.env)).any (·.1) = false := by rfl)
    (hs2 : starEach [.Call (.Name "zip" p2) [e, e2] [] pos2] X.env = (false, eval (.Call (.Name "zip" p2) [e, e2] [] pos2) X.env) :: starEach [] X.env := by rfl) :
    PE X (.Call (.Name "list" p) [.Call (.Name "zip" p2) [e, e2] [] pos2] [] pos) (tLstZip X.K ta) := by
  refine ⟨fun pins s σ H Q I h => ?_⟩
  refine Call_ (ld_blt I hg hm boot_list (PyProof.Rows.callWith_type1 (args_cons (Call_ (ld_blt I hg2 hm2 PyProof.Rows.boot_zip (PyProof.Rows.callWith_type1 (thn (ha.run pos2 pins s σ H _ I h) fun us s1 ⟨vs, H1, I1, r1, q1⟩ => ?_) hs hpl))) hs2) hs2 rfl))
  obtain ⟨a, b, xs, ys, ex, hqx, hqy, q⟩ := q1
  subst ex
  cases r1 with
  | cons r rr =>
    cases rr with
    | cons r' rr =>
      cases rr
      cases r
      cases r'
      obtain ⟨its, rv, p1, hz1⟩ := I1.list hqx
      obtain ⟨its2, rv2, p2', hz2⟩ := I1.list hqy
      have la : a < s1.heap.objs.size := p1.lt
      have lb : b < s1.heap.objs.size := p2'.lt
      refine call_zip_2 p1.isList p2'.isList fun h' hz hTI hTO h1 h2 hsz hk => args_nil ?_
      have D := PySem.W.ktu_apart s1.heap.objs.size a b la lb
      have O : ∀ (A : Around), A.handled = none → Outs X.prog X.w A (s1.heap.objs.size + 4) [] [s1.heap.objs.size + 4, s1.heap.objs.size + 3, s1.heap.objs.size, s1.heap.objs.size + 1] h'.objs.size (min its.toArray.size its2.toArray.size) _ (ZpSt (s1.heap.objs.size + 4) (s1.heap.objs.size + 2) (s1.heap.objs.size + 3) s1.heap.objs.size (s1.heap.objs.size + 1) a b h'.objs.size its.toArray its2.toArray) := fun A hA => by
        have la' : @LT.lt Nat _ a s1.heap.objs.size := la
        have lb' : @LT.lt Nat _ b s1.heap.objs.size := lb
        refine outs_zip D hA ?_ ?_ ?_ ?_ ?_ ?_ ?_ <;> (rw [hsz]; show @LT.lt Nat _ _ _; omega)
      have mn : min its.toArray.size its2.toArray.size = (zpV xs ys).length := by rw [zpV_len, List.size_toArray, List.size_toArray, rv.length, rv2.length]
      refine outs_call (s := { s1 with heap := h' }) nolen_zip (O _ (I1.ok.hd hc)) ⟨_, hz, rfl⟩
        (fun A s' Q E st hQ => ?_) ⟨hTI, h1, h2, p1.isList.at fun o e => hk _ o e, p2'.isList.at fun o e => hk _ o e, .inl ⟨hz, _, _, hTO⟩⟩ (by rw [mn, zpV_len]; omega) fun h2 tk acc c as hk2 hS hl hG hacc => ?_
      · rcases st.2.2.2.2.2 with ⟨hz, _⟩ | ⟨T, f, oT, hz, hT, r⟩
        · exact wpAny_pyIter_zip hz hQ
        · have hT : s'.TypeIs (.ref (s1.heap.objs.size + 4)) "zip" := ⟨_, hz, rfl⟩
          refine wpAny_pyIter_slot hT F.slot_zip_iter (wpAny_call_entry F.slot_zip_iter hT F.entry_zip_iter ?_ (F.args_zip_iter_1 _))
          show wpAny _ _ (ret (.ref (s1.heap.objs.size + 4))) _ _ s'
          exact wpAny_pure ⟨_, rfl, "zip", _, hT, F.slot_zip_next.lookup, hQ⟩
      · have hkk : ∀ b o, s1.heap.get? b = some o → h2.get? b = some o := fun b o e => hk2 b o (fun z => by
          have hb : @LT.lt Nat _ b s1.heap.objs.size := Heap.lt_size e
          have : b = s1.heap.objs.size + 4 ∨ b = s1.heap.objs.size + 3 ∨ b = s1.heap.objs.size ∨ b = s1.heap.objs.size + 1 := by simpa using z
          rcases this with z | z | z | z
          · rw [z] at hb; exact absurd (show @LT.lt Nat _ (s1.heap.objs.size + 4) s1.heap.objs.size from hb) (by omega)
          · rw [z] at hb; exact absurd (show @LT.lt Nat _ (s1.heap.objs.size + 3) s1.heap.objs.size from hb) (by omega)
          · rw [z] at hb; exact absurd hb (Nat.lt_irrefl _)
          · rw [z] at hb; exact absurd (show @LT.lt Nat _ (s1.heap.objs.size + 1) s1.heap.objs.size from hb) (by omega)) (hk b o e)
        have hle : s1.heap.objs.size ≤ h'.objs.size := by rw [hsz]; exact Nat.le_add_right _ _
        obtain ⟨H', k1, k2, k3, k4, k5, k6, J⟩ := outs_laid (tk := tk) (vss := zpV xs ys) I1 (by rw [zpV_len]; omega) (fun j vals hP => by
          obtain ⟨x, y, e1, e2, rfl⟩ := hP
          have hj : its[j]? = some x := by simpa using e1
          have hj2 : its2[j]? = some y := by simpa using e2
          obtain ⟨v, ev, rvv⟩ : ∃ v, xs[j]? = some v ∧ RelV v x := by
            rcases vals_get rv j with ⟨v, u, e1, e2, r⟩ | ⟨e1, e2⟩
            · rw [hj] at e2; cases e2; exact ⟨v, e1, r⟩
            · rw [hj] at e2; cases e2
          obtain ⟨v2, ev2, rvv2⟩ : ∃ v, ys[j]? = some v ∧ RelV v y := by
            rcases vals_get rv2 j with ⟨v, u, e1, e2, r⟩ | ⟨e1, e2⟩
            · rw [hj2] at e2; cases e2; exact ⟨v, e1, r⟩
            · rw [hj2] at e2; cases e2
          exact ⟨_, zpV_at ev ev2, by show 2 ≤ sizeLine; decide, .cons rvv (.cons rvv2 .nil)⟩) hkk hle hS (by rw [hl, mn]) hG hacc
        exact ⟨.ref _, H', J, rfl, q H' _ as k1 k2 k3 k4 (by rw [hl, mn]) k5 k6⟩
/-- list(zip(xs, ys)) -/
def zpL : List D → Option D := fun ds => match ds with
  | [.lst xs, .lst ys] => some (.lst (zipD xs ys))
  | _ => none
theorem dLstZip {c : Cf} {e e2 : Expr} {ms : MA} {p p2 pos pos2 : Pos} (hc : X.calm = true) (hg : Gl X "list") (hm : X.mg "list" = none) (hg2 : Gl X "zip") (hm2 : X.mg "zip" = none) (ha : DA X c [e, e2] ms)
    (hs : starEach [e, e2] X.env = (false, eval e X.env) :: starEach [e2] X.env := by rfl) (hpl : (backTo pos2 (starEach [e2] X.env)).any (·.1) = false := by rfl)
    (hs2 : starEach [.Call (.Name "zip" p2) [e, e2] [] pos2] X.env = (false, eval (.Call (.Name "zip" p2) [e, e2] [] pos2) X.env) :: starEach [] X.env := by rfl) (hK : X.K = c.W.K := by rfl) :
    DE X c (.Call (.Name "list" p) [.Call (.Name "zip" p2) [e, e2] [] pos2] [] pos) (mCB zpL ms) :=
  (pe_listZip hc hg hm hg2 hm2 ha hs hpl hs2).imp fun σ H Q ⟨F, u, ρ, S, h⟩ => ⟨F, u, ρ, S, (After.split h).imp fun xs u1 F1 H1 _ s1 g1 h1 vs rvs => by
    obtain ⟨d, e1, h2⟩ := lft_some h1
    unfold zpL at e1
    split at e1
    · rename_i xs ys _h
      cases e1
      obtain ⟨v, vr, rfl, r1, r2⟩ := rvs.uncons
      obtain ⟨w, wr, rfl, r3, r4⟩ := r2.uncons
      rw [r4.none]
      obtain ⟨p1, v1, rfl, f1, q1⟩ := r1.lst_
      obtain ⟨p2, v2, rfl, f2, q2⟩ := r3.lst_
      refine ⟨p1, p2, v1, v2, rfl, by rw [hK]; exact SqL.of (g1.ex _ _ f1), by rw [hK]; exact SqL.of (g1.ex _ _ f2), ?_⟩
      have ed2 : D.lst (zipD xs ys) = .lst ((List.zipWith (fun x y => [x, y]) xs ys).map D.tup) := by
        congr 1
        apply List.ext_getElem?
        intro i
        rw [List.getElem?_map, List.getElem?_zipWith]
        cases hz : (zipD xs ys)[i]? with
        | none =>
          have h1 := List.getElem?_eq_none_iff.mp hz
          rw [zipD_len] at h1
          rcases Nat.le_total xs.length ys.length with h | h
          · rw [List.getElem?_eq_none (l := xs) (by omega)]
            rfl
          · rw [List.getElem?_eq_none (l := ys) (by omega)]
            cases xs[i]? <;> rfl
        | some d =>
          obtain ⟨x', y', e1, e2, rfl⟩ := zipD_at hz
          rw [e1, e2]
          rfl
      rw [ed2] at h2
      refine newTs_ok g1 (by simp [zpV_len, q1.1, q2.1]) (fun j vs ds' e3 e4 => ?_) h2
      rw [List.getElem?_zipWith] at e4
      cases e5 : xs[j]? with
      | none => rw [e5] at e4; cases e4
      | some x =>
        cases e6 : ys[j]? with
        | none => rw [e5, e6] at e4; cases e4
        | some y =>
          rw [e5, e6] at e4
          cases e4
          obtain ⟨a, ea, ra⟩ := Reps.get q1 e5
          obtain ⟨b, eb, rb⟩ := Reps.get q2 e6
          rw [zpV_at ea eb] at e3
          cases e3
          exact Reps.cons ra (Reps.cons rb Reps.nil)
    · cases e1⟩
end
end Mi

set_option Elab.async false
set_option linter.all false
set_option maxRecDepth 100000
set_option maxHeartbeats 4000000
/-! MiO: in, [..] and the binary operators by own methods. -/
namespace Mi
open PySem PySem.Spec PyProof.Rows L2 He
variable [TB : Tabl]
/-! ### in -/
/-- the right operand is an instance of the class at C, then its own in -/
def rIn (C : Addr) (g : Bool → Bool) (sp : Sp) : R2 := fun x y H Q => ∃ b dy gs, y = .ref b ∧ H b = some (.ins C dy gs) ∧ sp [.ref b, x] H (fun v H' => ∃ c, v = .bl c ∧ Q (.bl (g c)) H') E0
/-- the left operand is an instance of the class at C, the right one what p says -/
def rBinO (C : Addr) (p : V → Hp → Prop) (sp : Sp) : R2 := fun x y H Q => ∃ a dx fs, x = .ref a ∧ H a = some (.ins C dx fs) ∧ p y H ∧ sp [.ref a, y] H Q E0
def isIns (C : Addr) (y : V) (H : Hp) : Prop := ∃ b dy gs, y = .ref b ∧ H b = some (.ins C dy gs)
def isInt (y : V) (_ : Hp) : Prop := ∃ n, y = .int n
section
variable {X : Cx} {k : Nat} {f C : Addr} {fd : FuncData} {ps : List Str} {sp : Sp}
theorem op_inOwn (G : FnOk X.prog X.w X.K X.mg X.base CX0 k f fd ps sp) (hr : Room k X.A) (hb : Binds X.K fd ps []) (hc : OwnM X.K C f "__contains__") : OpR X (compareOp .In) (rIn C id sp) := by
  intro pins s σ H x y v u Q I rx ry h
  obtain ⟨b, dy, gs, rfl, hb', q⟩ := h
  cases ry
  obtain ⟨mB, J', _⟩ := ins_get I.hok hb'
  obtain ⟨od', J', _⟩ := J'.look
  obtain ⟨m, hF⟩ := I.fr
  refine PySem.W.in_K hF I.ok.mod.kin J' hc.has hc.fn ?_
  refine wpAny_mono (call_at (vs := [.ref b, x]) G hr rfl hb I (.cons rfl (.cons rx .nil)) q) (fun v s' z => ?_) fun _ _ z => z
  obtain ⟨w, H', I', rw, c, ew, qq⟩ := z
  subst ew
  cases rw
  exact wpAny_truthy_bool ⟨.bl c, H', I', rfl, qq⟩
theorem op_ninOwn (G : FnOk X.prog X.w X.K X.mg X.base CX0 k f fd ps sp) (hr : Room k X.A) (hb : Binds X.K fd ps []) (hc : OwnM X.K C f "__contains__") : OpR X (compareOp .NotIn) (rIn C (fun b => !b) sp) := by
  intro pins s σ H x y v u Q I rx ry h
  obtain ⟨b, dy, gs, rfl, hb', q⟩ := h
  cases ry
  obtain ⟨mB, J', _⟩ := ins_get I.hok hb'
  obtain ⟨od', J', _⟩ := J'.look
  obtain ⟨m, hF⟩ := I.fr
  refine PySem.W.notIn_K hF I.ok.mod.kin J' hc.has hc.fn ?_
  refine wpAny_mono (call_at (vs := [.ref b, x]) G hr rfl hb I (.cons rfl (.cons rx .nil)) q) (fun v s' z => ?_) fun _ _ z => z
  obtain ⟨w, H', I', rw, c, ew, qq⟩ := z
  subst ew
  cases rw
  exact wpAny_truthy_bool ⟨.bl (!c), H', I', rfl, qq⟩
theorem ep_back {pins : List (Addr × Obj)} {σ : L2.St} {Q : VK} {v : Value} {s' : Shared} (h : EP X pins σ Q v s') : PySem.W.CmpBack (EP X pins σ Q) v s' := by
  obtain ⟨w, H', I', rw, q⟩ := id h
  cases v <;> first | exact h | (cases w <;> (first | exact nomatch rw | (obtain ⟨_, z⟩ := rw; exact nomatch z)))
theorem op_binO {op : Operator} {n : Str} (hn : PySem.dunder op.info.2 = n) (G : FnOk X.prog X.w X.K X.mg X.base CX0 k f fd ps sp) (hr : Room k X.A) (hb : Binds X.K fd ps []) (hc : OwnM X.K C f n) (h1 : PySem.W.selfFirst X.K C = true) : OpR X (binaryOp op) (rBinO C (isIns C) sp) := by
  intro pins s σ H x y v u Q I rx ry h
  obtain ⟨a, dx, fs, rfl, ha, ⟨b, dy, gs, rfl, hb'⟩, q⟩ := h
  cases rx
  cases ry
  obtain ⟨mA, J, _⟩ := ins_get I.hok ha
  obtain ⟨mB, J', _⟩ := ins_get I.hok hb'
  obtain ⟨od, J, _⟩ := J.look
  obtain ⟨od', J', _⟩ := J'.look
  obtain ⟨m, hF⟩ := I.fr
  refine PySem.W.binop_K hF I.ok.mod.kin J J'.type h1 (by rw [hn]; exact hc.has) hc.fn ?_
  exact wpAny_mono (call_at (vs := [.ref a, .ref b]) G hr rfl hb I (.cons rfl (.cons rfl .nil)) q) (fun v s' z => ep_back z) fun _ _ z => z
theorem op_binI {op : Operator} {n r : Str} (hn : PySem.dunder op.info.2 = n) (hn2 : dunderR op.info.2 = r) (G : FnOk X.prog X.w X.K X.mg X.base CX0 k f fd ps sp) (hr : Room k X.A) (hb : Binds X.K fd ps []) (hc : OwnI X.K C f n r) : OpR X (binaryOp op) (rBinO C isInt sp) := by
  intro pins s σ H x y v u Q I rx ry h
  obtain ⟨a, dx, fs, rfl, ha, ⟨i, rfl⟩, q⟩ := h
  cases rx
  obtain ⟨t, rfl⟩ := ry
  obtain ⟨mA, J, _⟩ := ins_get I.hok ha
  obtain ⟨od, J, _⟩ := J.look
  obtain ⟨m, hF⟩ := I.fr
  obtain ⟨rc, hrc, hrp⟩ := hc.rev
  obtain ⟨fo, hfo⟩ := hc.int
  obtain ⟨ro, hro⟩ := hc.rint
  refine PySem.W.ksp_binT (T := "int") hF I.ok.mod.kin J rfl hc.first (by rw [hn]; exact hc.own.has) hc.own.fn (by rw [hn2]; exact hrc) hrp (by rw [hn]; exact hfo) (by rw [hn2]; exact hro) hc.sub ?_
  exact wpAny_mono (call_at (vs := [.ref a, .int i]) G hr rfl hb I (.cons rfl (.cons ⟨t, rfl⟩ .nil)) q) (fun v s' z => ep_back z) fun _ _ z => z
end
/-! ### mirrors -/
def mInO (k : Str) (g : Bool → Bool) (mf : List D → M D) (ma mb : ME) : ME := fun ρ => M.bind (ma ρ) fun x => M.bind (mb ρ) fun y => match y with
  | .obj c ks ds => if c = k then M.bind (mf [.obj c ks ds, x]) fun r => match r with
    | .bl b => M.pure (.bl (g b))
    | _ => lft none
    else lft none
  | _ => lft none
def mBinOO (k : Str) (mf : List D → M D) (ma mb : ME) : ME := fun ρ => M.bind (ma ρ) fun x => M.bind (mb ρ) fun y => match x, y with
  | .obj c ks ds, .obj c' ks' ds' => if c = k ∧ c' = k then mf [.obj c ks ds, .obj c' ks' ds'] else lft none
  | _, _ => lft none
def mBinOI (k : Str) (mf : List D → M D) (ma mb : ME) : ME := fun ρ => M.bind (ma ρ) fun x => M.bind (mb ρ) fun y => match x, y with
  | .obj c ks ds, .int n => if c = k then mf [.obj c ks ds, .int n] else lft none
  | _, _ => lft none
def mIxOb (k : Str) (mf : List D → M D) (ma mb : ME) : ME := fun ρ => M.bind (ma ρ) fun x => M.bind (mb ρ) fun y => match x with
  | .obj c ks ds => if c = k then mf [.obj c ks ds, y] else lft none
  | _ => lft none
section
variable {X : Cx} {c : Cf} {k : Nat} {f : Addr} {fd : FuncData} {ps : List Str} {mf : List D → M D} {ck : Str} {a b : Expr} {ma mb : ME} {pos : Pos}
theorem rdInO {g : Bool → Bool} : ∀ σ H Q, rdE c (mInO ck g mf ma mb) σ H Q → tOp (rIn (c.W.cl ck) g (spM c.W 2 mf)) (rdE c ma) (rdE c mb) σ H Q := by
  rintro σ H Q ⟨F, u, ρ, S, h⟩
  exact ⟨F, u, ρ, S, (After.split h).imp fun x u1 F1 H1 _ s1 g1 h1 v rv => ⟨F1, u1, ρ, S.step s1 g1, (After.split h1).imp fun y u2 F2 H2 _ s2 g2 h2 w rw => by
      have rv := rv.mono s2.ef
      split at h2
      · split at h2
        · rename_i hh
          subst hh
          obtain ⟨p2, dy, ws, rfl, h4, _⟩ := id rw.obj_
          refine ⟨p2, dy, _, rfl, g2.ex _ _ h4, rfl, c.p, F2, u2, [_, _], g2, Reps.cons rw (Reps.cons rv Reps.nil), (After.split h2).imp fun d u3 F3 H3 _ s3 g3 h5 z rz => ?_⟩
          split at h5
          · rename_i bb _h
            have h6 : After c.p F3 H3 (some (D.bl (g bb), u3)) (fun d _ F' H' => ∀ v, Rep c.W c.p F' v d → Q v H') := h5
            exact ⟨bb, rz.bl_, After.now g3 h6 _ (.bl (g bb))⟩
          · exact False.elim h5
        · exact False.elim h2
      · exact False.elim h2⟩⟩
theorem dInO (G : FnOk X.prog X.w X.K X.mg X.base CX0 k f fd ps (spM c.W 2 mf)) (hr : Room k X.A) (hb : Binds X.K fd ps []) (hc : OwnM X.K (c.W.cl ck) f "__contains__") (ha : DE X c a ma) (hb' : DE X c b mb) (hk : behindInMarks .In b = false) : DE X c (.Compare a [.In] [b] pos) (mInO ck id mf ma mb) :=
  (pe_cmpR (op_inOwn G hr hb hc) ha hb' hk).imp rdInO
theorem dNinO (G : FnOk X.prog X.w X.K X.mg X.base CX0 k f fd ps (spM c.W 2 mf)) (hr : Room k X.A) (hb : Binds X.K fd ps []) (hc : OwnM X.K (c.W.cl ck) f "__contains__") (ha : DE X c a ma) (hb' : DE X c b mb) (hk : behindInMarks .NotIn b = false) : DE X c (.Compare a [.NotIn] [b] pos) (mInO ck (fun b => !b) mf ma mb) :=
  (pe_cmpR (op_ninOwn G hr hb hc) ha hb' hk).imp rdInO
theorem dTInO (G : FnOk X.prog X.w X.K X.mg X.base CX0 k f fd ps (spM c.W 2 mf)) (hr : Room k X.A) (hb : Binds X.K fd ps []) (hc : OwnM X.K (c.W.cl ck) f "__contains__") (ha : DE X c a ma) (hb' : DE X c b mb) (hk : behindInMarks .In b = false) : DT X c (.Compare a [.In] [b] pos) (mB (mInO ck id mf ma mb)) :=
  (pt_cmpR (op_inOwn G hr hb hc) ha hb' hk).imp fun σ H Q h => rdInO σ H _ (rdB σ H Q h)
theorem dTninO (G : FnOk X.prog X.w X.K X.mg X.base CX0 k f fd ps (spM c.W 2 mf)) (hr : Room k X.A) (hb : Binds X.K fd ps []) (hc : OwnM X.K (c.W.cl ck) f "__contains__") (ha : DE X c a ma) (hb' : DE X c b mb) (hk : behindInMarks .NotIn b = false) : DT X c (.Compare a [.NotIn] [b] pos) (mB (mInO ck (fun b => !b) mf ma mb)) :=
  (pt_cmpR (op_ninOwn G hr hb hc) ha hb' hk).imp fun σ H Q h => rdInO σ H _ (rdB σ H Q h)
theorem dBinOO {op : Operator} {n : Str} (hn : PySem.dunder op.info.2 = n) (G : FnOk X.prog X.w X.K X.mg X.base CX0 k f fd ps (spM c.W 2 mf)) (hr : Room k X.A) (hb : Binds X.K fd ps []) (hc : OwnM X.K (c.W.cl ck) f n ∧ PySem.W.selfFirst X.K (c.W.cl ck) = true) (ha : DE X c a ma) (hb' : DE X c b mb) : DE X c (.BinOp a op b pos) (mBinOO ck mf ma mb) :=
  (pe_op (op_binO hn G hr hb hc.1 hc.2) ha hb').imp fun σ H Q ⟨F, u, ρ, S, h⟩ =>
    ⟨F, u, ρ, S, (After.split h).imp fun x u1 F1 H1 _ s1 g1 h1 v rv => ⟨F1, u1, ρ, S.step s1 g1, (After.split h1).imp fun y u2 F2 H2 _ s2 g2 h2 w rw => by
      have rv := rv.mono s2.ef
      split at h2
      · split at h2
        · rename_i hh
          obtain ⟨rfl, e2⟩ := hh
          subst e2
          obtain ⟨p1, dx, vs, rfl, h3, _⟩ := id rv.obj_
          obtain ⟨p2, dy, ws, rfl, h4, _⟩ := id rw.obj_
          exact ⟨p1, dx, _, rfl, g2.ex _ _ h3, ⟨p2, dy, _, rfl, g2.ex _ _ h4⟩, rfl, c.p, F2, u2, [_, _], g2, Reps.cons rv (Reps.cons rw Reps.nil), h2⟩
        · exact False.elim h2
      · exact False.elim h2⟩⟩
theorem dBinOI {op : Operator} {n r : Str} (hn : PySem.dunder op.info.2 = n) (hn2 : dunderR op.info.2 = r) (G : FnOk X.prog X.w X.K X.mg X.base CX0 k f fd ps (spM c.W 2 mf)) (hr : Room k X.A) (hb : Binds X.K fd ps []) (hc : OwnI X.K (c.W.cl ck) f n r) (ha : DE X c a ma) (hb' : DE X c b mb) : DE X c (.BinOp a op b pos) (mBinOI ck mf ma mb) :=
  (pe_op (op_binI hn hn2 G hr hb hc) ha hb').imp fun σ H Q ⟨F, u, ρ, S, h⟩ =>
    ⟨F, u, ρ, S, (After.split h).imp fun x u1 F1 H1 _ s1 g1 h1 v rv => ⟨F1, u1, ρ, S.step s1 g1, (After.split h1).imp fun y u2 F2 H2 _ s2 g2 h2 w rw => by
      have rv := rv.mono s2.ef
      split at h2
      · split at h2
        · rename_i hh
          subst hh
          obtain ⟨p1, dx, vs, rfl, h3, _⟩ := id rv.obj_
          exact ⟨p1, dx, _, rfl, g2.ex _ _ h3, ⟨_, rw.int_⟩, rfl, c.p, F2, u2, [_, _], g2, Reps.cons rv (Reps.cons rw Reps.nil), h2⟩
        · exact False.elim h2
      · exact False.elim h2⟩⟩
theorem pe_ixO {ta tb : TE} {C : Addr} {sp : Sp} (G : FnOk X.prog X.w X.K X.mg X.base CX0 k f fd ps sp) (hr : Room (k + 1) X.A) (hb : Binds X.K fd ps []) (hc : OwnM X.K C f "__getitem__" ∧ PySem.W.fnIn X.K f = true) (ha : PE X a ta) (hb' : PE X b tb)
    (hsl : ∀ o i, subscripted b true o i = runValue (.builtin "lifetime.subscript" ⟨[o, i], []⟩) := by exact fun _ _ => rfl) : PE X (.Subscript a b pos) (tOp (rBinO C (fun _ _ => True) sp) ta tb) := by
  refine ⟨fun pins s σ H Q I h => ?_⟩
  refine Subscript_ (binT ha hb' I h fun v u s2 x y H2 I2 rx ry q => ?_)
  obtain ⟨p, dx, fs, rfl, hp, _, q⟩ := q
  cases rx
  obtain ⟨mA, J, _⟩ := ins_get I2.hok hp
  obtain ⟨od, J, _⟩ := J.look
  obtain ⟨m, hF⟩ := I2.fr
  exact PySem.W.sub_K hF I2.ok.mod.kin J hc.1.has hc.2 hc.1.fn (call_at (vs := [.ref p, y]) G hr.in1 rfl hb I2 (.cons rfl (.cons ry .nil)) q) (hsl _ _)
theorem dIxOb (G : FnOk X.prog X.w X.K X.mg X.base CX0 k f fd ps (spM c.W 2 mf)) (hr : Room (k + 1) X.A) (hb : Binds X.K fd ps []) (hc : OwnM X.K (c.W.cl ck) f "__getitem__" ∧ PySem.W.fnIn X.K f = true) (ha : DE X c a ma) (hb' : DE X c b mb)
    (hsl : ∀ o i, subscripted b true o i = runValue (.builtin "lifetime.subscript" ⟨[o, i], []⟩) := by exact fun _ _ => rfl) : DE X c (.Subscript a b pos) (mIxOb ck mf ma mb) :=
  (pe_ixO G hr hb hc ha hb' hsl).imp fun σ H Q ⟨F, u, ρ, S, h⟩ =>
    ⟨F, u, ρ, S, (After.split h).imp fun x u1 F1 H1 _ s1 g1 h1 v rv => ⟨F1, u1, ρ, S.step s1 g1, (After.split h1).imp fun y u2 F2 H2 _ s2 g2 h2 w rw => by
      have rv := rv.mono s2.ef
      split at h2
      · split at h2
        · rename_i hh
          subst hh
          obtain ⟨p1, dx, vs, rfl, h3, _⟩ := id rv.obj_
          exact ⟨p1, dx, _, rfl, g2.ex _ _ h3, trivial, rfl, c.p, F2, u2, [_, _], g2, Reps.cons rv (Reps.cons rw Reps.nil), h2⟩
        · exact False.elim h2
      · exact False.elim h2⟩⟩
end
/-! ### wp -/
section
variable {ρ : Env} {u : PuS} {P : D → PuS → Prop} {k : Str} {mf : List D → M D} {ma mb : ME}
@[simp] theorem ok_inO {g : Bool → Bool} : Ok (mInO k g mf ma mb ρ) u P ↔ Ok (ma ρ) u fun x u1 => Ok (mb ρ) u1 fun y u2 => ∃ ks ds, y = .obj k ks ds ∧ Ok (mf [y, x]) u2 fun r u3 => OnB r fun b => P (.bl (g b)) u3 := by
  unfold mInO; simp only [ok_bind]
  constructor
  · refine fun h => h.mono fun x u' z => z.mono fun y u2 z1 => ?_
    split at z1
    · simp only [ok_ite] at z1
      split at z1
      · rename_i hh
        subst hh
        refine ⟨_, _, rfl, (ok_bind.mp z1).mono fun r u3 z2 => ?_⟩
        split at z2
        · exact ⟨_, rfl, ok_pure.mp z2⟩
        · exact (ok_none.mp z2).elim
      · exact (ok_none.mp z1).elim
    · exact (ok_none.mp z1).elim
  · refine fun h => h.mono fun x u' z => z.mono fun y u2 z => ?_
    obtain ⟨ks, ds, rfl, z⟩ := z
    simp only [ok_ite]
    rw [if_pos (by first | rfl | trivial), ok_bind]
    refine z.mono fun r u3 z => ?_
    obtain ⟨b, rfl, z⟩ := z
    exact ok_pure.mpr z
@[simp] theorem ok_binOO : Ok (mBinOO k mf ma mb ρ) u P ↔ Ok (ma ρ) u fun x u1 => Ok (mb ρ) u1 fun y u2 => ∃ ks ds ks' ds', x = .obj k ks ds ∧ y = .obj k ks' ds' ∧ Ok (mf [x, y]) u2 P := by
  unfold mBinOO; simp only [ok_bind]
  constructor
  · refine fun h => h.mono fun x u' z => z.mono fun y u2 z1 => ?_
    split at z1
    · simp only [ok_ite] at z1
      split at z1
      · rename_i hh
        obtain ⟨rfl, hh2⟩ := hh
        subst hh2
        exact ⟨_, _, _, _, rfl, rfl, z1⟩
      · exact (ok_none.mp z1).elim
    · exact (ok_none.mp z1).elim
  · refine fun h => h.mono fun x u' z => z.mono fun y u2 z => ?_
    obtain ⟨ks, ds, ks', ds', rfl, rfl, z⟩ := z
    simp only [ok_ite]
    rw [if_pos (by first | exact ⟨rfl, rfl⟩ | exact ⟨trivial, trivial⟩)]
    exact z
@[simp] theorem ok_binOI : Ok (mBinOI k mf ma mb ρ) u P ↔ Ok (ma ρ) u fun x u1 => Ok (mb ρ) u1 fun y u2 => ∃ ks ds n, x = .obj k ks ds ∧ y = .int n ∧ Ok (mf [x, y]) u2 P := by
  unfold mBinOI; simp only [ok_bind]
  constructor
  · refine fun h => h.mono fun x u' z => z.mono fun y u2 z1 => ?_
    split at z1
    · simp only [ok_ite] at z1
      split at z1
      · rename_i hh
        subst hh
        exact ⟨_, _, _, rfl, rfl, z1⟩
      · exact (ok_none.mp z1).elim
    · exact (ok_none.mp z1).elim
  · refine fun h => h.mono fun x u' z => z.mono fun y u2 z => ?_
    obtain ⟨ks, ds, n, rfl, rfl, z⟩ := z
    simp only [ok_ite]
    rw [if_pos (by first | rfl | trivial)]
    exact z
@[simp] theorem ok_ixOb : Ok (mIxOb k mf ma mb ρ) u P ↔ Ok (ma ρ) u fun x u1 => Ok (mb ρ) u1 fun y u2 => ∃ ks ds, x = .obj k ks ds ∧ Ok (mf [x, y]) u2 P := by
  unfold mIxOb; simp only [ok_bind]
  constructor
  · refine fun h => h.mono fun x u' z => z.mono fun y u2 z1 => ?_
    split at z1
    · simp only [ok_ite] at z1
      split at z1
      · rename_i hh
        subst hh
        exact ⟨_, _, rfl, z1⟩
      · exact (ok_none.mp z1).elim
    · exact (ok_none.mp z1).elim
  · refine fun h => h.mono fun x u' z => z.mono fun y u2 z => ?_
    obtain ⟨ks, ds, rfl, z⟩ := z
    simp only [ok_ite]
    rw [if_pos (by first | rfl | trivial)]
    exact z
end
end Mi

set_option Elab.async false
set_option linter.all false
set_option maxRecDepth 100000
set_option maxHeartbeats 4000000
/-! MiN: a = b = value; sorted(tuple of ints, reverse=b). -/
namespace SrtR
open PySem PyProof.Rows Srt SrtO
section
variable {prog : Program} {w : World} {A : Around} {E : Value → Shared → Prop} {s : Shared}
theorem collect_tuple {l : Addr} {vs : List Value} {Q : List Value → Shared → Prop} (hl : s.heap.IsTuple l vs.toArray)
    (h : Q vs { s with heap := (s.heap.push (seqObj "list" #[] 0)).update s.heap.objs.size (Obj.mapSeq (· ++ vs.toArray)) }) (hsz : vs.length ≤ sizeLine := by size_fits) :
    wpAny (model prog w) A (collect (.ref l)) Q E s := by
  obtain ⟨o, ho, hc, n, hd⟩ := id hl
  unfold collect
  refine wpAny_bind (wpAny_runValue (codeAny_builtin entry_proto_collect' ?_))
  show wpAny _ _ (do again (.builtin "list.__iadd__" ⟨[← newList [], .ref l], []⟩)) _ _ s
  refine wpAny_bind (wpAny_newList (wpAny_pure ⟨Code.quiet_builtin _ (by decide +kernel), codeAny_builtin entry_list_iadd' ?_⟩))
  show wpAny _ _ (Builtin.List.listExtendWith (.ref s.heap.objs.size) (.ref l) (.ref s.heap.objs.size)) _ _ { s with heap := s.heap.push (seqObj "list" #[] 0) }
  unfold Builtin.List.listExtendWith
  have ho' : (s.heap.push (seqObj "list" #[] 0)).get? l = some o := Heap.get?_push_of_some _ ho
  refine wpAny_bind (wpAny_typeOf (T := "tuple") ⟨o, ho', hc⟩ ?_)
  have ht : (Value.type "tuple" == Value.type "tuple") = true := by rfl
  rw [if_pos (by rw [ht]; simp)]
  refine wpAny_bind (listItems_at ho' hd ?_)
  refine wpAny_bind (listItems_at (xs := #[]) (n := 0) (Heap.get?_push_size _ rfl) rfl ?_)
  rw [if_neg (by simp)]
  refine wpAny_bind (listUpdate_at (xs := #[]) (n := 0) (Heap.get?_push_size _ rfl) rfl ?_ (Nat.zero_le _) (by show (#[] ++ vs.toArray).size ≤ sizeLine + 1; simp only [Array.size_append, List.size_toArray, List.length_nil]; omega))
  refine wpAny_pure ?_
  show wpAny (model prog w) A (do
      let o ← load s.heap.objs.size
      match o.data with
      | .seq xs _ => pure xs.toList
      | _ => unsupported "internal:collect") Q E { s with heap := (s.heap.push (seqObj "list" #[] 0)).update s.heap.objs.size (Obj.mapSeq (· ++ vs.toArray)) }
  refine wpAny_bind (wpAny_load (get?_update_seq (Heap.get?_push_size _ rfl) _) ?_)
  show wpAny _ _ (pure ((#[] : Array Value) ++ vs.toArray).toList) Q E _
  rw [show ((#[] : Array Value) ++ vs.toArray).toList = vs by simp]
  exact wpAny_pure h
theorem sorted_ordKT {l : Addr} {vs : List Value} {b : Bool} {kw : List (Str × Value)} {ltv : Value → Value → Bool} {Q : Value → Shared → Prop} (hk : ∀ a, Builtin.«list.sort» ⟨[.ref a], kw⟩ = Builtin.«list.sort» ⟨[.ref a], [(Str.ofString "reverse", .bool b)]⟩)
    (ha1 : argsOk "sorted" ⟨[.ref l], kw⟩) (ha2 : ∀ a, argsOk "list.sort" ⟨[a], kw⟩) (O : Swo ltv) (hl : s.heap.IsTuple l vs.toArray) (hz : vs.length ≤ sizeLine)
    (hS : 2 ≤ vs.length → ∀ (h₁ : Heap) (a : Addr), h₁.get? a = some (seqObj "list" vs.toArray 0) → (∀ b o, s.heap.get? b = some o → b ≠ a ∧ h₁.get? b = some o) → SortableO prog w A.in1.in1 { s with heap := h₁ } a vs ltv)
    (h : ∀ out : List Value, Srtd ltv out → Stb ltv out (if b = true then vs.reverse else vs) → Q (.ref (s.heap.objs.size + 1)) { s with heap := sortedAll s.heap vs (if b = true then out.toArray.reverse else out.toArray) }) :
    wpAny (model prog w) A (call (.builtin "sorted") [.ref l] kw) Q E s := by
  refine call_function_entry_kw kind_sorted plain_sorted entry_sorted ha1 ?_
  unfold Builtin.«sorted»
  refine wpAny_bind (m := checkCount "sorted" 1 1 _) (wpAny_pure ?_)
  refine wpAny_bind (collect_tuple hl ?_ hz)
  refine wpAny_bind (wpAny_newList ?_ hz)
  have hsz : ((s.heap.push (seqObj "list" #[] 0)).update s.heap.objs.size (Obj.mapSeq (· ++ vs.toArray))).objs.size = s.heap.objs.size + 1 := by
    rw [Heap.size_update, size_push']
  have hoL : (((s.heap.push (seqObj "list" #[] 0)).update s.heap.objs.size (Obj.mapSeq (· ++ vs.toArray))).push (seqObj "list" vs.toArray 0)).get? (s.heap.objs.size + 1) = some (seqObj "list" vs.toArray 0) := by
    rw [← hsz]; exact Heap.get?_push_size _ rfl
  have keep : ∀ b o, s.heap.get? b = some o → b ≠ s.heap.objs.size + 1 ∧ (((s.heap.push (seqObj "list" #[] 0)).update s.heap.objs.size (Obj.mapSeq (· ++ vs.toArray))).push (seqObj "list" vs.toArray 0)).get? b = some o := fun b o q => by
    have hlt : b < s.heap.objs.size := Heap.lt_size q
    refine ⟨Nat.ne_of_lt (Nat.lt_succ_of_lt hlt), Heap.get?_push_of_some _ ?_⟩
    rw [Heap.get?_update_ne _ _ _ _ (Nat.ne_of_lt hlt)]
    exact Heap.get?_push_of_some _ q
  show wpAny _ _ _ _ _ { s with heap := ((s.heap.push (seqObj "list" #[] 0)).update s.heap.objs.size (Obj.mapSeq (· ++ vs.toArray))).push (seqObj "list" vs.toArray 0) }
  rw [hsz]
  refine wpAny_bind (wpAny_holding (wpAny_call_entry_kw slot_list_sort ⟨_, hoL, rfl⟩ entry_list_sort ?_ (ha2 _)))
  rw [hk]
  refine list_sort_ordR O hoL hz (fun h2 => hS h2 _ _ hoL keep) fun out hs hb => ⟨_, rfl, ?_⟩
  exact wpAny_pure ⟨_, rfl, h out hs hb⟩
end
end SrtR
namespace L2
open PySem PySem.Spec PyProof.Rows
section
variable {X : Cx}
def rSortedKwT (K : PySem.W.Frag) (b : Bool) (zs0 : List V) : List V → List V → Hp → VK → Prop := fun vs zs H Q => ∃ (a : Addr) (ns : List Int), vs = [V.ref a] ∧ zs = zs0 ∧ SqT K H a (ns.map V.int) ∧
  ∀ (ns' : List Int) (p : Addr), ns'.Perm ns → OrdB b ns' → H p = none → Q (.ref p) (upd H p (.lst (ns'.map V.int)))
theorem sorted_runT {b : Bool} {kw : List (Str × Value)} {pins : List (Addr × Obj)} {s : Shared} {σ : L2.St} {H : Hp} {a : Addr} {ns : List Int} {Q : VK} (I : Inv X pins σ H s) (hs : SqT X.K H a (ns.map V.int))
    (hk : ∀ a, Builtin.«list.sort» ⟨[.ref a], kw⟩ = Builtin.«list.sort» ⟨[.ref a], [(Str.ofString "reverse", .bool b)]⟩) (ha1 : argsOk "sorted" ⟨[.ref a], kw⟩) (ha2 : ∀ a, argsOk "list.sort" ⟨[a], kw⟩)
    (q : ∀ (ns' : List Int) (p : Addr), ns'.Perm ns → OrdB b ns' → H p = none → Q (.ref p) (upd H p (.lst (ns'.map V.int)))) : wpAny (model X.prog X.w) X.A (call (.builtin "sorted") [.ref a] kw) (EP X pins σ Q) X.xe s := by
  obtain ⟨its, rv, hl, hz⟩ := I.tuple hs
  have hi := rv.ints
  refine SrtR.sorted_ordKT hk ha1 ha2 SrtO.swo_int hl (by rw [← rv.length]; exact hz) (fun h2 h₁ a' _ _ => SrtO.ints_sortable hi h2) fun out h1 h2 => ?_
  obtain ⟨ns', k1, k2, k3⟩ := SrtR.ints_outR hi h1 h2
  obtain ⟨ep, he'⟩ := PyProof.Rows.sortedAll_at s.heap its (if b = true then out.toArray.reverse else out.toArray)
  have hlen : (ns'.map V.int).length ≤ sizeLine := by
    rw [List.length_map, k2.length_eq]
    rw [List.length_map] at hz
    exact hz
  have e0 : ((if b = true then out.toArray.reverse else out.toArray).toList).toArray = (if b = true then out.toArray.reverse else out.toArray) := by rw [Array.toArray_toList]
  exact ⟨.ref _, upd H (s.heap.objs.size + 1) (.lst (ns'.map V.int)), I.laid (t' := s.toks) (fun _ _ => PyProof.Rows.sortedAll_old) (Nat.le_succ _) ⟨hlen, _, ep, vals_of_ints k1, by rw [e0]; exact he'⟩, rfl, q _ _ k2 k3 (I.hok.fresh (Nat.le_succ _))⟩
theorem cr_sortedRevT {b : Bool} : CallRK X (.builtin "sorted") [Str.ofString "reverse"] (rSortedKwT X.K b [.bl b]) := by
  intro pins s σ H vs zs us ws Q I r rz h
  obtain ⟨a, ns, rfl, rfl, hs, q⟩ := h
  obtain rfl := Vals.ref1 r
  obtain ⟨w1, rfl, e1⟩ := vals1 rz
  obtain rfl : w1 = Value.bool b := e1
  exact sorted_runT I hs (fun _ => rfl) (PyProof.Rows.args_sorted_rev _ _) (fun _ => PyProof.Rows.args_list_sort_rev _ _) q
theorem ps_asg2 {t1 t2 e : Expr} {te : TE} {g1 g2 : TG} {pos : Pos} (he : PE X e te) (hg1 : PG X t1 g1) (hg2 : PG X t2 g2) (hs : swapsWithSole [t1, t2] e pos.line X.env = pure false := by rfl) (hw : swappedStores [t1, t2] e X.env = pure none := by rfl)
    (h1 : (assignEach [t1, t2] X.env).map (·.2) = [assign t1 X.env, assign t2 X.env] := by rfl) : PS X (.Assign [t1, t2] e pos) (tAsg te fun v σ H Q => g1 v σ H fun σ' H' => g2 v σ' H' Q) := by
  refine ⟨fun pins s σ H D I h => ?_⟩
  refine wpAny_Assign_stores (thn (he.run pins s σ H _ I h) fun v s1 ⟨x, H1, I1, r1, q1⟩ => ?_) hs hw
  rw [h1]
  show wpAny _ _ (holding [v] (assign t1 X.env v) >>= fun _ => assign t2 X.env v) _ _ _
  refine wpAny_bind (wpAny_holding (thn (hg1.run pins s1 σ H1 x v _ I1 r1 q1) fun _ s2 ⟨σ2, H2, I2, q2⟩ => ?_))
  exact thn (hg2.run pins s2 σ2 H2 x v _ I2 r1 q2) fun _ s3 q => q
end
end L2
namespace Mi
open PySem PySem.Spec PyProof.Rows L2
variable [TB : Tabl]
def mAsg2 (m : ME) (g1 g2 : MG) : MS := fun ρ => M.bind (m ρ) fun d => lft (((g1 d ρ).bind fun ρ1 => g2 d ρ1).map Fl.nx)
theorem dAsg2 {X : Cx} {c : Cf} {pos : Pos} {e : Expr} {g1 g2 : MG} {is js : List Nat} {t1 t2 : Expr} {me : ME} (he : DE X c e me) (hg1 : DG X c t1 is g1) (hg2 : DG X c t2 js g2) (hs : swapsWithSole [t1, t2] e pos.line X.env = pure false := by rfl) (hw : swappedStores [t1, t2] e X.env = pure none := by rfl)
    (h1 : (assignEach [t1, t2] X.env).map (·.2) = [assign t1 X.env, assign t2 X.env] := by rfl) : DS X c (.Assign [t1, t2] e pos) (mAsg2 me g1 g2) :=
  (ps_asg2 he hg1 hg2 hs hw h1).imp fun Dn σ H ⟨F, u, ρ, S, h⟩ => ⟨F, u, ρ, S, (flowO.after S h).imp fun d u1 F1 H1 _ s1 gg h1 v rv => by
    refine ⟨F1, u1, ρ, d, h1.1, rv, ?_⟩
    have h2 := h1.2
    cases e1 : g1 d ρ with
    | none => rw [e1] at h2; exact h2
    | some ρ1 =>
      rw [e1] at h2
      refine fun σ' S' _ => ⟨F1, u1, ρ1, d, S', rv, ?_⟩
      cases e2 : g2 d ρ1 with
      | none =>
        have h3 : flowO c F1 Dn (lft (((some ρ1).bind fun ρ1 => g2 d ρ1).map Fl.nx) u1) := h2
        rw [Option.bind_some, e2] at h3
        exact h3
      | some ρ2 =>
        have h3 : flowO c F1 Dn (lft (((some ρ1).bind fun ρ1 => g2 d ρ1).map Fl.nx) u1) := h2
        rw [Option.bind_some, e2] at h3
        exact fun σ2 S2 _ => h3 σ2 F1 H1 (Same.refl _) S2⟩
@[simp] theorem ok_asg2 {m : ME} {g1 g2 : MG} {ρ : Env} {u : PuS} {PS : Fl → PuS → Prop} : Ok (mAsg2 m g1 g2 ρ) u PS ↔ Ok (m ρ) u fun d u1 => ∃ ρ1, ((g1 d ρ).bind fun ρ1 => g2 d ρ1) = some ρ1 ∧ PS (.nx ρ1) u1 := by
  unfold mAsg2
  simp only [ok_bind, ok_lft, Option.map_eq_some_iff]
  constructor
  · exact fun h => h.mono fun d u1 ⟨a, ⟨ρ1, h1, h2⟩, h3⟩ => ⟨ρ1, h1, by rw [h2]; exact h3⟩
  · exact fun h => h.mono fun d u1 ⟨ρ1, h1, h3⟩ => ⟨_, ⟨ρ1, h1, rfl⟩, h3⟩
/-! ### sorted -/
def srtT (b : Bool) : List D → Option (List D) := fun ds => match ds with
  | [.tup xs] => (intsD xs).map fun ns => (srtI b ns).map D.int
  | _ => none
theorem srtT_ok {W : Wo} {p : Addr} {F H H00 : Hp} {u : PuS} {vs : List V} {as es : List D} {b : Bool} {Q : VK} (g : Gd p u F H) (bk : ∀ q, H q = none → H00 q = none) (r : Reps W p F vs as) (e : srtT b as = some es)
    (h : After p F H (some (es, u)) fun ds _ F' H' => ∀ q vs, F' q = none → H00 q = none → H' q = some (.lst vs) → Reps W p F' vs ds → Q (.ref q) H') :
    ∃ (a : Addr) (ns : List Int), vs = [V.ref a] ∧ SqT W.K H a (ns.map V.int) ∧ ∀ (ns' : List Int) (q : Addr), ns'.Perm ns → OrdB b ns' → H q = none → Q (.ref q) (upd H q (.lst (ns'.map V.int))) := by
  unfold srtT at e
  split at e
  · rename_i xs
    cases e1 : intsD xs with
    | none => rw [e1] at e; cases e
    | some ns =>
      rw [e1] at e
      cases e
      obtain ⟨v, rfl, rv⟩ := r.one
      obtain ⟨a, ws, rfl, ha, rs⟩ := rv.tup_
      have ew := intsD_rep rs e1
      subst ew
      refine ⟨a, ns, rfl, sq_t g.ex ha, fun ns' q hp ho hq => ?_⟩
      have en : ns' = srtI b ns := ordB_uniq ho (srtI_ord b ns) (hp.trans (srtI_perm b ns).symm)
      subst en
      exact h _ _ (Stp.own hq) (g.own hq) q _ (g.fresh hq) (bk q hq) upd_same (reps_ints _)
  · cases e
theorem dSortRT {X : Cx} {c : Cf} {e : Expr} {ms : MA} {b : Bool} {p pos kpos cp : Pos} {kk : Nat} (hg : Gl X "sorted") (hm : X.mg "sorted" = none) (ha : DA X c [e] ms) (hK : X.K = c.W.K := by rfl)
    (he : backTo pos (starEach (e :: []) X.env) = (false, eval e X.env) :: backTo pos (starEach [] X.env) := by rfl) (hpl : (backTo pos (starEach (e :: []) X.env)).any (fun x => x.fst) = false := by rfl) : DL X c (.Call (.Name "sorted" p) [e] [⟨some "reverse", .Constant (.bool b) kk cp, kpos⟩] pos) (mCBO (srtT b) ms) :=
  (pe_callBK (ks := [Str.ofString "reverse"]) cr_sortedRevT hg hm bb_sorted ha (dKcons (c := c) (me := mC (.bl b)) dBl dKnil) (by decide) (by decide) he hpl).imp fun σ H Q ⟨F, u, ρ, S, h⟩ => ⟨F, u, ρ, S, (After.split h).imp fun xs u1 F1 H1 _ s1 g1 h1 vs rvs => by
    obtain ⟨es, e1, h2⟩ := lft_some h1
    refine ⟨F1, u1, ρ, S.step s1 g1, ?_⟩
    show After c.p F1 H1 (some ([D.bl b], u1)) _
    intro F2 H2 s2 g2 zs rz
    obtain ⟨z, rfl, rzz⟩ := rz.one
    obtain ⟨a, ns, e2, e3, e4⟩ := srtT_ok (H00 := H) g2 (fun q hq => s1.back g1.ne (s2.back g2.ne hq)) (rvs.mono s2.ef) e1 (fun F3 H3 s3 g3 => h2 F3 H3 (s2.trans g2.ne s3) g3)
    exact ⟨a, ns, e2, by rw [rzz.bl_], by rw [hK]; exact e3, fun ns' q hp ho hq => e4 ns' q hp ho hq⟩⟩
end Mi

set_option Elab.async false
set_option linter.all false
set_option maxRecDepth 100000
set_option maxHeartbeats 4000000
/-! MiJ: max(xs, default=d) of ints; [x] * n as a fresh list. -/
namespace L2
open PySem PySem.Spec PyProof.Rows
/-- the greatest one, d if there is none -/
def mxD (d : Int) : List Int → Int
  | [] => d
  | n :: ns => Mi.maxL (n :: ns)
theorem maxOf_int : ∀ (xs : List Int) (x : Int), PySem.W.maxOf x xs ∈ x :: xs ∧ ∀ y ∈ x :: xs, y ≤ PySem.W.maxOf x xs
  | [], x => ⟨by simp [PySem.W.maxOf], fun y hy => by simp [PySem.W.maxOf] at hy ⊢; omega⟩
  | z :: xs, x => by
    have e : PySem.W.maxOf x (z :: xs) = PySem.W.maxOf (if PySem.W.DatumOrd.lt x z = true then z else x) xs := rfl
    have hl : (PySem.W.DatumOrd.lt x z = true) ↔ x < z := by
      show decide (x < z) = true ↔ _
      exact decide_eq_true_iff
    rw [e]
    by_cases h : x < z
    · rw [if_pos (hl.mpr h)]
      obtain ⟨h1, h2⟩ := maxOf_int xs z
      refine ⟨List.mem_cons_of_mem _ h1, fun y hy => ?_⟩
      rcases List.mem_cons.mp hy with rfl | hy
      · have := h2 z List.mem_cons_self; omega
      · exact h2 y hy
    · rw [if_neg (fun q => h (hl.mp q))]
      obtain ⟨h1, h2⟩ := maxOf_int xs x
      refine ⟨?_, fun y hy => ?_⟩
      · rcases List.mem_cons.mp h1 with h1 | h1
        · rw [h1]; exact List.mem_cons_self
        · exact List.mem_cons_of_mem _ (List.mem_cons_of_mem _ h1)
      · rcases List.mem_cons.mp hy with rfl | hy
        · exact h2 _ List.mem_cons_self
        · rcases List.mem_cons.mp hy with rfl | hy
          · have := h2 x List.mem_cons_self; omega
          · exact h2 y (List.mem_cons_of_mem _ hy)
def rMaxDf (K : PySem.W.Frag) (d : Int) : List V → List V → Hp → VK → Prop := fun vs zs H Q => ∃ (a : Addr) (ns : List Int), vs = [V.ref a] ∧ zs = [.int d] ∧ SqL K H a (ns.map V.int) ∧ Q (.int (mxD d ns)) H
section
variable {X : Cx}
theorem dpAll_ints {K : PySem.W.Frag} {H : Hp} : ∀ ns : List Int, DpAll K H (ns.map V.int) (ns.map PyData.int)
  | [] => .nil
  | n :: ns => .cons (.int n) (dpAll_ints ns)
theorem cr_maxDf {d : Int} (hc : X.calm = true) (hu : X.A.units + 65 < cLine) : CallRK X (.builtin "max") [Str.ofString "default"] (rMaxDf X.K d) := by
  intro pins s σ H vs zs us ws Q I r rz h
  obtain ⟨a, ns, rfl, rfl, hs, q⟩ := h
  obtain rfl := Vals.ref1 r
  obtain ⟨w1, rfl, t1, rfl⟩ := vals1 rz
  obtain ⟨its, rv, hl, hz⟩ := I.list hs
  obtain ⟨as, hr⟩ := Dp.readsAll I (ns.map PyData.int) (ns.map V.int) its (dpAll_ints ns) rv
  refine PySem.W.max_list_datum_default (α := Int) (xs := ns) (vs := its.toArray) (I.ok.hd hc) hl.isList ⟨as, hr⟩ ?_ (fun e h' tk hk => ?_) (fun y ys i v h' tk e hi hv hk => ?_)
  · show X.A.units + 1 + 0 < cLine
    omega
  · subst e
    exact ⟨.int d, H, I.kept (t' := tk) hk, ⟨_, rfl⟩, q⟩
  · subst e
    obtain ⟨bs, hv⟩ := hv
    obtain ⟨h1, h2⟩ := maxOf_int ys y
    have em : mxD d (y :: ys) = PySem.W.maxOf y ys := Mi.maxL_is h1 h2
    rw [em] at q
    have hv' : Reads h' v (PyData.int (PySem.W.maxOf y ys)) bs := hv
    cases hv' with
    | int i t => exact ⟨.int _, H, I.kept (t' := tk) hk, ⟨_, rfl⟩, q⟩
end
end L2
namespace Mi
open PySem PySem.Spec PyProof.Rows L2
variable [TB : Tabl]
def maxDf (d : Int) : List D → Option D := fun ds => match ds with
  | [.lst xs] => (intsD xs).map fun ns => .int (mxD d ns)
  | _ => none
theorem room65' {k : Nat} {A : Around} (r : Room k A) : A.units + 65 < cLine := by have := r.un; omega
theorem dMaxDf {X : Cx} {c : Cf} {e : Expr} {ms : MA} {d : Int} {p pos kpos cp : Pos} {kk : Nat} (hc : X.calm = true) (hu : X.A.units + 65 < cLine) (hg : Gl X "max") (hm : X.mg "max" = none) (ha : DA X c [e] ms) (hK : X.K = c.W.K := by rfl)
    (he : backTo pos (starEach (e :: []) X.env) = (false, eval e X.env) :: backTo pos (starEach [] X.env) := by rfl) (hpl : (backTo pos (starEach (e :: []) X.env)).any (fun x => x.fst) = false := by rfl) : DE X c (.Call (.Name "max" p) [e] [⟨some "default", .Constant (.int d) kk cp, kpos⟩] pos) (mCB (maxDf d) ms) :=
  (pe_callBK (ks := [Str.ofString "default"]) (cr_maxDf (d := d) hc hu) hg hm bb_max ha (dKcons (c := c) (me := mC (.int d)) dInt dKnil) (by decide) (by decide) he hpl).imp fun σ H Q ⟨F, u, ρ, S, h⟩ => ⟨F, u, ρ, S, (After.split h).imp fun xs u1 F1 H1 _ s1 g1 h1 vs rvs => by
    obtain ⟨es, e1, h2⟩ := lft_some h1
    refine ⟨F1, u1, ρ, S.step s1 g1, ?_⟩
    show After c.p F1 H1 (some ([D.int d], u1)) _
    intro F2 H2 s2 g2 zs rz
    obtain ⟨z, rfl, rzz⟩ := rz.one
    unfold maxDf at e1
    split at e1
    · rename_i ys _h
      cases e2 : intsD ys with
      | none => rw [e2] at e1; cases e1
      | some ns =>
        rw [e2] at e1
        cases e1
        obtain ⟨v, rfl, rv⟩ := rvs.one
        obtain ⟨a, ws, rfl, ha', rs⟩ := rv.lst_
        have ew := intsD_rep rs e2
        subst ew
        refine ⟨a, ns, rfl, by rw [rzz.int_], by rw [hK]; exact SqL.of (g2.ex _ _ (s2.ef _ _ ha')), ?_⟩
        exact h2 F2 H2 s2 g2 (.int (mxD d ns)) (.int _)
    · cases e1⟩
/-! ### int of a bool -/
def intBD : List D → Option D := fun ds => match ds with
  | [.bl k] => some (.int (if k then 1 else 0))
  | _ => none
theorem m_intB {W : Wo} : CallM W (fun xs H Q => (∃ i, xs = [.int i] ∧ Q (.int i) H) ∨ ∃ k, xs = [.bl k] ∧ Q (.int (if k then 1 else 0)) H) intBD := by
  intro p F H u xs as Q gd r h
  obtain ⟨d, e, _⟩ := lft_some h
  have e0 := e
  unfold intBD at e
  split at e
  · rename_i k
    cases e
    obtain ⟨v, rfl, rv⟩ := r.one
    exact .inr ⟨k, by rw [rv.bl_], OpM.ret gd h e0 (.int _)⟩
  · cases e
@[simp] theorem s_intB {k : Bool} : intBD [.bl k] = some (.int (if k then 1 else 0)) := rfl
/-! ### [x] * n -/
def repO : D → D → Option (List D)
  | .lst a, .int k => if k ≤ 100000 ∧ -100000 ≤ k ∧ a.length * k.toNat ≤ 100000 then some (List.replicate k.toNat a).flatten else none
  | _, _ => none
theorem dRepO {X : Cx} {c : Cf} {pos : Pos} {a b : Expr} {ma mb : ME} (ha : DE X c a ma) (hb : DE X c b mb) : DL X c (.BinOp a .Mult b pos) (mBinO repO ma mb) :=
  (pe_op op_rep ha hb).imp fun σ H Q ⟨F, u, ρ, S, h⟩ => ⟨F, u, ρ, S, (After.split h).imp fun x u1 F1 H1 _ s1 g1 h1 v rv => ⟨F1, u1, ρ, S.step s1 g1, (After.split h1).imp fun y u2 F2 H2 _ s2 g2 h2 w rw => by
    obtain ⟨ds, e, h3⟩ := lft_some h2
    unfold repO at e
    split at e
    · rename_i xs k _h _h2
      split at e
      · rename_i hl
        cases e
        obtain ⟨p1, v1, rfl, f1, q1⟩ := (rv.mono s2.ef).lst_
        refine ⟨p1, k, v1, rfl, rw.int_, g2.ex _ _ f1, by omega, by omega, sz5 (by rw [q1.1]; exact hl.2.2), fun q hq => ?_⟩
        exact h3 _ _ (Stp.own hq) (g2.own hq) q _ (g2.fresh hq) (s1.back g1.ne (s2.back g2.ne hq)) upd_same (q1.rep _)
      · cases e
    · cases e⟩⟩
end Mi

set_option Elab.async false
set_option linter.all false
set_option maxRecDepth 100000
set_option maxHeartbeats 4000000
/-! MiI: repr(..), str(..) by own methods, sep.join(list of texts). -/
namespace Mi
open PySem PySem.Spec PyProof.Rows L2 He
variable [TB : Tabl]
/-! ### str of an instance -/
theorem str_K {prog : Program} {w : World} {A : Around} {E : Value → Shared → Prop} {s : Shared} {K : PySem.W.Frag} {x C L f : Addr} {h₀ : Heap} {m : Str → Option Value} {ox : Obj} {od : Option Obj} {Q : Value → Shared → Prop} (hu : A.in1.in1.units < cLine) (F : Fr h₀ L s.heap m) (X₀ : K.In h₀) (I : PySem.W.InstAt s.heap x ox C od) (hs : PySem.W.findIn K (.ref C) "__str__" = some (some (.ref f))) (hf : PySem.W.isFn K (.ref f) = true)
    (h : wpAny (model prog w) A.in1.in1 (call (.ref f) [.ref x]) (PySem.W.StrBack Q) E s) : wpAny (model prog w) A (call (.type "str") [.ref x]) Q E s := by
  refine callType_codes (Q₁ := fun obj s₁ => s₁.TypeIs obj "str" ∧ Q obj s₁) PySem.F.called_str (PySem.F.typeCall_str_1 _) PySem.F.entry_object_init ?_ fun obj s₁ h₁ =>
    ⟨h₁.1, PySem.F.args_object_init_2 obj _, object_init_meets PySem.F.called_str.init.lookup PySem.F.called_str.made (by decide) prog w A.in1 _ s₁ ⟨h₁.1, rfl, h₁.2⟩⟩
  refine codeAny_call_builtin PySem.F.called_str.plain PySem.F.entry_str_new (wpAny_of_eq (PySem.F.newCall_str_1 _) ?_)
  rw [str_new_tree]
  refine wpAny_bind (wpAny_pure ?_)
  refine wpAny_bind (wpAny_of_eq isSubtype_str_str ?_)
  refine wpAny_bind ?_
  unfold Builtin.Str.strOf
  show wpAny _ _ (do
    cRoomFor "str" [.ref x]
    let some r ← callSpecial? (.ref x) "__str__" | unsupported "internal:no-__str__"
    if (← asStr? r).isNone then
      rule "str-of.not-a-str"; raiseError "TypeError" s!"__str__ returned non-string (type {← typeNameOf r})"
    pure r) _ _ _
  refine wpAny_bind (wpAny_cRoomFor hu ?_)
  refine wpAny_bind (m := callSpecial? (.ref x) (Str.ofString "__str__")) (PySem.W.special_fn (X₀.keeps F.keep) I hs (beq_iff_eq.mp hf) (wpAny_mono h (fun r s' hr => ?_) fun _ _ y => y))
  cases r <;> first | exact hr.elim | skip
  refine wpAny_bind (wpAny_pure ?_)
  refine wpAny_pure ?_
  refine wpAny_pure ?_
  exact ⟨typeIs_str _ _ _, hr⟩
/-! ### repr, str of what is an instance, None or a truth -/
def rTxt (C : Addr) (sp : Sp) : List V → Hp → VK → Prop := fun xs H Q => ∃ a dx fs, xs = [.ref a] ∧ H a = some (.ins C dx fs) ∧ sp [.ref a] H (fun v H' => ∃ n : Str, v = .str n ∧ Q (.str n) H') E0
section
variable {X : Cx} {c : Cf} {k : Nat} {f C : Addr} {fd : FuncData} {ps : List Str} {sp : Sp} {mf : List D → M D} {ck : Str} {a : Expr} {ma : ME} {pos : Pos}
theorem call_reprOb (G : FnOk X.prog X.w X.K X.mg X.base CX0 k f fd ps sp) (hr : Room (k + 1) X.A) (hb : Binds X.K fd ps []) (hc : OwnM X.K C f "__repr__") : CallR X (.builtin "repr") (rTxt C sp) := by
  intro pins s σ H vs us Q I r h
  obtain ⟨a, dx, fs, rfl, ha, q⟩ := h
  obtain ⟨u1, rfl, ru⟩ := Vals.one r
  cases ru
  obtain ⟨mA, J, _⟩ := ins_get I.hok ha
  obtain ⟨od, J, _⟩ := J.look
  obtain ⟨m, hF⟩ := I.fr
  refine PySem.W.repr_K hr.in1.units0 hF I.ok.mod.kin J hc.has hc.fn ?_
  refine wpAny_mono (call_at (vs := [.ref a]) G hr.in1 rfl hb I (.cons rfl .nil) q) (fun v s' z => ?_) fun _ _ z => z
  obtain ⟨w, H', I', rw, n, ew, qq⟩ := z
  subst ew
  obtain ⟨t, rfl⟩ := rw
  exact ⟨.str n, H', I', ⟨_, rfl⟩, qq⟩
theorem call_strOb (G : FnOk X.prog X.w X.K X.mg X.base CX0 k f fd ps sp) (hr : Room (k + 2) X.A) (hb : Binds X.K fd ps []) (hc : OwnM X.K C f "__str__") : CallR X (.type "str") (rTxt C sp) := by
  intro pins s σ H vs us Q I r h
  obtain ⟨a, dx, fs, rfl, ha, q⟩ := h
  obtain ⟨u1, rfl, ru⟩ := Vals.one r
  cases ru
  obtain ⟨mA, J, _⟩ := ins_get I.hok ha
  obtain ⟨od, J, _⟩ := J.look
  obtain ⟨m, hF⟩ := I.fr
  refine str_K hr.in1.in1.units0 hF I.ok.mod.kin J hc.has hc.fn ?_
  refine wpAny_mono (call_at (vs := [.ref a]) G hr.in1.in1 rfl hb I (.cons rfl .nil) q) (fun v s' z => ?_) fun _ _ z => z
  obtain ⟨w, H', I', rw, n, ew, qq⟩ := z
  subst ew
  obtain ⟨t, rfl⟩ := rw
  exact ⟨.str n, H', I', ⟨_, rfl⟩, qq⟩
def bTx (b : Bool) : Str := if b then "True" else "False"
def rRep (C : Addr) (sp : Sp) : List V → Hp → VK → Prop := fun xs H Q => rTxt C sp xs H Q ∨ (xs = [.non] ∧ Q (.str "None") H) ∨ ∃ b, xs = [.bl b] ∧ Q (.str (bTx b)) H
theorem call_repr0 : CallR X (.builtin "repr") (fun xs H Q => (xs = [.non] ∧ Q (.str "None") H) ∨ ∃ b, xs = [.bl b] ∧ Q (.str (bTx b)) H) := by
  intro pins s σ H vs us Q I r h
  rcases h with ⟨rfl, q⟩ | ⟨b, rfl, q⟩
  · obtain ⟨u1, rfl, ru⟩ := Vals.one r
    cases ru
    exact PySem.P.repr_of_none ⟨.str _, H, I.tok _, ⟨_, rfl⟩, q⟩
  · obtain ⟨u1, rfl, ru⟩ := Vals.one r
    cases ru
    exact PySem.P.repr_of_bool ⟨.str _, H, I.tok _, ⟨_, rfl⟩, q⟩
theorem call_reprX (G : FnOk X.prog X.w X.K X.mg X.base CX0 k f fd ps sp) (hr : Room (k + 1) X.A) (hb : Binds X.K fd ps []) (hc : OwnM X.K C f "__repr__") : CallR X (.builtin "repr") (rRep C sp) := by
  intro pins s σ H vs us Q I r h
  rcases h with h | h
  · exact call_reprOb G hr hb hc pins s σ H vs us Q I r h
  · exact call_repr0 pins s σ H vs us Q I r h
def mTxt (mf : List D → M D) (ds : List D) : M D := M.bind (mf ds) fun r => match r with
  | .str n => M.pure (.str n)
  | _ => lft none
/-- repr of an instance of the class k, of None, of a truth -/
def mRep (k : Str) (mf : List D → M D) (mo : ME) : ME := fun ρ => M.bind (mo ρ) fun d => match d with
  | .obj c ks ds => if c = k then mTxt mf [.obj c ks ds] else lft none
  | .non => M.pure (.str "None")
  | .bl b => M.pure (.str (bTx b))
  | _ => lft none
/-- str of an instance of the class k -/
def mStrO (k : Str) (mf : List D → M D) (mo : ME) : ME := fun ρ => M.bind (mo ρ) fun d => match d with
  | .obj c ks ds => if c = k then mTxt mf [.obj c ks ds] else lft none
  | _ => lft none
/-- repr of None, of a truth -/
def repBD : List D → Option D := fun ds => match ds with
  | [.non] => some (.str "None")
  | [.bl b] => some (.str (bTx b))
  | _ => none
theorem txt_go {c : Cf} {F1 H1 : Hp} {u1 : PuS} {p1 : Addr} {dx : Addr} {vs : List V} {ks : List Str} {ds : List D} {Q : VK} (g1 : Gd c.p u1 F1 H1) (h3 : F1 p1 = some (.ins (c.W.cl ck) dx (ks.zip vs))) (rv : Rep c.W c.p F1 (.ref p1) (.obj ck ks ds))
    (h1 : After c.p F1 H1 (mTxt mf [.obj ck ks ds] u1) (fun d _ F' H' => ∀ v, Rep c.W c.p F' v d → Q v H')) : rTxt (c.W.cl ck) (spM c.W 1 mf) [.ref p1] H1 Q := by
  refine ⟨p1, dx, _, rfl, g1.ex _ _ h3, rfl, c.p, F1, u1, [_], g1, Reps.cons rv Reps.nil, (After.split h1).imp fun d u3 F3 H3 _ s3 g3 h5 z rz => ?_⟩
  split at h5
  · rename_i n _h
    have h6 : After c.p F3 H3 (some (D.str n, u3)) (fun d _ F' H' => ∀ v, Rep c.W c.p F' v d → Q v H') := h5
    exact ⟨n, rz.str_, After.now g3 h6 _ (.str n)⟩
  · exact False.elim h5
theorem bb_repr : bootBuiltins "repr" = some (.builtin "repr") := by decide +kernel
theorem dRepX {p0 : Pos} (G : FnOk X.prog X.w X.K X.mg X.base CX0 k f fd ps (spM c.W 1 mf)) (hr : Room (k + 1) X.A) (hb : Binds X.K fd ps []) (hc : OwnM X.K (c.W.cl ck) f "__repr__")
    (hg : Gl X "repr") (hm : X.mg "repr" = none) (ha : DE X c a ma) (he : starEach [a] X.env = (false, eval a X.env) :: starEach [] X.env := by rfl) : DE X c (.Call (.Name "repr" p0) [a] [] pos) (mRep ck mf ma) :=
  (pe_callB (call_reprX G hr hb hc) hg hm bb_repr (pa_cons ha pa_nil he) (by decide) (by decide) he rfl).imp fun σ H Q ⟨F, u, ρ, S, h⟩ =>
    ⟨F, u, ρ, S, (After.split h).imp fun x u1 F1 H1 _ s1 g1 h1 v rv => by
      cases x with
      | obj cc ks ds =>
        have h2 : After c.p F1 H1 ((if cc = ck then mTxt mf [.obj cc ks ds] else lft none) u1) (fun d _ F' H' => ∀ v, Rep c.W c.p F' v d → Q v H') := h1
        by_cases hh : cc = ck
        · subst hh
          rw [if_pos rfl] at h2
          obtain ⟨p1, dx, vs, rfl, h3, _⟩ := id rv.obj_
          exact .inl (txt_go g1 h3 rv h2)
        · rw [if_neg hh] at h2; exact False.elim h2
      | non =>
        have h2 : After c.p F1 H1 (some (D.str "None", u1)) (fun d _ F' H' => ∀ v, Rep c.W c.p F' v d → Q v H') := h1
        exact .inr (.inl ⟨by rw [rv.non_], After.now g1 h2 _ (.str _)⟩)
      | bl b =>
        have h2 : After c.p F1 H1 (some (D.str (bTx b), u1)) (fun d _ F' H' => ∀ v, Rep c.W c.p F' v d → Q v H') := h1
        exact .inr (.inr ⟨b, by rw [rv.bl_], After.now g1 h2 _ (.str _)⟩)
      | _ => exact False.elim h1⟩
theorem dStrO {p0 : Pos} (G : FnOk X.prog X.w X.K X.mg X.base CX0 k f fd ps (spM c.W 1 mf)) (hr : Room (k + 2) X.A) (hb : Binds X.K fd ps []) (hc : OwnM X.K (c.W.cl ck) f "__str__")
    (hg : Gl X "str") (hm : X.mg "str" = none) (ha : DE X c a ma) (he : starEach [a] X.env = (false, eval a X.env) :: starEach [] X.env := by rfl) : DE X c (.Call (.Name "str" p0) [a] [] pos) (mStrO ck mf ma) :=
  (pe_callTy (call_strOb G hr hb hc) hg hm bb_str (pa_cons ha pa_nil he) (by decide) (by decide) he rfl).imp fun σ H Q ⟨F, u, ρ, S, h⟩ =>
    ⟨F, u, ρ, S, (After.split h).imp fun x u1 F1 H1 _ s1 g1 h1 v rv => by
      cases x with
      | obj cc ks ds =>
        have h2 : After c.p F1 H1 ((if cc = ck then mTxt mf [.obj cc ks ds] else lft none) u1) (fun d _ F' H' => ∀ v, Rep c.W c.p F' v d → Q v H') := h1
        by_cases hh : cc = ck
        · subst hh
          rw [if_pos rfl] at h2
          obtain ⟨p1, dx, vs, rfl, h3, _⟩ := id rv.obj_
          exact txt_go g1 h3 rv h2
        · rw [if_neg hh] at h2; exact False.elim h2
      | _ => exact False.elim h1⟩
theorem dRep0 {p0 : Pos} (hg : Gl X "repr") (hm : X.mg "repr" = none) (ha : DE X c a ma) (he : starEach [a] X.env = (false, eval a X.env) :: starEach [] X.env := by rfl) : DE X c (.Call (.Name "repr" p0) [a] [] pos) (mUn (fun d => repBD [d]) ma) :=
  (pe_callB call_repr0 hg hm bb_repr (pa_cons ha pa_nil he) (by decide) (by decide) he rfl).imp fun σ H Q ⟨F, u, ρ, S, h⟩ =>
    ⟨F, u, ρ, S, (After.split h).imp fun x u1 F1 H1 _ s1 g1 h1 v rv => by
      obtain ⟨z, e1, h2⟩ := lft_some h1
      cases x with
      | non =>
        cases e1
        exact .inl ⟨by rw [rv.non_], After.now g1 h2 _ (.str _)⟩
      | bl b =>
        cases e1
        exact .inr ⟨b, by rw [rv.bl_], After.now g1 h2 _ (.str _)⟩
      | _ => cases e1⟩
/-! ### join -/
def strsD : List D → Option (List Str)
  | [] => some []
  | .str i :: ds => (strsD ds).map (i :: ·)
  | _ => none
theorem strsD_rep {W : Wo} {p : Addr} {F : Hp} : ∀ {vs : List V} {ds : List D} {ns : List Str}, Reps W p F vs ds → strsD ds = some ns → vs = ns.map V.str
  | vs, [], ns, r, h => by
    cases h
    exact r.none
  | vs, d :: ds, ns, r, h => by
    obtain ⟨v, vr, rfl, r1, r2⟩ := r.uncons
    cases d with
    | str i =>
      have h' : (strsD ds).map (i :: ·) = some ns := h
      cases e : strsD ds with
      | none => rw [e] at h'; cases h'
      | some ms =>
        rw [e] at h'
        cases h'
        rw [r1.str_, strsD_rep r2 e]
        rfl
    | _ => cases h
theorem strsD_map (ns : List Str) : strsD (ns.map D.str) = some ns := by
  induction ns with
  | nil => rfl
  | cons n ns ih => show (strsD (ns.map D.str)).map (n :: ·) = _; rw [ih]; rfl
def joinD (a : Str) : D → Option D
  | .lst xs => (strsD xs).bind fun ys => if (ys.map (·.length)).sum + ys.length * a.length ≤ 100000 then some (.str (Txt.join a ys)) else none
  | _ => none
def mJoin (mo me : ME) : ME := fun ρ => M.bind (mo ρ) fun d => match d with
  | .str a => M.bind (me ρ) fun y => lft (joinD a y)
  | _ => lft none
theorem dJoin {o e : Expr} {mo me : ME} {apos : Pos} (ho : DE X c o mo) (he : DE X c e me) (hK : X.K = c.W.K := by rfl) (hs : starEach [e] X.env = [(false, eval e X.env)] := by rfl) (hbase : attributeBase o "join" X.env (eval o X.env) = eval o X.env := by rfl) (hline : (apos.endLine == pos.line) = true := by rfl) :
    DE X c (.Call (.Attribute o "join" apos) [e] [] pos) (mJoin mo me) :=
  (pe_join ho he hs hbase hline).imp fun σ H Q ⟨F, u, ρ, S, h⟩ => ⟨F, u, ρ, S, (After.split h).imp fun x u1 F1 H1 _ s1 g1 h1 v rv => by
    cases x with
    | str a =>
      have h2 : After c.p F1 H1 (M.bind (me ρ) (fun y => lft (joinD a y)) u1) (fun d _ F' H' => ∀ v, Rep c.W c.p F' v d → Q v H') := h1
      refine ⟨⟨a, rv.str_⟩, F1, u1, ρ, S.step s1 g1, (After.split h2).imp fun y u2 F2 H2 _ s2 g2 h3 w rw => ?_⟩
      obtain ⟨z, e1, h4⟩ := lft_some h3
      cases y with
      | lst xs =>
        have e2 : (strsD xs).bind (fun ys => if (ys.map (·.length)).sum + ys.length * a.length ≤ 100000 then some (D.str (Txt.join a ys)) else none) = some z := e1
        cases e3 : strsD xs with
        | none => rw [e3] at e2; cases e2
        | some ys =>
          rw [e3] at e2
          simp only [Option.bind_some] at e2
          split at e2
          · rename_i hl
            cases e2
            obtain ⟨q, ws, rfl, hq, rs⟩ := rw.lst_
            have ew := strsD_rep rs e3
            subst ew
            exact ⟨a, q, ys, rv.str_, rfl, .inl (by rw [hK]; exact SqL.of (g2.ex _ _ hq)), by omega, After.now g2 h4 _ (.str _)⟩
          · cases e2
      | _ => cases e1
    | _ => exact False.elim h1⟩
end
@[simp] theorem ok_txt {mf : List D → M D} {ds : List D} {u : PuS} {P : D → PuS → Prop} : Ok (mTxt mf ds) u P ↔ Ok (mf ds) u fun d u1 => ∃ n, d = .str n ∧ P (.str n) u1 := by
  unfold mTxt
  rw [ok_bind]
  constructor
  · refine fun h => h.mono fun d u1 z => ?_
    cases d with
    | str y => exact ⟨y, rfl, ok_pure.mp z⟩
    | _ => exact (ok_none.mp z).elim
  · refine fun h => h.mono fun d u1 z => ?_
    obtain ⟨n, rfl, z⟩ := z
    exact ok_pure.mpr z
theorem ok_rep {k : Str} {mf : List D → M D} {mo : ME} {ρ : Env} {u : PuS} {P : D → PuS → Prop} : Ok (mRep k mf mo ρ) u P ↔ Ok (mo ρ) u fun d u1 => Ok ((match d with
  | .obj c ks ds => if c = k then mTxt mf [.obj c ks ds] else lft none
  | .non => M.pure (.str "None")
  | .bl b => M.pure (.str (bTx b))
  | _ => lft none : M D)) u1 P := by
  unfold mRep
  rw [ok_bind]
theorem ok_strO {k : Str} {mf : List D → M D} {mo : ME} {ρ : Env} {u : PuS} {P : D → PuS → Prop} : Ok (mStrO k mf mo ρ) u P ↔ Ok (mo ρ) u fun d u1 => Ok ((match d with
  | .obj c ks ds => if c = k then mTxt mf [.obj c ks ds] else lft none
  | _ => lft none : M D)) u1 P := by
  unfold mStrO
  rw [ok_bind]
theorem ok_join {mo me : ME} {ρ : Env} {u : PuS} {P : D → PuS → Prop} : Ok (mJoin mo me ρ) u P ↔ Ok (mo ρ) u fun d u1 => ∃ a, d = .str a ∧ Ok (me ρ) u1 fun y u2 => ∃ z, joinD a y = some z ∧ P z u2 := by
  unfold mJoin
  rw [ok_bind]
  constructor
  · refine fun h => h.mono fun d u1 z => ?_
    cases d with
    | str y => exact ⟨y, rfl, by simpa using z⟩
    | _ => exact (ok_none.mp z).elim
  · refine fun h => h.mono fun d u1 z => ?_
    obtain ⟨n, rfl, z⟩ := z
    simpa using z
/-! ### == of texts -/
def eqSD : D → D → Option D
  | .str a, .str b => some (.bl (decide (a = b)))
  | _, _ => none
def neSD : D → D → Option D
  | .str a, .str b => some (.bl (!decide (a = b)))
  | _, _ => none
theorem m_eqS {W : Wo} : OpM W rEq eqSD := by
  intro p F H u x y a b Q gd rx ry h
  obtain ⟨d, e, _⟩ := lft_some h
  have e0 := e
  unfold eqSD at e
  split at e
  · cases e
    rename_i a b _hh
    rw [rx.str_, ry.str_]
    refine ⟨rfl, ?_⟩
    have e1 : decide (V.str a = V.str b) = decide (a = b) := by rw [Bool.eq_iff_iff]; simp
    rw [e1]
    exact OpM.ret gd h e0 (.bl _)
  · cases e
theorem m_neS {W : Wo} : OpM W rNe neSD := by
  intro p F H u x y a b Q gd rx ry h
  obtain ⟨d, e, _⟩ := lft_some h
  have e0 := e
  unfold neSD at e
  split at e
  · cases e
    rename_i a b _hh
    rw [rx.str_, ry.str_]
    refine ⟨rfl, ?_⟩
    have e1 : decide (V.str a = V.str b) = decide (a = b) := by rw [Bool.eq_iff_iff]; simp
    rw [e1]
    exact OpM.ret gd h e0 (.bl _)
  · cases e
@[simp] theorem s_eqS' {a b : Str} : eqSD (.str a) (.str b) = some (.bl (decide (a = b))) := rfl
@[simp] theorem s_neS' {a b : Str} : neSD (.str a) (.str b) = some (.bl (!decide (a = b))) := rfl
/-! ### recursion -/
theorem fo_none {P : Program} {w : World} {K : PySem.W.Frag} {mg : Str → Option Value} {base : Heap} {k n : Nat} {f : Addr} {fd : FuncData} {ps : List Str} {W : Wo} (h : n = ps.length) : FnOk P w K mg base CX0 k f fd ps (spM W n fun _ _ => none) :=
  ⟨fun vs H Q E x => by rw [← h]; exact x.1, fun A outer s H args us vs Q E _ _ _ _ x => by
    obtain ⟨_, p, F, u, ds, _, _, z⟩ := x
    exact False.elim z⟩
end Mi

set_option Elab.async false
set_option linter.all false
set_option maxRecDepth 100000
set_option maxHeartbeats 4000000
/-! MiM: class methods, defs with a star parameter, a class made by a local name. -/
namespace Mi
open PySem PySem.Spec PyProof.Rows L2 He StX
variable [TB : Tabl]
/-! ### a class held in a local -/
section
variable {X : Cx} {CX : CXT} {k i : Nat} {f C : Addr} {fd : FuncData} {ps : List Str} {sp : Sp} {E : XK} {x : Str} {e : Expr} {es : List Expr} {t : TA} {p pos : Pos} {dvs : List V} {ds : List Value}
theorem pe_makeV (M : Mk X.K C f) (F : FnOk X.prog X.w X.K X.mg X.base CX k f fd ps sp) (hr : Room (k + 1) X.A) (hN : X.N[i]? = some x) (hv : Vis X.env.scope x) (hb : Binds X.K fd ps ds) (hd : Vals dvs ds) (hx : Passes CX X E)
    (ha : PA X (e :: es) t) (hdb : (x == ("__debug__" : Str)) = false) (hcd : (x == ("__classdict__" : Str)) = false) (he : starEach (e :: es) X.env = (false, eval e X.env) :: starEach es X.env) (hpl : (backTo pos (starEach es X.env)).any (·.1) = false) :
    PE X (.Call (.Name x p) (e :: es) [] pos) (fun σ H Q => σ[i]? = some (some (.ref C)) ∧ tMake C sp dvs E t σ H Q) := by
  refine ⟨fun pins s σ H Q I h => ?_⟩
  obtain ⟨hi, h⟩ := h
  refine wpAny_Call_Name_kw (thn ((pe_var hN hv hdb hcd).run pins s σ H (fun v H' => v = .ref C ∧ tMake C sp dvs E t σ H' Q) I ⟨_, hi, rfl, h⟩) fun u s1 ⟨v, H1, I1, rv, ev, q⟩ => ?_)
  subst ev
  obtain rfl : u = Value.ref C := rv
  refine PySem.W.callWith_K (h₀ := X.base) I1.ok.mod.kin M.kp (thn (ha.run pos pins s1 σ H1 _ I1 q) fun us s2 ⟨vs, H2, I2, r, q2⟩ => ⟨I2.kIn, ?_⟩) he hpl
  exact run_make M F hr hb hd hx I2 r q2
end
def mMakeV (ck : Str) (i n : Nat) (mf : List D → M (List Str × List D)) (ms : MA) : ME := fun ρ => M.bind (mVar i ρ) fun d => match d with
  | .cls c => if c = ck then mMake ck n mf ms ρ else lft none
  | _ => lft none
section
variable {X : Cx} {c : Cf} {k n : Nat} {f : Addr} {fd : FuncData} {ps : List Str} {x ck : Str} {p pos : Pos} {e : Expr} {es : List Expr} {ms : MA} {mf : List D → M (List Str × List D)}
theorem dMakeV (i : Nat) (hc : ck ∈ c.W.cs) (Mk' : Mk X.K (c.W.cl ck) f) (G : FnOk X.prog X.w X.K X.mg X.base CX0 k f fd ps (spI c.W ck n mf)) (hr : Room (k + 1) X.A) (hb : Binds X.K fd ps [])
    (ha : DA X c (e :: es) ms) (hN : X.N[i]? = some x := by rfl) (hv : Vis X.env.scope x := by first | exact Or.inl rfl | exact Or.inr (Or.inl rfl) | exact Or.inr (Or.inr rfl)) (hdb : (x == ("__debug__" : Str)) = false := by decide) (hcd : (x == ("__classdict__" : Str)) = false := by decide) (he : starEach (e :: es) X.env = (false, eval e X.env) :: starEach es X.env := by rfl) (hpl : (backTo pos (starEach es X.env)).any (·.1) = false := by rfl) :
    DE X c (.Call (.Name x p) (e :: es) [] pos) (mMakeV ck i n mf ms) :=
  (pe_makeV Mk' G hr hN hv hb .nil pass0 ha hdb hcd he hpl).imp fun σ H Q ⟨F, u, ρ, S, h⟩ => by
    unfold mMakeV at h
    obtain ⟨d, e0, h2⟩ : ∃ d, vSh ρ i = some d ∧ After c.p F H ((match d with | .cls c' => if c' = ck then mMake ck n mf ms ρ else lft none | _ => lft none : M D) u) (fun d _ F' H' => ∀ v, Rep c.W c.p F' v d → Q v H') := by
      have h1 : After c.p F H (M.bind (lft (vSh ρ i)) _ u) _ := h
      unfold M.bind lft at h1
      cases e1 : vSh ρ i with
      | none => rw [e1] at h1; exact False.elim h1
      | some d => rw [e1] at h1; exact ⟨d, rfl, h1⟩
    obtain ⟨v, e1, r⟩ := S.var e0
    cases d with
    | cls cc =>
      have h3 : After c.p F H ((if cc = ck then mMake ck n mf ms ρ else lft none) u) (fun d _ F' H' => ∀ v, Rep c.W c.p F' v d → Q v H') := h2
      by_cases hh : cc = ck
      · subst hh
        rw [if_pos rfl] at h3
        have ev : v = .ref (c.W.cl cc) := by cases r; rfl
        subst ev
        refine ⟨e1, F, u, ρ, S, (After.split h3).imp fun ds u1 F1 H1 _ s1 g1 h1 vs rvs => ?_⟩
        intro a dx ha hdx hne
        show spI c.W cc n mf (.ref a :: (vs ++ [])) _ _ _
        rw [List.append_nil]
        exact make_ok hc g1 rvs h1 a dx ha hdx hne
      · rw [if_neg hh] at h3; exact False.elim h3
    | _ => exact False.elim h2
end
/-! ### a def with a star parameter -/
def spS (W : Wo) (n : Nat) (mf : List D → M D) : Sp := fun vs H Q _ => n ≤ vs.length ∧ vs.length ≤ 100000 ∧ ∃ p F u ds, Gd p u F H ∧ Reps W p F vs ds ∧ After p F H (mf ds u) fun d _ F' H' => ∀ v, Rep W p F' v d → Q v H'
def mFnS (n N : Nat) (mb : MS) : List D → M D := fun ds => mFn N mb (ds.take n ++ [.tup (ds.drop n)])
section
variable {P : Program} {w : World} {K : PySem.W.Frag} {mg : Str → Option Value} {base : Heap} {x qual : Str} {params : Arguments} {body : List Stmt} {scope : Scope} {dvs : List V} {kws : List (Str × V)} {f : Addr} {fd : FuncData} {W : Wo} {N ps : List Str} {pv : Str} {k : Nat} {mb : MS}
theorem fn_mirS (F : FunD K x qual params body scope [] kws f fd) (S : FnScope N (ps ++ [pv]) scope)
    (hbd : ∀ (kV doc pm : Value) (an : Option Addr) (cdv ct : Value) (us rest : List Value), us.length = ps.length → bindArgs (PySem.W.fnOf x qual params body scope .none kV doc pm an cdv ct) ⟨us ++ rest, []⟩ = (newTuple rest >>= fun t => pure (ps.zip us ++ [(pv, t)])))
    (hb : ∀ (cdv : Value) (A : Around) (outer : List PySem.Env) (s : Shared) (H : Hp) (E : XK) (p : Addr) (F0 : Hp), Room k (A.deeper (envOfC qual scope s.heap.objs.size f cdv)) → DB (cxOf CX0 P w K mg base N qual scope f cdv A outer s H E).nox ⟨W, p, F0, H, 0, noX⟩ body mb) :
    FnR P w K mg base CX0 (k + 1) f (spS W ps.length (mFnS ps.length N.length mb)) := by
  obtain ⟨oc, od, dV, kV, doc, pm, an, cdv, ct, osl, rfl, lk, hcd, hdf, _⟩ := F.ex
  have hdv : dV = .none := by
    rcases hdf with ⟨_, h⟩ | ⟨h, _⟩
    · exact h
    · exact absurd rfl h
  subst hdv
  have hst := fn_star (P := P) (w := w) (mg := mg) (base := base) (CX := CX0) (k := k) (sp := spM W (ps ++ [pv]).length (mFn N.length mb)) lk hcd S cxUp_none (hbd kV doc pm an cdv ct) (fun A outer s H vs Q E hr h => by
    obtain ⟨hl, p, F0, u, ds, g, r, h⟩ := h
    refine ⟨_, PSs.nox (hb cdv A outer s H E p F0 hr), F0, u, startE N.length ds, ⟨Stp.refl, g, env_start r⟩, ?_⟩
    unfold mFn at h
    cases e : mb (startE N.length ds) u with
    | none => rw [e] at h; exact h
    | some y =>
      obtain ⟨fl, u1⟩ := y
      rw [e] at h
      cases fl with
      | rt d =>
        intro v F' H' s' g' rv
        have h2 : After p F0 H (some (d, u1)) (fun d _ F' H' => ∀ v, Rep W p F' v d → Q v H') := h
        exact h2 F' H' s' g' v rv
      | rl ds' => exact False.elim h
      | nx ρ' =>
        intro σ' F' H' _ S'
        have h2 : After p F0 H (some (D.non, u1)) (fun d _ F' H' => ∀ v, Rep W p F' v d → Q v H') := h
        exact h2 F' H' S'.ent S'.gd .non .non
      | bk ρ' => exact False.elim h
      | ct ρ' => exact False.elim h
      | ex ρ' k' ks' ds' => exact False.elim h)
  intro A outer s H us vs Q E hr e0 r hsp
  refine hst A outer s H us vs Q E hr e0 r ?_
  obtain ⟨hn, hl, p, F1, u, ds, g, rr, h⟩ := hsp
  refine ⟨vs.take ps.length, vs.drop ps.length, (List.take_append_drop _ _).symm, by rw [List.length_take]; omega, by rw [List.length_drop]; exact sz5 (by omega), fun q hq => ?_⟩
  refine ⟨by simp; omega, p, upd F1 q (.tup (vs.drop ps.length)), u, ds.take ps.length ++ [.tup (ds.drop ps.length)], g.new hq, ?_, ?_⟩
  · have sm := (Stp.new (o := .tup (vs.drop ps.length)) g hq).ef
    exact ((rr.take _).mono sm).append (Reps.cons (Rep.mkT upd_same ((rr.drop _).mono sm)) Reps.nil)
  · have st := Stp.new (o := .tup (vs.drop ps.length)) g hq
    have h' : After p F1 H (mFn N.length mb (ds.take ps.length ++ [.tup (ds.drop ps.length)]) u) fun d _ F' H' => ∀ v, Rep W p F' v d → Q v H' := h
    cases e : mFn N.length mb (ds.take ps.length ++ [.tup (ds.drop ps.length)]) u with
    | none => rw [e] at h'; exact h'
    | some y =>
      rw [e] at h'
      obtain ⟨d, u1⟩ := y
      exact fun F2 H2 s2 g2 => h' F2 H2 (st.trans (g.new hq).ne s2) g2
end
/-! ### C.m(..), m a class method -/
def mCMeth (ck : Str) (mf : List D → M D) (mo : ME) (ms : MA) : ME := fun ρ => M.bind (mo ρ) fun d => match d with
  | .cls c => if c = ck then M.bind (ms ρ) fun ds => if ds.length < 100000 then mf (.cls ck :: ds) else lft none else lft none
  | _ => lft none
section
variable {X : Cx} {c : Cf} {k n : Nat} {p g : Addr} {mc : Value} {o e : Expr} {es : List Expr} {m ck : Str} {pos apos : Pos} {mo : ME} {ms : MA} {pl : Sem Bool} {mf : List D → M D}
theorem dCMeth (hc : ck ∈ c.W.cs) (he : DE X c o mo) (r : ClX.CRead X.K (c.W.cl ck) mc ∧ ClX.CMet X.K (c.W.cl ck) mc m p g) (hn : n ≤ (e :: es).length + 1) (F : FnR X.prog X.w X.K X.mg X.base CX0 k g (spS c.W n mf)) (hr : Room k X.A) (ha : DA X c (e :: es) ms) (hms : ∀ ρ u ds u', ms ρ u = some (ds, u') → n ≤ ds.length + 1)
    (hst : starEach (e :: es) X.env = (false, eval e X.env) :: starEach es X.env := by rfl) (hpl : (backTo pos (starEach es X.env)).any (·.1) = false := by rfl)
    (ht : eval (.Call (.Attribute o m apos) (e :: es) [] pos) X.env = (do
      let ov ← eval o X.env
      standAt apos.atName
      let (f, first) ← holding [ov] (getMethod ov m pl)
      callWith pos f first (backTo pos (starEach (e :: es) X.env)) (backToKw pos (keywordEach [] X.env))) := by rfl) :
    DE X c (.Call (.Attribute o m apos) (e :: es) [] pos) (mCMeth ck mf mo ms) :=
  (ClX.pe_cmeth he r.1 r.2 F hr pass0 ha hst hpl ht).imp fun σ H Q ⟨F, u, ρ, S, h⟩ => ⟨F, u, ρ, S, (After.split h).imp fun x u1 F1 H1 _ s1 g1 h1 v rv => by
    cases x with
    | cls cc =>
      have h3 : After c.p F1 H1 ((if cc = ck then M.bind (ms ρ) (fun ds => if ds.length < 100000 then mf (.cls ck :: ds) else lft none) else lft none) u1) (fun d _ F' H' => ∀ v, Rep c.W c.p F' v d → Q v H') := h1
      by_cases hh : cc = ck
      · subst hh
        rw [if_pos rfl] at h3
        refine ⟨by cases rv; rfl, F1, u1, ρ, S.step s1 g1, (After.split h3).imp fun ds u2 F2 H2 ems s2 g2 h4 vs rvs => ?_⟩
        have h5 : After c.p F2 H2 ((if ds.length < 100000 then mf (.cls cc :: ds) else lft none) u2) (fun d _ F' H' => ∀ v, Rep c.W c.p F' v d → Q v H') := h4
        by_cases hl : ds.length < 100000
        · rw [if_pos hl] at h5
          have := rvs.1
          have hnn := hms _ _ _ _ ems
          exact ⟨by simp; omega, by simp; omega, c.p, F2, u2, .cls cc :: ds, g2, Reps.cons (.cls cc hc) rvs, h5⟩
        · rw [if_neg hl] at h5; exact False.elim h5
      · rw [if_neg hh] at h3; exact False.elim h3
    | _ => exact False.elim h1⟩
end
theorem ok_makeV {ck : Str} {i n : Nat} {mf : List D → M (List Str × List D)} {ms : MA} {ρ : Env} {u : PuS} {P : D → PuS → Prop} (h : vSh ρ i = some (.cls ck)) : Ok (mMakeV ck i n mf ms ρ) u P ↔ Ok (mMake ck n mf ms ρ) u P := by
  unfold mMakeV mVar
  rw [ok_bind, ok_lft, h]
  simp
theorem ok_cmeth {ck : Str} {mf : List D → M D} {ms : MA} {ρ : Env} {u : PuS} {P : D → PuS → Prop} : Ok (mCMeth ck mf (mC (.cls ck)) ms ρ) u P ↔ Ok (ms ρ) u fun ds u1 => ds.length < 100000 ∧ Ok (mf (.cls ck :: ds)) u1 P := by
  unfold mCMeth
  rw [ok_bind, ok_C]
  simp only [if_true, ok_bind]
  constructor
  · refine fun h => h.mono fun ds u1 z => ?_
    by_cases hl : ds.length < 100000
    · rw [if_pos hl] at z; exact ⟨hl, z⟩
    · rw [if_neg hl] at z; exact (ok_none.mp z).elim
  · refine fun h => h.mono fun ds u1 z => ?_
    rw [if_pos z.1]
    exact z.2
/-! ### a text times a number -/
def mulSD : D → D → Option D
  | .str a, .int n => if 1 < n ∧ n ≤ 1000 ∧ a.length ≤ 100 then some (.str (Txt.mul a n)) else none
  | _, _ => none
theorem op_mulS {X : Cx} : OpR X (binaryOp .Mult) (fun x y H Q => ∃ a n, x = .str a ∧ y = .int n ∧ (1 < n ∧ n ≤ 1000 ∧ a.length ≤ 100) ∧ Q (.str (Txt.mul a n)) H) := by
  intro pins s σ H x y v u Q I rx ry h
  obtain ⟨a, n, rfl, rfl, ⟨h1, h2, h3⟩, q⟩ := h
  obtain ⟨t, rfl⟩ := rx
  obtain ⟨t', rfl⟩ := ry
  refine PySem.SB.mul ⟨by simp; omega, fun _ _ => ?_, fun _ _ => ?_⟩ fun t k => ⟨.str _, H, I.tok _, ⟨_, rfl⟩, q⟩
  · have hd : (2 ^ 63 - 1 : Int) / 1000 ≤ (2 ^ 63 - 1) / n := by
      rw [Int.le_ediv_iff_mul_le (by omega)]
      have : (2 ^ 63 - 1 : Int) / 1000 * n ≤ (2 ^ 63 - 1 : Int) / 1000 * 1000 := Int.mul_le_mul_of_nonneg_left h2 (by decide)
      have h4 : (2 ^ 63 - 1 : Int) / 1000 * 1000 ≤ 2 ^ 63 - 1 := by decide
      omega
    have h5 : (100 : Int) ≤ (2 ^ 63 - 1 : Int) / 1000 := by decide
    omega
  · have h4 : a.length * n.toNat ≤ 100 * 1000 := Nat.mul_le_mul h3 (by omega)
    unfold Builtin.Str.tooLong
    have h5 : ¬ a.length * n.toNat > sizeLine := by
      have : sizeLine = 16777216 := by decide
      omega
    exact decide_eq_false h5
theorem m_mulS {W : Wo} : OpM W (fun x y H Q => ∃ a n, x = .str a ∧ y = .int n ∧ (1 < n ∧ n ≤ 1000 ∧ a.length ≤ 100) ∧ Q (.str (Txt.mul a n)) H) mulSD := by
  intro p F H u x y a b Q gd rx ry h
  obtain ⟨d, e, _⟩ := lft_some h
  have e0 := e
  unfold mulSD at e
  split at e
  · rename_i a n
    split at e
    · rename_i hc
      cases e
      exact ⟨a, n, rx.str_, ry.int_, hc, OpM.ret gd h e0 (.str _)⟩
    · cases e
  · cases e
end Mi

set_option Elab.async false
set_option linter.all false
set_option maxRecDepth 100000
set_option maxHeartbeats 4000000
/-! MiGa: defs that run where no repr is under way; repr of lists and tuples of plain data. -/
namespace Mi
open PySem PySem.Spec PyProof.Rows L2 He
variable [TB : Tabl]
/-- what a def promises where no repr is under way -/
structure FnG (P : Program) (w : World) (K : PySem.W.Frag) (mg : Str → Option Value) (base : Heap) (k : Nat) (f : Addr) (fd : FuncData) (ps : List Str) (sp : Sp) : Prop where
  len : ∀ vs H Q E, sp vs H Q E → vs.length = ps.length
  run : ∀ (A : Around) (outer : List PySem.Env) (s : Shared) (H : Hp) (args : Args) (us : List Value) (vs : List V) (Q : VK) (E : XK), A.guards = some [] → Room k A → Env0 P w K mg base A outer s H → BindsTo s fd args (ps.zip us) → Vals vs us → sp vs H Q E →
    codeAny (model P w) A (.call (.ref f) args) (CR CX0 outer P w H s Q E) s
section
variable {P : Program} {w : World} {K : PySem.W.Frag} {mg : Str → Option Value} {base : Heap} {x qual : Str} {params : Arguments} {body : List Stmt} {scope : Scope} {dvs : List V} {kws : List (Str × V)} {f : Addr} {fd : FuncData} {W : Wo} {N ps : List Str} {k : Nat} {mb : MS}
theorem fn_mirG (F : FunD K x qual params body scope dvs kws f fd) (S : FnScope N ps scope)
    (hb : ∀ (cdv : Value) (A : Around) (outer : List PySem.Env) (s : Shared) (H : Hp) (E : XK) (p : Addr) (F0 : Hp), A.guards = some [] → Room k (A.deeper (envOfC qual scope s.heap.objs.size f cdv)) → DB (cxOf CX0 P w K mg base N qual scope f cdv A outer s H E).nox ⟨W, p, F0, H, 0, noX⟩ body mb) :
    FnG P w K mg base (k + 1) f fd ps (spM W ps.length (mFn N.length mb)) := by
  refine ⟨fun vs H Q E h => h.1, fun A outer s H args us vs Q E hg hr e0 hbd r hsp => ?_⟩
  obtain ⟨oc, od, dV, kV, doc, pm, an, cdv, ct, osl, rfl, lk, hcd, _, _⟩ := F.ex
  refine StX.run_bnd (G := fun xs H2 => xs = vs ∧ H2 = H) lk hcd S hr e0 (fun A' Ex Q' h => hbd _ _ _ _ (h s H vs us e0 Un.refl rfl (fun _ _ z => z) r hsp.1 ⟨rfl, rfl⟩)) fun s2 H2 xs ⟨ex, eH⟩ hr' => ?_
  subst ex eH
  obtain ⟨hl, p, F0, u, ds, g, r, h⟩ := hsp
  refine ⟨_, PSs.nox (hb cdv A outer s2 _ E p F0 hg hr'), F0, u, startE N.length ds, ⟨Stp.refl, g, env_start r⟩, ?_⟩
  unfold mFn at h
  cases e : mb (startE N.length ds) u with
  | none => rw [e] at h; exact h
  | some y =>
    obtain ⟨fl, u1⟩ := y
    rw [e] at h
    cases fl with
    | rt d =>
      intro v F' H' s' g' rv
      have h2 : After p F0 _ (some (d, u1)) (fun d _ F' H' => ∀ v, Rep W p F' v d → Q v H') := h
      exact h2 F' H' s' g' v rv
    | rl ds' => exact False.elim h
    | nx ρ' =>
      intro σ' F' H' _ S'
      have h2 : After p F0 _ (some (D.non, u1)) (fun d _ F' H' => ∀ v, Rep W p F' v d → Q v H') := h
      exact h2 F' H' S'.ent S'.gd .non .non
    | bk ρ' => exact False.elim h
    | ct ρ' => exact False.elim h
    | ex ρ' k' ks' ds' => exact False.elim h
end
section
variable {X : Cx} {k : Nat} {f : Addr} {fd : FuncData} {ps : List Str} {sp : Sp} {dvs : List V} {ds : List Value} {E : XK} {x : Str} {p pos : Pos} {e : Expr} {es : List Expr} {t : TA}
theorem pe_callG (F : FnG X.prog X.w X.K X.mg X.base k f fd ps sp) (hgd : X.A.guards = some []) (hr : Room k X.A) (hg : Gl X x) (hm : X.mg x = some (.ref f)) (hk : PySem.W.keepIn X.K (.ref f) = true) (hb : Binds X.K fd ps ds) (hd : Vals dvs ds) (hx : Passes CX0 X E)
    (ha : PA X (e :: es) t) (hdb : (x == ("__debug__" : Str)) = false := by decide) (he : starEach (e :: es) X.env = (false, eval e X.env) :: starEach es X.env := by rfl) (hpl : (backTo pos (starEach es X.env)).any (·.1) = false := by rfl) :
    PE X (.Call (.Name x p) (e :: es) [] pos) (tCall sp dvs E t) := by
  refine ⟨fun pins s σ H Q I h => wpAny_Call_Name_kw (ld_glob I hg hm ?_ hdb)⟩
  refine PySem.W.callWith_K (h₀ := X.base) I.ok.mod.kin hk (thn (ha.run pos pins s σ H _ I h) fun us s1 ⟨vs, H1, I1, r, q⟩ => ⟨I1.kIn, wpAny_call ?_⟩) he hpl
  have r2 : Vals (vs ++ dvs) (us ++ ds) := r.append hd
  have hl : (us ++ ds).length = ps.length := r2.length ▸ F.len _ _ _ _ q
  refine codeAny_mono (F.run X.A X.stack s1 H1 ⟨us, []⟩ (us ++ ds) (vs ++ dvs) Q E hgd hr I1.env0 (hb s1 us I1.kIn hl) r2 q) fun z s2 hq => ?_
  match z, hq with
  | .error er, hq => exact hx pins σ H1 s1 er s2 I1 hq
  | .ok (.ret u), hq => exact I1.after hq
end
section
variable {X : Cx} {c : Cf} {k n : Nat} {f : Addr} {fd : FuncData} {ps : List Str} {x : Str} {p pos : Pos} {e : Expr} {es : List Expr} {ms : MA} {mf : List D → M D}
theorem dCallG (G : FnG X.prog X.w X.K X.mg X.base k f fd ps (spM c.W n mf)) (hgd : X.A.guards = some []) (hr : Room k X.A) (hg : Gl X x) (hm : X.mg x = some (.ref f)) (hk : PySem.W.keepIn X.K (.ref f) = true) (hb : Binds X.K fd ps [])
    (ha : DA X c (e :: es) ms) (hdb : (x == ("__debug__" : Str)) = false := by decide) (he : starEach (e :: es) X.env = (false, eval e X.env) :: starEach es X.env := by rfl) (hpl : (backTo pos (starEach es X.env)).any (·.1) = false := by rfl) :
    DE X c (.Call (.Name x p) (e :: es) [] pos) (mCall n mf ms) :=
  (pe_callG G hgd hr hg hm hk hb .nil pass0 ha hdb he hpl).imp fun σ H Q ⟨F, u, ρ, S, h⟩ => ⟨F, u, ρ, S, (After.split h).imp fun ds u1 F1 H1 _ s1 g1 h1 vs rvs => by
    show spM c.W n mf (vs ++ []) H1 Q E0
    rw [List.append_nil]
    exact call_ok g1 rvs h1⟩
end
section
variable {X : Cx} {c : Cf} {k n : Nat} {f : Addr} {fd : FuncData} {ps : List Str} {x : Str} {p pos : Pos} {e : Expr} {es : List Expr} {ms : MA}
theorem dWithG {mf : List D → M D} {ml : MA} (G : FnG X.prog X.w X.K X.mg X.base k f fd ps (spM c.W 1 mf)) (hgd : X.A.guards = some []) (hr : Room k X.A) (hg : Gl X x) (hm : X.mg x = some (.ref f)) (hk : PySem.W.keepIn X.K (.ref f) = true) (hb : Binds X.K fd ps [])
    (ha : DL X c e ml) (hdb : (x == ("__debug__" : Str)) = false := by decide) (he : starEach [e] X.env = (false, eval e X.env) :: starEach [] X.env := by rfl) (hpl : (backTo pos (starEach [] X.env)).any (·.1) = false := by rfl) :
    DE X c (.Call (.Name x p) [e] [] pos) (mWith mf ml) :=
  (pe_callG G hgd hr hg hm hk hb .nil pass0 (pa_cons ha pa_nil he) hdb he hpl).imp fun σ H Q ⟨F, u, ρ, S, h⟩ => ⟨F, u, ρ, S, by
    unfold mWith M.bind at h
    cases e0 : ml ρ u with
    | none => rw [e0] at h; exact False.elim h
    | some y0 =>
      obtain ⟨ds, u1⟩ := y0
      rw [e0] at h
      intro F1 H1 s1 g1 q vs hF hn hq r
      have hqp : q ≠ c.p := fun z => S.gd.ne (z ▸ hn)
      obtain ⟨d, e1, h2⟩ := lft_some h
      cases e2 : intsD ds with
      | none => rw [e2] at e1; cases e1
      | some l =>
        rw [e2] at e1
        have hv := intsD_rep r e2
        subst hv
        show spM c.W 1 mf ([.ref q] ++ []) H1 Q E0
        rw [List.append_nil]
        refine ⟨rfl, q, F1, .real l, [.pur], ⟨g1.ex, hq, fun _ _ => hF, g1.nt, g1.tb, (by intro _ z; cases z)⟩, Reps.cons .pur Reps.nil, ?_⟩
        cases e3 : mf [.pur] (.real l) with
        | none => simp [e3] at e1
        | some y =>
          obtain ⟨r3, u3⟩ := y
          cases r3 with
          | bl b =>
            simp [e3] at e1
            subst e1
            intro F' H' s' g' v rv
            rw [rv.bl_]
            refine h2 F' H' ⟨s1.ef.trans s'.ef, fun a o ha e n => ?_, fun a ps ha e => (let ⟨qs, e1⟩ := s1.et a ps ha e; s'.et a qs (fun z => by rw [z, hn] at e; cases e) e1), fun a o e => ?_⟩ ⟨g'.ex, ?_, fun l' e => ?_, g'.nt, g'.tb, g1.hp⟩ (.bl b) (.bl b)
            · exact s'.eh a o (fun z => by rw [z, hn] at e; cases e) (s1.eh a o ha e n) n
            · rcases s'.nw a o e with z | z
              · exact s1.nw a o z
              · exact .inr (s1.back g1.ne z)
            · exact s'.eh c.p _ (Ne.symm hqp) g1.pu (.inr g1.hp)
            · exact s'.off (g1.off l' e) g1.ne
          | _ => simp [e3] at e1⟩
end
/-! ### repr of lists and tuples of plain data -/
def seqQ : D → Bool
  | .lst _ => true
  | .tup _ => true
  | _ => false
def repLD : D → Option D := fun d => if seqQ d = true then (toPD d).bind fun a => if a.showable = true ∧ a.hasDict = false ∧ a.depth ≤ 60 ∧ a.shown.length ≤ 100000 then some (.str a.shown) else none else none
section
variable {X : Cx} {c : Cf} {a : Expr} {ma : ME} {pos : Pos}
theorem call_reprD (hgd : X.A.guards = some []) (hu : X.A.units + 65 < cLine) : CallR X (.builtin "repr") (fun xs H Q => ∃ q d, xs = [.ref q] ∧ Dp X.K H (.ref q) d ∧ d.showable = true ∧ d.hasDict = false ∧ d.depth ≤ 60 ∧ d.shown.length ≤ 100000 ∧ Q (.str d.shown) H) := by
  intro pins s σ H vs us Q I r h
  obtain ⟨q, d, rfl, hd, h1, h2, h3, h4, qq⟩ := h
  obtain ⟨u1, rfl, ru⟩ := Vals.one r
  obtain ⟨as, r1⟩ := Dp.reads I d _ _ hd ru
  cases ru
  exact repr_of_reads' r1 h1 (fun z => by rw [h2] at z; cases z) hgd (by omega) (fun b o e => e) (fun h' u tk hk => ⟨.str _, H, I.kept hk, ⟨_, rfl⟩, qq⟩) (sz5 h4)
theorem dRepL {p0 : Pos} (hgd : X.A.guards = some []) (hu : X.A.units + 65 < cLine) (hg : Gl X "repr") (hm : X.mg "repr" = none) (ha : DE X c a ma) (hK : X.K = c.W.K := by rfl) (he : starEach [a] X.env = (false, eval a X.env) :: starEach [] X.env := by rfl) : DE X c (.Call (.Name "repr" p0) [a] [] pos) (mUn repLD ma) :=
  (pe_callB (call_reprD hgd hu) hg hm bb_repr (pa_cons ha pa_nil he) (by decide) (by decide) he rfl).imp fun σ H Q ⟨F, u, ρ, S, h⟩ =>
    ⟨F, u, ρ, S, (After.split h).imp fun x u1 F1 H1 _ s1 g1 h1 v rv => by
      obtain ⟨z, e1, h2⟩ := lft_some h1
      unfold repLD at e1
      split at e1
      · rename_i hs
        cases e2 : toPD x with
        | none => rw [e2] at e1; cases e1
        | some b =>
          rw [e2] at e1
          simp only [Option.bind_some] at e1
          split at e1
          · rename_i hc
            cases e1
            have hd := dp_of g1.ex x v b rv e2
            obtain ⟨q, rfl⟩ : ∃ q, v = .ref q := by
              cases x with
              | lst xs => obtain ⟨q, _, rfl, _⟩ := rv.lst_; exact ⟨q, rfl⟩
              | tup xs => obtain ⟨q, _, rfl, _⟩ := rv.tup_; exact ⟨q, rfl⟩
              | _ => cases hs
            exact ⟨q, b, rfl, by rw [hK]; exact hd, hc.1, hc.2.1, hc.2.2.1, hc.2.2.2, After.now g1 h2 _ (.str _)⟩
          · cases e1
      · cases e1⟩
end
end Mi

set_option Elab.async false
set_option linter.all false
set_option maxRecDepth 100000
set_option maxHeartbeats 4000000
/-! MiGb: a law from a promise that holds where no repr is under way. -/
namespace Mi
open PySem PySem.Spec PyProof.Rows L2 He
variable [TB : Tabl]
/-- the script's object, if it is none of the module's own -/
def scrH (K : PySem.W.Frag) (a : Addr) (ob : Obj) (ns : List Int) : Hp := fun b => if K.lookup a = none ∧ b = a then some (.frz ob (.lst (ns.map V.int))) else none
theorem scrH_some {K : PySem.W.Frag} {a b : Addr} {ob : Obj} {ns : List Int} {u : HO} (h : scrH K a ob ns b = some u) : K.lookup a = none ∧ b = a ∧ u = .frz ob (.lst (ns.map V.int)) := by
  unfold scrH at h
  split at h
  · rename_i hc
    cases h
    exact ⟨hc.1, hc.2, rfl⟩
  · cases h
theorem top_G {P : Program} {w : World} {K : PySem.W.Frag} {mg mb : Str → Option Value} {k : Nat} {fa a : Addr} {fd : FuncData} {x : Str} {sp : Sp} {s₁ : Shared} {vs : List Value} {ns : List Int}
    (KX : K.In s₁.heap) (hns : s₁.heap.Ns mainGlobals mg) (hb : s₁.heap.Ns builtinsNs mb) (hbb : ∀ x : Str, x ≠ "__name__" → mb x = bootBuiltins x) (hlim : s₁.heap.NoLimit) (hg : s₁.gens = #[])
    (ha : s₁.heap.get? a = some { cls := .type "list", data := .seq vs.toArray }) (hi : IntsAre vs ns) (hl : ns.length ≤ sizeLine) (hr : Room k callerA)
    (F : ∀ base : Heap, K.In base → base.Ns mainGlobals mg → FnG P w K mg base k fa fd [x] sp) (hbind : ∀ (s : Shared) (u : Value), BindsTo s fd ⟨[u], []⟩ [(x, u)])
    (hsp : ∀ H : Hp, Only H → SqL K H a (ns.map V.int) → sp [.ref a] H (fun v _ => v = .bl true) fun _ _ _ => False) :
    codeAny (model P w) callerA (.call (.ref fa) ⟨[.ref a], []⟩) (fun r s' => r = .ok (.ret (.bool true)) ∧ OldK s₁.heap s'.heap ∧ s'.os = s₁.os ∧ AllBare s'.gens) s₁ := by
  have rv := vals_ints hi
  have lenV := hi.length
  generalize hob : ({ cls := .type "list", data := .seq vs.toArray } : Obj) = ob at ha
  have fre : ∀ b : Addr, b ≠ a ∨ (∃ o, K.lookup a = some o) → scrH K a ob ns b = none := fun b h => by
    cases e : scrH K a ob ns b with
    | none => rfl
    | some u =>
      obtain ⟨h1, h2, _⟩ := scrH_some e
      rcases h with h | ⟨o, h⟩
      · exact absurd h2 h
      · rw [h1] at h; cases h
  have hO : Only (scrH K a ob ns) := fun b => by
    cases e : scrH K a ob ns b with
    | none => exact .inl rfl
    | some u => obtain ⟨_, _, rfl⟩ := scrH_some e; exact .inr ⟨_, _, rfl⟩
  have hok : HOk P w (scrH K a ob ns) s₁.heap := fun b u e => by
    obtain ⟨_, rfl, rfl⟩ := scrH_some e
    subst hob
    exact ⟨ha, by rw [List.length_map]; exact hl, vs, _, rv, ha⟩
  have hS : SqL K (scrH K a ob ns) a (ns.map V.int) := by
    cases hk : K.lookup a with
    | none => exact .inl (.inr ⟨ob, by unfold scrH; rw [if_pos ⟨hk, rfl⟩]⟩)
    | some o =>
      have e := KX a o hk
      rw [ha] at e
      cases e
      subst hob
      exact .inr ⟨_, vs.toArray, _, hk, rfl, rfl, rfl, by rw [List.size_toArray, lenV]; exact hl, by simpa using rv⟩
  have up : ∀ {b : Addr} {o : Obj}, s₁.heap.get? b = some o → b ≠ a ∨ (∃ o, K.lookup a = some o) → (hidT s₁.heap (scrH K a ob ns)).get? b = some o := fun e h => hidT_get e (fre _ h)
  have nsK : ∀ {b : Addr} {m : Str → Option Value}, s₁.heap.Ns b m → (hidT s₁.heap (scrH K a ob ns)).Ns b m := fun {b m} ⟨o, es, ep, e, d, r⟩ => ⟨o, es, ep, up e (.inl fun z => by
    subst z
    rw [ha] at e
    cases e
    subst hob
    cases d), d, r⟩
  have hKb : K.In (hidT s₁.heap (scrH K a ob ns)) := fun b o e => up (KX b o e) (by
    by_cases z : b = a
    · subst z; exact .inr ⟨o, e⟩
    · exact .inl z)
  obtain ⟨mc, h1, h2⟩ := hlim
  have e0 : Env0 P w K mg (hidT s₁.heap (scrH K a ob ns)) callerA [] s₁ (scrH K a ob ns) :=
    ⟨rfl, ⟨hKb, nsK hns, ⟨mb, nsK hb, hbb⟩, ⟨mc, nsK h1, h2⟩⟩, fun b o e => of_hidT e, Nat.le_of_eq (hidT_size _ _), trivial, fun b hb => absurd (show b ∈ ([] : List Addr) from hb) (by simp), hok, .of_eq hg⟩
  refine codeAny_mono ((F _ hKb (nsK hns)).run callerA [] s₁ _ ⟨[.ref a], []⟩ [.ref a] [.ref a] _ _ rfl hr e0 (hbind s₁ (.ref a)) (.cons rfl .nil) (hsp _ hO hS)) fun r s' h => ?_
  match r, h with
  | .error e, h => exact False.elim h
  | .ok (.ret u), h =>
    obtain ⟨v, H', os, bare, un, hok', r', q⟩ := h
    have q' : v = .bl true := q
    subst q'
    obtain rfl : u = Value.bool true := r'
    refine ⟨rfl, OldK.of_keep fun b o e => ?_, os, bare⟩
    cases q : scrH K a ob ns b with
    | none => exact un.keep b o e q (by intro z; exact absurd (show b ∈ ([] : List Addr) from z) (by simp)) (by simp)
    | some u =>
      obtain ⟨_, rfl, rfl⟩ := scrH_some q
      rw [ha] at e
      cases e
      exact (hok' _ _ (un.frzs _ _ _ q)).1
theorem walk_G {l : PySem.W.OpenLaw} {n k : Nat} {q : Program} {loose : List Str} {XP : (Str → Option Value) → Heap → Prop} {YP : World → Heap → Prop} {d : DefRec} {x : Str}
    (hn : l.most = some n) (hn2 : n ≤ sizeLine) (hdf : d.params.defaults = []) (hr : Room k callerA)
    (F : ∀ (w : World) (mg : Str → Option Value) (fa : Addr) (h : Heap), YP w h → h.Ns mainGlobals mg → mg d.name = some (.ref fa) →
      ∃ (K : PySem.W.Frag) (fd : FuncData) (sp : Sp), K.In h ∧ (∀ (s : Shared) (u : Value), BindsTo s fd ⟨[u], []⟩ [(x, u)]) ∧
        (∀ (H : Hp) (a : Addr) (ns : List Int), ns.length ≤ n → Only H → SqL K H a (ns.map V.int) → sp [.ref a] H (fun v _ => v = .bl true) fun _ _ _ => False) ∧
        ∀ base : Heap, K.In base → base.Ns mainGlobals mg → FnG l.prog w K mg base k fa fd [x] sp) :
    PySem.W.WalkO q loose XP YP l.row.toRowW d [] (fun f vs => PySem.call f vs) := by
  refine Att.attach_call hn hdf fun w s₀ s₁ mg mb fa o pm cd doc a vs ns G Y ho hd hcd hmg hobj hints hlen hg => ?_
  obtain ⟨K, fd, sp, KX, hb, hsp, hF⟩ := F w mg fa _ Y G.T.g hmg
  exact top_G KX G.T.g G.T.b G.T.builtins G.T.nolimit hg hobj hints (Nat.le_trans hlen hn2) hr hF hb fun H hO hS => hsp H a ns hlen hO hS
end Mi

set_option Elab.async false
set_option linter.all false
set_option maxRecDepth 100000
set_option maxHeartbeats 4000000
/-! MiGc: o.m(k = v), tuple(reversed(x)), x op= y by own methods, defs where no repr is under way. -/
namespace Mi
open PySem PySem.Spec PyProof.Rows L2 He
variable [TB : Tabl]
abbrev FOG (cs : List Str) (P : Program) (w : World) (K : PySem.W.Frag) (mg : Str → Option Value) (base : Heap) (k : Nat) (pl : Pl) (ps : List Str) (n : Nat) (mf : List D → M D) : Prop := FnG P w K mg base k (pl.ad K) (fdOf K (pl.ad K)) ps (spM (WW cs K) n mf)
/-! ### o.m(k = v, ..) -/
def mMethK (k m : Str) (nk np : Nat) (perm : List Nat) (mf : List D → M D) (mo : ME) (mk : MA) : ME := fun ρ => M.bind (mo ρ) fun d => match d with
  | .obj c ks ds => if c = k ∧ m ∉ ks then M.bind (mk ρ) fun es => if es.length = nk ∧ (gI perm [.obj c ks ds] es).length = np then mf (gI perm [.obj c ks ds] es) else lft none else lft none
  | _ => lft none
section
variable {X : Cx} {c : Cf} {k np : Nat} {f C : Addr} {fd : FuncData} {ps ks : List Str} {pos apos : Pos} {o : Expr} {kws : List Keyword} {mk : MA} {mf : List D → M D} {perm : List Nat} {m : Str} {pl : Sem Bool}
theorem pe_methN0 {sp : Sp} {ta : TE} {tk : TA} {gg : List Value → List Value → List Value} {gV : List V → List V → List V} (he : PE X o ta) (hc : Cls X.K C) (hm : Meth X.K C m f) (G : FnOk X.prog X.w X.K X.mg X.base CX0 k f fd ps sp) (hr : Room k X.A) (hb : KBn X.K fd ps 1 ks gg gV) (hkw : PK X kws tk)
    (hall : (backToKw pos (keywordEach kws X.env)).all (·.1.isSome) = true := by rfl) (hks : (backToKw pos (keywordEach kws X.env)).filterMap (·.1) = ks := by rfl)
    (hpl : ((backTo pos (starEach [] X.env)).any (·.1) || (backToKw pos (keywordEach kws X.env)).any (·.1.isNone)) = false := by rfl)
    (ht : eval (.Call (.Attribute o m apos) [] kws pos) X.env = (do
      let ov ← eval o X.env
      standAt apos.atName
      let (f, first) ← holding [ov] (getMethod ov m pl)
      callWith pos f first (backTo pos (starEach [] X.env)) (backToKw pos (keywordEach kws X.env))) := by rfl) :
    PE X (.Call (.Attribute o m apos) [] kws pos) (fun σ H Q => ta σ H fun x H1 => ∃ a dx fs, x = .ref a ∧ H1 a = some (.ins C dx fs) ∧ fs.lookup m = none ∧ tk σ H1 fun zs H2 => zs.length = ks.length ∧ sp (gV [.ref a] zs) H2 Q E0) := by
  refine ⟨fun pins s σ H Q I h => ?_⟩
  refine PySem.W.methodCall_KW (pl := pl) (thn (he.run pins s σ H _ I h) fun u s1 ⟨x, H1, I1, rx, a, dx, fs, ex, ea, l, q⟩ => ?_) ht
  subst ex
  obtain rfl : u = Value.ref a := rx
  refine getmeth_ok I1 ea hc hm l ?_
  refine PySem.W.callWith_KW0 (first := [.ref a]) (h₀ := X.base) I.ok.mod.kin hm.kp hall ?_ hpl
  refine thn (hkw.run pos pins s1 σ H1 _ I1 q) fun ws s3 ⟨zs, H2, I3, rz, l2, q2⟩ => ⟨I3.kIn, ?_⟩
  rw [hks]
  exact run_fnN (us := [.ref a]) (vs := [.ref a]) G hr hb pass0 I3 (.cons rfl .nil) rz rfl l2 q2
theorem dMethN0 {ck : Str} {mo : ME} (he : DE X c o mo) (hc : Cls X.K (c.W.cl ck)) (hm : Meth X.K (c.W.cl ck) m f) (G : FnOk X.prog X.w X.K X.mg X.base CX0 k f fd ps (spM c.W np mf)) (hr : Room k X.A) (hb : KBn X.K fd ps 1 ks (gI perm) (gI perm)) (hkw : DK X c kws mk)
    (hall : (backToKw pos (keywordEach kws X.env)).all (·.1.isSome) = true := by rfl) (hks : (backToKw pos (keywordEach kws X.env)).filterMap (·.1) = ks := by rfl)
    (hpl : ((backTo pos (starEach [] X.env)).any (·.1) || (backToKw pos (keywordEach kws X.env)).any (·.1.isNone)) = false := by rfl)
    (ht : eval (.Call (.Attribute o m apos) [] kws pos) X.env = (do
      let ov ← eval o X.env
      standAt apos.atName
      let (f, first) ← holding [ov] (getMethod ov m pl)
      callWith pos f first (backTo pos (starEach [] X.env)) (backToKw pos (keywordEach kws X.env))) := by rfl) :
    DE X c (.Call (.Attribute o m apos) [] kws pos) (mMethK ck m ks.length np perm mf mo mk) :=
  (pe_methN0 he hc hm G hr hb hkw hall hks hpl ht).imp fun σ H Q ⟨F, u, ρ, S, h⟩ => ⟨F, u, ρ, S, (After.split h).imp fun d u1 F1 H1 _ s1 g1 h1 v rv => by
    split at h1
    · rename_i c' ks' ds _h
      split at h1
      · rename_i hh
        obtain ⟨hh, hnm⟩ := hh
        subst hh
        obtain ⟨a, dx, vs, rfl, ha, lk, r⟩ := id rv.obj_
        refine ⟨a, dx, _, rfl, g1.ex _ _ ha, zip_none hnm, F1, u1, ρ, S.step s1 g1, (After.split h1).imp fun xs u2 F2 H2 _ s2 g2 h2 ws rws => ?_⟩
        split at h2
        · rename_i hl
          have rr := gI_reps (perm := perm) (Reps.cons (rv.mono s2.ef) Reps.nil) rws
          exact ⟨by rw [rws.1, hl.1], rr.1.trans hl.2, c.p, F2, u2, _, g2, rr, h2⟩
        · exact False.elim h2
      · exact False.elim h1
    · exact False.elim h1⟩
end
@[simp] theorem ok_methK {k mm : Str} {nk np : Nat} {perm : List Nat} {mf : List D → M D} {m : ME} {ms : MA} {ρ : Env} {u : PuS} {P : D → PuS → Prop} : Ok (mMethK k mm nk np perm mf m ms ρ) u P ↔ Ok (m ρ) u fun d u1 => ∃ ks ds, d = .obj k ks ds ∧ mm ∉ ks ∧ Ok (ms ρ) u1 fun es u2 => (es.length = nk ∧ (gI perm [.obj k ks ds] es).length = np) ∧ Ok (mf (gI perm [.obj k ks ds] es)) u2 P := by
  unfold mMethK; simp only [ok_bind]
  constructor
  · refine fun h => h.mono fun a u' z => ?_
    split at z
    · simp only [ok_ite] at z
      split at z
      · rename_i hh
        obtain ⟨rfl, hh2⟩ := hh
        refine ⟨_, _, rfl, hh2, (ok_bind.mp z).mono fun es u2 z => ?_⟩
        simp only [ok_ite] at z
        split at z
        · rename_i hl; exact ⟨hl, z⟩
        · exact (ok_none.mp z).elim
      · exact (ok_none.mp z).elim
    · exact (ok_none.mp z).elim
  · refine fun h => h.mono fun a u' z => ?_
    obtain ⟨ks, ds, rfl, hn, z⟩ := z
    simp only [ok_ite]
    rw [if_pos (by first | exact ⟨rfl, hn⟩ | exact ⟨trivial, hn⟩), ok_bind]
    refine z.mono fun es u2 z => ?_
    simp only [ok_ite]
    rw [if_pos z.1]
    exact z.2
/-! ### tuple(reversed(x)) -/
def tRvD : D → Option D
  | .lst xs => if xs.length ≤ 100000 then some (.tup xs.reverse) else none
  | _ => none
theorem Reps.rev {W : Wo} {p : Addr} {F : Hp} {vs : List V} {ds : List D} (a : Reps W p F vs ds) : Reps W p F vs.reverse ds.reverse := by
  refine ⟨by simp [a.1], fun i v d h1 h2 => ?_⟩
  have hi : i < vs.length := by have := (List.getElem?_eq_some_iff.mp h1).1; simpa using this
  rw [List.getElem?_reverse hi] at h1
  rw [List.getElem?_reverse (by rw [← a.1]; exact hi), ← a.1] at h2
  exact a.2 _ v d h1 h2
section
variable {X : Cx} {c : Cf} {a : Expr} {ma : ME} {p0 p2 pos pos2 : Pos}
theorem dTupRev (hc : X.calm = true) (hg : Gl X "tuple") (hm : X.mg "tuple" = none) (hg2 : Gl X "reversed") (hm2 : X.mg "reversed" = none) (ha : DE X c a ma) (hK : X.K = c.W.K := by rfl)
    (hs : starEach [a] X.env = (false, eval a X.env) :: starEach [] X.env := by rfl)
    (hs2 : starEach [.Call (.Name "reversed" p2) [a] [] pos2] X.env = (false, eval (.Call (.Name "reversed" p2) [a] [] pos2) X.env) :: starEach [] X.env := by rfl) : DE X c (.Call (.Name "tuple" p0) [.Call (.Name "reversed" p2) [a] [] pos2] [] pos) (mUn tRvD ma) :=
  (RT.pe_tupRev hc hg hm hg2 hm2 ha hs hs2).imp fun σ H Q ⟨F, u, ρ, S, h⟩ => ⟨F, u, ρ, S, (After.split h).imp fun x u1 F1 H1 _ s1 g1 h1 v rv => by
    obtain ⟨z, e1, h2⟩ := lft_some h1
    unfold tRvD at e1
    split at e1
    · split at e1
      · rename_i hl
        cases e1
        obtain ⟨q, vs, rfl, hq, r⟩ := rv.lst_
        refine ⟨q, vs, rfl, by rw [hK]; exact SqL.of (g1.ex _ _ hq), fun q' hq' => ?_⟩
        exact h2 _ _ (Stp.new g1 hq') (g1.new hq') _ (Rep.mkT upd_same (r.mono (Stp.new g1 hq').ef).rev)
      · cases e1
    · cases e1⟩
end
/-! ### x op= y by an own method -/
section
open PySem.W
variable {prog : Program} {w : World} {Mo : Model} {A : Around} {E : Value → Shared → Prop} {s : Shared} {K : PySem.W.Frag} {x C L f : Addr} {h₀ : Heap} {m : Str → Option Value} {ox : Obj} {od : Option Obj} {nm : String}
theorem fillsI_no {h : Heap} {cd : ClassData} {add : Bool} (X : K.In h) (hc : clsIn K C = some cd) (hm : cd.mro = [.ref C, .type "object"]) (h1 : findIn K (.ref C) (dunderI nm) = some none) (h2 : findIn K (.type "object") (dunderI nm) = some none) : Looks Mo h (fillsInplaceSlot (.ref C) nm add) false := by
  intro A Q E s k q
  have Lm : Looks Mo h (mroOf (.ref C)) cd.mro := (looks_clsIn X hc).andThen (f := fun cd => pure cd.mro) .now
  have Lm' := Lm.keeps k
  obtain ⟨hh, g, d, tt, os⟩ := s
  have X' : K.In hh := X.keeps k
  have L1 : Looks Mo hh (typeLookup (.ref C) (dunderI nm)) none := looks_findIn X' h1
  have L2 : Looks Mo hh (typeLookup (.type "object") (dunderI nm)) none := looks_findIn X' h2
  unfold fillsInplaceSlot
  refine wpAny_bind (Lm'.at ?_)
  rw [hm, List.anyM_cons, List.anyM_cons]
  refine wpAny_bind ?_
  repeat lk
  exact q
theorem inpl_K {op : Operator} {b : Value} {cd : ClassData} {Q : Value → Shared → Prop} (F : Fr h₀ L s.heap m) (X₀ : K.In h₀) (I : InstAt s.heap x ox C od) (hb : Looks (model prog w) s.heap (typeOf b) (.ref C)) (hcd : clsIn K C = some cd) (hm : cd.mro = [.ref C, .type "object"])
    (hs : findIn K (.ref C) (PySem.dunder op.info.2) = some (some (.ref f))) (hf : isFn K (.ref f) = true) (h1 : findIn K (.ref C) (dunderI op.info.2) = some none) (h2 : findIn K (.type "object") (dunderI op.info.2) = some none)
    (h : wpAny (model prog w) A (call (.ref f) [.ref x, b]) (PySem.W.CmpBack Q) E s) : wpAny (model prog w) A (inplaceOp op (.ref x) b) Q E s := by
  have X := X₀.keeps F.keep
  unfold inplaceOp
  refine wpAny_holding ?_
  refine wpAny_bind (I.type.here (wpAny_bind ((fillsI_no X hcd hm h1 h2).here ?_)))
  simp only [Bool.false_eq_true, if_false]
  refine wpAny_bind ?_
  unfold binaryOp1
  refine wpAny_bind (I.type.here (wpAny_bind (hb.here (wpAny_bind ((fills_K X hcd hm hs).here ?_)))))
  simp only [beq_self_eq_true, if_true]
  refine wpAny_bind (wpAny_pure ?_)
  simp only [Bool.and_false, Bool.false_eq_true, if_false, Bool.false_and]
  refine wpAny_bind (wpAny_pure ?_)
  simp only [Bool.false_eq_true, if_false]
  refine wpAny_bind (m := tryMethod (.ref x) _ b) ?_
  unfold tryMethod
  refine wpAny_bind (special_fn X I hs (beq_iff_eq.mp hf) (wpAny_mono h (fun v s' hv => ?_) fun _ _ e => e))
  cases v <;> first | exact hv.elim | exact wpAny_pure (wpAny_pure (wpAny_pure hv))
theorem inpl_T {op : Operator} {b : Value} {cd : ClassData} {fo ro rc : Option Value} {T : String} {Q : Value → Shared → Prop} (F : Fr h₀ L s.heap m) (X₀ : K.In h₀) (I : InstAt s.heap x ox C od) (hb : typeOf b = pure (.type T)) (hcd : clsIn K C = some cd) (hm : cd.mro = [.ref C, .type "object"])
    (hs : findIn K (.ref C) (PySem.dunder op.info.2) = some (some (.ref f))) (hf : isFn K (.ref f) = true) (hr : findIn K (.ref C) (dunderR op.info.2) = some rc) (hp : rc = none ∨ ∃ g : Addr, rc = some (.ref g))
    (h1 : findIn K (.type T) (PySem.dunder op.info.2) = some fo) (h2 : findIn K (.type T) (dunderR op.info.2) = some ro) (hsub : subIn K (.type T) (.ref C) = some false) (h3 : findIn K (.ref C) (dunderI op.info.2) = some none) (h4 : findIn K (.type "object") (dunderI op.info.2) = some none)
    (h : wpAny (model prog w) A (call (.ref f) [.ref x, b]) (PySem.W.CmpBack Q) E s) : wpAny (model prog w) A (inplaceOp op (.ref x) b) Q E s := by
  have X := X₀.keeps F.keep
  have hc := hcd
  rcases hi : op.info with ⟨sym, nm'⟩
  rw [hi] at hs hr h1 h2 h3 h4
  dsimp only at hs hr h1 h2 h3 h4
  have one := ksp_try X I hs hf h
  obtain ⟨hh, g, d, tt, os⟩ := s
  have L1 : Looks (model prog w) hh (typeOf (.ref x)) (.ref C) := I.type
  have L2 : Looks (model prog w) hh (typeOf b) (.type T) := Looks.of_pure hb
  have L3 : Looks (model prog w) hh (fillsNumberSlot (.ref C) nm') true := fills_K X hcd hm hs
  have L4 : Looks (model prog w) hh (fillsNumberSlot (.type T) nm') ((fo.isSome && !isSeqSlot fo) || (ro.isSome && !isSeqSlot ro)) := ksp_fillsT X h1 h2
  have L5 : Looks (model prog w) hh (isSubtype (.type T) (.ref C)) false := looks_subIn X hsub
  have L6 : Looks (model prog w) hh (numberSlotInPython (.ref C) nm') true := ksp_inPy X hs hr hp
  have L7 : Looks (model prog w) hh (numberSlotInPython (.type T) nm') false := Looks.of_pure rfl
  have L8 : Looks (model prog w) hh (typeLookup (.type T) (dunderR nm')) ro := looks_findIn X h2
  have L9 : ∀ add, Looks (model prog w) hh (fillsInplaceSlot (.ref C) nm' add) false := fun add => fillsI_no X hcd hm h3 h4
  generalize ((fo.isSome && !isSeqSlot fo) || (ro.isSome && !isSeqSlot ro)) = right at L4
  have hne : (Value.ref C == Value.type T) = false := Bool.eq_false_iff.mpr fun q => by cases beq_iff_eq.mp q
  unfold inplaceOp
  simp only [hi]
  refine wpAny_holding ?_
  refine wpAny_bind (L1.at (wpAny_bind ((L9 _).at ?_)))
  simp only [Bool.false_eq_true, if_false]
  refine wpAny_bind ?_
  unfold binaryOp1
  refine wpAny_bind (L1.at (wpAny_bind (L2.at (wpAny_bind (L3.at ?_)))))
  simp only [hne, Bool.false_eq_true, if_false]
  cases right with
  | false =>
    ksp_lk
    refine wpAny_mono one (fun r s' hr' => ?_) fun _ _ e => e
    obtain ⟨v, rfl, hq⟩ := hr'
    ksp_lk
    exact hq
  | true =>
    ksp_lk
    refine wpAny_mono one (fun r s' hr' => ?_) fun _ _ e => e
    obtain ⟨v, rfl, hq⟩ := hr'
    ksp_lk
    exact hq
end
/-- no own in-place method -/
structure NoI (K : PySem.W.Frag) (C : Addr) (ni : Str) : Prop where
  cls : ∃ cd, PySem.W.clsIn K C = some cd ∧ cd.mro = [.ref C, .type "object"]
  no : PySem.W.findIn K (.ref C) ni = some none
  obj : PySem.W.findIn K (.type "object") ni = some none
def noIB (c ni : Str) (K : PySem.W.Frag) : Bool := (match PySem.W.clsIn K (ga K c) with
    | some cd => cd.mro == [.ref (ga K c), .type "object"]
    | none => false) && ((match PySem.W.findIn K (.ref (ga K c)) ni with | some none => true | _ => false) && (match PySem.W.findIn K (.type "object") ni with | some none => true | _ => false))
theorem noI_ok {K : PySem.W.Frag} {c ni : Str} (h : noIB c ni K = true) : NoI K (ga K c) ni := by
  obtain ⟨h1, h⟩ := ba h
  obtain ⟨h2, h3⟩ := ba h
  refine ⟨?_, ?_, ?_⟩
  · split at h1
    · rename_i cd e; exact ⟨cd, e, beq_iff_eq.mp h1⟩
    · cases h1
  · split at h2
    · assumption
    · cases h2
  · split at h3
    · assumption
    · cases h3
def ownNSB (c n ni : Str) (K : PySem.W.Frag) : Bool := ownB c n K && noIB c ni K
theorem ownNS_ok {K : PySem.W.Frag} {c n ni : Str} (h : (Ft.raw (ownNSB c n ni)).ok K = true) : OwnM K (ga K c) ((Pl.meth c n).ad K) n ∧ NoI K (ga K c) ni := by
  obtain ⟨h1, h2⟩ := ba h
  exact ⟨own_ok h1, noI_ok h2⟩
def ownNIB (c n r ni : Str) (K : PySem.W.Frag) : Bool := ownIB c n r K && noIB c ni K
theorem ownNI_ok {K : PySem.W.Frag} {c n r ni : Str} (h : (Ft.raw (ownNIB c n r ni)).ok K = true) : OwnI K (ga K c) ((Pl.meth c n).ad K) n r ∧ NoI K (ga K c) ni := by
  obtain ⟨h1, h2⟩ := ba h
  exact ⟨ownI_ok h1, noI_ok h2⟩
def mAugOO (i : Nat) (k : Str) (mf : List D → M D) (m : ME) : MS := fun ρ => M.bind (lft (vSh ρ i)) fun x => M.bind (m ρ) fun y => match x, y with
  | .obj c ks ds, .obj c' ks' ds' => if c = k ∧ c' = k then M.bind (mf [.obj c ks ds, .obj c' ks' ds']) fun z => M.pure (.nx (ρ.set i (.sh z))) else lft none
  | _, _ => lft none
def mAugOI (i : Nat) (k : Str) (mf : List D → M D) (m : ME) : MS := fun ρ => M.bind (lft (vSh ρ i)) fun x => M.bind (m ρ) fun y => match x, y with
  | .obj c ks ds, .int n => if c = k then M.bind (mf [.obj c ks ds, .int n]) fun z => M.pure (.nx (ρ.set i (.sh z))) else lft none
  | _, _ => lft none
section
variable {X : Cx} {k : Nat} {f C : Addr} {fd : FuncData} {ps : List Str} {sp : Sp}
theorem ip_binO {op : Operator} {n ni : Str} (hn : PySem.dunder op.info.2 = n) (hi : dunderI op.info.2 = ni) (G : FnOk X.prog X.w X.K X.mg X.base CX0 k f fd ps sp) (hr : Room k X.A) (hb : Binds X.K fd ps []) (hc : OwnM X.K C f n) (hno : NoI X.K C ni) : PIp X op (rBinO C (isIns C) sp) := by
  intro pins s σ H x y v u Q I rx ry h
  obtain ⟨a, dx, fs, rfl, ha, ⟨b, dy, gs, rfl, hb'⟩, q⟩ := h
  cases rx
  cases ry
  obtain ⟨mA, J, _⟩ := ins_get I.hok ha
  obtain ⟨mB, J', _⟩ := ins_get I.hok hb'
  obtain ⟨od, J, _⟩ := J.look
  obtain ⟨od', J', _⟩ := J'.look
  obtain ⟨m, hF⟩ := I.fr
  obtain ⟨cd, hcd, hm⟩ := hno.cls
  refine inpl_K hF I.ok.mod.kin J J'.type hcd hm (by rw [hn]; exact hc.has) hc.fn (by rw [hi]; exact hno.no) (by rw [hi]; exact hno.obj) ?_
  exact wpAny_mono (call_at (vs := [.ref a, .ref b]) G hr rfl hb I (.cons rfl (.cons rfl .nil)) q) (fun v s' z => ep_back z) fun _ _ z => z
theorem ip_binI {op : Operator} {n r ni : Str} (hn : PySem.dunder op.info.2 = n) (hn2 : dunderR op.info.2 = r) (hi : dunderI op.info.2 = ni) (G : FnOk X.prog X.w X.K X.mg X.base CX0 k f fd ps sp) (hr : Room k X.A) (hb : Binds X.K fd ps []) (hc : OwnI X.K C f n r) (hno : NoI X.K C ni) : PIp X op (rBinO C isInt sp) := by
  intro pins s σ H x y v u Q I rx ry h
  obtain ⟨a, dx, fs, rfl, ha, ⟨i, rfl⟩, q⟩ := h
  cases rx
  obtain ⟨t, rfl⟩ := ry
  obtain ⟨mA, J, _⟩ := ins_get I.hok ha
  obtain ⟨od, J, _⟩ := J.look
  obtain ⟨m, hF⟩ := I.fr
  obtain ⟨rc, hrc, hrp⟩ := hc.rev
  obtain ⟨fo, hfo⟩ := hc.int
  obtain ⟨ro, hro⟩ := hc.rint
  obtain ⟨cd, hcd, hm⟩ := hno.cls
  refine inpl_T (T := "int") hF I.ok.mod.kin J rfl hcd hm (by rw [hn]; exact hc.own.has) hc.own.fn (by rw [hn2]; exact hrc) hrp (by rw [hn]; exact hfo) (by rw [hn2]; exact hro) hc.sub (by rw [hi]; exact hno.no) (by rw [hi]; exact hno.obj) ?_
  exact wpAny_mono (call_at (vs := [.ref a, .int i]) G hr rfl hb I (.cons rfl (.cons ⟨t, rfl⟩ .nil)) q) (fun v s' z => ep_back z) fun _ _ z => z
end
section
variable {X : Cx} {c : Cf} {k i : Nat} {f : Addr} {fd : FuncData} {ps : List Str} {mf : List D → M D} {ck x : Str} {e : Expr} {me : ME} {pos pos' : Pos}
theorem dAugOO {op : Operator} {n ni : Str} (hn : PySem.dunder op.info.2 = n) (hii : dunderI op.info.2 = ni) (G : FnOk X.prog X.w X.K X.mg X.base CX0 k f fd ps (spM c.W 2 mf)) (hr : Room k X.A) (hb : Binds X.K fd ps []) (hc : OwnM X.K (c.W.cl ck) f n ∧ NoI X.K (c.W.cl ck) ni)
    (hN : X.N.Nodup) (hi : X.N[i]? = some x) (hx : Loc X.env.scope x) (he : DE X c e me) (hf : X.fn x = true ∨ X.env.scope.names.lookup x = some .local := by first | exact .inl rfl | exact .inr rfl | assumption) : DS X c (.AugAssign (.Name x pos') op e pos) (mAugOO i ck mf me) :=
  (ps_aug hN hi hx he (ip_binO hn hii G hr hb hc.1 hc.2) hf).imp fun Dn σ H ⟨F, u, ρ, S, h⟩ => by
    obtain ⟨x0, e0, h⟩ := flowO.lft S h
    obtain ⟨v0, e1, r0⟩ := S.var e0
    refine ⟨v0, e1, F, u, ρ, S, (flowO.after S h).imp fun y u1 F1 H1 _ s1 g1 h1 w rw => ?_⟩
    have r0 := r0.mono s1.ef
    obtain ⟨S1, h1⟩ := h1
    split at h1
    · split at h1
      · rename_i hh
        obtain ⟨rfl, e2⟩ := hh
        subst e2
        obtain ⟨p1, dx, vs, rfl, h3, _⟩ := id r0.obj_
        obtain ⟨p2, dy, ws, rfl, h4, _⟩ := id rw.obj_
        refine ⟨p1, dx, _, rfl, g1.ex _ _ h3, ⟨p2, dy, _, rfl, g1.ex _ _ h4⟩, rfl, c.p, F1, u1, [_, _], g1, Reps.cons r0 (Reps.cons rw Reps.nil), (flowO.after S1 h1).imp fun z u2 F2 H2 _ s2 g2 h2 v rv => ?_⟩
        exact h2.2 _ F2 H2 (Same.refl _) (h2.1.set rv)
      · exact False.elim h1
    · exact False.elim h1
theorem dAugOI {op : Operator} {n r ni : Str} (hn : PySem.dunder op.info.2 = n) (hn2 : dunderR op.info.2 = r) (hii : dunderI op.info.2 = ni) (G : FnOk X.prog X.w X.K X.mg X.base CX0 k f fd ps (spM c.W 2 mf)) (hr : Room k X.A) (hb : Binds X.K fd ps []) (hc : OwnI X.K (c.W.cl ck) f n r ∧ NoI X.K (c.W.cl ck) ni)
    (hN : X.N.Nodup) (hi : X.N[i]? = some x) (hx : Loc X.env.scope x) (he : DE X c e me) (hf : X.fn x = true ∨ X.env.scope.names.lookup x = some .local := by first | exact .inl rfl | exact .inr rfl | assumption) : DS X c (.AugAssign (.Name x pos') op e pos) (mAugOI i ck mf me) :=
  (ps_aug hN hi hx he (ip_binI hn hn2 hii G hr hb hc.1 hc.2) hf).imp fun Dn σ H ⟨F, u, ρ, S, h⟩ => by
    obtain ⟨x0, e0, h⟩ := flowO.lft S h
    obtain ⟨v0, e1, r0⟩ := S.var e0
    refine ⟨v0, e1, F, u, ρ, S, (flowO.after S h).imp fun y u1 F1 H1 _ s1 g1 h1 w rw => ?_⟩
    have r0 := r0.mono s1.ef
    obtain ⟨S1, h1⟩ := h1
    split at h1
    · split at h1
      · rename_i hh
        subst hh
        obtain ⟨p1, dx, vs, rfl, h3, _⟩ := id r0.obj_
        refine ⟨p1, dx, _, rfl, g1.ex _ _ h3, ⟨_, rw.int_⟩, rfl, c.p, F1, u1, [_, _], g1, Reps.cons r0 (Reps.cons rw Reps.nil), (flowO.after S1 h1).imp fun z u2 F2 H2 _ s2 g2 h2 v rv => ?_⟩
        exact h2.2 _ F2 H2 (Same.refl _) (h2.1.set rv)
      · exact False.elim h1
    · exact False.elim h1
end
@[simp] theorem ok_augOO {ρ : Env} {u : PuS} {i : Nat} {k : Str} {mf : List D → M D} {m : ME} {P : Fl → PuS → Prop} : Ok (mAugOO i k mf m ρ) u P ↔ ∃ x, vSh ρ i = some x ∧ Ok (m ρ) u fun y u1 => ∃ ks ds ks' ds', x = .obj k ks ds ∧ y = .obj k ks' ds' ∧ Ok (mf [x, y]) u1 fun z u2 => P (.nx (ρ.set i (.sh z))) u2 := by
  unfold mAugOO; simp only [ok_bind, ok_lft]
  constructor
  · rintro ⟨x, e, z⟩
    refine ⟨x, e, z.mono fun y u1 z1 => ?_⟩
    split at z1
    · simp only [ok_ite] at z1
      split at z1
      · rename_i hh
        obtain ⟨rfl, hh2⟩ := hh
        subst hh2
        exact ⟨_, _, _, _, rfl, rfl, (ok_bind.mp z1).mono fun _ _ z => ok_pure.mp z⟩
      · exact (ok_none.mp z1).elim
    · exact (ok_none.mp z1).elim
  · rintro ⟨x, e, z⟩
    refine ⟨x, e, z.mono fun y u1 z1 => ?_⟩
    obtain ⟨ks, ds, ks', ds', rfl, rfl, z⟩ := z1
    simp only [ok_ite]
    rw [if_pos (by first | exact ⟨rfl, rfl⟩ | exact ⟨trivial, trivial⟩)]
    exact ok_bind.mpr (z.mono fun _ _ z => ok_pure.mpr z)
@[simp] theorem ok_augOI {ρ : Env} {u : PuS} {i : Nat} {k : Str} {mf : List D → M D} {m : ME} {P : Fl → PuS → Prop} : Ok (mAugOI i k mf m ρ) u P ↔ ∃ x, vSh ρ i = some x ∧ Ok (m ρ) u fun y u1 => ∃ ks ds n, x = .obj k ks ds ∧ y = .int n ∧ Ok (mf [x, y]) u1 fun z u2 => P (.nx (ρ.set i (.sh z))) u2 := by
  unfold mAugOI; simp only [ok_bind, ok_lft]
  constructor
  · rintro ⟨x, e, z⟩
    refine ⟨x, e, z.mono fun y u1 z1 => ?_⟩
    split at z1
    · simp only [ok_ite] at z1
      split at z1
      · rename_i hh
        subst hh
        exact ⟨_, _, _, rfl, rfl, (ok_bind.mp z1).mono fun _ _ z => ok_pure.mp z⟩
      · exact (ok_none.mp z1).elim
    · exact (ok_none.mp z1).elim
  · rintro ⟨x, e, z⟩
    refine ⟨x, e, z.mono fun y u1 z1 => ?_⟩
    obtain ⟨ks, ds, n, rfl, rfl, z⟩ := z1
    simp only [ok_ite]
    rw [if_pos (by first | rfl | trivial)]
    exact ok_bind.mpr (z.mono fun _ _ z => ok_pure.mpr z)
end Mi

set_option Elab.async false
set_option linter.all false
set_option maxRecDepth 100000
set_option maxHeartbeats 4000000
/-! MiGd: n * x by an own __rmul__. -/
namespace Mi
open PySem PySem.Spec PyProof.Rows L2 He
variable [TB : Tabl]
theorem int_mul_ins (a : Int) (t : Tok) (l C dx : Addr) :
    Meets (Builtin.«int.__mul__» ⟨[.int a t, .ref l], []⟩) (fun _ R s => s.heap.get? l = some (PySem.W.instObj C dx) ∧ R (.ok (.ret Value.notImplemented)) s) :=
  .of_wp fun prog w A R s h => by obtain ⟨hp, g, d, tk, os⟩ := s; obtain ⟨hl, h⟩ := h; unfold PySem.W.instObj at hl; wp_walk; exact ⟨_, rfl, h⟩
section
open PySem.W
variable {prog : Program} {w : World} {A : Around} {E : Value → Shared → Prop} {s : Shared} {K : PySem.W.Frag} {x C L f dx : Addr} {h₀ : Heap} {m : Str → Option Value} {ox : Obj} {od : Option Obj}
theorem rmul_K {a : Int} {t : Tok} {cd : ClassData} {rest : List Value} {g : Addr} {Q : Value → Shared → Prop} (F : Fr h₀ L s.heap m) (X₀ : K.In h₀) (O : s.heap.get? x = some (PySem.W.instObj C dx)) (I : InstAt s.heap x ox C od) (hcd : clsIn K C = some cd) (hm : cd.mro = .ref C :: rest)
    (hs0 : findIn K (.ref C) (PySem.dunder "mul") = some (some (.ref g))) (hs : findIn K (.ref C) (dunderR "mul") = some (some (.ref f))) (hf : isFn K (.ref f) = true) (hsub : subIn K (.ref C) (.type "int") = some false)
    (h : wpAny (model prog w) A (call (.ref f) [.ref x, .int a t]) (PySem.W.CmpBack Q) E s) : wpAny (model prog w) A (binaryOp .Mult (.int a t) (.ref x)) Q E s := by
  have X := X₀.keeps F.keep
  have hi : Operator.info .Mult = ("*", "mul") := rfl
  simp only [binaryOp, hi]
  refine wpAny_holding (wpAny_bind ?_)
  simp only [binaryOp1]
  refine wpAny_bind (wpAny_typeOf (typeIs_int s a t) (wpAny_bind (I.type.here (wpAny_bind (wpAny_of_eq PySem.F.fills_int_mul ?_)))))
  have hne : (Value.type "int" == Value.ref C) = false := Bool.eq_false_iff.mpr fun q => by cases beq_iff_eq.mp q
  simp only [hne, Bool.false_eq_true, if_false]
  refine wpAny_bind ((fills_K X hcd hm hs0).here ?_)
  simp only [Bool.and_self, if_true]
  refine wpAny_bind ((looks_subIn X hsub).here ?_)
  have hpy : numberSlotInPython (.type "int") "mul" = pure false := rfl
  simp only [Bool.false_eq_true, if_false, pure_bind, Bool.not_false, Bool.and_self, if_true, hpy]
  refine wpAny_bind (wpAny_tryMethod_declines (typeIs_int s a t) PySem.F.slot_int_mul (call_meets PySem.F.slot_int_mul (typeIs_int s a t) PySem.F.entry_int_mul (PySem.F.args_int_mul_2 _ _) (int_mul_ins a t x C dx) ⟨O, rfl, ?_⟩))
  refine wpAny_bind (wpAny_mono (ksp_try X I hs hf h) (fun r s' hr => ?_) fun _ _ e => e)
  obtain ⟨v, rfl, hq⟩ := hr
  exact wpAny_bind (wpAny_rule (wpAny_pure (wpAny_pure hq)))
end
/-- with an int on the left -/
structure OwnR (K : PySem.W.Frag) (C f : Addr) : Prop where
  own : OwnM K C f "__rmul__"
  cls : ∃ cd rest, PySem.W.clsIn K C = some cd ∧ cd.mro = .ref C :: rest
  fwd : ∃ g : Addr, PySem.W.findIn K (.ref C) "__mul__" = some (some (.ref g))
  sub : PySem.W.subIn K (.ref C) (.type "int") = some false
def ownRB (c : Str) (K : PySem.W.Frag) : Bool := ownSB c "__rmul__" K && ((match PySem.W.findIn K (.ref (ga K c)) "__mul__" with
    | some (some (.ref _)) => true
    | _ => false) && decide (PySem.W.subIn K (.ref (ga K c)) (.type "int") = some false))
theorem ownR_ok {K : PySem.W.Frag} {c : Str} (h : (Ft.raw (ownRB c)).ok K = true) : OwnR K (ga K c) ((Pl.meth c "__rmul__").ad K) := by
  obtain ⟨h1, h⟩ := ba h
  obtain ⟨h2, h3⟩ := ba h
  obtain ⟨o, s⟩ := ownS_ok h1
  refine ⟨o, PySem.W.ksp_first s, ?_, of_decide_eq_true h3⟩
  split at h2
  · rename_i g e; exact ⟨g, e⟩
  · cases h2
/-- the right operand is an instance of the class at C, the left one an int -/
def rBinR (C : Addr) (sp : Sp) : R2 := fun x y H Q => ∃ b dx fs, y = .ref b ∧ H b = some (.ins C dx fs) ∧ isInt x H ∧ sp [.ref b, x] H Q E0
section
variable {X : Cx} {k : Nat} {f C : Addr} {fd : FuncData} {ps : List Str} {sp : Sp}
theorem op_binR (G : FnOk X.prog X.w X.K X.mg X.base CX0 k f fd ps sp) (hr : Room k X.A) (hb : Binds X.K fd ps []) (hc : OwnR X.K C f) : OpR X (binaryOp .Mult) (rBinR C sp) := by
  intro pins s σ H x y v u Q I rx ry h
  obtain ⟨b, dx, fs, rfl, hb', ⟨i, rfl⟩, q⟩ := h
  cases ry
  obtain ⟨t, rfl⟩ := rx
  obtain ⟨mA, J, _⟩ := ins_get I.hok hb'
  have O := J.obj
  obtain ⟨od, J, _⟩ := J.look
  obtain ⟨m, hF⟩ := I.fr
  obtain ⟨cd, rest, hcd, hm⟩ := hc.cls
  obtain ⟨g, hg⟩ := hc.fwd
  refine rmul_K hF I.ok.mod.kin O J hcd hm hg hc.own.has hc.own.fn hc.sub ?_
  exact wpAny_mono (call_at (vs := [.ref b, .int i]) G hr rfl hb I (.cons rfl (.cons ⟨t, rfl⟩ .nil)) q) (fun v s' z => ep_back z) fun _ _ z => z
end
def mBinIR (k : Str) (mf : List D → M D) (ma mb : ME) : ME := fun ρ => M.bind (ma ρ) fun x => M.bind (mb ρ) fun y => match x, y with
  | .int n, .obj c ks ds => if c = k then mf [.obj c ks ds, .int n] else lft none
  | _, _ => lft none
section
variable {X : Cx} {c : Cf} {k : Nat} {f : Addr} {fd : FuncData} {ps : List Str} {mf : List D → M D} {ck : Str} {a b : Expr} {ma mb : ME} {pos : Pos}
theorem dBinIR (G : FnOk X.prog X.w X.K X.mg X.base CX0 k f fd ps (spM c.W 2 mf)) (hr : Room k X.A) (hb : Binds X.K fd ps []) (hc : OwnR X.K (c.W.cl ck) f) (ha : DE X c a ma) (hb' : DE X c b mb) : DE X c (.BinOp a .Mult b pos) (mBinIR ck mf ma mb) :=
  (pe_op (op_binR G hr hb hc) ha hb').imp fun σ H Q ⟨F, u, ρ, S, h⟩ =>
    ⟨F, u, ρ, S, (After.split h).imp fun x u1 F1 H1 _ s1 g1 h1 v rv => ⟨F1, u1, ρ, S.step s1 g1, (After.split h1).imp fun y u2 F2 H2 _ s2 g2 h2 w rw => by
      have rv := rv.mono s2.ef
      split at h2
      · split at h2
        · rename_i hh
          subst hh
          obtain ⟨p1, dx, vs, rfl, h3, _⟩ := id rw.obj_
          exact ⟨p1, dx, _, rfl, g2.ex _ _ h3, ⟨_, rv.int_⟩, rfl, c.p, F2, u2, [_, _], g2, Reps.cons rw (Reps.cons rv Reps.nil), h2⟩
        · exact False.elim h2
      · exact False.elim h2⟩⟩
end
@[simp] theorem ok_binIR {ρ : Env} {u : PuS} {P : D → PuS → Prop} {k : Str} {mf : List D → M D} {ma mb : ME} : Ok (mBinIR k mf ma mb ρ) u P ↔ Ok (ma ρ) u fun x u1 => Ok (mb ρ) u1 fun y u2 => ∃ ks ds n, y = .obj k ks ds ∧ x = .int n ∧ Ok (mf [y, x]) u2 P := by
  unfold mBinIR; simp only [ok_bind]
  constructor
  · refine fun h => h.mono fun x u' z => z.mono fun y u2 z1 => ?_
    split at z1
    · simp only [ok_ite] at z1
      split at z1
      · rename_i hh
        subst hh
        exact ⟨_, _, _, rfl, rfl, z1⟩
      · exact (ok_none.mp z1).elim
    · exact (ok_none.mp z1).elim
  · refine fun h => h.mono fun x u' z => z.mono fun y u2 z => ?_
    obtain ⟨ks, ds, n, rfl, rfl, z⟩ := z
    simp only [ok_ite]
    rw [if_pos (by first | rfl | trivial)]
    exact z
end Mi

set_option Elab.async false
set_option linter.all false
set_option maxRecDepth 100000
set_option maxHeartbeats 4000000
/-! MiTx: s.split(t), s.partition(t), int(text); C(k = v); class methods without a star. -/
namespace Mi
open PySem PySem.Spec PyProof.Rows L2 He StX
variable [TB : Tabl]
/-- s.m(e), s a text -/
def mS1 (f : Str → D → Option D) (mo me : ME) : ME := fun ρ => M.bind (mo ρ) fun d => match d with
  | .str a => M.bind (me ρ) fun y => lft (f a y)
  | _ => lft none
def splD (a : Str) : D → Option D
  | .str b => if (b.length == 0) = false ∧ a.length ≤ 90000 then some (.lst ((Txt.split a b).map D.str)) else none
  | _ => none
def prtD (a : Str) : D → Option D
  | .str b => if (b.length == 0) = false ∧ a.length ≤ 90000 then some (.tup [.str (Txt.partition a b).1, .str (Txt.partition a b).2.1, .str (Txt.partition a b).2.2]) else none
  | _ => none
theorem reps_strs {W : Wo} {p : Addr} {F : Hp} : ∀ ys : List Str, Reps W p F (ys.map V.str) (ys.map D.str)
  | [] => Reps.nil
  | y :: ys => Reps.cons (.str y) (reps_strs ys)
section
variable {X : Cx} {c : Cf} {o e : Expr} {mo me : ME} {pos apos : Pos}
theorem dSplit (ho : DE X c o mo) (he : DE X c e me) (hs : starEach [e] X.env = [(false, eval e X.env)] := by rfl) (hbase : attributeBase o "split" X.env (eval o X.env) = eval o X.env := by rfl) (hline : (apos.endLine == pos.line) = true := by rfl) : DE X c (.Call (.Attribute o "split" apos) [e] [] pos) (mS1 splD mo me) :=
  (pe_split ho he hs hbase hline).imp fun σ H Q ⟨F, u, ρ, S, h⟩ => ⟨F, u, ρ, S, (After.split h).imp fun x u1 F1 H1 _ s1 g1 h1 v rv => by
    cases x with
    | str a =>
      have h2 : After c.p F1 H1 (M.bind (me ρ) (fun y => lft (splD a y)) u1) (fun d _ F' H' => ∀ v, Rep c.W c.p F' v d → Q v H') := h1
      refine ⟨⟨a, rv.str_⟩, F1, u1, ρ, S.step s1 g1, (After.split h2).imp fun y u2 F2 H2 _ s2 g2 h3 w rw => ?_⟩
      obtain ⟨z, e1, h4⟩ := lft_some h3
      cases y with
      | str b =>
        have e2 : (if (b.length == 0) = false ∧ a.length ≤ 90000 then some (D.lst ((Txt.split a b).map D.str)) else none) = some z := e1
        split at e2
        · rename_i hc
          cases e2
          refine ⟨a, b, rv.str_, by rw [rw.str_], hc.1, sz5 (by omega), fun q hq => ?_⟩
          exact h4 _ _ (Stp.new g2 hq) (g2.new hq) _ (Rep.mkL upd_same (reps_strs _))
        · cases e2
      | _ => cases e1
    | _ => exact False.elim h1⟩
theorem dPart (ho : DE X c o mo) (he : DE X c e me) (hs : starEach [e] X.env = [(false, eval e X.env)] := by rfl) (hbase : attributeBase o "partition" X.env (eval o X.env) = eval o X.env := by rfl) (hline : (apos.endLine == pos.line) = true := by rfl) : DE X c (.Call (.Attribute o "partition" apos) [e] [] pos) (mS1 prtD mo me) :=
  (pe_partition ho he hs hbase hline).imp fun σ H Q ⟨F, u, ρ, S, h⟩ => ⟨F, u, ρ, S, (After.split h).imp fun x u1 F1 H1 _ s1 g1 h1 v rv => by
    cases x with
    | str a =>
      have h2 : After c.p F1 H1 (M.bind (me ρ) (fun y => lft (prtD a y)) u1) (fun d _ F' H' => ∀ v, Rep c.W c.p F' v d → Q v H') := h1
      refine ⟨⟨a, rv.str_⟩, F1, u1, ρ, S.step s1 g1, (After.split h2).imp fun y u2 F2 H2 _ s2 g2 h3 w rw => ?_⟩
      obtain ⟨z, e1, h4⟩ := lft_some h3
      cases y with
      | str b =>
        have e2 : (if (b.length == 0) = false ∧ a.length ≤ 90000 then some (D.tup [.str (Txt.partition a b).1, .str (Txt.partition a b).2.1, .str (Txt.partition a b).2.2]) else none) = some z := e1
        split at e2
        · rename_i hc
          cases e2
          refine ⟨a, b, rv.str_, by rw [rw.str_], hc.1, sz5 (by omega), fun q hq => ?_⟩
          exact h4 _ _ (Stp.new g2 hq) (g2.new hq) _ (Rep.mkT upd_same (Reps.cons (.str _) (Reps.cons (.str _) (Reps.cons (.str _) Reps.nil))))
        · cases e2
      | _ => cases e1
    | _ => exact False.elim h1⟩
end
theorem ok_S1 {f : Str → D → Option D} {mo me : ME} {ρ : Env} {u : PuS} {P : D → PuS → Prop} : Ok (mS1 f mo me ρ) u P ↔ Ok (mo ρ) u fun d u1 => ∃ a, d = .str a ∧ Ok (me ρ) u1 fun y u2 => ∃ z, f a y = some z ∧ P z u2 := by
  unfold mS1
  rw [ok_bind]
  constructor
  · refine fun h => h.mono fun d u1 z => ?_
    cases d with
    | str y => exact ⟨y, rfl, by simpa using z⟩
    | _ => exact (ok_none.mp z).elim
  · refine fun h => h.mono fun d u1 z => ?_
    obtain ⟨n, rfl, z⟩ := z
    simpa using z
/-- int(text) -/
def intSD : List D → Option D := fun ds => match ds with
  | [.str a] => match PySem.intText? a with
    | some n => if a.length ≤ 640 then some (.int n) else none
    | none => none
  | _ => none
theorem m_intS {W : Wo} : CallM W (fun xs H Q => ∃ a n, xs = [.str a] ∧ PySem.intText? a = some n ∧ a.length ≤ 640 ∧ Q (.int n) H) intSD := by
  intro p F H u xs as Q gd r h
  obtain ⟨d, e, _⟩ := lft_some h
  have e0 := e
  unfold intSD at e
  split at e
  · rename_i a
    split at e
    · rename_i n hn
      split at e
      · rename_i hl
        cases e
        obtain ⟨v, rfl, rv⟩ := r.one
        exact ⟨a, n, by rw [rv.str_], hn, hl, OpM.ret gd h e0 (.int n)⟩
      · cases e
    · cases e
  · cases e
/-! ### C(k = v, ..) -/
def mMakeK (ck : Str) (nk n : Nat) (perm : List Nat) (mf : List D → M (List Str × List D)) (mk : MA) : ME := fun ρ => M.bind (mk ρ) fun es => if es.length = nk then (if (gI perm [] es).length = n then M.bind (mf (gI perm [] es)) fun r => M.pure (.obj ck r.1 r.2) else lft none) else lft none
section
variable {X : Cx} {c : Cf} {k n : Nat} {f : Addr} {fd : FuncData} {ps ks : List Str} {x ck : Str} {p pos : Pos} {kws : List Keyword} {mk : MA} {mf : List D → M (List Str × List D)} {perm perm' : List Nat}
theorem dMakeK (hc : ck ∈ c.W.cs) (Mk' : Mk X.K (c.W.cl ck) f) (G : FnOk X.prog X.w X.K X.mg X.base CX0 k f fd ps (spI c.W ck n mf)) (hr : Room (k + 1) X.A) (hg : Gl X x) (hm : X.mg x = some (.ref (c.W.cl ck))) (hb : KBn X.K fd ps 1 ks (gI perm) (gI perm)) (hkw : DK X c kws mk) (hpm : ∀ (a : V) (zs : List V), gI perm [a] zs = a :: gI perm' [] zs)
    (hall : (backToKw pos (keywordEach kws X.env)).all (·.1.isSome) = true := by rfl) (hks : (backToKw pos (keywordEach kws X.env)).filterMap (·.1) = ks := by rfl) (hdb : (x == ("__debug__" : Str)) = false := by decide)
    (hpl : ((backTo pos (starEach [] X.env)).any (·.1) || (backToKw pos (keywordEach kws X.env)).any (·.1.isNone)) = false := by rfl) :
    DE X c (.Call (.Name x p) [] kws pos) (mMakeK ck ks.length n perm' mf mk) :=
  (pe_makeK0 Mk' G hr hg hm hb pass0 hkw hall hks hdb hpl).imp fun σ H Q ⟨F, u, ρ, S, h⟩ => ⟨F, u, ρ, S, (After.split h).imp fun es u1 F1 H1 _ s1 g1 h1 zs rzs => by
    have h2 : After c.p F1 H1 ((if es.length = ks.length then (if (gI perm' [] es).length = n then M.bind (mf (gI perm' [] es)) fun r => M.pure (D.obj ck r.1 r.2) else lft none) else lft none) u1) (fun d _ F' H' => ∀ v, Rep c.W c.p F' v d → Q v H') := h1
    split at h2
    · rename_i hl
      refine ⟨rfl, rzs.1.trans hl, fun a dx ha hdx hne => ?_⟩
      have rr := gI_reps (perm := perm') (Reps.nil (W := c.W) (p := c.p) (F := F1)) rzs
      show spI c.W ck n mf (gI perm [.ref a] zs) _ _ _
      rw [hpm]
      exact make_ok hc g1 rr h2 a dx ha hdx hne
    · exact False.elim h2⟩
end
@[simp] theorem ok_makeK {ck : Str} {nk n : Nat} {perm : List Nat} {mf : List D → M (List Str × List D)} {mk : MA} {ρ : Env} {u : PuS} {P : D → PuS → Prop} : Ok (mMakeK ck nk n perm mf mk ρ) u P ↔ Ok (mk ρ) u fun es u1 => es.length = nk ∧ (gI perm [] es).length = n ∧ Ok (mf (gI perm [] es)) u1 fun r u2 => P (.obj ck r.1 r.2) u2 := by
  unfold mMakeK; simp only [ok_bind]
  constructor
  · refine fun h => h.mono fun a u' z => ?_
    simp only [ok_ite] at z
    split at z
    · rename_i h1
      split at z
      · rename_i h2
        exact ⟨h1, h2, (ok_bind.mp z).mono fun _ _ z => ok_pure.mp z⟩
      · exact (ok_none.mp z).elim
    · exact (ok_none.mp z).elim
  · refine fun h => h.mono fun a u' z => ?_
    obtain ⟨h1, h2, z⟩ := z
    simp only [ok_ite]
    rw [if_pos h1, if_pos h2]
    exact ok_bind.mpr (z.mono fun _ _ z => ok_pure.mpr z)
/-! ### C.m(..), m a class method without a star -/
def mCMet1 (ck : Str) (n : Nat) (mf : List D → M D) (mo : ME) (ms : MA) : ME := fun ρ => M.bind (mo ρ) fun d => match d with
  | .cls c => if c = ck then M.bind (ms ρ) fun ds => if ds.length + 1 = n then mf (.cls ck :: ds) else lft none else lft none
  | _ => lft none
section
variable {X : Cx} {c : Cf} {k n : Nat} {p g : Addr} {mc : Value} {fd : FuncData} {ps : List Str} {o e : Expr} {es : List Expr} {m ck : Str} {pos apos : Pos} {mo : ME} {ms : MA} {pl : Sem Bool} {mf : List D → M D}
theorem dCMet1 (hc : ck ∈ c.W.cs) (he : DE X c o mo) (r : ClX.CRead X.K (c.W.cl ck) mc ∧ ClX.CMet X.K (c.W.cl ck) mc m p g) (F : FnOk X.prog X.w X.K X.mg X.base CX0 k g fd ps (spM c.W n mf)) (hr : Room k X.A) (hb : L2.Binds X.K fd ps []) (ha : DA X c (e :: es) ms)
    (hst : starEach (e :: es) X.env = (false, eval e X.env) :: starEach es X.env := by rfl) (hpl : (backTo pos (starEach es X.env)).any (·.1) = false := by rfl)
    (ht : eval (.Call (.Attribute o m apos) (e :: es) [] pos) X.env = (do
      let ov ← eval o X.env
      standAt apos.atName
      let (f, first) ← holding [ov] (getMethod ov m pl)
      callWith pos f first (backTo pos (starEach (e :: es) X.env)) (backToKw pos (keywordEach [] X.env))) := by rfl) :
    DE X c (.Call (.Attribute o m apos) (e :: es) [] pos) (mCMet1 ck n mf mo ms) :=
  (ClX.pe_cmeth he r.1 r.2 (F.raw hb .nil) hr pass0 ha hst hpl ht).imp fun σ H Q ⟨F, u, ρ, S, h⟩ => ⟨F, u, ρ, S, (After.split h).imp fun x u1 F1 H1 _ s1 g1 h1 v rv => by
    cases x with
    | cls cc =>
      have h3 : After c.p F1 H1 ((if cc = ck then M.bind (ms ρ) (fun ds => if ds.length + 1 = n then mf (.cls ck :: ds) else lft none) else lft none) u1) (fun d _ F' H' => ∀ v, Rep c.W c.p F' v d → Q v H') := h1
      by_cases hh : cc = ck
      · subst hh
        rw [if_pos rfl] at h3
        refine ⟨by cases rv; rfl, F1, u1, ρ, S.step s1 g1, (After.split h3).imp fun ds u2 F2 H2 ems s2 g2 h4 vs rvs => ?_⟩
        have h5 : After c.p F2 H2 ((if ds.length + 1 = n then mf (.cls cc :: ds) else lft none) u2) (fun d _ F' H' => ∀ v, Rep c.W c.p F' v d → Q v H') := h4
        by_cases hl : ds.length + 1 = n
        · rw [if_pos hl] at h5
          show spM c.W n mf ((.ref (c.W.cl cc) :: vs) ++ []) H2 Q E0
          rw [List.append_nil]
          exact ⟨by simp [rvs.1, hl], c.p, F2, u2, .cls cc :: ds, g2, Reps.cons (.cls cc hc) rvs, h5⟩
        · rw [if_neg hl] at h5; exact False.elim h5
      · rw [if_neg hh] at h3; exact False.elim h3
    | _ => exact False.elim h1⟩
end
@[simp] theorem ok_cmet1 {ck : Str} {n : Nat} {mf : List D → M D} {mo : ME} {ms : MA} {ρ : Env} {u : PuS} {P : D → PuS → Prop} : Ok (mCMet1 ck n mf mo ms ρ) u P ↔ Ok (mo ρ) u fun d u1 => d = .cls ck ∧ Ok (ms ρ) u1 fun ds u2 => ds.length + 1 = n ∧ Ok (mf (.cls ck :: ds)) u2 P := by
  unfold mCMet1; simp only [ok_bind]
  constructor
  · refine fun h => h.mono fun a u' z => ?_
    split at z
    · simp only [ok_ite] at z
      split at z
      · rename_i hh
        subst hh
        refine ⟨rfl, (ok_bind.mp z).mono fun es u2 z => ?_⟩
        simp only [ok_ite] at z
        split at z
        · rename_i hl; exact ⟨hl, z⟩
        · exact (ok_none.mp z).elim
      · exact (ok_none.mp z).elim
    · exact (ok_none.mp z).elim
  · refine fun h => h.mono fun a u' z => ?_
    obtain ⟨rfl, z⟩ := z
    simp only [ok_ite]
    rw [if_pos (by first | rfl | trivial), ok_bind]
    refine z.mono fun es u2 z => ?_
    simp only [ok_ite]
    rw [if_pos z.1]
    exact z.2
/-! ### C.m(k = v, ..), m a class method -/
def mCMetK (ck : Str) (nk n : Nat) (perm : List Nat) (mf : List D → M D) (mo : ME) (mk : MA) : ME := fun ρ => M.bind (mo ρ) fun d => match d with
  | .cls c => if c = ck then M.bind (mk ρ) fun es => if es.length = nk ∧ (gI perm [.cls ck] es).length = n then mf (gI perm [.cls ck] es) else lft none else lft none
  | _ => lft none
section
variable {X : Cx} {c : Cf} {k n : Nat} {p g C : Addr} {mc : Value} {fd : FuncData} {ps ks : List Str} {o : Expr} {kws : List Keyword} {m ck : Str} {pos apos : Pos} {mo : ME} {mk : MA} {pl : Sem Bool} {mf : List D → M D} {perm : List Nat}
theorem pe_cmethN0 {sp : Sp} {ta : TE} {tk : TA} {gg : List Value → List Value → List Value} {gV : List V → List V → List V} (he : PE X o ta) (r : ClX.CRead X.K C mc) (cm : ClX.CMet X.K C mc m p g) (F : FnOk X.prog X.w X.K X.mg X.base CX0 k g fd ps sp) (hr : Room k X.A) (hb : KBn X.K fd ps 1 ks gg gV) (hkw : PK X kws tk)
    (hall : (backToKw pos (keywordEach kws X.env)).all (·.1.isSome) = true := by rfl) (hks : (backToKw pos (keywordEach kws X.env)).filterMap (·.1) = ks := by rfl)
    (hpl : ((backTo pos (starEach [] X.env)).any (·.1) || (backToKw pos (keywordEach kws X.env)).any (·.1.isNone)) = false := by rfl)
    (ht : eval (.Call (.Attribute o m apos) [] kws pos) X.env = (do
      let ov ← eval o X.env
      standAt apos.atName
      let (f, first) ← holding [ov] (getMethod ov m pl)
      callWith pos f first (backTo pos (starEach [] X.env)) (backToKw pos (keywordEach kws X.env))) := by rfl) :
    PE X (.Call (.Attribute o m apos) [] kws pos) (fun σ H Q => ta σ H fun x H1 => x = .ref C ∧ tk σ H1 fun zs H2 => zs.length = ks.length ∧ sp (gV [.ref C] zs) H2 Q E0) := by
  refine ⟨fun pins s σ H Q I h => ?_⟩
  refine PySem.W.methodCall_KW (pl := pl) (thn (he.run pins s σ H _ I h) fun u s1 ⟨x, H1, I1, rx, ex, q⟩ => ?_) ht
  subst ex
  obtain rfl : u = Value.ref C := rx
  refine ClX.getmethcm_ok I1 r cm fun s2 I2 => ?_
  refine PySem.W.callWith_of (P := PySem.W.MethP X.K _ g (.ref C)) hpl (PySem.W.keeps_M cm.fi) (PyProof.Rows.evalArgs_kw2_nil hall ?_)
  refine thn (hkw.run pos _ s2 σ H1 _ I2 q) fun ws s3 ⟨zs, H2, I3, rz, l2, q2⟩ => ⟨⟨ClX.pin_at I3, I3.kIn⟩, ?_⟩
  rw [hks]
  have r1 : Vals [V.ref C] [Value.ref C] := .cons rfl .nil
  have z : wpAny (model X.prog X.w) X.A (call (.ref _) [] (ks.zip ws)) (EP X ((_, PySem.W.methodObj (.ref g) (.ref C)) :: pins) σ Q) X.xe s3 :=
    wpAny_call (PySem.W.method_call (ClX.pin_at I3) (codeAny_mono (F.run X.A X.stack s3 H2 ⟨[.ref C], ks.zip ws⟩ (gg [.ref C] ws) (gV [.ref C] zs) Q E0 hr I3.env0 (hb.to s3 [.ref C] ws I3.kIn rfl (rz.length.symm.trans l2)) (hb.rel r1 rz) q2) fun r s' hq => by
      cases r with
      | error e => exact pass0 _ σ H2 s3 e s' I3 hq
      | ok fl =>
        cases fl with
        | ret u => exact I3.after hq
        | next => exact False.elim hq
        | brk => exact False.elim hq
        | cont => exact False.elim hq))
  exact thn z fun _ _ y => ClX.unpinE y
theorem dCMetK (hc : ck ∈ c.W.cs) (he : DE X c o mo) (r : ClX.CRead X.K (c.W.cl ck) mc ∧ ClX.CMet X.K (c.W.cl ck) mc m p g) (F : FnOk X.prog X.w X.K X.mg X.base CX0 k g fd ps (spM c.W n mf)) (hr : Room k X.A) (hb : KBn X.K fd ps 1 ks (gI perm) (gI perm)) (hkw : DK X c kws mk)
    (hall : (backToKw pos (keywordEach kws X.env)).all (·.1.isSome) = true := by rfl) (hks : (backToKw pos (keywordEach kws X.env)).filterMap (·.1) = ks := by rfl)
    (hpl : ((backTo pos (starEach [] X.env)).any (·.1) || (backToKw pos (keywordEach kws X.env)).any (·.1.isNone)) = false := by rfl)
    (ht : eval (.Call (.Attribute o m apos) [] kws pos) X.env = (do
      let ov ← eval o X.env
      standAt apos.atName
      let (f, first) ← holding [ov] (getMethod ov m pl)
      callWith pos f first (backTo pos (starEach [] X.env)) (backToKw pos (keywordEach kws X.env))) := by rfl) :
    DE X c (.Call (.Attribute o m apos) [] kws pos) (mCMetK ck ks.length n perm mf mo mk) :=
  (pe_cmethN0 he r.1 r.2 F hr hb hkw hall hks hpl ht).imp fun σ H Q ⟨F, u, ρ, S, h⟩ => ⟨F, u, ρ, S, (After.split h).imp fun x u1 F1 H1 _ s1 g1 h1 v rv => by
    cases x with
    | cls cc =>
      have h3 : After c.p F1 H1 ((if cc = ck then M.bind (mk ρ) (fun es => if es.length = ks.length ∧ (gI perm [D.cls ck] es).length = n then mf (gI perm [D.cls ck] es) else lft none) else lft none) u1) (fun d _ F' H' => ∀ v, Rep c.W c.p F' v d → Q v H') := h1
      by_cases hh : cc = ck
      · subst hh
        rw [if_pos rfl] at h3
        refine ⟨by cases rv; rfl, F1, u1, ρ, S.step s1 g1, (After.split h3).imp fun es u2 F2 H2 _ s2 g2 h4 zs rzs => ?_⟩
        have h5 : After c.p F2 H2 ((if es.length = ks.length ∧ (gI perm [D.cls cc] es).length = n then mf (gI perm [D.cls cc] es) else lft none) u2) (fun d _ F' H' => ∀ v, Rep c.W c.p F' v d → Q v H') := h4
        split at h5
        · rename_i hl
          have rr := gI_reps (perm := perm) (Reps.cons (Rep.cls (W := c.W) (p := c.p) (F := F2) cc hc) Reps.nil) rzs
          exact ⟨by rw [rzs.1, hl.1], rr.1.trans hl.2, c.p, F2, u2, _, g2, rr, h5⟩
        · exact False.elim h5
      · rw [if_neg hh] at h3; exact False.elim h3
    | _ => exact False.elim h1⟩
end
@[simp] theorem ok_cmetK {ck : Str} {nk n : Nat} {perm : List Nat} {mf : List D → M D} {mo : ME} {ms : MA} {ρ : Env} {u : PuS} {P : D → PuS → Prop} : Ok (mCMetK ck nk n perm mf mo ms ρ) u P ↔ Ok (mo ρ) u fun d u1 => d = .cls ck ∧ Ok (ms ρ) u1 fun es u2 => (es.length = nk ∧ (gI perm [.cls ck] es).length = n) ∧ Ok (mf (gI perm [.cls ck] es)) u2 P := by
  unfold mCMetK; simp only [ok_bind]
  constructor
  · refine fun h => h.mono fun a u' z => ?_
    split at z
    · simp only [ok_ite] at z
      split at z
      · rename_i hh
        subst hh
        refine ⟨rfl, (ok_bind.mp z).mono fun es u2 z => ?_⟩
        simp only [ok_ite] at z
        split at z
        · rename_i hl; exact ⟨hl, z⟩
        · exact (ok_none.mp z).elim
      · exact (ok_none.mp z).elim
    · exact (ok_none.mp z).elim
  · refine fun h => h.mono fun a u' z => ?_
    obtain ⟨rfl, z⟩ := z
    simp only [ok_ite]
    rw [if_pos (by first | rfl | trivial), ok_bind]
    refine z.mono fun es u2 z => ?_
    simp only [ok_ite]
    rw [if_pos z.1]
    exact z.2
/-! ### f"{x}" by an own __str__ -/
structure OwnFm (K : PySem.W.Frag) (C f : Addr) : Prop where
  own : OwnM K C f "__str__"
  fm : PySem.W.findIn K (.ref C) "__format__" = some (some (.builtin "object.__format__"))
  mro : PySem.W.mroIn K C (.type "object") = some true
def ownFmB (c : Str) (K : PySem.W.Frag) : Bool := ownB c "__str__" K && (decide (PySem.W.findIn K (.ref (ga K c)) "__format__" = some (some (.builtin "object.__format__"))) && decide (PySem.W.mroIn K (ga K c) (.type "object") = some true))
theorem ownFm_ok {K : PySem.W.Frag} {c : Str} (h : (Ft.raw (ownFmB c)).ok K = true) : OwnFm K (ga K c) ((Pl.meth c "__str__").ad K) := by
  obtain ⟨h1, h⟩ := ba h
  obtain ⟨h2, h3⟩ := ba h
  exact ⟨own_ok h1, of_decide_eq_true h2, of_decide_eq_true h3⟩
section
variable {X : Cx} {c : Cf} {k : Nat} {f C : Addr} {fd : FuncData} {ps : List Str} {sp : Sp} {mf : List D → M D} {ck : Str} {a : Expr} {ma : ME} {pos : Pos}
theorem pe_fmtO {te : TE} (G : FnOk X.prog X.w X.K X.mg X.base CX0 k f fd ps sp) (hr : Room (k + 1) X.A) (hb : L2.Binds X.K fd ps []) (hc : OwnFm X.K C f) (he : PE X a te) : PE X (.FormattedValue a (-1) none pos) (fun σ H Q => te σ H fun x H1 => rTxt C sp [x] H1 Q) := by
  refine ⟨fun pins s σ H Q I h => ?_⟩
  refine wpAny_FormattedValue_plain (thn (he.run pins s σ H _ I h) fun v s1 hv => ?_)
  obtain ⟨x, H1, I1, r1, b, dx, fs, ex, hb', q⟩ := hv
  cases ex
  cases r1
  obtain ⟨mA, J, _⟩ := ins_get I1.hok hb'
  obtain ⟨od, J, _⟩ := J.look
  refine PySem.W.kfo_fieldS hr.in1.units0 I1.kIn J hc.fm hc.mro hc.own.has hc.own.fn ?_
  refine wpAny_mono (call_at (vs := [.ref b]) G hr.in1 rfl hb (I1.tok _) (.cons rfl .nil) q) (fun v s' z => ?_) fun _ _ z => z
  obtain ⟨w, H', I', rw, n, ew, qq⟩ := z
  subst ew
  obtain ⟨t, rfl⟩ := rw
  exact ⟨.str n, H', I', ⟨_, rfl⟩, qq⟩
theorem dFmtO (G : FnOk X.prog X.w X.K X.mg X.base CX0 k f fd ps (spM c.W 1 mf)) (hr : Room (k + 1) X.A) (hb : L2.Binds X.K fd ps []) (hc : OwnFm X.K (c.W.cl ck) f) (ha : DE X c a ma) : DE X c (.FormattedValue a (-1) none pos) (mStrO ck mf ma) :=
  (pe_fmtO G hr hb hc ha).imp fun σ H Q ⟨F, u, ρ, S, h⟩ =>
    ⟨F, u, ρ, S, (After.split h).imp fun x u1 F1 H1 _ s1 g1 h1 v rv => by
      cases x with
      | obj cc ks ds =>
        have h2 : After c.p F1 H1 ((if cc = ck then mTxt mf [.obj cc ks ds] else lft none) u1) (fun d _ F' H' => ∀ v, Rep c.W c.p F' v d → Q v H') := h1
        by_cases hh : cc = ck
        · subst hh
          rw [if_pos rfl] at h2
          obtain ⟨p1, dx, vs, rfl, h3, _⟩ := id rv.obj_
          exact txt_go g1 h3 rv h2
        · rw [if_neg hh] at h2; exact False.elim h2
      | _ => exact False.elim h1⟩
end
/-! ### a, b = xs, xs a list -/
def mGl (n : Nat) (gs : List D → Env → Option Env) : MG := fun d ρ => match d with
  | .lst ds => if ds.length = n then gs ds ρ else none
  | _ => none
section
variable {X : Cx} {c : Cf} {es : List Expr} {is : List Nat} {gs : List D → Env → Option Env} {pos : Pos}
theorem dGl {k n : Nat} (hc : X.calm = true) (h : DGs X c es is gs) (hn : (assignEach es X.env).length = n := by rfl) (hst : (assignEach es X.env).findIdx? (·.1) = none := by rfl) (hK : X.K = c.W.K := by rfl) : DG X c (.Tuple es k pos) is (mGl n gs) :=
  (pg_lst hc h hn hst).imp fun v σ H Q ⟨F, u, ρ, d, S, r, h⟩ => by
    cases d with
    | lst ds =>
      obtain ⟨a, vs, rfl, ht, rs⟩ := r.lst_
      have h' : match (if ds.length = n then gs ds ρ else none) with
        | some ρ' => ∀ σ', Sta c u F H σ' ρ' → Agr is σ σ' → Q σ' H
        | none => False := h
      by_cases hl : ds.length = n
      · rw [if_pos hl] at h'
        exact ⟨a, vs, rfl, by rw [hK]; exact SqL.of (S.gd.ex _ _ ht), rs.1.trans hl, F, u, ρ, ds, S, rs, h'⟩
      · rw [if_neg hl] at h'; exact False.elim h'
    | _ => exact False.elim h
end
@[simp] theorem s_Gl {n : Nat} {gs : List D → Env → Option Env} {ρ : Env} {xs : List D} : mGl n gs (.lst xs) ρ = if xs.length = n then gs xs ρ else none := rfl
end Mi

set_option Elab.async false
set_option linter.all false
set_option maxRecDepth 100000
set_option maxHeartbeats 4000000
/-! MiQa: the truth of objects, bool(object): by an own __len__, or always true. -/
namespace PySem.W
open PySem PySem.Calls PyProof.Rows Builtin
section
variable {prog : Program} {w : World} {A : Around} {E : Value → Shared → Prop} {s : Shared} {K : Frag} {x C L f : Addr} {h₀ : Heap} {m : Str → Option Value} {ox : Obj} {od : Option Obj}
theorem mi_len_run {Q : Value → Shared → Prop} (X : K.In s.heap) (I : InstAt s.heap x ox C od) (hs : findIn K (.ref C) "__len__" = some (some (.ref f))) (hf : isFn K (.ref f) = true)
    (h : wpAny (model prog w) A.in1 (call (.ref f) [.ref x]) (LenBack Q) E s) : wpAny (model prog w) A (runValue (.builtin "len" ⟨[.ref x], []⟩)) Q E s := by
  refine wpAny_runValue (codeAny_builtin entry_len ?_)
  rw [Around.under_plainId plain_len _]
  unfold Builtin.«len»
  refine wpAny_bind (m := oneArg "len" _) (wpAny_pure ?_)
  refine wpAny_bind (m := callSpecial? (.ref x) (Str.ofString "__len__")) (special_fn X I hs (beq_iff_eq.mp hf) (wpAny_mono h (fun r s' hr => ?_) fun _ _ y => y))
  cases r <;> first | exact hr.elim | skip
  rename_i n u
  obtain ⟨⟨h0, h1⟩, hq⟩ := hr
  refine wpAny_bind (wpAny_holding (wpAny_pure ?_))
  refine wpAny_bind (wpAny_letGo ?_)
  show wpAny _ _ (if n < 0 then _ else _) _ _ _
  rw [if_neg (by omega)]
  show wpAny _ _ (if n ≥ 2 ^ 63 then _ else _) _ _ _
  rw [if_neg (by omega)]
  exact wpAny_bind (wpAny_mkInt (wpAny_pure hq))
/-- the truth of an object with an own __len__ and no __bool__ -/
theorem mi_truthy_len {Q : Bool → Shared → Prop} (X : K.In s.heap) (I : InstAt s.heap x ox C od) (hb : findIn K (.ref C) "__bool__" = some none) (hs : findIn K (.ref C) "__len__" = some (some (.ref f))) (hf : isFn K (.ref f) = true)
    (h : wpAny (model prog w) A.in1 (call (.ref f) [.ref x]) (LenBack fun v s' => ∃ n t, v = .int n t ∧ Q (n != 0) s') E s) : wpAny (model prog w) A (truthy (.ref x)) Q E s := by
  unfold truthy
  refine wpAny_bind (m := callSpecial? (.ref x) (Str.ofString "__bool__")) (wpAny_bind (wpAny_bind (I.type.here ((looks_findIn X hb).here (wpAny_pure ?_)))))
  refine wpAny_bind (wpAny_bind (I.type.here ((looks_findIn X hs).here ?_)))
  simp only [Option.isNone_some, Bool.false_eq_true, if_false]
  refine wpAny_bind (wpAny_mono (mi_len_run X I hs hf h) (fun v s' hv => ?_) fun _ _ z => z)
  obtain ⟨n, t, rfl, hq⟩ := hv
  exact wpAny_pure hq
/-- .. of an object that has neither -/
theorem mi_truthy_none {Q : Bool → Shared → Prop} (X : K.In s.heap) (I : InstAt s.heap x ox C od) (hb : findIn K (.ref C) "__bool__" = some none) (hl : findIn K (.ref C) "__len__" = some none)
    (h : Q true s) : wpAny (model prog w) A (truthy (.ref x)) Q E s := by
  unfold truthy
  refine wpAny_bind (m := callSpecial? (.ref x) (Str.ofString "__bool__")) (wpAny_bind (wpAny_bind (I.type.here ((looks_findIn X hb).here (wpAny_pure ?_)))))
  refine wpAny_bind (wpAny_bind (I.type.here ((looks_findIn X hl).here ?_)))
  exact wpAny_pure h
theorem mi_meets_bool (l : Addr) : MeetsIn prog w (Builtin.«bool.__new__» ⟨[.type "bool", .ref l], []⟩) (fun A R s => wpAny (model prog w) A.in1 (truthy (.ref l)) (fun b s' => R (.ok (.ret (.bool b))) s') (fun e s' => R (.error e) s') s) := by
  intro A R s hs
  have f1 := F.conv_sub_bool
  obtain ⟨hp, g, d, tk, os⟩ := s
  unfold Builtin.«bool.__new__»
  repeat (any_goals (first | assumption | (with_reducible refine wpAny_mono hs (fun b s' hb => ?_) (fun _ _ z => z)) | wp_step))
theorem mi_call_bool {l : Addr} {Q : Value → Shared → Prop} (h : wpAny (model prog w) A.in1.in1 (truthy (.ref l)) (fun b s' => Q (.bool b) s') E s) : wpAny (model prog w) A (call (.type "bool") [.ref l]) Q E s :=
  callType_newIn F.called_bool F.newNe_bool (F.typeCall_bool_1 _) (F.newCall_bool_1 _) (fun obj => F.args_object_init_2 obj _) F.entry_bool_new (mi_meets_bool l) (wpAny_mono h (fun b s' hb => ⟨rfl, hb⟩) fun _ _ z => z)
end
end PySem.W

set_option Elab.async false
set_option linter.all false
set_option maxRecDepth 100000
set_option maxHeartbeats 4000000
/-! MiQr: what may stand on the right of an own operator. -/
namespace Mi
open PySem L2
/-- what may stand on the right -/
def rgtB (k : Str) (ks : List Str) : D → Bool
  | .obj c _ _ => decide (c = k) || decide (c ∈ ks)
  | d => (tyN d).isSome
end Mi

set_option Elab.async false
set_option linter.all false
set_option maxRecDepth 100000
set_option maxHeartbeats 4000000
/-! MiQe: own == and != with anything on the right; bool(object); C(e, .., k = v, ..). -/
namespace Mi
open PySem PySem.Spec PyProof.Rows L2 He
variable [TB : Tabl]
/-- what is asked of the class for == with anything on the right -/
structure EqA (K : PySem.W.Frag) (C f : Addr) (ks : List Addr) : Prop where
  eqc : EqC K C f
  ty : ∀ T ∈ ["NoneType", "bool", "int", "str", "tuple", "list", "dict"], PySem.W.notFirst K C (.type T) = true
  ob : ∀ D ∈ ks, PySem.W.notFirst K C (.ref D) = true
def eqAB (c : Str) (ks : List Str) (K : PySem.W.Frag) : Bool := (["NoneType", "bool", "int", "str", "tuple", "list", "dict"].all fun T => PySem.W.notFirst K (ga K c) (.type T)) && ks.all fun k => PySem.W.notFirst K (ga K c) (.ref (ga K k))
theorem eqA_ok {K : PySem.W.Frag} {c : Str} {ks : List Str} {f : Addr} (e : EqC K (ga K c) f) (h : (Ft.raw (eqAB c ks)).ok K = true) : EqA K (ga K c) f (ks.map (ga K)) := by
  have h' : eqAB c ks K = true := h
  unfold eqAB at h'
  obtain ⟨h1, h2⟩ := Bool.and_eq_true_iff.mp h'
  refine ⟨e, fun T hT => List.all_eq_true.mp h1 T hT, fun D hD => ?_⟩
  obtain ⟨k, hk, rfl⟩ := List.mem_map.mp hD
  exact List.all_eq_true.mp h2 k hk
def rOwnA (K : PySem.W.Frag) (C : Addr) (g : Bool → Bool) (sp : Sp) : R2 := fun x y H Q => ∃ a dx fs t, x = .ref a ∧ H a = some (.ins C dx fs) ∧ TyX K H y t ∧ PySem.W.notFirst K C t = true ∧ sp [.ref a, y] H (fun v H' => ∃ c, v = .bl c ∧ Q (.bl (g c)) H') E0
section
variable {X : Cx} {k : Nat} {f C : Addr} {fd : FuncData} {ps : List Str} {sp : Sp}
theorem op_eqAny (G : FnOk X.prog X.w X.K X.mg X.base CX0 k f fd ps sp) (hr : Room k X.A) (hb : Binds X.K fd ps []) (hc : EqC X.K C f) : OpR X (compareOp .Eq) (rOwnA X.K C id sp) := by
  intro pins s σ H x y v u Q I rx ry h
  obtain ⟨a, dx, fs, t, rfl, ha, hty, hn, q⟩ := h
  cases rx
  obtain ⟨mA, J, _⟩ := ins_get I.hok ha
  obtain ⟨od, J, _⟩ := J.look
  obtain ⟨m, hF⟩ := I.fr
  obtain ⟨P, kx, kp, _⟩ := kit_of I ry hty
  have L := kx.ty (model X.prog X.w) s.heap I.kIn kp
  show wpAny (model X.prog X.w) X.A (richCompare .Eq (.ref a) u) (EP X pins σ Q) X.xe s
  refine PySem.W.cmp_K (op := .Eq) hr.units0 hF I.ok.mod.kin J L hn hc.eq hc.fn ?_
  refine wpAny_mono (call_at (vs := [.ref a, y]) G hr rfl hb I (.cons rfl (.cons ry .nil)) q) (fun v s' z => ?_) fun _ _ z => z
  obtain ⟨w, H', I', rw, c, ew, qq⟩ := z
  subst ew
  cases rw
  exact ⟨.bl c, H', I', rfl, qq⟩
theorem op_neAny (G : FnOk X.prog X.w X.K X.mg X.base CX0 k f fd ps sp) (hr : Room (k + 1) X.A) (hb : Binds X.K fd ps []) (hc : EqC X.K C f) : OpR X (compareOp .NotEq) (rOwnA X.K C (fun b => !b) sp) := by
  intro pins s σ H x y v u Q I rx ry h
  obtain ⟨a, dx, fs, t, rfl, ha, hty, hn, q⟩ := h
  cases rx
  obtain ⟨mA, J, _⟩ := ins_get I.hok ha
  obtain ⟨od, J, _⟩ := J.look
  obtain ⟨m, hF⟩ := I.fr
  obtain ⟨P, kx, kp, _⟩ := kit_of I ry hty
  have L := kx.ty (model X.prog X.w) s.heap I.kIn kp
  show wpAny (model X.prog X.w) X.A (richCompare .NotEq (.ref a) u) (EP X pins σ Q) X.xe s
  refine PySem.W.mi_ne_K (by have := hr.units; omega) hF I.ok.mod.kin J L hn hc.ne hc.eq hc.fn hc.mro ?_
  refine wpAny_mono (call_at (vs := [.ref a, y]) G hr.in1 rfl hb I (.cons rfl (.cons ry .nil)) q) (fun v s' z => ?_) fun _ _ z => z
  obtain ⟨w, H', I', rw, c, ew, qq⟩ := z
  subst ew
  cases rw
  exact ⟨c, rfl, .bl (!c), H', I', rfl, qq⟩
end
def mCmA (k : Str) (g : Bool → Bool) (ks : List Str) (mf : List D → M D) (ma mb : ME) : ME := fun ρ => M.bind (ma ρ) fun x => M.bind (mb ρ) fun y => match x with
  | .obj c fs ds => if c = k ∧ rgtB k ks y = true then M.bind (mf [.obj c fs ds, y]) fun r => match r with
    | .bl b => M.pure (.bl (g b))
    | _ => lft none
    else lft none
  | _ => lft none
section
variable {X : Cx} {c : Cf} {k : Nat} {f : Addr} {fd : FuncData} {ps : List Str} {mf : List D → M D} {ck : Str} {ks : List Str} {g : Bool → Bool} {a b : Expr} {ma mb : ME} {pos : Pos}
theorem rdCmA (isi : IsiOk c.W) (O : EqA X.K (c.W.cl ck) f (ks.map c.W.cl)) (hK : X.K = c.W.K) : ∀ σ H Q, rdE c (mCmA ck g ks mf ma mb) σ H Q → tOp (rOwnA X.K (c.W.cl ck) g (spM c.W 2 mf)) (rdE c ma) (rdE c mb) σ H Q :=
  fun σ H Q ⟨F, u, ρ, S, h⟩ =>
    ⟨F, u, ρ, S, (After.split h).imp fun x u1 F1 H1 _ s1 g1 h1 v rv => ⟨F1, u1, ρ, S.step s1 g1, (After.split h1).imp fun y u2 F2 H2 _ s2 g2 h2 w rw => by
      have rv := rv.mono s2.ef
      split at h2
      · split at h2
        · rename_i hh
          obtain ⟨e1, hy⟩ := hh
          have e1 := e1.symm
          subst e1
          obtain ⟨p1, dx, vs, rfl, h3, _⟩ := id rv.obj_
          have ty : ∃ t, TyX X.K H2 w t ∧ PySem.W.notFirst X.K (c.W.cl ck) t = true := by
            cases hty : tyN y with
            | some t => exact ⟨.type t, by rw [hK]; exact tyN_ty g2.ex rw hty, O.ty t (tyN_mem hty)⟩
            | none =>
              cases y with
              | obj c' fs' ds' =>
                have hcc := rw.objc
                obtain ⟨p2, dy, ws, rfl, h4, _⟩ := id rw.obj_
                have tt : TyX X.K H2 (.ref p2) (.ref (c.W.cl c')) := .base (by rw [hK]; exact isi.ty c' hcc H2 p2 dy _ (g2.ex _ _ h4))
                rcases Bool.or_eq_true_iff.mp (show (decide (c' = ck) || decide (c' ∈ ks)) = true from hy) with z | z
                · have e := of_decide_eq_true z
                  rw [e] at tt
                  exact ⟨_, tt, by simp [PySem.W.notFirst]⟩
                · have e := of_decide_eq_true z
                  exact ⟨_, tt, O.ob _ (List.mem_map.mpr ⟨c', e, rfl⟩)⟩
              | _ => first | (cases hty; done) | exact Bool.noConfusion (show false = true from hy)
          obtain ⟨t, t1, t2⟩ := ty
          refine ⟨p1, dx, _, t, rfl, g2.ex _ _ h3, t1, t2, rfl, c.p, F2, u2, [_, _], g2, Reps.cons rv (Reps.cons rw Reps.nil), (After.split h2).imp fun d u3 F3 H3 _ s3 g3 h5 z rz => ?_⟩
          split at h5
          · rename_i bb _h
            have h6 : After c.p F3 H3 (some (D.bl (g bb), u3)) (fun d _ F' H' => ∀ v, Rep c.W c.p F' v d → Q v H') := h5
            exact ⟨bb, rz.bl_, After.now g3 h6 _ (.bl _)⟩
          · exact False.elim h5
        · exact False.elim h2
      · exact False.elim h2⟩⟩
theorem dEqA (isi : IsiOk c.W) (G : FnOk X.prog X.w X.K X.mg X.base CX0 k f fd ps (spM c.W 2 mf)) (hr : Room k X.A) (hb : Binds X.K fd ps []) (O : EqA X.K (c.W.cl ck) f (ks.map c.W.cl)) (ha : DE X c a ma) (hb' : DE X c b mb) (hK : X.K = c.W.K := by rfl) : DE X c (.Compare a [.Eq] [b] pos) (mCmA ck id ks mf ma mb) :=
  (pe_cmpR (op_eqAny G hr hb O.eqc) ha hb' (nomark _)).imp (rdCmA isi O hK)
theorem dNeA (isi : IsiOk c.W) (G : FnOk X.prog X.w X.K X.mg X.base CX0 k f fd ps (spM c.W 2 mf)) (hr : Room (k + 1) X.A) (hb : Binds X.K fd ps []) (O : EqA X.K (c.W.cl ck) f (ks.map c.W.cl)) (ha : DE X c a ma) (hb' : DE X c b mb) (hK : X.K = c.W.K := by rfl) : DE X c (.Compare a [.NotEq] [b] pos) (mCmA ck (fun b => !b) ks mf ma mb) :=
  (pe_cmpR (op_neAny G hr hb O.eqc) ha hb' (nomark _)).imp (rdCmA isi O hK)
theorem dTeqA (isi : IsiOk c.W) (G : FnOk X.prog X.w X.K X.mg X.base CX0 k f fd ps (spM c.W 2 mf)) (hr : Room k X.A) (hb : Binds X.K fd ps []) (O : EqA X.K (c.W.cl ck) f (ks.map c.W.cl)) (ha : DE X c a ma) (hb' : DE X c b mb) (hK : X.K = c.W.K := by rfl) : DT X c (.Compare a [.Eq] [b] pos) (mB (mCmA ck id ks mf ma mb)) :=
  (pt_cmpR (op_eqAny G hr hb O.eqc) ha hb' (nomark _)).imp fun σ H Q h => rdCmA isi O hK σ H _ (rdB σ H Q h)
theorem dTneA (isi : IsiOk c.W) (G : FnOk X.prog X.w X.K X.mg X.base CX0 k f fd ps (spM c.W 2 mf)) (hr : Room (k + 1) X.A) (hb : Binds X.K fd ps []) (O : EqA X.K (c.W.cl ck) f (ks.map c.W.cl)) (ha : DE X c a ma) (hb' : DE X c b mb) (hK : X.K = c.W.K := by rfl) : DT X c (.Compare a [.NotEq] [b] pos) (mB (mCmA ck (fun b => !b) ks mf ma mb)) :=
  (pt_cmpR (op_neAny G hr hb O.eqc) ha hb' (nomark _)).imp fun σ H Q h => rdCmA isi O hK σ H _ (rdB σ H Q h)
end
@[simp] theorem ok_cmA {k : Str} {g : Bool → Bool} {ks : List Str} {mf : List D → M D} {ma mb : ME} {ρ : Env} {u : PuS} {P : D → PuS → Prop} : Ok (mCmA k g ks mf ma mb ρ) u P ↔ Ok (ma ρ) u fun x u1 => Ok (mb ρ) u1 fun y u2 => ∃ fs ds, x = .obj k fs ds ∧ rgtB k ks y = true ∧ Ok (mf [x, y]) u2 fun r u3 => OnB r fun b => P (.bl (g b)) u3 := by
  unfold mCmA; simp only [ok_bind]
  constructor
  · refine fun h => h.mono fun x u' z => z.mono fun y u2 z1 => ?_
    split at z1
    · simp only [ok_ite] at z1
      split at z1
      · rename_i hh
        obtain ⟨rfl, hh2⟩ := hh
        refine ⟨_, _, rfl, hh2, (ok_bind.mp z1).mono fun r u3 z2 => ?_⟩
        split at z2
        · exact ⟨_, rfl, ok_pure.mp z2⟩
        · exact (ok_none.mp z2).elim
      · exact (ok_none.mp z1).elim
    · exact (ok_none.mp z1).elim
  · refine fun h => h.mono fun x u' z => z.mono fun y u2 z => ?_
    obtain ⟨fs, ds, rfl, hy, z⟩ := z
    simp only [ok_ite]
    rw [if_pos (by first | exact ⟨rfl, hy⟩ | exact ⟨trivial, hy⟩), ok_bind]
    refine z.mono fun r u3 z => ?_
    obtain ⟨b, rfl, z⟩ := z
    exact ok_pure.mpr z
@[simp] theorem rgt_non {k : Str} {ks : List Str} : rgtB k ks .non = true := rfl
@[simp] theorem rgt_bl {k : Str} {ks : List Str} {b : Bool} : rgtB k ks (.bl b) = true := rfl
@[simp] theorem rgt_int {k : Str} {ks : List Str} {b : Int} : rgtB k ks (.int b) = true := rfl
@[simp] theorem rgt_str {k : Str} {ks : List Str} {b : Str} : rgtB k ks (.str b) = true := rfl
@[simp] theorem rgt_tup {k : Str} {ks : List Str} {b : List D} : rgtB k ks (.tup b) = true := rfl
@[simp] theorem rgt_lst {k : Str} {ks : List Str} {b : List D} : rgtB k ks (.lst b) = true := rfl
@[simp] theorem rgt_dct {k : Str} {ks : List Str} {a : List Str} {b : List D} : rgtB k ks (.dct a b) = true := rfl
@[simp] theorem rgt_self {k : Str} {ks : List Str} {a : List Str} {b : List D} : rgtB k ks (.obj k a b) = true := by unfold rgtB; simp
/-! ### bool(object) -/
def mBoolOb (k : Str) (mf : List D → M D) (mo : ME) : ME := fun ρ => M.bind (mo ρ) fun d => match d with
  | .obj c ks ds => if c = k then M.bind (mf [.obj c ks ds]) fun r => match r with
    | .int n => if 0 ≤ n ∧ n ≤ 100000 then M.pure (.bl (n != 0)) else lft none
    | _ => lft none
    else lft none
  | _ => lft none
def mTrueOb (k : Str) (mo : ME) : ME := fun ρ => M.bind (mo ρ) fun d => match d with
  | .obj c _ _ => if c = k then M.pure (.bl true) else lft none
  | _ => lft none
def noBoolB (c : Str) (K : PySem.W.Frag) : Bool := eqO (PySem.W.findIn K (.ref (ga K c)) "__bool__") (some none)
def noLenB (c : Str) (K : PySem.W.Frag) : Bool := eqO (PySem.W.findIn K (.ref (ga K c)) "__bool__") (some none) && eqO (PySem.W.findIn K (.ref (ga K c)) "__len__") (some none)
theorem noBool_ok {K : PySem.W.Frag} {c : Str} (h : (Ft.raw (noBoolB c)).ok K = true) : PySem.W.findIn K (.ref (ga K c)) "__bool__" = some none := eqO_ok h
theorem noLen_ok {K : PySem.W.Frag} {c : Str} (h : (Ft.raw (noLenB c)).ok K = true) : PySem.W.findIn K (.ref (ga K c)) "__bool__" = some none ∧ PySem.W.findIn K (.ref (ga K c)) "__len__" = some none := by
  obtain ⟨h1, h2⟩ := ba h
  exact ⟨eqO_ok h1, eqO_ok h2⟩
def rBoolOb (C : Addr) (sp : Sp) : List V → Hp → VK → Prop := fun xs H Q => ∃ a dx fs, xs = [.ref a] ∧ H a = some (.ins C dx fs) ∧ sp [.ref a] H (fun v H' => ∃ n : Int, v = .int n ∧ 0 ≤ n ∧ n ≤ 100000 ∧ Q (.bl (n != 0)) H') E0
def rTrueOb (C : Addr) : List V → Hp → VK → Prop := fun xs H Q => ∃ a dx fs, xs = [.ref a] ∧ H a = some (.ins C dx fs) ∧ Q (.bl true) H
section
variable {X : Cx} {c : Cf} {k : Nat} {f C : Addr} {fd : FuncData} {ps : List Str} {sp : Sp} {mf : List D → M D} {ck : Str} {a : Expr} {ma : ME} {pos : Pos}
theorem call_boolOb (G : FnOk X.prog X.w X.K X.mg X.base CX0 k f fd ps sp) (hr : Room (k + 3) X.A) (hb : Binds X.K fd ps []) (h0 : PySem.W.findIn X.K (.ref C) "__bool__" = some none) (hs : PySem.W.findIn X.K (.ref C) "__len__" = some (some (.ref f))) (hf : PySem.W.isFn X.K (.ref f) = true) : CallR X (.type "bool") (rBoolOb C sp) := by
  intro pins s σ H vs us Q I r h
  obtain ⟨a, dx, fs, rfl, ha, q⟩ := h
  obtain ⟨u1, rfl, ru⟩ := Vals.one r
  cases ru
  obtain ⟨mA, J, _⟩ := ins_get I.hok ha
  obtain ⟨od, J, _⟩ := J.look
  refine PySem.W.mi_call_bool (PySem.W.mi_truthy_len I.kIn J h0 hs hf ?_)
  refine wpAny_mono (call_at (vs := [.ref a]) G hr.in1.in1.in1 rfl hb I (.cons rfl .nil) q) (fun v s' z => ?_) fun _ _ z => z
  obtain ⟨w, H', I', rw, n, ew, h0, h1, qq⟩ := z
  subst ew
  obtain ⟨t, rfl⟩ := rw
  exact ⟨⟨h0, by omega⟩, n, _, rfl, .bl (n != 0), H', I'.tok _, rfl, qq⟩
theorem call_trueOb (hl : PySem.W.findIn X.K (.ref C) "__bool__" = some none ∧ PySem.W.findIn X.K (.ref C) "__len__" = some none) : CallR X (.type "bool") (rTrueOb C) := by
  intro pins s σ H vs us Q I r h
  obtain ⟨a, dx, fs, rfl, ha, q⟩ := h
  obtain ⟨u1, rfl, ru⟩ := Vals.one r
  cases ru
  obtain ⟨mA, J, _⟩ := ins_get I.hok ha
  obtain ⟨od, J, _⟩ := J.look
  exact PySem.W.mi_call_bool (PySem.W.mi_truthy_none I.kIn J hl.1 hl.2 ⟨.bl true, H, I, rfl, q⟩)
theorem dBoolOb {p0 : Pos} (G : FnOk X.prog X.w X.K X.mg X.base CX0 k f fd ps (spM c.W 1 mf)) (hr : Room (k + 3) X.A) (hb : Binds X.K fd ps []) (h0 : PySem.W.findIn X.K (.ref (c.W.cl ck)) "__bool__" = some none) (hs : PySem.W.findIn X.K (.ref (c.W.cl ck)) "__len__" = some (some (.ref f))) (hf : PySem.W.isFn X.K (.ref f) = true)
    (hg : Gl X "bool") (hm : X.mg "bool" = none) (ha : DE X c a ma) (he : starEach [a] X.env = (false, eval a X.env) :: starEach [] X.env := by rfl) : DE X c (.Call (.Name "bool" p0) [a] [] pos) (mBoolOb ck mf ma) :=
  (pe_callTy (call_boolOb G hr hb h0 hs hf) hg hm bb_bool (pa_cons ha pa_nil he) (by decide) (by decide) he rfl).imp fun σ H Q ⟨F, u, ρ, S, h⟩ =>
    ⟨F, u, ρ, S, (After.split h).imp fun x u1 F1 H1 _ s1 g1 h1 v rv => by
      split at h1
      · split at h1
        · rename_i hh
          subst hh
          obtain ⟨p1, dx, vs, rfl, h3, _⟩ := id rv.obj_
          refine ⟨p1, dx, _, rfl, g1.ex _ _ h3, rfl, c.p, F1, u1, [_], g1, Reps.cons rv Reps.nil, (After.split h1).imp fun d u3 F3 H3 _ s3 g3 h5 z rz => ?_⟩
          split at h5
          · rename_i n _h
            split at h5
            · rename_i hn
              have h6 : After c.p F3 H3 (some (D.bl (n != 0), u3)) (fun d _ F' H' => ∀ v, Rep c.W c.p F' v d → Q v H') := h5
              exact ⟨n, rz.int_, hn.1, hn.2, After.now g3 h6 _ (.bl _)⟩
            · exact False.elim h5
          · exact False.elim h5
        · exact False.elim h1
      · exact False.elim h1⟩
theorem dTrueOb {p0 : Pos} (hl : PySem.W.findIn X.K (.ref (c.W.cl ck)) "__bool__" = some none ∧ PySem.W.findIn X.K (.ref (c.W.cl ck)) "__len__" = some none)
    (hg : Gl X "bool") (hm : X.mg "bool" = none) (ha : DE X c a ma) (he : starEach [a] X.env = (false, eval a X.env) :: starEach [] X.env := by rfl) : DE X c (.Call (.Name "bool" p0) [a] [] pos) (mTrueOb ck ma) :=
  (pe_callTy (call_trueOb hl) hg hm bb_bool (pa_cons ha pa_nil he) (by decide) (by decide) he rfl).imp fun σ H Q ⟨F, u, ρ, S, h⟩ =>
    ⟨F, u, ρ, S, (After.split h).imp fun x u1 F1 H1 _ s1 g1 h1 v rv => by
      split at h1
      · split at h1
        · rename_i hh
          subst hh
          obtain ⟨p1, dx, vs, rfl, h3, _⟩ := id rv.obj_
          have h6 : After c.p F1 H1 (some (D.bl true, u1)) (fun d _ F' H' => ∀ v, Rep c.W c.p F' v d → Q v H') := h1
          exact ⟨p1, dx, _, rfl, g1.ex _ _ h3, After.now g1 h6 _ (.bl _)⟩
        · exact False.elim h1
      · exact False.elim h1⟩
end
@[simp] theorem ok_boolOb {k : Str} {mf : List D → M D} {m : ME} {ρ : Env} {u : PuS} {P : D → PuS → Prop} : Ok (mBoolOb k mf m ρ) u P ↔ Ok (m ρ) u fun d u1 => ∃ ks ds, d = .obj k ks ds ∧ Ok (mf [d]) u1 fun r u2 => ∃ n, r = .int n ∧ (0 ≤ n ∧ n ≤ 100000) ∧ P (.bl (n != 0)) u2 := by
  unfold mBoolOb; simp only [ok_bind]
  constructor
  · refine fun h => h.mono fun a u' z => ?_
    cases a with
    | obj c ks ds =>
      simp only [ok_ite] at z
      split at z
      · rename_i h; subst h
        refine ⟨_, _, rfl, (ok_bind.mp z).mono fun r u3 z => ?_⟩
        split at z
        · simp only [ok_ite] at z
          split at z
          · exact ⟨_, rfl, by assumption, ok_pure.mp z⟩
          · exact (ok_none.mp z).elim
        · exact (ok_none.mp z).elim
      · exact (ok_none.mp z).elim
    | _ => exact (ok_none.mp z).elim
  · refine fun h => h.mono fun a u' z => ?_
    obtain ⟨ks, ds, rfl, z⟩ := z
    simp only [ok_ite, if_true]
    rw [ok_bind]
    refine z.mono fun r u3 z => ?_
    obtain ⟨b, rfl, h, z⟩ := z
    simp only [ok_ite]
    rw [if_pos h]
    exact ok_pure.mpr z
@[simp] theorem ok_trueOb {k : Str} {m : ME} {ρ : Env} {u : PuS} {P : D → PuS → Prop} : Ok (mTrueOb k m ρ) u P ↔ Ok (m ρ) u fun d u1 => ∃ ks ds, d = .obj k ks ds ∧ P (.bl true) u1 := by
  unfold mTrueOb; simp only [ok_bind]
  constructor
  · refine fun h => h.mono fun a u' z => ?_
    cases a with
    | obj c ks ds =>
      simp only [ok_ite] at z
      split at z
      · rename_i h; subst h
        exact ⟨_, _, rfl, ok_pure.mp z⟩
      · exact (ok_none.mp z).elim
    | _ => exact (ok_none.mp z).elim
  · refine fun h => h.mono fun a u' z => ?_
    obtain ⟨ks, ds, rfl, z⟩ := z
    simp only [ok_ite, if_true]
    exact ok_pure.mpr z
/-! ### C(e, .., k = v, ..) -/
def mMakeN (ck : Str) (np nk n : Nat) (perm : List Nat) (mf : List D → M (List Str × List D)) (ms mk : MA) : ME := fun ρ => M.bind (ms ρ) fun ds => M.bind (mk ρ) fun es => if ds.length = np ∧ es.length = nk then (if (gI perm ds es).length = n then M.bind (mf (gI perm ds es)) fun r => M.pure (.obj ck r.1 r.2) else lft none) else lft none
section
variable {X : Cx} {c : Cf} {k n np : Nat} {f : Addr} {fd : FuncData} {ps ks : List Str} {x ck : Str} {p pos : Pos} {e : Expr} {es : List Expr} {kws : List Keyword} {ms mk : MA} {mf : List D → M (List Str × List D)} {perm perm' : List Nat}
theorem dMakeN (hc : ck ∈ c.W.cs) (Mk' : Mk X.K (c.W.cl ck) f) (G : FnOk X.prog X.w X.K X.mg X.base CX0 k f fd ps (spI c.W ck n mf)) (hr : Room (k + 1) X.A) (hg : Gl X x) (hm : X.mg x = some (.ref (c.W.cl ck))) (hb : KBn X.K fd ps (np + 1) ks (gI perm) (gI perm)) (ha : DA X c (e :: es) ms) (hkw : DK X c kws mk) (hpm : ∀ (a : V) (vs zs : List V), gI perm (a :: vs) zs = a :: gI perm' vs zs)
    (hall : (backToKw pos (keywordEach kws X.env)).all (·.1.isSome) = true := by rfl) (hks : (backToKw pos (keywordEach kws X.env)).filterMap (·.1) = ks := by rfl) (hdb : (x == ("__debug__" : Str)) = false := by decide)
    (he : starEach (e :: es) X.env = (false, eval e X.env) :: starEach es X.env := by rfl)
    (hpl : ((backTo pos (starEach (e :: es) X.env)).any (·.1) || (backToKw pos (keywordEach kws X.env)).any (·.1.isNone)) = false := by rfl) :
    DE X c (.Call (.Name x p) (e :: es) kws pos) (mMakeN ck np ks.length n perm' mf ms mk) :=
  (pe_makeK Mk' G hr hg hm hb pass0 ha hkw hall hks hdb he hpl).imp fun σ H Q ⟨F, u, ρ, S, h⟩ => ⟨F, u, ρ, S, (After.split h).imp fun ds u1 F1 H1 _ s1 g1 h1 vs rvs => ⟨F1, u1, ρ, S.step s1 g1, (After.split h1).imp fun es u2 F2 H2 _ s2 g2 h1 zs rzs => by
    have h2 : After c.p F2 H2 ((if ds.length = np ∧ es.length = ks.length then (if (gI perm' ds es).length = n then M.bind (mf (gI perm' ds es)) fun r => M.pure (D.obj ck r.1 r.2) else lft none) else lft none) u2) (fun d _ F' H' => ∀ v, Rep c.W c.p F' v d → Q v H') := h1
    split at h2
    · rename_i hl
      refine ⟨(rvs.1).trans hl.1, rzs.1.trans hl.2, fun a dx ha hdx hne => ?_⟩
      have rr := gI_reps (perm := perm') (rvs.mono s2.ef) rzs
      show spI c.W ck n mf (gI perm (.ref a :: vs) zs) _ _ _
      rw [hpm]
      exact make_ok hc g2 rr h2 a dx ha hdx hne
    · exact False.elim h2⟩⟩
end
@[simp] theorem ok_makeN {ck : Str} {np nk n : Nat} {perm : List Nat} {mf : List D → M (List Str × List D)} {ms mk : MA} {ρ : Env} {u : PuS} {P : D → PuS → Prop} : Ok (mMakeN ck np nk n perm mf ms mk ρ) u P ↔ Ok (ms ρ) u fun ds u1 => Ok (mk ρ) u1 fun es u2 => (ds.length = np ∧ es.length = nk) ∧ (gI perm ds es).length = n ∧ Ok (mf (gI perm ds es)) u2 fun r u3 => P (.obj ck r.1 r.2) u3 := by
  unfold mMakeN; simp only [ok_bind]
  constructor
  · refine fun h => h.mono fun a u' z => z.mono fun b u2 z => ?_
    simp only [ok_ite] at z
    split at z
    · rename_i h1
      split at z
      · rename_i h2
        exact ⟨h1, h2, (ok_bind.mp z).mono fun _ _ z => ok_pure.mp z⟩
      · exact (ok_none.mp z).elim
    · exact (ok_none.mp z).elim
  · refine fun h => h.mono fun a u' z => z.mono fun b u2 z => ?_
    obtain ⟨h1, h2, z⟩ := z
    simp only [ok_ite]
    rw [if_pos h1, if_pos h2]
    exact ok_bind.mpr (z.mono fun _ _ z => ok_pure.mpr z)
end Mi

set_option Elab.async false
set_option linter.all false
set_option maxRecDepth 100000
set_option maxHeartbeats 4000000
/-! MiQd: {} and {k: v} with a text as the key. -/
namespace Mi
open PySem PySem.Spec PyProof.Rows L2
variable [TB : Tabl]
section
variable {X : Cx} {c : Cf} {pos : Pos}
theorem dDct0 : DE X c (.Dict [] [] pos) (mC (.dct [] [])) := pe_dnewK.imp fun σ H Q ⟨F, u, ρ, S, h⟩ p hp => by
  have h1 : After c.p F H (some (D.dct [] [], u)) (fun d _ F' H' => ∀ v, Rep c.W c.p F' v d → Q v H') := h
  exact h1 _ _ (Stp.new S.gd hp) (S.gd.new hp) (.ref p) (.dct (vs := []) upd_same rfl rfl fun i v d e => by simp at e)
def mDct1 (k : Str) (mv : ME) : ME := fun ρ => M.bind (mv ρ) fun d => M.pure (.dct [k] [d])
theorem tabs_overD {T : List (Addr × Str)} {H : Hp} {q : Addr} {o : HO} {xs : List (Key × V)} (hq : H q = some (.dK xs)) (t : LamX.Tabs T H) : LamX.Tabs T (upd H q o) := fun P hP => by
  obtain ⟨ps, h1, h2, h3⟩ := t P hP
  refine ⟨ps, by rw [upd_ne (fun z => by rw [z, hq] at h1; cases h1)]; exact h1, h2, fun ps2 cv e => ?_⟩
  obtain ⟨c, e1, e2⟩ := h3 ps2 cv e
  exact ⟨c, e1, by rw [upd_ne (fun z => by rw [z, hq] at e2; have := Option.some.inj e2; unfold LamX.CodeO at this; cases this)]; exact e2⟩
theorem dDct1 {k : Str} {j : Nat} {kpos : Pos} {v : Expr} {mv : ME} (hv : DE X c v mv) : DE X c (.Dict [some (.Constant (.str k) j kpos)] [v] pos) (mDct1 k mv) :=
  (pe_disp (pps_cons pe_str hv pps_nil) rfl rfl (by simp) (by simp)).imp fun σ H Q ⟨F, u, ρ, S, h⟩ p hp => by
    have g1 := S.gd.own (o := .dK []) hp
    have s1 : Stp c.p F H F (upd H p (.dK [])) := Stp.own hp
    refine ⟨F, u, ρ, S.step s1 g1, ?_⟩
    unfold mDct1 M.bind at h
    cases e : mv ρ u with
    | none => rw [e] at h; exact False.elim h
    | some x =>
      obtain ⟨d, u2⟩ := x
      rw [e] at h
      intro F2 H2 s2 g2 w rw
      have hpF := S.gd.fresh hp
      have hF : F2 p = none := s2.off hpF (by rw [upd_same]; simp)
      have hpp : p ≠ c.p := fun z => S.gd.ne (z ▸ hp)
      have hH : H2 p = some (.dK []) := s2.eh p _ hpp upd_same (.inr (by intro _ z; cases z))
      have s12 := s1.trans g1.ne s2
      refine ⟨hH, [(.inr k, w)], rfl, by simp, ?_⟩
      have hsm : Same F2 (upd F2 p (.dK [(.inr k, w)])) := fun a o e => by rw [upd_ne (fun z => by rw [z, hF] at e; cases e)]; exact e
      refine h (upd F2 p (.dK [(.inr k, w)])) (upd H2 p (.dK [(.inr k, w)])) ⟨s12.ef.trans hsm, fun a o ha e n => ?_, fun a ps ha e => ?_, fun a o e => ?_⟩ ⟨fun a o e => ?_, by rw [upd_ne (Ne.symm hpp)]; exact g2.pu, fun l e => by rw [upd_ne (Ne.symm hpp)]; exact g2.off l e, nt_upd g2.nt (by intro _ z; cases z), tabs_overD hH g2.tb, g2.hp⟩ (.ref p) (.dct (vs := [w]) upd_same rfl rfl (Reps.cons (rw.mono hsm) Reps.nil).2)
      · rw [upd_ne (fun z => by rw [z, hp] at e; cases e)]; exact s12.eh a o ha e n
      · rw [upd_ne (fun z => by rw [z, hp] at e; cases e)]; exact s12.et a ps ha e
      · by_cases ha : a = p
        · subst ha; exact .inr hp
        · rw [upd_ne ha] at e; exact s12.nw a o e
      · by_cases ha : a = p
        · subst ha; rw [upd_same] at e ⊢; exact e
        · rw [upd_ne ha] at e ⊢; exact g2.ex a o e
@[simp] theorem ok_dct1 {k : Str} {m : ME} {ρ : Env} {u : PuS} {P : D → PuS → Prop} : Ok (mDct1 k m ρ) u P ↔ Ok (m ρ) u fun d u1 => P (.dct [k] [d]) u1 := by
  unfold mDct1; simp only [ok_bind, ok_pure]
end
end Mi

set_option Elab.async false
set_option linter.all false
set_option maxRecDepth 100000
set_option maxHeartbeats 4000000
namespace Sh
open PySem PySem.Spec PyProof.Rows L2 Mi He
@[reducible] def mb_is_integer : MS := mRet (mAndV (mCB isiD (mCons (mVar 0) (mCons (mC (.ty "int")) (mNil)))) (mNotV (mCB isiD (mCons (mVar 0) (mCons (mC (.ty "bool")) (mNil))))))
def mf_is_integer : List D → M D := mFn 1 mb_is_integer
@[reducible] def mb_is_natural : MS := mRet (mAndV (mCall 1 mf_is_integer (mCons (mVar 0) (mNil))) (mBin geD (mVar 0) (mC (.int 0))))
def mf_is_natural : List D → M D := mFn 1 mb_is_natural
@[reducible] def lb_wrong_number_1 : MS := mSeq (mIfS (mOr (mNot (mB (mCall 1 mf_is_natural (mCons (mVar 2) (mNil))))) (mOr (mB (mBin eqMD (mVar 2) (mC (.int 0)))) (mB (mBin eqMD (mVar 1) (mC (.int 24)))))) (mRet (mVar 1)) (mNext)) (mIfS (mAnd (mB (mBin gtD (mVar 1) (mC (.int 0)))) (mB (mBin gtD (mVar 2) (mBin ixD (mVar 0) (mBin subD (mVar 1) (mC (.int 1))))))) (mRet (mVar 1)) (mNext))
@[reducible] def mb_wrong_number : MS := mSeq (mFor (mIof enumA (mCons (mVar 0) (mNil))) (mGt 2 (mGcons (mGn 1) (mGcons (mGn 2) (mGnil)))) (lb_wrong_number_1)) (mRet (mC .non))
def mf_wrong_number : List D → M D := mFn 3 mb_wrong_number
@[reducible] def mb_Form___init__ : MS := mSeq (mIfS (mNot (mB (mCB isiD (mCons (mVar 1) (mCons (mC (.ty "tuple")) (mNil)))))) (mStuck) (mNext)) (mSeq (mSet 2 (mCall 1 mf_wrong_number (mCons (mVar 1) (mNil)))) (mSeq (mIfS (mB (mBin isntD (mVar 2) (mC .non))) (mStuck) (mNext)) (mSelfSet 0 "Form" "numbers" (mVar 1))))
def mf_Form___init__ : List D → M (List Str × List D) := mInit 3 "Form" mb_Form___init__
@[reducible] def ce_least_row_1 : ME := mUn negD (mBin fdivD (mBin subD (mVar 2) (mBin ixD (mVar 0) (mVar 6))) (mBin addD (mBin subD (mVar 6) (mVar 3)) (mC (.int 1))))
@[reducible] def lb_least_row_2 : MS := mSeq (mSet 4 (mFz (mBorLs [] (mLcO [6] (mIof rng2 (mCons (mVar 3) (mCons (mCB lenD (mCons (mVar 0) (mNil))) (mNil)))) (mGn 6) (mYes) (ce_least_row_1))))) (mSeq (mSet 5 (mCB maxD (mCons (mVar 4) (mNil)))) (mSeq (mIfS (mB (mBin leD (mVar 5) (mC (.int 0)))) (mBrk) (mNext)) (mSeq (mApp 1 (mVar 5)) (mSet 2 (mBin addD (mVar 2) (mVar 5))))))
@[reducible] def mb_least_row : MS := mSeq (mSetO 1 (mLstO (mNil))) (mSeq (mSet 2 (mC (.int 0))) (mSeq (mFor (mIof rng1 (mCons (mCB lenD (mCons (mVar 0) (mNil))) (mNil))) (mGn 3) (lb_least_row_2)) (mFrz 1 (mRet (mCB tupD (mCons (mVar 1) (mNil)))))))
def mf_least_row : List D → M D := mFn 7 mb_least_row
@[reducible] def lb_Form_least_1 : MS := mIfS (mOr (mNot (mB (mCall 1 mf_is_integer (mCons (mVar 2) (mNil))))) (mB (mBin eqMD (mVar 1) (mC (.int 24))))) (mStuck) (mNext)
@[reducible] def mb_Form_least : MS := mSeq (mIfS (mNot (mB (mCB isiD (mCons (mVar 0) (mCons (mC (.ty "tuple")) (mNil)))))) (mStuck) (mNext)) (mSeq (mFor (mIof enumA (mCons (mVar 0) (mNil))) (mGt 2 (mGcons (mGn 1) (mGcons (mGn 2) (mGnil)))) (lb_Form_least_1)) (mRet (mMake "Form" 1 mf_Form___init__ (mCons (mCall 1 mf_least_row (mCons (mVar 0) (mNil))) (mNil)))))
def mf_Form_least : List D → M D := mFn 3 mb_Form_least
@[reducible] def mb_Form___len__ : MS := mRet (mCB lenD (mCons (mUn (fldD "Form" ["numbers"] 0) (mVar 0)) (mNil)))
def mf_Form___len__ : List D → M D := mFn 1 mb_Form___len__
@[reducible] def mb_Form_row : MS := mRet (mUn (fldD "Form" ["numbers"] 0) (mVar 0))
def mf_Form_row : List D → M D := mFn 1 mb_Form_row
@[reducible] def mb_Form___eq__ : MS := mRet (mAndV (mCB isiD (mCons (mVar 1) (mCons (mC (.cls "Form")) (mNil)))) (mBin eqMD (mUn (fldD "Form" ["numbers"] 0) (mVar 0)) (mUn (fldD "Form" ["numbers"] 0) (mVar 1))))
def mf_Form___eq__ : List D → M D := mFn 2 mb_Form___eq__
@[reducible] def lb_sums_of_1 : MS := mApp 1 (mBin addD (mIxO 1 (mUn negD (mC (.int 1)))) (mVar 2))
@[reducible] def mb_sums_of : MS := mSeq (mSetO 1 (mLstO (mCons (mC (.int 0)) (mNil)))) (mSeq (mFor (mIany (mVar 0)) (mGn 2) (lb_sums_of_1)) (mFrz 1 (mRet (mVar 1))))
def mf_sums_of : List D → M D := mFn 3 mb_sums_of
@[reducible] def mb_Form_sums : MS := mRet (mCB tupD (mCons (mSl (mCall 1 mf_sums_of (mCons (mUn (fldD "Form" ["numbers"] 0) (mVar 0)) (mNil))) (mOs (mC (.int 1))) (mOn)) (mNil)))
def mf_Form_sums : List D → M D := mFn 1 mb_Form_sums
end Sh

set_option Elab.async false
set_option linter.all false
set_option maxRecDepth 100000
set_option maxHeartbeats 4000000
namespace S1
open PySem PySem.Spec PyProof.Rows L2 Mi He Sh
@[reducible] def mb__law_draw : MS := mSeq (mPutP 0 (mBin addD (mIxP 0 (mC (.int 2))) (mC (.int 1))) (mC (.int 2))) (mSeq (mIfS (mB (mBin gtD (mIxP 0 (mC (.int 0))) (mC (.int 0)))) (mSeq (mDmP 0 (mC (.int 0)) 2 (mCB dmD (mCons (mIxP 0 (mC (.int 0))) (mCons (mVar 1) (mNil))))) (mRet (mVar 2))) (mNext)) (mSeq (mSet 3 (mBin modD (mCB int1D (mCons (mBin addD (mBin mulD (mIxP 0 (mC (.int 1))) (mC (.int 44017))) (mBin mulD (mC (.int 60013)) (mIxP 0 (mC (.int 2))))) (mNil))) (mC (.int 2147483587)))) (mSeq (mPutP 0 (mBin modD (mCB int1D (mCons (mBin addD (mBin mulD (mVar 3) (mBin addD (mBin modD (mCB int1D (mCons (mVar 3) (mNil))) (mC (.int 20021))) (mC (.int 10007)))) (mBin mulD (mC (.int 977)) (mIxP 0 (mC (.int 2))))) (mNil))) (mC (.int 2147483549))) (mC (.int 1))) (mRet (mBin modD (mCB int1D (mCons (mBin fdivD (mIxP 0 (mC (.int 1))) (mC (.int 64))) (mNil))) (mVar 1))))))
def mf__law_draw : List D → M D := mFn 4 mb__law_draw
@[reducible] def lb__law_large_1 : MS := mSet 1 (mBin addD (mBin mulD (mVar 1) (mBin powD (mC (.int 10)) (mC (.int 6)))) (mCall 2 mf__law_draw (mCons (mVar 0) (mCons (mBin powD (mC (.int 10)) (mC (.int 6))) (mNil)))))
@[reducible] def mb__law_large : MS := mSeq (mSet 1 (mC (.int 0))) (mSeq (mFor (mIof rng1 (mCons (mCall 2 mf__law_draw (mCons (mVar 0) (mCons (mC (.int 6)) (mNil)))) (mNil))) (mGn 2) (lb__law_large_1)) (mRet (mVar 1)))
def mf__law_large : List D → M D := mFn 3 mb__law_large
@[reducible] def lb__law_sums_1 : MS := mApp 2 (mBin addD (mIxO 2 (mUn negD (mC (.int 1)))) (mIf (mB (mBin ltD (mVar 3) (mCB lenD (mCons (mVar 0) (mNil))))) (mBin ixD (mVar 0) (mVar 3)) (mC (.int 0))))
@[reducible] def mb__law_sums : MS := mSeq (mSetO 2 (mLstO (mCons (mC (.int 0)) (mNil)))) (mSeq (mFor (mIof rng1 (mCons (mVar 1) (mNil))) (mGn 3) (lb__law_sums_1)) (mFrz 2 (mRet (mVar 2))))
def mf__law_sums : List D → M D := mFn 4 mb__law_sums
@[reducible] def lb__law_row_1 : MS := mSeq (mApp 2 (mVar 3)) (mSeq (mSet 5 (mCall 2 mf__law_draw (mCons (mVar 0) (mCons (mC (.int 5)) (mNil))))) (mIfS (mB (mBin gtD (mVar 5) (mC (.int 1)))) (mSet 3 (mBin addD (mVar 3) (mIf (mB (mBin ltD (mVar 5) (mC (.int 4)))) (mCall 2 mf__law_draw (mCons (mVar 0) (mCons (mC (.int 8)) (mNil)))) (mCall 1 mf__law_large (mCons (mVar 0) (mNil)))))) (mNext)))
@[reducible] def mb__law_row : MS := mSeq (mPar [2, 3] (mMow (mLstO (mNil)) (mMsh (mBin addD (mC (.int 1)) (mIf (mB (mBin gtD (mCall 2 mf__law_draw (mCons (mVar 0) (mCons (mC (.int 3)) (mNil)))) (mC (.int 0)))) (mCall 2 mf__law_draw (mCons (mVar 0) (mCons (mC (.int 9)) (mNil)))) (mCall 1 mf__law_large (mCons (mVar 0) (mNil))))) (mMnil)))) (mSeq (mFor (mIof rng1 (mCons (mVar 1) (mNil))) (mGn 4) (lb__law_row_1)) (mFrz 2 (mRet (mCB tupD (mCons (mUn revD (mVar 2)) (mNil))))))
def mf__law_row : List D → M D := mFn 6 mb__law_row
@[reducible] def ct__law_below_1 : MT := mB (mBin gtD (mBin ixD (mVar 0) (mVar 2)) (mBin ixD (mVar 1) (mVar 2)))
@[reducible] def mb__law_below : MS := mRet (mBin eqMD (mFz (mLcO [2] (mIof rng1 (mCons (mCB lenD (mCons (mVar 0) (mNil))) (mNil))) (mGn 2) (ct__law_below_1) (mVar 2))) (mFz (mLstO (mNil))))
def mf__law_below : List D → M D := mFn 3 mb__law_below
@[reducible] def mbL__law_purse : MS := mRetL (mLstO (mCons (mIf (mB (mBin geD (mVar 0) (mBin powD (mC (.int 10)) (mC (.int 18))))) (mVar 0) (mC (.int 0))) (mCons (mBin modD (mCB int1D (mCons (mVar 0) (mNil))) (mC (.int 2147483629))) (mCons (mC (.int 0)) (mNil)))))
def mfL__law_purse : List D → M (List D) := mFnL 1 mbL__law_purse
@[reducible] def lb__law_cell_1 : MS := mSet 2 (mBin modD (mCB int1D (mCons (mBin addD (mBin mulD (mVar 2) (mC (.int 30323))) (mVar 3)) (mNil))) (mC (.int 2147483029)))
@[reducible] def mb__law_cell : MS := mSeq (mIfS (mB (mBin ltD (mVar 1) (mCB lenD (mCons (mVar 0) (mNil))))) (mRet (mBin ixD (mVar 0) (mVar 1))) (mNext)) (mSeq (mSet 2 (mBin modD (mCB int1D (mCons (mBin mulD (mBin mulD (mC (.int 41203)) (mBin addD (mVar 1) (mC (.int 3)))) (mBin addD (mVar 1) (mC (.int 11)))) (mNil))) (mC (.int 2147483029)))) (mSeq (mFor (mIany (mSl (mVar 0) (mOn) (mOs (mC (.int 3))))) (mGn 3) (lb__law_cell_1)) (mRet (mVar 2))))
def mf__law_cell : List D → M D := mFn 4 mb__law_cell
end S1

set_option Elab.async false
set_option linter.all false
set_option maxRecDepth 100000
set_option maxHeartbeats 4000000
/-! MiTy: xs.insert(i, v). -/
namespace Mi
open PySem PySem.Spec PyProof.Rows L2 He StX
variable [TB : Tabl]
/-! ### xs.insert(i, v) -/
def mIns (i : Nat) (mk m : ME) : MS := fun ρ => M.bind (mk ρ) fun k => M.bind (m ρ) fun d => M.bind (lft (vOw ρ i)) fun ds => M.bind (lft (match k with
  | .int j => if 0 ≤ j ∧ j ≤ 100000 ∧ ds.length < 100000 then some j.toNat else none
  | _ => none)) fun n => M.pure (.nx (ρ.set i (.ow (ds.take n ++ [d] ++ ds.drop n))))
section
variable {X : Cx} {c : Cf} {k e : Expr} {mk m : ME} {pos : Pos}
theorem dIns (i : Nat) {x : Str} {p0 apos cpos : Pos} (hk : DE X c k mk) (he : DE X c e m) (hN : X.N[i]? = some x := by rfl) (hv : Vis X.env.scope x := by first | exact Or.inl rfl | exact Or.inr (Or.inl rfl) | exact Or.inr (Or.inr rfl)) (hd : (x == ("__debug__" : Str)) = false := by decide)
    (hcd : (x == ("__classdict__" : Str)) = false := by decide) (hbase : attributeBase (.Name x p0) "insert" X.env (eval (.Name x p0) X.env) = eval (.Name x p0) X.env := by rfl)
    (hfew : ((backTo cpos (starEach [k, e] X.env)).all (fun x => !x.1) && (backToKw cpos (keywordEach [] X.env)).all (fun x => x.1.isSome)
      && decide (([k, e] : List Expr).length + ([] : List Keyword).length + (if ([] : List Keyword).isEmpty then 0 else 1) < 30)) = true := by rfl)
    (hline : (apos.endLine == cpos.line) = true := by rfl) (hst : starEach [k, e] X.env = (false, eval k X.env) :: starEach [e] X.env := by rfl) (hst2 : starEach [e] X.env = (false, eval e X.env) :: starEach [] X.env := by rfl) (hplain : (backTo cpos (starEach [e] X.env)).any (·.1) = false := by rfl)
    (hs : swapsWith (.Call (.Attribute (.Name x p0) "insert" apos) [k, e] [] cpos) none pos.line X.env = pure false := by rfl) :
    DS X c (.Expr (.Call (.Attribute (.Name x p0) "insert" apos) [k, e] [] cpos) pos) (mIns i mk m) :=
  (ps_expr (pe_bm PySem.F.plainAttrs_list PySem.F.slot_list_insert PySem.F.type_list_insert mt_insert (pe_var (i := i) hN hv hd hcd) (pa_cons hk (pa_cons he pa_nil hst2) hst) hbase hfew hline hst hplain) hs).imp fun Dn σ H ⟨F, u, ρ, S, h⟩ => by
    unfold mIns at h
    cases ho : vOw ρ i with
    | none =>
      exfalso
      cases e1 : mk ρ u with
      | none =>
        unfold M.bind at h
        rw [e1] at h
        exact h
      | some y =>
        obtain ⟨kd, u1⟩ := y
        unfold M.bind at h
        rw [e1] at h
        dsimp only at h
        cases e2 : m ρ u1 with
        | none =>
          rw [e2] at h
          exact h
        | some z =>
          rw [e2, ho] at h
          exact h
    | some ds =>
      obtain ⟨q, vs, e1, hq, _⟩ := S.ow ho
      refine ⟨.ref q, e1, .inl ⟨rfl, vs, SqL.of hq⟩, F, u, ρ, S, (flowO.after S h).imp fun kd u1 F1 H1 _ s1 g1 h1 kv rkv => ?_⟩
      refine ⟨F1, u1, ρ, h1.1, (flowO.after h1.1 h1.2).imp fun d u2 F2 H2 _ s2 g2 h2 v rv => ?_⟩
      obtain ⟨ds', e2, h3⟩ := flowO.lft h2.1 h2.2
      rw [ho] at e2
      cases e2
      obtain ⟨n, e3, h4⟩ := flowO.lft h2.1 h3
      obtain ⟨q', vs', e1', hq', _, _, _, r'⟩ := h2.1.ow ho
      rw [e1] at e1'
      cases e1'
      cases kd with
      | int j =>
        have e4 : (if 0 ≤ j ∧ j ≤ 100000 ∧ ds.length < 100000 then some j.toNat else none) = some n := e3
        split at e4
        · rename_i hc
          cases e4
          refine ⟨q, vs', j, v, rfl, by rw [(rkv.mono s2.ef).int_], hq', sz5l (by rw [r'.1]; omega), hc.1, by omega, h4 σ F2 _ (Same.refl _) ?_⟩
          exact h2.1.put (vOw_at ho) e1 (((r'.take _).append (Reps.cons rv Reps.nil)).append (r'.drop _))
        · cases e4
      | _ => cases e3
end
@[simp] theorem ok_ins {i : Nat} {mk m : ME} {ρ : Env} {u : PuS} {P : Fl → PuS → Prop} : Ok (mIns i mk m ρ) u P ↔ Ok (mk ρ) u fun k u1 => Ok (m ρ) u1 fun d u2 => ∃ ds, vOw ρ i = some ds ∧ ∃ j : Int, k = .int j ∧ (0 ≤ j ∧ j ≤ 100000 ∧ ds.length < 100000) ∧ P (.nx (ρ.set i (.ow (ds.take j.toNat ++ [d] ++ ds.drop j.toNat)))) u2 := by
  unfold mIns; simp only [ok_bind, ok_lft, ok_pure]
  constructor
  · refine fun h => h.mono fun k u1 z => z.mono fun d u2 z => ?_
    obtain ⟨ds, e, n, e2, p⟩ := z
    cases k with
    | int j =>
      have e4 : (if 0 ≤ j ∧ j ≤ 100000 ∧ ds.length < 100000 then some j.toNat else none) = some n := e2
      split at e4
      · rename_i hc
        cases e4
        exact ⟨ds, e, j, rfl, hc, p⟩
      · cases e4
    | _ => cases e2
  · refine fun h => h.mono fun k u1 z => z.mono fun d u2 z => ?_
    obtain ⟨ds, e, j, rfl, hc, p⟩ := z
    exact ⟨ds, e, j.toNat, if_pos hc, p⟩
end Mi

set_option Elab.async false
set_option linter.all false
set_option maxRecDepth 100000
set_option maxHeartbeats 4000000
namespace Sh
open PySem PySem.Spec PyProof.Rows L2 Mi He
@[reducible] def ce_is_name_1 : ME := mOrV (mBin inD (mVar 1) (mC (.str "abcdefghijklmnopqrstuvwxyz"))) (mBin inD (mVar 1) (mC (.str "0123456789")))
@[reducible] def mb_is_name : MS := mSeq (mIfS (mOr (mNot (mB (mCB isiD (mCons (mVar 0) (mCons (mC (.ty "str")) (mNil)))))) (mOr (mNot (mB (mChain leD leD (mC (.int 1)) (mCB lenD (mCons (mVar 0) (mNil))) (mC (.int 8))))) (mB (mBin ninD (mBin ixD (mVar 0) (mC (.int 0))) (mC (.str "abcdefghijklmnopqrstuvwxyz")))))) (mRet (mC (.bl false))) (mNext)) (mRet (mCB allD (mCons (mFz (mLcO [1] (mIany (mVar 0)) (mGn 1) (mYes) (ce_is_name_1))) (mNil))))
def mf_is_name : List D → M D := mFn 2 mb_is_name
@[reducible] def lb_wrong_pair_1 : MS := mSeq (mIfS (mOr (mNot (mB (mCB isiD (mCons (mVar 3) (mCons (mC (.ty "tuple")) (mNil)))))) (mOr (mB (mBin neMD (mCB lenD (mCons (mVar 3) (mNil))) (mC (.int 2)))) (mB (mBin eqMD (mVar 2) (mC (.int 12)))))) (mRet (mVar 2)) (mNext)) (mSeq (mAsg (mVar 3) (mGt 2 (mGcons (mGn 4) (mGcons (mGn 5) (mGnil))))) (mSeq (mIfS (mBorT 1 (mOr (mNot (mB (mCall 1 mf_is_name (mCons (mVar 4) (mNil))))) (mOr (mNot (mB (mCB isiD (mCons (mVar 5) (mCons (mC (.cls "Card")) (mNil)))))) (mB (mBin inD (mVar 4) (mVar 1)))))) (mRet (mVar 2)) (mNext)) (mApp 1 (mVar 4))))
@[reducible] def mb_wrong_pair : MS := mSeq (mSetO 1 (mLstO (mNil))) (mSeq (mFor (mIof enumA (mCons (mVar 0) (mNil))) (mGt 2 (mGcons (mGn 2) (mGcons (mGn 3) (mGnil)))) (lb_wrong_pair_1)) (mRet (mC .non)))
def mf_wrong_pair : List D → M D := mFn 6 mb_wrong_pair
@[reducible] def mb_Wallet___init__ : MS := mSeq (mIfS (mNot (mB (mCB isiD (mCons (mVar 1) (mCons (mC (.ty "tuple")) (mNil)))))) (mStuck) (mNext)) (mSeq (mSet 2 (mCall 1 mf_wrong_pair (mCons (mVar 1) (mNil)))) (mSeq (mIfS (mB (mBin isntD (mVar 2) (mC .non))) (mStuck) (mNext)) (mSelfSet 0 "Wallet" "pairs" (mVar 1))))
def mf_Wallet___init__ : List D → M (List Str × List D) := mInit 3 "Wallet" mb_Wallet___init__
@[reducible] def mb_Card___init__ : MS := mSeq (mIfS (mNot (mB (mCall 1 mf_is_natural (mCons (mVar 1) (mNil))))) (mStuck) (mNext)) (mSeq (mIfS (mOr (mNot (mB (mCall 1 mf_is_natural (mCons (mVar 2) (mNil))))) (mB (mBin eqMD (mVar 2) (mC (.int 0))))) (mStuck) (mNext)) (mSeq (mIfS (mB (mBin gtD (mVar 1) (mBin mulD (mC (.int 24)) (mVar 2)))) (mStuck) (mNext)) (mSeq (mSelfSet 0 "Card" "held" (mVar 1)) (mSelfSet 0 "Card" "daily" (mVar 2)))))
def mf_Card___init__ : List D → M (List Str × List D) := mInit 3 "Card" mb_Card___init__
@[reducible] def mb_check_wallet : MS := mIfS (mNot (mB (mCB isiD (mCons (mVar 0) (mCons (mC (.cls "Wallet")) (mNil)))))) (mStuck) (mNext)
def mf_check_wallet : List D → M D := mFn 1 mb_check_wallet
@[reducible] def ce_even_1 : ME := mIf (mB (mBin ltD (mVar 4) (mVar 3))) (mBin addD (mVar 2) (mC (.int 1))) (mVar 2)
@[reducible] def mb_even : MS := mSeq (mAsg (mCB dmD (mCons (mVar 0) (mCons (mVar 1) (mNil)))) (mGt 2 (mGcons (mGn 2) (mGcons (mGn 3) (mGnil))))) (mRet (mCB tupD (mCons (mFz (mLcO [4] (mIof rng1 (mCons (mVar 1) (mNil))) (mGn 4) (mYes) (ce_even_1))) (mNil))))
def mf_even : List D → M D := mFn 5 mb_even
@[reducible] def lb_parted_1 : MS := mSeq (mSet 5 (mBin ixD (mVar 2) (mCB minD (mCons (mVar 4) (mCons (mBin subD (mCB lenD (mCons (mVar 2) (mNil))) (mC (.int 1))) (mNil)))))) (mIfS (mB (mBin gtD (mBin ixD (mVar 3) (mVar 4)) (mVar 5))) (mRet (mCall 2 mf_even (mCons (mBin addD (mVar 5) (mC (.int 1))) (mCons (mVar 4) (mNil))))) (mNext))
@[reducible] def mb_parted : MS := mSeq (mPar [2, 3] (mMsh (mCall 1 mf_sums_of (mCons (mVar 0) (mNil))) (mMsh (mCall 1 mf_sums_of (mCons (mVar 1) (mNil))) (mMnil)))) (mSeq (mFor (mIof rng2 (mCons (mC (.int 1)) (mCons (mCB lenD (mCons (mVar 3) (mNil))) (mNil)))) (mGn 4) (lb_parted_1)) (mRet (mC .non)))
def mf_parted : List D → M D := mFn 6 mb_parted
@[reducible] def mb_worth : MS := mRet (mCB minD (mCons (mVar 0) (mCons (mBin mulD (mVar 2) (mVar 1)) (mNil))))
def mf_worth : List D → M D := mFn 3 mb_worth
@[reducible] def mb_part : MS := mRet (mBin subD (mCall 3 mf_worth (mCons (mVar 0) (mCons (mVar 1) (mCons (mBin addD (mVar 2) (mC (.int 1))) (mNil))))) (mCall 3 mf_worth (mCons (mVar 0) (mCons (mVar 1) (mCons (mVar 2) (mNil))))))
def mf_part : List D → M D := mFn 3 mb_part
@[reducible] def ct_row_of_1 : MT := mB (mBin gtD (mVar 3) (mBin mulD (mVar 2) (mVar 4)))
@[reducible] def ce_row_of_2 : ME := mCall 3 mf_part (mCons (mVar 3) (mCons (mVar 4) (mCons (mVar 2) (mNil))))
@[reducible] def lb_row_of_3 : MS := mSeq (mApp 1 (mCB sumD (mCons (mFz (mLcO [3, 4] (mIany (mVar 0)) (mGt 2 (mGcons (mGn 3) (mGcons (mGn 4) (mGnil)))) (mYes) (ce_row_of_2))) (mNil)))) (mAug 2 addI (mC (.int 1)))
@[reducible] def mb_row_of : MS := mSeq (mSetO 1 (mLstO (mNil))) (mSeq (mSet 2 (mC (.int 0))) (mSeq (mWhile 100000 (mB (mBin neMD (mFz (mLcO [3, 4] (mIany (mVar 0)) (mGt 2 (mGcons (mGn 3) (mGcons (mGn 4) (mGnil)))) (ct_row_of_1) (mVar 3))) (mFz (mLstO (mNil))))) (lb_row_of_3)) (mFrz 1 (mRet (mCB tupD (mCons (mVar 1) (mNil)))))))
def mf_row_of : List D → M D := mFn 5 mb_row_of
@[reducible] def ce_Wallet_form_1 : ME := mTup (mCons (mUn (fldD "Card" ["held", "daily"] 0) (mVar 2)) (mCons (mUn (fldD "Card" ["held", "daily"] 1) (mVar 2)) (mNil)))
@[reducible] def mb_Wallet_form : MS := mRet (mMake "Form" 1 mf_Form___init__ (mCons (mCall 1 mf_row_of (mCons (mFz (mLcO [1, 2] (mIany (mUn (fldD "Wallet" ["pairs"] 0) (mVar 0))) (mGt 2 (mGcons (mGn 1) (mGcons (mGn 2) (mGnil)))) (mYes) (ce_Wallet_form_1))) (mNil))) (mNil)))
def mf_Wallet_form : List D → M D := mFn 3 mb_Wallet_form
@[reducible] def mb_parting_row : MS := mSeq (mDrop (mCall 1 mf_check_wallet (mCons (mVar 0) (mNil)))) (mSeq (mDrop (mCall 1 mf_check_wallet (mCons (mVar 1) (mNil)))) (mRet (mCall 2 mf_parted (mCons (mSelf "Form" mf_Form_row (mSelf "Wallet" mf_Wallet_form (mVar 0))) (mCons (mSelf "Form" mf_Form_row (mSelf "Wallet" mf_Wallet_form (mVar 1))) (mNil))))))
def mf_parting_row : List D → M D := mFn 2 mb_parting_row
@[reducible] def mb_covers : MS := mRet (mBin isD (mCall 2 mf_parting_row (mCons (mVar 0) (mCons (mVar 1) (mNil)))) (mC .non))
def mf_covers : List D → M D := mFn 2 mb_covers
@[reducible] def mb_alike : MS := mSeq (mDrop (mCall 1 mf_check_wallet (mCons (mVar 0) (mNil)))) (mSeq (mDrop (mCall 1 mf_check_wallet (mCons (mVar 1) (mNil)))) (mRet (mEqO "Form" mf_Form___eq__ (mSelf "Wallet" mf_Wallet_form (mVar 0)) (mSelf "Wallet" mf_Wallet_form (mVar 1)))))
def mf_alike : List D → M D := mFn 2 mb_alike
end Sh

set_option Elab.async false
set_option linter.all false
set_option maxRecDepth 100000
set_option maxHeartbeats 4000000
namespace Sh
open PySem PySem.Spec PyProof.Rows L2 Mi He
@[reducible] def mb_check_course : MS := mIfS (mNot (mB (mCB isiD (mCons (mVar 0) (mCons (mC (.cls "Course")) (mNil)))))) (mStuck) (mNext)
def mf_check_course : List D → M D := mFn 1 mb_check_course
@[reducible] def mb_Card_limit : MS := mRet (mUn (fldD "Card" ["held", "daily"] 1) (mVar 0))
def mf_Card_limit : List D → M D := mFn 1 mb_Card_limit
@[reducible] def mb_Card_balance : MS := mRet (mUn (fldD "Card" ["held", "daily"] 0) (mVar 0))
def mf_Card_balance : List D → M D := mFn 1 mb_Card_balance
@[reducible] def ce_asked_sets_1 : ME := mTup (mCons (mBin subD (mVar 6) (mCall 3 mf_worth (mCons (mSelf "Card" mf_Card_balance (mVar 3)) (mCons (mSelf "Card" mf_Card_limit (mVar 3)) (mCons (mCB lenD (mCons (mVar 7) (mNil))) (mNil)))))) (mCons (mVar 7) (mNil)))
@[reducible] def ce_asked_sets_2 : ME := mTup (mCons (mBin addD (mVar 6) (mVar 3)) (mCons (mBin addD (mTup (mCons (mVar 2) (mNil))) (mVar 7)) (mNil)))
@[reducible] def ce_asked_sets_3 : ME := mIf (mB (mBin geD (mBin ixD (mBin ixD (mVar 1) (mVar 8)) (mC (.int 0))) (mBin ixD (mBin ixD (mVar 4) (mBin subD (mVar 8) (mC (.int 1)))) (mC (.int 0))))) (mBin ixD (mVar 1) (mVar 8)) (mBin ixD (mVar 4) (mBin subD (mVar 8) (mC (.int 1))))
@[reducible] def lb_asked_sets_4 : MS := mIfS (mB (mCB isiD (mCons (mVar 3) (mCons (mC (.cls "Card")) (mNil))))) (mSet 1 (mFz (mLcO [6, 7] (mIany (mVar 1)) (mGt 2 (mGcons (mGn 6) (mGcons (mGn 7) (mGnil)))) (mYes) (ce_asked_sets_1)))) (mSeq (mSet 4 (mFz (mLcO [6, 7] (mIany (mVar 1)) (mGt 2 (mGcons (mGn 6) (mGcons (mGn 7) (mGnil)))) (mYes) (ce_asked_sets_2)))) (mSeq (mSet 5 (mFz (mBorLs [] (mLcO [8] (mIof rng2 (mCons (mC (.int 1)) (mCons (mCB lenD (mCons (mVar 1) (mNil))) (mNil)))) (mGn 8) (mYes) (ce_asked_sets_3))))) (mSet 1 (mBin addD (mBin addD (mFz (mLstO (mCons (mBin ixD (mVar 1) (mC (.int 0))) (mNil)))) (mVar 5)) (mFz (mLstO (mCons (mBin ixD (mVar 4) (mUn negD (mC (.int 1)))) (mNil))))))))
@[reducible] def mb_asked_sets : MS := mSeq (mSet 1 (mFz (mLstO (mCons (mTup (mCons (mC (.int 0)) (mCons (mTup (mNil)) (mNil)))) (mNil))))) (mSeq (mFor (mIrev (mCons (mCB enL (mCons (mVar 0) (mNil))) (mNil))) (mGt 2 (mGcons (mGn 2) (mGcons (mGn 3) (mGnil)))) (lb_asked_sets_4)) (mRet (mVar 1)))
def mf_asked_sets : List D → M D := mFn 9 mb_asked_sets
@[reducible] def ce_barring_days_1 : ME := mCall 3 mf_worth (mCons (mVar 5) (mCons (mVar 6) (mCons (mVar 2) (mNil))))
@[reducible] def lb_barring_days_2 : MS := mIfS (mB (mBin gtD (mVar 3) (mCB sumD (mCons (mFz (mLcO [5, 6] (mIany (mVar 0)) (mGt 2 (mGcons (mGn 5) (mGcons (mGn 6) (mGnil)))) (mYes) (ce_barring_days_1))) (mNil))))) (mRet (mVar 4)) (mNext)
@[reducible] def mb_barring_days : MS := mSeq (mFor (mIof enumA (mCons (mCall 1 mf_asked_sets (mCons (mVar 1) (mNil))) (mNil))) (mGt 2 (mGcons (mGn 2) (mGcons (mGt 2 (mGcons (mGn 3) (mGcons (mGn 4) (mGnil)))) (mGnil)))) (lb_barring_days_2)) (mRet (mC .non))
def mf_barring_days : List D → M D := mFn 7 mb_barring_days
@[reducible] def mb_Course_events : MS := mRet (mUn (fldD "Course" ["passed"] 0) (mVar 0))
def mf_Course_events : List D → M D := mFn 1 mb_Course_events
@[reducible] def mb_Wallet_cards : MS := mRet (mCB tupD (mCons (mFz (mLcO [1, 2] (mIany (mUn (fldD "Wallet" ["pairs"] 0) (mVar 0))) (mGt 2 (mGcons (mGn 1) (mGcons (mGn 2) (mGnil)))) (mYes) (mVar 2))) (mNil)))
def mf_Wallet_cards : List D → M D := mFn 3 mb_Wallet_cards
@[reducible] def ce_amounts_of_1 : ME := mTup (mCons (mSelf "Card" mf_Card_balance (mVar 1)) (mCons (mSelf "Card" mf_Card_limit (mVar 1)) (mNil)))
@[reducible] def mb_amounts_of : MS := mRet (mCB tupD (mCons (mFz (mLcO [1] (mIany (mSelf "Wallet" mf_Wallet_cards (mVar 0))) (mGn 1) (mYes) (ce_amounts_of_1))) (mNil)))
def mf_amounts_of : List D → M D := mFn 2 mb_amounts_of
@[reducible] def mb_barring : MS := mSeq (mDrop (mCall 1 mf_check_wallet (mCons (mVar 0) (mNil)))) (mSeq (mDrop (mCall 1 mf_check_course (mCons (mVar 1) (mNil)))) (mRet (mCall 2 mf_barring_days (mCons (mCall 1 mf_amounts_of (mCons (mVar 0) (mNil))) (mCons (mSelf "Course" mf_Course_events (mVar 1)) (mNil))))))
def mf_barring : List D → M D := mFn 2 mb_barring
@[reducible] def lb_wrong_event_1 : MS := mSeq (mIfS (mB (mCB isiD (mCons (mVar 4) (mCons (mC (.cls "Card")) (mNil))))) (mAug 2 addI (mC (.int 1))) (mIfS (mB (mCall 1 mf_is_natural (mCons (mVar 4) (mNil)))) (mAug 1 addI (mC (.int 1))) (mRet (mVar 3)))) (mIfS (mOr (mB (mBin gtD (mVar 1) (mC (.int 12)))) (mB (mBin gtD (mVar 2) (mC (.int 6))))) (mRet (mVar 3)) (mNext))
@[reducible] def mb_wrong_event : MS := mSeq (mSet 1 (mC (.int 0))) (mSeq (mSet 2 (mC (.int 0))) (mSeq (mFor (mIof enumA (mCons (mVar 0) (mNil))) (mGt 2 (mGcons (mGn 3) (mGcons (mGn 4) (mGnil)))) (lb_wrong_event_1)) (mRet (mC .non))))
def mf_wrong_event : List D → M D := mFn 5 mb_wrong_event
@[reducible] def mb_Course___init__ : MS := mSeq (mIfS (mNot (mB (mCB isiD (mCons (mVar 1) (mCons (mC (.ty "tuple")) (mNil)))))) (mStuck) (mNext)) (mSeq (mSet 2 (mCall 1 mf_wrong_event (mCons (mVar 1) (mNil)))) (mSeq (mIfS (mB (mBin isntD (mVar 2) (mC .non))) (mStuck) (mNext)) (mSelfSet 0 "Course" "passed" (mVar 1))))
def mf_Course___init__ : List D → M (List Str × List D) := mInit 3 "Course" mb_Course___init__
@[reducible] def mb_asked : MS := mRet (mSl (mFz (mLcO [1, 2] (mIany (mCall 1 mf_asked_sets (mCons (mVar 0) (mNil)))) (mGt 2 (mGcons (mGn 1) (mGcons (mGn 2) (mGnil)))) (mYes) (mVar 1))) (mOs (mC (.int 1))) (mOn))
def mf_asked : List D → M D := mFn 3 mb_asked
@[reducible] def mb_Course_asks : MS := mRet (mCB tupD (mCons (mCall 1 mf_asked (mCons (mUn (fldD "Course" ["passed"] 0) (mVar 0)) (mNil))) (mNil)))
def mf_Course_asks : List D → M D := mFn 1 mb_Course_asks
@[reducible] def mb_Course_form : MS := mRet (mMake "Form" 1 mf_Form___init__ (mCons (mCall 1 mf_least_row (mCons (mCall 1 mf_asked (mCons (mUn (fldD "Course" ["passed"] 0) (mVar 0)) (mNil))) (mNil))) (mNil)))
def mf_Course_form : List D → M D := mFn 1 mb_Course_form
end Sh

set_option Elab.async false
set_option linter.all false
set_option maxRecDepth 100000
set_option maxHeartbeats 4000000
namespace Sh
open PySem PySem.Spec PyProof.Rows L2 Mi He
@[reducible] def ce_number_of_1 : ME := mBin inD (mVar 1) (mC (.str "0123456789"))
@[reducible] def mb_number_of : MS := mSeq (mIfS (mOr (mB (mBin eqMD (mVar 0) (mC (.str "")))) (mNot (mB (mCB allD (mCons (mFz (mLcO [1] (mIany (mVar 0)) (mGn 1) (mYes) (ce_number_of_1))) (mNil)))))) (mRet (mC .non)) (mNext)) (mRet (mIf (mOr (mB (mBin eqMD (mVar 0) (mC (.str "0")))) (mB (mBin neMD (mBin ixD (mVar 0) (mC (.int 0))) (mC (.str "0"))))) (mCB intSD (mCons (mVar 0) (mNil))) (mC .non)))
def mf_number_of : List D → M D := mFn 2 mb_number_of
@[reducible] def ce_card_of_1 : ME := mCall 1 mf_number_of (mCons (mVar 4) (mNil))
@[reducible] def mb_card_of : MS := mSeq (mIfS (mNot (mB (mCB isiD (mCons (mVar 0) (mCons (mC (.ty "str")) (mNil)))))) (mRet (mC .non)) (mNext)) (mSeq (mSet 1 (mFz (mBorLs [] (mLcO [4] (mIany (mS1 splD (mVar 0) (mC (.str "/")))) (mGn 4) (mYes) (ce_card_of_1))))) (mSeq (mIfS (mOr (mB (mBin neMD (mCB lenD (mCons (mVar 1) (mNil))) (mC (.int 2)))) (mOr (mB (mBin isD (mBin ixD (mVar 1) (mC (.int 0))) (mC .non))) (mB (mBin isD (mBin ixD (mVar 1) (mC (.int 1))) (mC .non))))) (mRet (mC .non)) (mNext)) (mSeq (mAsg (mVar 1) (mGl 2 (mGcons (mGn 2) (mGcons (mGn 3) (mGnil))))) (mRet (mIf (mAnd (mB (mBin gtD (mVar 3) (mC (.int 0)))) (mB (mBin leD (mVar 2) (mBin mulD (mC (.int 24)) (mVar 3))))) (mMake "Card" 2 mf_Card___init__ (mCons (mVar 2) (mCons (mVar 3) (mNil)))) (mC .non))))))
def mf_card_of : List D → M D := mFn 5 mb_card_of
@[reducible] def mb_event_of : MS := mSeq (mIfS (mB (mBin eqMD (mSl (mVar 0) (mOn) (mOs (mC (.int 1)))) (mC (.str "+")))) (mRet (mCall 1 mf_card_of (mCons (mSl (mVar 0) (mOs (mC (.int 1))) (mOn)) (mNil)))) (mNext)) (mRet (mCall 1 mf_number_of (mCons (mVar 0) (mNil))))
def mf_event_of : List D → M D := mFn 1 mb_event_of
@[reducible] def ce_course_of_1 : ME := mCall 1 mf_event_of (mCons (mVar 2) (mNil))
@[reducible] def mb_course_of : MS := mSeq (mIfS (mNot (mB (mCB isiD (mCons (mVar 0) (mCons (mC (.ty "str")) (mNil)))))) (mRet (mC .non)) (mNext)) (mSeq (mSet 1 (mIf (mB (mBin neMD (mVar 0) (mC (.str "")))) (mCB tupD (mCons (mFz (mLcO [2] (mIany (mS1 splD (mVar 0) (mC (.str " ")))) (mGn 2) (mYes) (ce_course_of_1))) (mNil))) (mTup (mNil)))) (mRet (mIf (mB (mBin isD (mCall 1 mf_wrong_event (mCons (mVar 1) (mNil))) (mC .non))) (mMake "Course" 1 mf_Course___init__ (mCons (mVar 1) (mNil))) (mC .non))))
def mf_course_of : List D → M D := mFn 3 mb_course_of
@[reducible] def mb_Course_read : MS := mSeq (mSet 2 (mCall 1 mf_course_of (mCons (mVar 1) (mNil)))) (mSeq (mIfS (mB (mBin isD (mVar 2) (mC .non))) (mStuck) (mNext)) (mRet (mVar 2)))
def mf_Course_read : List D → M D := mFn 3 mb_Course_read
@[reducible] def mb_Card___str__ : MS := mRet (mFs [mFmt (mUn (fldD "Card" ["held", "daily"] 0) (mVar 0)), mC (.str "/"), mFmt (mUn (fldD "Card" ["held", "daily"] 1) (mVar 0))])
def mf_Card___str__ : List D → M D := mFn 1 mb_Card___str__
@[reducible] def ce_Course___str___1 : ME := mIf (mB (mCB isiD (mCons (mVar 1) (mCons (mC (.cls "Card")) (mNil))))) (mFs [mC (.str "+"), mStrO "Card" mf_Card___str__ (mVar 1)]) (mCB strID (mCons (mVar 1) (mNil)))
@[reducible] def mb_Course___str__ : MS := mRet (mJoin (mC (.str " ")) (mFz (mLcO [1] (mIany (mUn (fldD "Course" ["passed"] 0) (mVar 0))) (mGn 1) (mYes) (ce_Course___str___1))))
def mf_Course___str__ : List D → M D := mFn 2 mb_Course___str__
end Sh

set_option Elab.async false
set_option linter.all false
set_option maxRecDepth 100000
set_option maxHeartbeats 4000000
namespace Sh
open PySem PySem.Spec PyProof.Rows L2 Mi He
@[reducible] def mb_pair_of : MS := mSeq (mAsg (mS1 prtD (mVar 0) (mC (.str " "))) (mGt 3 (mGcons (mGn 1) (mGcons (mGn 2) (mGcons (mGn 3) (mGnil)))))) (mRet (mTup (mCons (mVar 1) (mCons (mCall 1 mf_card_of (mCons (mVar 3) (mNil))) (mNil)))))
def mf_pair_of : List D → M D := mFn 4 mb_pair_of
@[reducible] def ce_wallet_of_1 : ME := mCall 1 mf_pair_of (mCons (mVar 2) (mNil))
@[reducible] def mb_wallet_of : MS := mSeq (mIfS (mNot (mB (mCB isiD (mCons (mVar 0) (mCons (mC (.ty "str")) (mNil)))))) (mRet (mC .non)) (mNext)) (mSeq (mSet 1 (mIf (mB (mBin neMD (mVar 0) (mC (.str "")))) (mCB tupD (mCons (mFz (mLcO [2] (mIany (mS1 splD (mVar 0) (mC (.str ", ")))) (mGn 2) (mYes) (ce_wallet_of_1))) (mNil))) (mTup (mNil)))) (mRet (mIf (mB (mBin isD (mCall 1 mf_wrong_pair (mCons (mVar 1) (mNil))) (mC .non))) (mMake "Wallet" 1 mf_Wallet___init__ (mCons (mVar 1) (mNil))) (mC .non))))
def mf_wallet_of : List D → M D := mFn 3 mb_wallet_of
@[reducible] def mb_Wallet_read : MS := mSeq (mSet 2 (mCall 1 mf_wallet_of (mCons (mVar 1) (mNil)))) (mSeq (mIfS (mB (mBin isD (mVar 2) (mC .non))) (mStuck) (mNext)) (mRet (mVar 2)))
def mf_Wallet_read : List D → M D := mFn 3 mb_Wallet_read
end Sh

set_option Elab.async false
set_option linter.all false
set_option maxRecDepth 100000
set_option maxHeartbeats 4000000
namespace S1
open PySem PySem.Spec PyProof.Rows L2 Mi He Sh
@[reducible] def lb__law_name_1 : MS := mSet 4 (mBin addD (mVar 4) (mBin ixD (mVar 2) (mCall 2 mf__law_draw (mCons (mVar 0) (mCons (mC (.int 36)) (mNil))))))
@[reducible] def ce__law_name_2 : ME := mBin addD (mC (.str "zz")) (mCB strID (mCons (mVar 8) (mNil)))
@[reducible] def mb__law_name : MS := mSeq (mSet 2 (mC (.str "abcdefghijklmnopqrstuvwxyz0123456789"))) (mSeq (mPar [3, 4] (mMsh (mCall 2 mf__law_draw (mCons (mVar 0) (mCons (mC (.int 3)) (mNil)))) (mMsh (mBin ixD (mVar 2) (mCall 2 mf__law_draw (mCons (mVar 0) (mCons (mC (.int 26)) (mNil))))) (mMnil)))) (mSeq (mIfS (mAnd (mB (mBin gtD (mVar 3) (mC (.int 0)))) (mB (mBin neMD (mVar 1) (mFz (mLstO (mNil)))))) (mSeq (mSet 5 (mBin ixD (mVar 1) (mCall 2 mf__law_draw (mCons (mVar 0) (mCons (mCB lenD (mCons (mVar 1) (mNil))) (mNil)))))) (mSet 4 (mSl (mVar 5) (mOn) (mOs (mBin addD (mC (.int 1)) (mCall 2 mf__law_draw (mCons (mVar 0) (mCons (mCB lenD (mCons (mVar 5) (mNil))) (mNil))))))))) (mNext)) (mSeq (mFor (mIof rng1 (mCons (mCall 2 mf__law_draw (mCons (mVar 0) (mCons (mBin subD (mC (.int 9)) (mCB lenD (mCons (mVar 4) (mNil)))) (mNil)))) (mNil))) (mGn 6) (lb__law_name_1)) (mRet (mBin ixD (mFz (mLcO [7] (mIany (mBin addD (mFz (mLstO (mCons (mVar 4) (mNil)))) (mFz (mLcO [8] (mIof rng1 (mCons (mC (.int 20)) (mNil))) (mGn 8) (mYes) (ce__law_name_2))))) (mGn 7) (mB (mBin ninD (mVar 7) (mVar 1))) (mVar 7))) (mC (.int 0)))))))
def mf__law_name : List D → M D := mFn 9 mb__law_name
@[reducible] def mb__law_pair : MS := mSeq (mPar [1, 2] (mMsh (mCall 2 mf__law_draw (mCons (mVar 0) (mCons (mC (.int 6)) (mNil)))) (mMsh (mBin addD (mC (.int 1)) (mCall 2 mf__law_draw (mCons (mVar 0) (mCons (mC (.int 9)) (mNil))))) (mMnil)))) (mSeq (mIfS (mB (mBin gtD (mVar 1) (mC (.int 3)))) (mSet 2 (mBin addD (mC (.int 1)) (mCall 1 mf__law_large (mCons (mVar 0) (mNil))))) (mNext)) (mSeq (mSet 1 (mCall 2 mf__law_draw (mCons (mVar 0) (mCons (mC (.int 7)) (mNil))))) (mSeq (mIfS (mB (mBin ltD (mVar 1) (mC (.int 4)))) (mRet (mTup (mCons (mBin ixD (mFz (mLstO (mCons (mC (.int 0)) (mCons (mBin mulD (mC (.int 24)) (mVar 2)) (mCons (mVar 2) (mCons (mBin subD (mBin mulD (mC (.int 24)) (mVar 2)) (mC (.int 1))) (mNil))))))) (mVar 1)) (mCons (mVar 2) (mNil))))) (mNext)) (mRet (mTup (mCons (mIf (mB (mBin eqMD (mVar 1) (mC (.int 4)))) (mBin modD (mCB int1D (mCons (mCall 1 mf__law_large (mCons (mVar 0) (mNil))) (mNil))) (mBin addD (mBin mulD (mC (.int 24)) (mVar 2)) (mC (.int 1)))) (mCall 2 mf__law_draw (mCons (mVar 0) (mCons (mBin addD (mBin mulD (mC (.int 24)) (mVar 2)) (mC (.int 1))) (mNil))))) (mCons (mVar 2) (mNil))))))))
def mf__law_pair : List D → M D := mFn 3 mb__law_pair
@[reducible] def lb__law_rows_1 : MS := mSeq (mApp 2 (mBor 2 (mCall 2 mf__law_name (mCons (mVar 0) (mCons (mVar 2) (mNil)))))) (mSeq (mAsg (mCall 1 mf__law_pair (mCons (mVar 0) (mNil))) (mGt 2 (mGcons (mGn 5) (mGcons (mGn 6) (mGnil))))) (mApp 3 (mTup (mCons (mIxO 2 (mUn negD (mC (.int 1)))) (mCons (mVar 5) (mCons (mVar 6) (mNil)))))))
@[reducible] def mb__law_rows : MS := mSeq (mPar [2, 3] (mMow (mLstO (mNil)) (mMow (mLstO (mNil)) (mMnil)))) (mSeq (mFor (mIof rng1 (mCons (mVar 1) (mNil))) (mGn 4) (lb__law_rows_1)) (mFrz 3 (mRet (mVar 3))))
def mf__law_rows : List D → M D := mFn 7 mb__law_rows
@[reducible] def ce__law_text_1 : ME := mBin addD (mBin addD (mBin addD (mBin addD (mVar 1) (mC (.str " "))) (mCB strID (mCons (mVar 2) (mNil)))) (mC (.str "/"))) (mCB strID (mCons (mVar 3) (mNil)))
@[reducible] def mb__law_text : MS := mRet (mJoin (mC (.str ", ")) (mFz (mLcO [1, 2, 3] (mIany (mVar 0)) (mGt 3 (mGcons (mGn 1) (mGcons (mGn 2) (mGcons (mGn 3) (mGnil))))) (mYes) (ce__law_text_1))))
def mf__law_text : List D → M D := mFn 4 mb__law_text
@[reducible] def ce__law_shutet_1 : ME := mTup (mCons (mVar 5) (mCons (mMake "Card" 2 mf_Card___init__ (mCons (mVar 6) (mCons (mVar 7) (mNil)))) (mNil)))
@[reducible] def mb__law_shutet : MS := mSeq (mPar [2, 3] (mMsh (mCall 2 mf__law_draw (mCons (mVar 0) (mCons (mC (.int 4)) (mNil)))) (mMsh (mCall 1 mf__law_text (mCons (mVar 1) (mNil))) (mMnil)))) (mSeq (mIfS (mB (mBin gtD (mVar 2) (mC (.int 1)))) (mRet (mIf (mB (mBin eqMD (mVar 2) (mC (.int 2)))) (mCMet1 "Wallet" 2 mf_Wallet_read (mC (.cls "Wallet")) (mCons (mVar 3) (mNil))) (mCMetK "Wallet" 1 2 [0, 1] mf_Wallet_read (mC (.cls "Wallet")) (mCons (mVar 3) (mNil))))) (mNext)) (mSeq (mSet 4 (mCB tupD (mCons (mFz (mLcO [5, 6, 7] (mIany (mVar 1)) (mGt 3 (mGcons (mGn 5) (mGcons (mGn 6) (mGcons (mGn 7) (mGnil))))) (mYes) (ce__law_shutet_1))) (mNil)))) (mRet (mIf (mB (mBin eqMD (mVar 2) (mC (.int 0)))) (mMake "Wallet" 1 mf_Wallet___init__ (mCons (mVar 4) (mNil))) (mMakeK "Wallet" 1 1 [0] mf_Wallet___init__ (mCons (mVar 4) (mNil)))))))
def mf__law_shutet : List D → M D := mFn 8 mb__law_shutet
end S1

set_option Elab.async false
set_option linter.all false
set_option maxRecDepth 100000
set_option maxHeartbeats 4000000
namespace Sh
open PySem PySem.Spec PyProof.Rows L2 Mi He
@[reducible] def mb_Card___eq__ : MS := mRet (mAndV (mCB isiD (mCons (mVar 1) (mCons (mC (.cls "Card")) (mNil)))) (mAndV (mBin eqMD (mUn (fldD "Card" ["held", "daily"] 0) (mVar 0)) (mUn (fldD "Card" ["held", "daily"] 0) (mVar 1))) (mBin eqMD (mUn (fldD "Card" ["held", "daily"] 1) (mVar 0)) (mUn (fldD "Card" ["held", "daily"] 1) (mVar 1)))))
def mf_Card___eq__ : List D → M D := mFn 2 mb_Card___eq__
end Sh

set_option Elab.async false
set_option linter.all false
set_option maxRecDepth 100000
set_option maxHeartbeats 4000000
namespace G02
open PySem PySem.Spec PyProof.Rows L2 Mi He Sh S1
noncomputable section
@[reducible] def mb_Card_read : MS := mSeq (mSet 2 (mCall 1 mf_card_of (mCons (mVar 1) (mNil)))) (mSeq (mIfS (mB (mBin isD (mVar 2) (mC .non))) (mStuck) (mNext)) (mRet (mVar 2)))
def mf_Card_read : List D → M D := mFn 3 mb_Card_read
@[reducible] def mb__law_made : MS := mSeq (mPar [3, 4] (mMsh (mCall 2 mf__law_draw (mCons (mVar 0) (mCons (mC (.int 6)) (mNil)))) (mMsh (mBin addD (mBin addD (mCB strID (mCons (mVar 1) (mNil))) (mC (.str "/"))) (mCB strID (mCons (mVar 2) (mNil)))) (mMnil)))) (mSeq (mIfS (mB (mBin ltD (mVar 3) (mC (.int 2)))) (mRet (mIf (mB (mBin eqMD (mVar 3) (mC (.int 0)))) (mMake "Card" 2 mf_Card___init__ (mCons (mVar 1) (mCons (mVar 2) (mNil)))) (mMakeK "Card" 2 2 [1, 0] mf_Card___init__ (mCons (mVar 2) (mCons (mVar 1) (mNil)))))) (mNext)) (mSeq (mIfS (mB (mBin ltD (mVar 3) (mC (.int 4)))) (mRet (mIf (mB (mBin eqMD (mVar 3) (mC (.int 2)))) (mMakeN "Card" 1 1 2 [0, 1] mf_Card___init__ (mCons (mVar 1) (mNil)) (mCons (mVar 2) (mNil))) (mMakeK "Card" 2 2 [0, 1] mf_Card___init__ (mCons (mVar 1) (mCons (mVar 2) (mNil)))))) (mNext)) (mRet (mIf (mB (mBin eqMD (mVar 3) (mC (.int 4)))) (mCMet1 "Card" 2 mf_Card_read (mC (.cls "Card")) (mCons (mVar 4) (mNil))) (mCMetK "Card" 1 2 [0, 1] mf_Card_read (mC (.cls "Card")) (mCons (mVar 4) (mNil)))))))
def mf__law_made : List D → M D := mFn 5 mb__law_made
@[reducible] def mb_Card___repr__ : MS := mRet (mFs [mC (.str "Card "), mFmt (mUn (fldD "Card" ["held", "daily"] 0) (mVar 0)), mC (.str "/"), mFmt (mUn (fldD "Card" ["held", "daily"] 1) (mVar 0))])
def mf_Card___repr__ : List D → M D := mFn 1 mb_Card___repr__
@[reducible] def mb__law_shown : MS := mSeq (mSet 3 (mBin addD (mBin addD (mCB strID (mCons (mVar 1) (mNil))) (mC (.str "/"))) (mCB strID (mCons (mVar 2) (mNil))))) (mSeq (mSet 4 (mFz (mLstO (mCons (mVar 1) (mCons (mVar 2) (mCons (mVar 3) (mCons (mBin addD (mC (.str "Card ")) (mVar 3)) (mCons (mC (.bl true)) (mNil))))))))) (mRet (mBin eqSD (mUn repLD (mFz (mLstO (mCons (mSelf "Card" mf_Card_balance (mVar 0)) (mCons (mSelf "Card" mf_Card_limit (mVar 0)) (mCons (mStrO "Card" mf_Card___str__ (mVar 0)) (mCons (mRep "Card" mf_Card___repr__ (mVar 0)) (mCons (mTrueOb "Card" (mVar 0)) (mNil))))))))) (mUn repLD (mVar 4)))))
def mf__law_shown : List D → M D := mFn 5 mb__law_shown
@[reducible] def ce__law_right_1 : ME := mCall 1 mf__law_pair (mCons (mVar 0) (mNil))
@[reducible] def ce__law_right_2 : ME := mCall 3 mf__law_made (mCons (mVar 0) (mCons (mVar 6) (mCons (mVar 7) (mNil))))
@[reducible] def lb__law_right_3 : MS := mIfS (mNot (mB (mCall 3 mf__law_shown (mCons (mVar 5) (mCons (mVar 6) (mCons (mVar 7) (mNil))))))) (mRet (mC (.bl false))) (mNext)
@[reducible] def lb__law_right_4 : MS := mFrz 2 (mFor (mIof zipA2 (mCons (mVar 3) (mCons (mVar 2) (mNil)))) (mGt 2 (mGcons (mGn 5) (mGcons (mGt 2 (mGcons (mGn 6) (mGcons (mGn 7) (mGnil)))) (mGnil)))) (lb__law_right_3))
@[reducible] def lb__law_right_5 : MS := mIfS (mB (mBin neSD (mUn repLD (mFz (mLstO (mCons (mEqO "Card" mf_Card___eq__ (mVar 5) (mVar 9)) (mCons (mNeO "Card" mf_Card___eq__ (mVar 5) (mVar 9)) (mNil)))))) (mUn repLD (mFz (mLstO (mCons (mBin eqMD (mVar 8) (mVar 10)) (mCons (mBin neMD (mVar 8) (mVar 10)) (mNil)))))))) (mRet (mC (.bl false))) (mNext)
@[reducible] def lb__law_right_6 : MS := mIfS (mOr (mB (mCmA "Card" id [] mf_Card___eq__ (mVar 5) (mVar 11))) (mNot (mB (mCmA "Card" (fun b => !b) [] mf_Card___eq__ (mVar 5) (mVar 11))))) (mRet (mC (.bl false))) (mNext)
@[reducible] def lb__law_right_7 : MS := mSeq (mFrz 2 (mFor (mIof zipA2 (mCons (mVar 3) (mCons (mVar 2) (mNil)))) (mGt 2 (mGcons (mGn 9) (mGcons (mGn 10) (mGnil)))) (lb__law_right_5))) (mFor (mIany (mFz (mLstO (mCons (mC .non) (mCons (mC (.bl true)) (mCons (mC (.int 0)) (mCons (mBin ixD (mVar 8) (mC (.int 0))) (mCons (mBin ixD (mVar 8) (mC (.int 1))) (mCons (mVar 8) (mCons (mCB listD (mCons (mVar 8) (mNil))) (mCons (mStrO "Card" mf_Card___str__ (mVar 5)) (mCons (mRep "Card" mf_Card___repr__ (mVar 5)) (mCons (mFz (mLstO (mCons (mVar 5) (mNil)))) (mCons (mC (.dct [] [])) (mNil))))))))))))))) (mGn 11) (lb__law_right_6))
@[reducible] def mb__law_right : MS := mSeq (mSet 1 (mCall 2 mf__law_draw (mCons (mVar 0) (mCons (mC (.int 2)) (mNil))))) (mSeq (mSetO 2 (mBorLs [] (mLcO [4] (mIof rng1 (mCons (mC (.int 4)) (mNil))) (mGn 4) (mYes) (ce__law_right_1)))) (mSeq (mApp 2 (mIf (mB (mBin eqMD (mVar 1) (mC (.int 0)))) (mIxO 2 (mC (.int 0))) (mTup (mCons (mBin ixD (mIxO 2 (mC (.int 1))) (mC (.int 0))) (mCons (mBin addD (mBin ixD (mIxO 2 (mC (.int 1))) (mC (.int 1))) (mC (.int 1))) (mNil)))))) (mSeq (mFrz 2 (mSet 3 (mFz (mBorLs [] (mLcO [6, 7] (mIany (mVar 2)) (mGt 2 (mGcons (mGn 6) (mGcons (mGn 7) (mGnil)))) (mYes) (ce__law_right_2)))))) (mSeq (mFor (mIof rng1 (mCons (mC (.int 2)) (mNil))) (mGn 4) (lb__law_right_4)) (mSeq (mFrz 2 (mFor (mIof zipA2 (mCons (mVar 3) (mCons (mVar 2) (mNil)))) (mGt 2 (mGcons (mGn 5) (mGcons (mGn 8) (mGnil)))) (lb__law_right_7))) (mRet (mC (.bl true))))))))
def mf__law_right : List D → M D := mFn 12 mb__law_right
@[reducible] def ce_law_1 : ME := mWith mf__law_right (mCallL 1 mfL__law_purse (mCons (mCall 2 mf__law_cell (mCons (mVar 0) (mCons (mVar 1) (mNil)))) (mNil)))
@[reducible] def mb_law : MS := mRet (mCB allD (mCons (mFz (mLcO [1] (mIof rng1 (mCons (mCB maxD (mCons (mC (.int 2)) (mCons (mCB minD (mCons (mCB lenD (mCons (mVar 0) (mNil))) (mCons (mC (.int 8)) (mNil)))) (mNil)))) (mNil))) (mGn 1) (mYes) (ce_law_1))) (mNil)))
def mf_law : List D → M D := mFn 2 mb_law
end
end G02

set_option Elab.async false
set_option linter.all false
set_option maxRecDepth 100000
set_option maxHeartbeats 4000000
/-! P20m: the least falling row above given sums, plain. -/
namespace P20
/-- what must still come on a day: the greatest of the rounded-up means -/
def need (total : Int) (i : Nat) (s : Int) : Int := -((total - s) / ((i : Int) + 1))
/-- k is the greatest of the needs -/
def IsMax (k total : Int) (ss : List Int) : Prop := (∃ i s, ss[i]? = some s ∧ k = need total i s) ∧ ∀ i s, ss[i]? = some s → need total i s ≤ k
theorem need_le {total s k : Int} {i : Nat} (h : need total i s ≤ k) : s - total ≤ k * ((i : Int) + 1) := by
  unfold need at h
  have hp : (0 : Int) < (i : Int) + 1 := by omega
  have h1 : -k ≤ (total - s) / ((i : Int) + 1) := by omega
  have h2 : (-k) * ((i : Int) + 1) ≤ total - s := (Int.le_ediv_iff_mul_le hp).mp h1
  rw [Int.neg_mul] at h2
  omega
theorem need_gt {total s k : Int} {i : Nat} (h : k ≤ need total i s) : (k - 1) * ((i : Int) + 1) < s - total := by
  unfold need at h
  have hp : (0 : Int) < (i : Int) + 1 := by omega
  have h1 : (total - s) / ((i : Int) + 1) < -k + 1 := by omega
  have h2 : total - s < (-k + 1) * ((i : Int) + 1) := Int.lt_mul_of_ediv_lt hp h1
  have e : (-k + 1) * ((i : Int) + 1) = -((k - 1) * ((i : Int) + 1)) := by
    rw [← Int.neg_mul]; congr 1; omega
  rw [e] at h2
  omega
theorem le_need {total s k : Int} {i : Nat} (h : (k - 1) * ((i : Int) + 1) < s - total) : k ≤ need total i s := by
  unfold need
  have hp : (0 : Int) < (i : Int) + 1 := by omega
  have e : (-k + 1) * ((i : Int) + 1) = -((k - 1) * ((i : Int) + 1)) := by
    rw [← Int.neg_mul]; congr 1; omega
  have h2 : total - s < (-k + 1) * ((i : Int) + 1) := by rw [e]; omega
  have h1 : (total - s) / ((i : Int) + 1) < -k + 1 := Int.ediv_lt_of_lt_mul hp h2
  omega
/-- the row as it is built, from the sums ss that are left behind a total -/
inductive Least : Int → List Int → List Int → Prop
  | nil (total : Int) : Least total [] []
  | stop {total k : Int} {ss : List Int} (h : IsMax k total ss) (hk : k ≤ 0) : Least total ss []
  | more {total k s : Int} {ss row : List Int} (h : IsMax k total (s :: ss)) (hk : 0 < k) (r : Least (total + k) ss row) : Least total (s :: ss) (k :: row)
theorem Least.len {t : Int} {ss row : List Int} (h : Least t ss row) : row.length ≤ ss.length := by
  induction h with
  | nil => simp
  | stop => simp
  | more _ _ _ ih => simpa using ih
theorem Least.pos {t : Int} {ss row : List Int} (h : Least t ss row) : ∀ x ∈ row, 0 < x := by
  induction h with
  | nil => simp
  | stop => simp
  | more _ hk _ ih =>
    intro x hx
    rcases List.mem_cons.mp hx with rfl | hx
    · exact hk
    · exact ih x hx
/-- the first number behind a day is at most the day's -/
theorem Least.fall {t k s : Int} {ss row : List Int} (hm : IsMax k t (s :: ss)) (hk : 0 < k) (h : Least (t + k) ss row) : ∀ x, row[0]? = some x → x ≤ k := by
  intro x hx
  cases h with
  | nil => cases hx
  | stop => cases hx
  | more h2 hk2 r =>
    simp at hx
    subst hx
    obtain ⟨⟨i, s2, e, rfl⟩, _⟩ := h2
    have h3 := need_le (hm.2 (i + 1) s2 (by simpa using e))
    have h4 := @need_gt (t + k) s2 _ i (Int.le_refl _)
    apply Decidable.byContradiction
    intro hc
    have h5 : k ≤ need (t + k) i s2 - 1 := by omega
    have h6 : k * ((i : Int) + 1) ≤ (need (t + k) i s2 - 1) * ((i : Int) + 1) := Int.mul_le_mul_of_nonneg_right h5 (by omega)
    have h7 : k * (((i + 1 : Nat) : Int) + 1) = k * ((i : Int) + 1) + k := by
      rw [show (((i + 1 : Nat) : Int) + 1) = ((i : Int) + 1) + 1 by omega, Int.mul_add, Int.mul_one]
    rw [h7] at h3
    omega
theorem Least.falls {t : Int} {ss row : List Int} (h : Least t ss row) : ∀ (k : Nat) (x y : Int), row[k]? = some x → row[k + 1]? = some y → y ≤ x := by
  induction h with
  | nil => intro k x y h; cases h
  | stop => intro k x y h; cases h
  | more hm hk r ih =>
    intro k x y hx hy
    cases k with
    | zero =>
      simp at hx hy
      subst hx
      exact Least.fall hm hk r y (by simpa using hy)
    | succ k => exact ih k x y (by simpa using hx) (by simpa using hy)
/-- sum of the first n numbers -/
def sumN (row : List Int) : Nat → Int
  | 0 => 0
  | n + 1 => row.headD 0 + sumN row.tail n
theorem sumN_nil (n : Nat) : sumN [] n = 0 := by
  induction n with
  | zero => rfl
  | succ n ih => show (0 : Int) + sumN [] n = 0; rw [ih]; rfl
theorem Least.cover {t : Int} {ss row : List Int} (h : Least t ss row) : ∀ (n : Nat) (s : Int), ss[n]? = some s → s ≤ t + sumN row (n + 1) := by
  induction h with
  | nil => intro n s h; cases h
  | @stop t k ss h hk =>
    intro n s e
    rw [sumN_nil]
    have h1 := need_le (h.2 n s e)
    have h2 : k * ((n : Int) + 1) ≤ 0 := by
      have := Int.mul_le_mul_of_nonneg_right hk (show (0 : Int) ≤ (n : Int) + 1 by omega)
      rw [Int.zero_mul] at this
      exact this
    omega
  | @more t k s0 ss row h hk r ih =>
    intro n s e
    cases n with
    | zero =>
      simp at e
      subst e
      have h1 := need_le (h.2 0 s0 rfl)
      show s0 ≤ t + (k + 0)
      have h2 : k * (((0 : Nat) : Int) + 1) = k := by simp
      rw [h2] at h1
      omega
    | succ n =>
      have h1 := ih n s (by simpa using e)
      show s ≤ t + (k + sumN row (n + 1))
      omega
theorem Least.tight {t : Int} {ss row : List Int} (h : Least t ss row) : ∀ (k : Nat) (x : Int), row[k]? = some x → ∃ (i : Nat) (s : Int), ss[k + i]? = some s ∧ t + sumN row k + ((i : Int) + 1) * (x - 1) < s := by
  induction h with
  | nil => intro k x h; cases h
  | stop => intro k x h; cases h
  | @more t m s0 ss row h hk r ih =>
    intro k x e
    cases k with
    | zero =>
      simp at e
      subst e
      obtain ⟨⟨i, s, e1, e2⟩, _⟩ := h
      have h2 := @need_gt t s m i (by omega)
      rw [Int.mul_comm] at h2
      refine ⟨i, s, by simpa using e1, ?_⟩
      show t + 0 + _ < s
      omega
    | succ k =>
      obtain ⟨i, s, e1, h1⟩ := ih k x (by simpa using e)
      refine ⟨i, s, by rw [show k + 1 + i = (k + i) + 1 by omega]; simpa using e1, ?_⟩
      show t + (m + sumN row k) + _ < s
      omega
/-- the least row is one only -/
theorem IsMax.uniq {a b t : Int} {ss : List Int} (h : IsMax a t ss) (k : IsMax b t ss) : a = b := by
  obtain ⟨⟨i, s, e, rfl⟩, h2⟩ := h
  obtain ⟨⟨j, s', e', rfl⟩, k2⟩ := k
  have := h2 _ _ e'
  have := k2 _ _ e
  omega
theorem Least.uniq {t : Int} {ss row row' : List Int} (h : Least t ss row) (k : Least t ss row') : row = row' := by
  induction h generalizing row' with
  | nil =>
    cases k with
    | nil => rfl
    | stop => rfl
  | stop h hk =>
    cases k with
    | nil => rfl
    | stop => rfl
    | more h2 hk2 r => have := h.uniq h2; omega
  | more h hk r ih =>
    cases k with
    | stop h2 hk2 => have := h.uniq h2; omega
    | more h2 hk2 r2 =>
      have := h.uniq h2
      subst this
      rw [ih r2]
/-- a falling row of numbers above 0 is the least one above its own sums -/
def Falls (row : List Int) : Prop := (∀ x ∈ row, 0 < x) ∧ ∀ (k : Nat) (x y : Int), row[k]? = some x → row[k + 1]? = some y → y ≤ x
theorem Falls.tail {x : Int} {row : List Int} (h : Falls (x :: row)) : Falls row := ⟨fun y hy => h.1 y (List.mem_cons_of_mem _ hy), fun k a b e1 e2 => h.2 (k + 1) a b (by simpa using e1) (by simpa using e2)⟩
theorem Falls.all_le {x : Int} {row : List Int} (h : Falls (x :: row)) : ∀ (k : Nat) (y : Int), row[k]? = some y → y ≤ x
  | 0, y, e => h.2 0 x y rfl (by simpa using e)
  | k + 1, y, e => by
    have hk : k < row.length := by have := (List.getElem?_eq_some_iff.mp e).1; omega
    have e1 : row[k]? = some row[k] := List.getElem?_eq_getElem hk
    have h1 := h.2 (k + 1) row[k] y (by simpa using e1) (by simpa using e)
    have h2 := Falls.all_le h k _ e1
    omega
def sumsFrom (t : Int) : List Int → List Int
  | [] => []
  | x :: row => (t + x) :: sumsFrom (t + x) row
theorem sumsFrom_le {b : Int} : ∀ {row : List Int} {t : Int} {i : Nat} {s : Int}, (∀ y ∈ row, y ≤ b) → (sumsFrom t row)[i]? = some s → s - t ≤ b * ((i : Int) + 1)
  | [], t, i, s, _, e => by cases e
  | x :: row, t, 0, s, h, e => by
    simp [sumsFrom] at e
    have := h x List.mem_cons_self
    simp
    omega
  | x :: row, t, i + 1, s, h, e => by
    have e1 : (sumsFrom (t + x) row)[i]? = some s := by simpa [sumsFrom] using e
    have h1 := sumsFrom_le (fun y hy => h y (List.mem_cons_of_mem _ hy)) e1
    have h2 := h x List.mem_cons_self
    rw [show (((i + 1 : Nat) : Int) + 1) = ((i : Int) + 1) + 1 by omega, Int.mul_add, Int.mul_one]
    omega
theorem le_need_of {total s k : Int} {i : Nat} (h : s - total ≤ k * ((i : Int) + 1)) : need total i s ≤ k := by
  apply Decidable.byContradiction
  intro hc
  have h1 := @need_gt total s (k + 1) i (by omega)
  rw [show k + 1 - 1 = k by omega] at h1
  omega
theorem least_own : ∀ {row : List Int} {t : Int}, Falls row → Least t (sumsFrom t row) row
  | [], t, _ => .nil t
  | x :: row, t, h => by
    refine .more (k := x) ⟨⟨0, t + x, rfl, ?_⟩, fun i s e => ?_⟩ (h.1 x List.mem_cons_self) (least_own h.tail)
    · unfold need; simp; omega
    · refine le_need_of (sumsFrom_le (row := x :: row) (t := t) (fun y hy => ?_) e)
      rcases List.mem_cons.mp hy with rfl | hy
      · exact Int.le_refl _
      · obtain ⟨k, hk, rfl⟩ := List.mem_iff_getElem.mp hy
        exact h.all_le k _ (List.getElem?_eq_getElem hk)
end P20

set_option Elab.async false
set_option linter.all false
set_option maxRecDepth 100000
set_option maxHeartbeats 4000000
namespace Sh
open PySem L2 Mi P20
@[simp] theorem isint_ok {n : Int} {u : PuS} {P : D → PuS → Prop} : Ok (mf_is_integer [.int n]) u P ↔ P (.bl true) u := ok_of rfl
@[simp] theorem isnat_ok {n : Int} {u : PuS} {P : D → PuS → Prop} : Ok (mf_is_natural [.int n]) u P ↔ P (.bl (decide (0 ≤ n))) u := by
  unfold mf_is_natural mb_is_natural
  simp
theorem getI {ns : List Int} {k : Nat} {x : Int} (h : ns[k]? = some x) : atI (ns.map D.int) (k : Int) = some (.int x) := at_nat (by rw [List.getElem?_map, h]; rfl)
/-- a row as forms have it -/
def Good (row : List Int) : Prop := Falls row ∧ row.length ≤ 24
theorem wrong_ok {row : List Int} (h : Good row) {u : PuS} {P : D → PuS → Prop} (hp : P .non u) : Ok (mf_wrong_number [.tup (row.map D.int)]) u P := by
  unfold mf_wrong_number mb_wrong_number
  simp
  refine ok_list (enumD (row.map D.int)) (fun k ρ u' => u' = u ∧ ∃ t w, ρ = [.sh (.tup (row.map D.int)), t, w]) ?_ ?_ _ _ ⟨rfl, _, _, rfl⟩
  · rintro k d ρ u' e ⟨rfl, t, w, rfl⟩
    obtain ⟨x, ex, rfl⟩ := enumD_ints e
    have hk : k < row.length := (List.getElem?_eq_some_iff.mp ex).1
    have hx : 0 < x := h.1.1 x (List.mem_of_getElem? ex)
    have h24 := h.2
    unfold lb_wrong_number_1
    have h1 : ¬ (k : Int) = 24 := by omega
    have h2 : ¬ x = 0 := by omega
    have h3 : 0 ≤ x := by omega
    by_cases h0 : 0 < k
    · obtain ⟨j, rfl⟩ : ∃ j, k = j + 1 := ⟨k - 1, by omega⟩
      have ej : row[j]? = some row[j] := List.getElem?_eq_getElem (by omega)
      have hle := h.1.2 j _ _ ej ex
      have e1 : atI (row.map D.int) (((j + 1 : Nat) : Int) - 1) = some (.int row[j]) := by
        rw [show (((j + 1 : Nat) : Int) - 1) = (j : Int) by omega]
        exact getI ej
      have h5 : ¬ row[j] < x := by omega
      simp at h1 e1
      simp [h1, h2, h3, h0, e1, h5]
    · have h0' : k = 0 := by omega
      subst h0'
      simp [h2, h3]
  · rintro ρ u' ⟨rfl, t, w, rfl⟩
    simpa using hp
theorem init_ok {row : List Int} (h : Good row) {u : PuS} {P : List Str × List D → PuS → Prop} (hp : P (["numbers"], [.tup (row.map D.int)]) u) : Ok (mf_Form___init__ [.tup (row.map D.int)]) u P := by
  unfold mf_Form___init__ mb_Form___init__
  have e : isiD [.tup (row.map D.int), .ty "tuple"] = some (.bl true) := rfl
  simp [startI, e]
  refine wrong_ok h ?_
  have e2 : isntD .non .non = some (.bl false) := rfl
  simp [e2]
  exact ⟨[], [], ⟨rfl, rfl⟩, by simp, by decide, hp⟩
/-- the needs of the days behind k -/
def nd (ns : List Int) (k : Nat) (t : Int) (i : Nat) : Int := need t i ((ns.drop k).getD i 0)
/-- the least row of these sums -/
theorem least_row_any {d : D} {ns : List Int} (e_len : lenD [d] = some (.int ns.length)) (e_ix : ∀ i : Int, ixD d (.int i) = atI (ns.map D.int) i) (hl : ns.length ≤ 24) {u : PuS} {P : D → PuS → Prop} (hp : ∀ row, Least 0 ns row → P (.tup (row.map D.int)) u) : Ok (mf_least_row [d]) u P := by
  generalize hdd : d = dd at e_len e_ix ⊢
  unfold mf_least_row mb_least_row
  simp [e_len]
  refine ⟨by omega, ?_⟩
  refine ok_range 0 ns.length (fun k ρ u' => u' = u ∧ ∃ (pre : List Int) (t : Int) (a b c d : Sd), pre.length = k ∧ (∀ row, Least t (ns.drop k) row → Least 0 ns (pre ++ row)) ∧ ρ = [.sh dd, .ow (pre.map D.int), .sh (.int t), a, b, c, d]) ?_ ?_ _ _ ⟨rfl, [], 0, _, _, _, _, rfl, fun row h => h, rfl⟩
  · rintro k ρ u' hk ⟨rfl, pre, t, a, b, c, d, hpre, hrow, rfl⟩
    unfold lb_least_row_2
    simp [mBorLs, e_len]
    refine ⟨by omega, by rw [rngD_len]; omega, ?_⟩
    refine ok_lcr (fun i => [.sh dd, .ow (pre.map D.int), .sh (.int t), .sh (.int k), b, c, .sh (.int (k + (i : Nat)))]) (fun _ => true) (fun i => .int (nd ns k t i)) ?_ ?_ ?_ ?_
    · intro i hi; rfl
    · intro i hi; simp
    · intro i hi _
      unfold ce_least_row_1
      have ei : ns[k + i]? = some ns[k + i] := List.getElem?_eq_getElem (by omega)
      have e1 : atI (ns.map D.int) ((k : Int) + (i : Int)) = some (.int ns[k + i]) := by
        have := getI ei
        rwa [show ((k + i : Nat) : Int) = (k : Int) + (i : Int) by omega] at this
      have e2 : (ns.drop k).getD i 0 = ns[k + i] := by
        rw [List.getD_eq_getElem?_getD, List.getElem?_drop, ei]; rfl
      have e3 : fdivC (t - ns[k + i]) ((k : Int) + (i : Int) - (k : Int) + 1) = true := fdivC_small (by omega)
      have e4 : nd ns k t i = -((t - ns[k + i]) / ((k : Int) + (i : Int) - (k : Int) + 1)) := by
        unfold nd need
        rw [e2, show (k : Int) + (i : Int) - (k : Int) + 1 = (i : Int) + 1 by omega]
      rw [e4]
      simp [e_ix, e1, e3]
    · rw [List.filter_eq_self.mpr (fun _ _ => rfl)]
      obtain ⟨m, hm⟩ : ∃ m, ns.length - k = m + 1 := ⟨ns.length - k - 1, by omega⟩
      rw [hm]
      have eL : (List.range (m + 1)).map (fun i => D.int (nd ns k t i)) = ((List.range (m + 1)).map (nd ns k t)).map D.int := by rw [List.map_map]; rfl
      obtain ⟨n0, nr, eC⟩ : ∃ n0 nr, (List.range (m + 1)).map (nd ns k t) = n0 :: nr := by
        rw [List.range_succ_eq_map, List.map_cons]
        exact ⟨_, _, rfl⟩
      rw [eL, eC]
      obtain ⟨hm1, hm2⟩ := maxL_mem (ns := n0 :: nr) (by simp)
      have hmax : IsMax (maxL (n0 :: nr)) t (ns.drop k) := by
        constructor
        · rw [← eC] at hm1
          obtain ⟨i, hi, e⟩ := List.mem_map.mp hm1
          have hi := List.mem_range.mp hi
          refine ⟨i, (ns.drop k).getD i 0, ?_, by rw [← eC]; exact e.symm⟩
          rw [List.getD_eq_getElem?_getD, List.getElem?_drop, List.getElem?_eq_getElem (by omega)]; rfl
        · intro i s e
          refine hm2 _ ?_
          rw [← eC]
          have hi : i < m + 1 := by
            have := (List.getElem?_eq_some_iff.mp e).1
            simp at this
            omega
          refine List.mem_map.mpr ⟨i, List.mem_range.mpr hi, ?_⟩
          unfold nd
          rw [List.getD_eq_getElem?_getD, e]; rfl
      refine ⟨.int (maxL (n0 :: nr)), s_maxL, ?_⟩
      by_cases hz : maxL (n0 :: nr) ≤ 0
      · simp [hz]
        have := hrow [] (.stop hmax hz)
        rw [List.append_nil] at this
        exact hp _ this
      · have e0 : ns.drop k = ns[k] :: ns.drop (k + 1) := List.drop_eq_getElem_cons hk
        simp [hz]
        refine ⟨by omega, pre ++ [maxL (n0 :: nr)], by simp [hpre], fun row hr => ?_, by simp⟩
        have := hrow (maxL (n0 :: nr) :: row) (by rw [e0] at hmax ⊢; exact .more hmax (by omega) hr)
        simpa using this
  · rintro ρ u' ⟨rfl, pre, t, a, b, c, d, hpre, hrow, rfl⟩
    simp
    have := hrow [] (by rw [List.drop_eq_nil_of_le (Nat.le_refl _)]; exact .nil t)
    rw [List.append_nil] at this
    exact hp _ this
theorem least_row_ok {ns : List Int} (hl : ns.length ≤ 24) {u : PuS} {P : D → PuS → Prop} (hp : ∀ row, Least 0 ns row → P (.tup (row.map D.int)) u) : Ok (mf_least_row [.tup (ns.map D.int)]) u P :=
  least_row_any (by simp) (fun _ => rfl) hl hp
theorem least_row_lst {ns : List Int} (hl : ns.length ≤ 24) {u : PuS} {P : D → PuS → Prop} (hp : ∀ row, Least 0 ns row → P (.tup (row.map D.int)) u) : Ok (mf_least_row [.lst (ns.map D.int)]) u P :=
  least_row_any (by simp) (fun _ => rfl) hl hp
/-- a form as data -/
def formD (row : List Int) : D := .obj "Form" ["numbers"] [.tup (row.map D.int)]
theorem Least.good {ns row : List Int} (h : Least 0 ns row) (hl : ns.length ≤ 24) : Good row := ⟨⟨h.pos, h.falls⟩, Nat.le_trans h.len hl⟩
theorem least_ok {ns : List Int} (hl : ns.length ≤ 24) {u : PuS} {P : D → PuS → Prop} (hp : ∀ row, Least 0 ns row → P (formD row) u) : Ok (mf_Form_least [.tup (ns.map D.int)]) u P := by
  unfold mf_Form_least mb_Form_least
  have e : isiD [.tup (ns.map D.int), .ty "tuple"] = some (.bl true) := rfl
  simp [e]
  refine ok_list (enumD (ns.map D.int)) (fun k ρ u' => u' = u ∧ ∃ t w, ρ = [.sh (.tup (ns.map D.int)), t, w]) ?_ ?_ _ _ ⟨rfl, _, _, rfl⟩
  · rintro k d ρ u' e ⟨rfl, t, w, rfl⟩
    obtain ⟨x, ex, rfl⟩ := enumD_ints e
    have hk : k < ns.length := (List.getElem?_eq_some_iff.mp ex).1
    have h1 : ¬ (k : Int) = 24 := by omega
    unfold lb_Form_least_1
    simp [h1]
  · rintro ρ u' ⟨rfl, t, w, rfl⟩
    simp
    refine least_row_ok hl fun row hr => ?_
    exact init_ok (Least.good hr hl) (hp row hr)
@[simp] theorem len_ok' {row : List Int} {u : PuS} {P : D → PuS → Prop} : Ok (mf_Form___len__ [.obj "Form" ["numbers"] [.tup (row.map D.int)]]) u P ↔ P (.int row.length) u := by
  unfold mf_Form___len__ mb_Form___len__
  simp
@[simp] theorem row_ok' {row : List Int} {u : PuS} {P : D → PuS → Prop} : Ok (mf_Form_row [.obj "Form" ["numbers"] [.tup (row.map D.int)]]) u P ↔ P (.tup (row.map D.int)) u := by
  unfold mf_Form_row mb_Form_row
  simp
@[simp] theorem eq_ok' {row row' : List Int} {u : PuS} {P : D → PuS → Prop} : Ok (mf_Form___eq__ [.obj "Form" ["numbers"] [.tup (row.map D.int)], .obj "Form" ["numbers"] [.tup (row'.map D.int)]]) u P ↔ P (.bl (decide (row = row'))) u := by
  unfold mf_Form___eq__ mb_Form___eq__
  have e : isiD [.obj "Form" ["numbers"] [.tup (row'.map D.int)], .cls "Form"] = some (.bl true) := rfl
  simp [e]
theorem sums_of_ok {row : List Int} (hl : row.length ≤ 24) {u : PuS} {P : D → PuS → Prop} (hp : P (.lst ((0 :: sumsFrom 0 row).map D.int)) u) : Ok (mf_sums_of [.tup (row.map D.int)]) u P := by
  unfold mf_sums_of mb_sums_of
  simp
  refine ok_list (row.map D.int) (fun k ρ u' => u' = u ∧ ∃ (pre : List Int) (t : Int) (w : Sd), pre.length = k ∧ (pre ++ [t]) ++ sumsFrom t (row.drop k) = 0 :: sumsFrom 0 row ∧ ρ = [.sh (.tup (row.map D.int)), .ow ((pre ++ [t]).map D.int), w]) ?_ ?_ _ _ ⟨rfl, [], 0, _, rfl, rfl, rfl⟩
  · rintro k d ρ u' e ⟨rfl, pre, t, w, hk, hs, rfl⟩
    have hkl : k < row.length := by have := (List.getElem?_eq_some_iff.mp e).1; simpa using this
    have ed : d = .int row[k] := by rw [List.getElem?_map, List.getElem?_eq_getElem hkl] at e; exact (Option.some.inj e).symm
    subst ed
    unfold lb_sums_of_1
    have e1 : atI ((pre ++ [t]).map D.int) (-1) = some (.int t) := by rw [List.map_append]; exact at_last
    simp at e1
    simp [e1]
    refine ⟨by omega, pre ++ [t], by simp [hk], ?_, by simp⟩
    rw [← hs, List.drop_eq_getElem_cons hkl]
    simp [sumsFrom]
  · rintro ρ u' ⟨rfl, pre, t, w, hk, hs, rfl⟩
    rw [List.length_map] at hk
    rw [List.drop_eq_nil_of_le (by simp)] at hs
    simp only [sumsFrom, List.append_nil] at hs
    rw [← hs] at hp
    simpa using hp
theorem fsums_ok {row : List Int} (hl : row.length ≤ 24) {u : PuS} {P : D → PuS → Prop} (hp : P (.tup ((sumsFrom 0 row).map D.int)) u) : Ok (mf_Form_sums [.obj "Form" ["numbers"] [.tup (row.map D.int)]]) u P := by
  unfold mf_Form_sums mb_Form_sums
  simp
  refine sums_of_ok hl ?_
  rw [show (1 : Int) = ((1 : Nat) : Int) from rfl]
  simp only [s_slL, cut_from]
  simpa using hp
theorem sumsFrom_len : ∀ (row : List Int) (t : Int), (sumsFrom t row).length = row.length
  | [], _ => rfl
  | x :: row, t => congrArg Nat.succ (sumsFrom_len row (t + x))
end Sh

set_option Elab.async false
set_option linter.all false
set_option maxRecDepth 100000
set_option maxHeartbeats 4000000
namespace S1
open PySem L2 Mi P20 Sh
def Pu (u : PuS) : Prop := ∃ x s c : Int, u = .real [x, s, c] ∧ 0 ≤ s ∧ s < 2147483648
theorem draw_ok {n : Int} (hn : 0 < n ∧ n < 1000000000) {u : PuS} (hu : Pu u) {P : D → PuS → Prop} (h : ∀ r u', 0 ≤ r → r < n → Pu u' → P (.int r) u') : Ok (mf__law_draw [.pur, .int n]) u P := by
  obtain ⟨x, s, c, rfl, h1, h2⟩ := hu
  unfold mf__law_draw mb__law_draw
  simp [atI, ixN, hn]
  have hh : ∀ k : Int, 0 ≤ k % n ∧ k % n < n := fun k => ⟨Int.emod_nonneg _ (by omega), Int.emod_lt_of_pos _ hn.1⟩
  refine brd (fun hx => ?_) (fun hx => ?_)
  · exact h _ _ (hh _).1 (hh _).2 ⟨_, _, _, rfl, h1, h2⟩
  · refine ⟨.inl (.inl (by omega)), h _ _ (hh _).1 (hh _).2 ⟨_, _, _, rfl, ?_, ?_⟩⟩
    all_goals omega
theorem large_ok {u : PuS} (hu : Pu u) {P : D → PuS → Prop} (h : ∀ r u', 0 ≤ r → Pu u' → P (.int r) u') : Ok (mf__law_large [.pur]) u P := by
  unfold mf__law_large mb__law_large
  simp
  refine draw_ok (by decide) hu fun r u1 h0 h6 hu1 => ?_
  simp
  refine ⟨by omega, ?_⟩
  refine ok_range 0 r.toNat (fun k ρ u => Pu u ∧ ∃ n t, 0 ≤ n ∧ ρ = [.sh .pur, .sh (.int n), t]) ?_ ?_ _ _ ⟨hu1, 0, _, by decide, rfl⟩
  · rintro k ρ u hk ⟨hu, n, t, hn, rfl⟩
    simp
    refine draw_ok (by decide) hu fun r u1 h0 h6 hu1 => ?_
    simp
    exact ⟨hu1, by omega⟩
  · rintro ρ u ⟨hu, n, t, hn, rfl⟩
    simp
    exact h _ _ hn hu
theorem rowl_ok {u : PuS} (hu : Pu u) {m : Nat} (hm : m ≤ 30) {x : Int} {P : Fl → PuS → Prop} (h : ∀ (ns : List Int) s t w u', ns.length = m → Pu u' → P (.nx [.sh .pur, .sh (.int m), .ow (ns.map D.int), s, t, w]) u') :
    Ok (loopD (mGn 4) lb__law_row_1 (rngD 0 m) [.sh .pur, .sh (.int m), .ow [], .sh (.int x), .un, .un]) u P := by
  refine ok_range 0 m (fun k ρ u => Pu u ∧ ∃ (ns : List Int) (n : Int) (t w : Sd), ns.length = k ∧ ρ = [.sh .pur, .sh (.int m), .ow (ns.map D.int), .sh (.int n), t, w]) ?_ ?_ _ _ ⟨hu, [], x, _, _, rfl, rfl⟩
  · rintro k ρ u hk ⟨hu, ns, n, t, w, hn, rfl⟩
    unfold lb__law_row_1
    simp
    refine ⟨by omega, ?_⟩
    refine draw_ok (by decide) hu fun r u1 h0 h6 hu1 => ?_
    have nxt : ∀ (y : Int) (u' : PuS), Pu u' → Pu u' ∧ ∃ (ns' : List Int), ns'.length = k + 1 ∧ ns.map D.int ++ [.int n] = ns'.map D.int := fun y u' hu' => ⟨hu', ns ++ [n], by simp [hn], by simp⟩
    by_cases h1 : 1 < r
    · by_cases h4 : r < 4
      · simp [h1, h4]
        refine draw_ok (by decide) hu1 fun r2 u2 _ _ hu2 => ?_
        simpa using nxt 0 _ hu2
      · simp [h1, h4]
        refine large_ok hu1 fun r2 u2 _ hu2 => ?_
        simpa using nxt 0 _ hu2
    · simp [h1]
      simpa using nxt 0 _ hu1
  · rintro ρ u ⟨hu, ns, n, t, w, hn, rfl⟩
    exact h ns _ t w u hn hu
theorem row_ok {u : PuS} (hu : Pu u) {m : Nat} (hm : m ≤ 30) {P : D → PuS → Prop} (h : ∀ (ns : List Int) u', ns.length = m → Pu u' → P (.tup (ns.map D.int)) u') : Ok (mf__law_row [.pur, .int m]) u P := by
  unfold mf__law_row mb__law_row
  simp
  refine draw_ok (by decide) hu fun r u1 h0 h6 hu1 => ?_
  by_cases h1 : 0 < r
  · simp [h1]
    refine draw_ok (by decide) hu1 fun r2 u2 _ _ hu2 => ?_
    simp
    refine ⟨by omega, rowl_ok hu2 hm fun ns s t w u' hn hu' => ?_⟩
    simp
    rw [← List.map_reverse]
    exact h _ _ (by simp [hn]) hu'
  · simp [h1]
    refine large_ok hu1 fun r2 u2 _ hu2 => ?_
    simp
    refine ⟨by omega, rowl_ok hu2 hm fun ns s t w u' hn hu' => ?_⟩
    simp
    rw [← List.map_reverse]
    exact h _ _ (by simp [hn]) hu'
/-- the sums of a row, filled up with 0 -/
def psum (ns : List Int) : Nat → Int
  | 0 => 0
  | k + 1 => psum ns k + ns.getD k 0
theorem sums_ok {u : PuS} {ns : List Int} {m : Nat} (hm : m ≤ 30) {P : D → PuS → Prop} (h : P (.lst (((List.range (m + 1)).map (psum ns)).map D.int)) u) : Ok (mf__law_sums [.tup (ns.map D.int), .int m]) u P := by
  unfold mf__law_sums mb__law_sums
  simp
  refine ⟨by omega, ?_⟩
  refine ok_range 0 m (fun k ρ u' => u' = u ∧ ∃ t, ρ = [.sh (.tup (ns.map D.int)), .sh (.int m), .ow (((List.range (k + 1)).map (psum ns)).map D.int), t]) ?_ ?_ _ _ ⟨rfl, _, rfl⟩
  · rintro k ρ u' hk ⟨rfl, t, rfl⟩
    unfold lb__law_sums_1
    have e1 : atI (((List.range (k + 1)).map (psum ns)).map D.int) (-1) = some (.int (psum ns k)) := by
      rw [List.range_succ, List.map_append, List.map_append]
      exact at_last
    have e2 : ((List.range (k + 1 + 1)).map (psum ns)).map D.int = ((List.range (k + 1)).map (psum ns)).map D.int ++ [.int (psum ns (k + 1))] := by
      rw [List.range_succ (n := k + 1), List.map_append, List.map_append]; rfl
    by_cases hk2 : k < ns.length
    · have e3 : atI (ns.map D.int) (k : Int) = some (.int (ns.getD k 0)) := at_nat (by simp [hk2])
      simp [-List.map_map, e1, hk2, e2, e3]
      exact ⟨by show _ = psum ns k + ns.getD k 0; simp [hk2], by omega⟩
    · have e4 : ns.getD k 0 = 0 := by rw [List.getD_eq_getElem?_getD, List.getElem?_eq_none (by omega)]; rfl
      simp [-List.map_map, e1, hk2, e2]
      exact ⟨by show psum ns k = psum ns k + ns.getD k 0; rw [e4]; omega, by omega⟩
  · rintro ρ u' ⟨rfl, t, rfl⟩
    simpa [-List.map_map] using h
theorem psum_sumN : ∀ (row : List Int) (n : Nat), psum row n = sumN row n := by
  have key : ∀ (n : Nat) (row : List Int), psum row (n + 1) = row.headD 0 + psum row.tail n := by
    intro n
    induction n with
    | zero => intro row; cases row <;> simp [psum]
    | succ n ih =>
      intro row
      show psum row (n + 1) + row.getD (n + 1) 0 = row.headD 0 + (psum row.tail n + row.tail.getD n 0)
      rw [ih row]
      have : row.getD (n + 1) 0 = row.tail.getD n 0 := by cases row <;> simp
      omega
  intro row n
  induction n generalizing row with
  | zero => rfl
  | succ n ih => rw [key, ih]; rfl
theorem below_ok {xs ys : List Int} (hl : xs.length ≤ 1000) (hy : xs.length = ys.length) (h : ∀ (k : Nat) (x y : Int), xs[k]? = some x → ys[k]? = some y → x ≤ y) {u : PuS} {P : D → PuS → Prop} (hp : P (.bl true) u) : Ok (mf__law_below [.lst (xs.map D.int), .lst (ys.map D.int)]) u P := by
  unfold mf__law_below mb__law_below
  simp
  refine ⟨by omega, by rw [rngD_len]; omega, ?_⟩
  refine ok_lcr (fun i => [.sh (.lst (xs.map D.int)), .sh (.lst (ys.map D.int)), .sh (.int (0 + (i : Nat)))]) (fun _ => false) (fun i => .int i) ?_ ?_ ?_ ?_
  · intro i hi; rfl
  · intro i hi
    have ex : xs[i]? = some xs[i] := List.getElem?_eq_getElem hi
    have ey : ys[i]? = some ys[i] := List.getElem?_eq_getElem (by omega)
    have := h i _ _ ex ey
    have e1 := getI ex
    have e2 := getI ey
    have h3 : ¬ ys[i] < xs[i] := by omega
    unfold ct__law_below_1
    simp [e1, e2, h3]
  · intro i hi z; cases z
  · rw [List.filter_eq_nil_iff.mpr (by simp)]
    have e : eqMD (.lst []) (.lst []) = some (.bl true) := rfl
    simp [e]
    exact hp
theorem cell_ok {ns : List Int} {k : Nat} (hk : k < 100) {u : PuS} {P : D → PuS → Prop} (h : ∀ n : Int, P (.int n) u) : Ok (mf__law_cell [.scr ns, .int k]) u P := by
  unfold mf__law_cell mb__law_cell
  simp
  by_cases hl : k < ns.length
  · have e1 : atI ns (k : Int) = some ns[k] := at_nat (List.getElem?_eq_getElem hl)
    simp [hl, e1]
    exact h _
  · simp [hl]
    refine ⟨.inl (.inr (by omega)), ?_⟩
    rw [show (3 : Int) = ((3 : Nat) : Int) from rfl, cut_to, ← List.map_take]
    refine ok_list ((ns.take 3).map D.int) (fun _ ρ u' => u' = u ∧ ∃ n t, ρ = [.sh (.scr ns), .sh (.int k), .sh (.int n), t]) ?_ ?_ _ _ ⟨rfl, _, _, rfl⟩
    · rintro j d ρ u' e ⟨rfl, n, t, rfl⟩
      rw [List.getElem?_map] at e
      cases e2 : (ns.take 3)[j]? with
      | none => rw [e2] at e; cases e
      | some x =>
        rw [e2] at e
        cases e
        unfold lb__law_cell_1
        simp
    · rintro ρ u' ⟨rfl, n, t, rfl⟩
      simp
      exact h _
theorem purse_ok {n : Int} {u : PuS} {P : List D → PuS → Prop} (h : ∀ x s c : Int, 0 ≤ s → s < 2147483648 → P ([x, s, c].map D.int) u) : Ok (mfL__law_purse [.int n]) u P := by
  unfold mfL__law_purse mbL__law_purse
  simp
  have h1 : 0 ≤ n % 2147483629 ∧ n % 2147483629 < 2147483648 := by omega
  by_cases hn : 1000000000000000000 ≤ n
  · simp [hn]
    exact h n _ 0 h1.1 h1.2
  · simp [hn]
    exact h 0 _ 0 h1.1 h1.2
/-- the law's end: all draws of all purses are right -/
theorem law_all {mfr : List D → M D} {N : Int} (hN : 2 ≤ N ∧ N ≤ 60) (h : ∀ u, Pu u → Ok (mfr [.pur]) u fun d _ => d = .bl true) (ns : List Int) (u : PuS) :
    Ok (mFn 2 (mRet (mCB allD (mCons (mFz (mLcO [1] (mIof rng1 (mCons (mCB maxD (mCons (mC (.int 2)) (mCons (mCB minD (mCons (mCB lenD (mCons (mVar 0) (mNil))) (mCons (mC (.int N)) (mNil)))) (mNil)))) (mNil))) (mGn 1) (mYes) (mWith mfr (mCallL 1 mfL__law_purse (mCons (mCall 2 mf__law_cell (mCons (mVar 0) (mCons (mVar 1) (mNil)))) (mNil)))))) (mNil)))) [.scr ns]) u fun d _ => d = .bl true := by
  simp
  obtain ⟨m, hm, hm2⟩ : ∃ m : Nat, (if 2 < (if N < (ns.length : Int) then N else (ns.length : Int)) then (if N < (ns.length : Int) then N else (ns.length : Int)) else 2) = (m : Int) ∧ m ≤ 60 := by
    refine ⟨(if 2 < (if N < (ns.length : Int) then N else (ns.length : Int)) then (if N < (ns.length : Int) then N else (ns.length : Int)) else 2).toNat, ?_, ?_⟩ <;> split <;> split <;> omega
  rw [hm]
  refine ⟨by omega, by rw [rngD_len]; omega, ?_⟩
  refine (ok_lc (fun _ => True) (fun d => d = .bl true) _ _ trivial ?_).mono ?_
  · intro d hd u _
    obtain ⟨i, hi, rfl⟩ : ∃ i : Nat, i < m ∧ d = .int i := by
      obtain ⟨i, hi, e⟩ := List.mem_iff_getElem.mp hd
      rw [rngD_len] at hi
      exact ⟨i, by omega, by rw [← e]; simp [rngD]⟩
    refine ⟨_, rfl, ?_⟩
    simp
    refine ok_with true ?_
    simp
    refine cell_ok (by omega) fun n => ?_
    refine purse_ok fun x s c h1 h2 => ?_
    exact ⟨[x, s, c], rfl, h _ ⟨x, s, c, rfl, h1, h2⟩⟩
  · rintro ys u' ⟨⟨hl, he⟩, -⟩
    have e1 : ys = (List.replicate ys.length true).map D.bl := by
      clear hl
      induction ys with
      | nil => rfl
      | cons a ys ih =>
        have := he a List.mem_cons_self
        subst this
        rw [List.length_cons, List.replicate_succ, List.map_cons, ← ih fun y hy => he y (List.mem_cons_of_mem _ hy)]
    rw [e1]
    show (blsD ((List.replicate ys.length true).map D.bl)).map (fun bs => D.bl (bs.all id)) = _
    rw [blsD_map]
    simp
theorem law_fin {mf : List D → M D} (h : ∀ ns u, Ok (mf [.scr ns]) u fun d _ => d = .bl true) (ns : List Int) (o : HO) (_ : ns.length ≤ 63) : ∃ u', mf [.scr ns] (.idle o) = some (.bl true, u') := by
  obtain ⟨d, u', e, rfl⟩ := h ns (.idle o)
  exact ⟨u', e⟩
end S1

set_option Elab.async false
set_option linter.all false
set_option maxRecDepth 100000
set_option maxHeartbeats 4000000
/-! W2m: what cards can pay, plain. -/
namespace P20
theorem mono_mul {a b l : Int} (h : a ≤ b) (hl : 0 ≤ l) : a * l ≤ b * l := Int.mul_le_mul_of_nonneg_right h hl
/-- what a card can pay in k days -/
def wor (b l : Int) (k : Nat) : Int := min b ((k : Int) * l)
/-- what cards can pay in k days -/
def FF (am : List (Int × Int)) (k : Nat) : Int := (am.map fun q => wor q.1 q.2 k).sum
/-- cards as they may be -/
def Am (am : List (Int × Int)) : Prop := ∀ q ∈ am, 1 ≤ q.2 ∧ 0 ≤ q.1 ∧ q.1 ≤ 24 * q.2
theorem Am.tail {q : Int × Int} {am : List (Int × Int)} (h : Am (q :: am)) : Am am := fun x hx => h x (List.mem_cons_of_mem _ hx)
theorem Am.nil : Am [] := fun q h => by cases h
theorem Am.cons {q : Int × Int} {am : List (Int × Int)} (h : 1 ≤ q.2 ∧ 0 ≤ q.1 ∧ q.1 ≤ 24 * q.2) (a : Am am) : Am (q :: am) := fun x hx => by
  rcases List.mem_cons.mp hx with rfl | hx
  · exact h
  · exact a x hx
theorem Am.append {am bm : List (Int × Int)} (a : Am am) (b : Am bm) : Am (am ++ bm) := fun x hx => by
  rcases List.mem_append.mp hx with h | h
  · exact a x h
  · exact b x h
theorem FF_nil (k : Nat) : FF [] k = 0 := rfl
theorem FF_cons (q : Int × Int) (am : List (Int × Int)) (k : Nat) : FF (q :: am) k = wor q.1 q.2 k + FF am k := by simp [FF]
theorem FF_append (am bm : List (Int × Int)) (k : Nat) : FF (am ++ bm) k = FF am k + FF bm k := by simp [FF]
theorem wor_zero {b l : Int} (h : 0 ≤ b) : wor b l 0 = 0 := by unfold wor; simp; omega
theorem succ_mul' (k : Nat) (l : Int) : ((k + 1 : Nat) : Int) * l = (k : Int) * l + l := by
  rw [show ((k + 1 : Nat) : Int) = (k : Int) + 1 by omega, Int.add_mul, Int.one_mul]
theorem wor_mono {b l : Int} (hl : 0 ≤ l) (k : Nat) : wor b l k ≤ wor b l (k + 1) := by
  unfold wor
  rw [succ_mul']
  omega
theorem wor_conc {b l : Int} (hl : 0 ≤ l) (k : Nat) : wor b l (k + 2) - wor b l (k + 1) ≤ wor b l (k + 1) - wor b l k := by
  unfold wor
  rw [show k + 2 = (k + 1) + 1 from rfl, succ_mul' (k + 1), succ_mul' k]
  omega
theorem wor_step {b l : Int} (hl : 1 ≤ l) (k : Nat) : wor b l k < wor b l (k + 1) ↔ (k : Int) * l < b := by
  unfold wor
  rw [succ_mul']
  omega
theorem wor_nonneg {b l : Int} (hb : 0 ≤ b) (hl : 0 ≤ l) (k : Nat) : 0 ≤ wor b l k := by
  have : 0 ≤ (k : Int) * l := Int.mul_nonneg (by omega) hl
  unfold wor
  omega
theorem FF_nonneg {am : List (Int × Int)} (h : Am am) (k : Nat) : 0 ≤ FF am k := by
  induction am with
  | nil => simp [FF]
  | cons q am ih =>
    have := ih h.tail
    obtain ⟨h1, h2, h3⟩ := h q List.mem_cons_self
    have := wor_nonneg h2 (by omega : 0 ≤ q.2) k
    rw [FF_cons]
    omega
theorem FF_zero {am : List (Int × Int)} (h : Am am) : FF am 0 = 0 := by
  induction am with
  | nil => rfl
  | cons q am ih => rw [FF_cons, ih h.tail, wor_zero (h q List.mem_cons_self).2.1]; rfl
theorem FF_mono {am : List (Int × Int)} (h : Am am) (k : Nat) : FF am k ≤ FF am (k + 1) := by
  induction am with
  | nil => simp [FF]
  | cons q am ih =>
    have := ih h.tail
    have := wor_mono (b := q.1) (show 0 ≤ q.2 by have := (h q List.mem_cons_self).1; omega) k
    rw [FF_cons, FF_cons]
    omega
theorem FF_conc {am : List (Int × Int)} (h : Am am) (k : Nat) : FF am (k + 2) - FF am (k + 1) ≤ FF am (k + 1) - FF am k := by
  induction am with
  | nil => simp [FF]
  | cons q am ih =>
    have := ih h.tail
    have := wor_conc (b := q.1) (show 0 ≤ q.2 by have := (h q List.mem_cons_self).1; omega) k
    rw [FF_cons, FF_cons, FF_cons]
    omega
/-- on day k + 1 some card can still pay -/
def Mor (am : List (Int × Int)) (k : Nat) : Prop := ∃ q ∈ am, (k : Int) * q.2 < q.1
theorem Mor.less {am : List (Int × Int)} (h : Am am) {k : Nat} : Mor am (k + 1) → Mor am k := by
  rintro ⟨q, hq, h1⟩
  refine ⟨q, hq, ?_⟩
  have := (h q hq).1
  rw [succ_mul'] at h1
  omega
theorem FF_step {am : List (Int × Int)} (h : Am am) (k : Nat) : FF am k < FF am (k + 1) ↔ Mor am k := by
  induction am with
  | nil => simp [FF, Mor]
  | cons q am ih =>
    have ih := ih h.tail
    have h1 := FF_mono h.tail k
    have h0 := (h q List.mem_cons_self).1
    have h2 := wor_mono (b := q.1) (show 0 ≤ q.2 by omega) k
    have h3 := wor_step (b := q.1) h0 k
    rw [FF_cons, FF_cons]
    constructor
    · intro z
      by_cases hq : (k : Int) * q.2 < q.1
      · exact ⟨q, List.mem_cons_self, hq⟩
      · obtain ⟨x, hx, hm⟩ := ih.mp (by omega)
        exact ⟨x, List.mem_cons_of_mem _ hx, hm⟩
    · rintro ⟨x, hx, hm⟩
      rcases List.mem_cons.mp hx with rfl | hx
      · have := h3.mpr hm; omega
      · have := ih.mpr ⟨x, hx, hm⟩; omega
/-- the row of cards: the numbers by which the sums grow, as long as they do -/
def IsRow (am : List (Int × Int)) (row : List Int) : Prop := ∃ d : Nat, d ≤ 24 ∧ (∀ k, k < d → Mor am k) ∧ ¬ Mor am d ∧ row = (List.range d).map fun k => FF am (k + 1) - FF am k
theorem Am.stop {am : List (Int × Int)} (h : Am am) : ¬ Mor am 24 := by
  rintro ⟨q, hq, h1⟩
  have := (h q hq).2.2
  omega
theorem sumN_app : ∀ (n : Nat) (row : List Int), sumN row (n + 1) = sumN row n + row.getD n 0
  | 0, row => by cases row <;> simp [sumN]
  | n + 1, row => by
    show row.headD 0 + sumN row.tail (n + 1) = (row.headD 0 + sumN row.tail n) + row.getD (n + 1) 0
    rw [sumN_app n row.tail]
    have : row.getD (n + 1) 0 = row.tail.getD n 0 := by cases row <;> simp
    omega
theorem Mor.from {am : List (Int × Int)} (h : Am am) {d : Nat} (hd : ¬ Mor am d) : ∀ k, d ≤ k → ¬ Mor am k := by
  intro k hk
  induction k with
  | zero => have : d = 0 := by omega
            subst this; exact hd
  | succ k ih =>
    by_cases e : d = k + 1
    · subst e; exact hd
    · exact fun z => ih (by omega) (z.less h)
theorem FF_flat {am : List (Int × Int)} (h : Am am) {d : Nat} (hd : ¬ Mor am d) : ∀ k, d ≤ k → FF am k = FF am d := by
  intro k hk
  induction k with
  | zero => have : d = 0 := by omega
            subst this; rfl
  | succ k ih =>
    by_cases e : d = k + 1
    · subst e; rfl
    · have h1 := ih (by omega)
      have h2 := Mor.from h hd k (by omega)
      have h3 := FF_mono h k
      have h4 := mt (FF_step h k).mp h2
      omega
theorem IsRow.sum {am : List (Int × Int)} (h : Am am) {row : List Int} (r : IsRow am row) : ∀ n, sumN row n = FF am n := by
  obtain ⟨d, hd, h1, h2, rfl⟩ := r
  intro n
  induction n with
  | zero => rw [FF_zero h]; rfl
  | succ n ih =>
    rw [sumN_app, ih]
    by_cases hn : n < d
    · have : ((List.range d).map fun k => FF am (k + 1) - FF am k).getD n 0 = FF am (n + 1) - FF am n := by
        rw [List.getD_eq_getElem?_getD, List.getElem?_map, List.getElem?_range hn]; rfl
      omega
    · have : ((List.range d).map fun k => FF am (k + 1) - FF am k).getD n 0 = 0 := by
        rw [List.getD_eq_getElem?_getD, List.getElem?_eq_none (by simp; omega)]; rfl
      have := FF_flat h h2 n (by omega)
      have := FF_flat h h2 (n + 1) (by omega)
      omega
theorem IsRow.len {am : List (Int × Int)} {row : List Int} (r : IsRow am row) : row.length ≤ 24 := by
  obtain ⟨d, hd, h1, h2, rfl⟩ := r
  simpa using hd
theorem IsRow.falls {am : List (Int × Int)} (h : Am am) {row : List Int} (r : IsRow am row) : Falls row := by
  obtain ⟨d, hd, h1, h2, rfl⟩ := r
  refine ⟨fun x hx => ?_, fun k x y hx hy => ?_⟩
  · obtain ⟨k, hk, rfl⟩ := List.mem_map.mp hx
    have := (FF_step h k).mpr (h1 k (List.mem_range.mp hk))
    omega
  · rw [List.getElem?_map] at hx hy
    have hk : k + 1 < d := by
      by_cases z : k + 1 < d
      · exact z
      · rw [List.getElem?_eq_none (by simp; omega)] at hy; cases hy
    rw [List.getElem?_range (by omega)] at hx
    rw [List.getElem?_range hk] at hy
    cases hx
    cases hy
    exact FF_conc h k
/-- rows of numbers above 0 are told apart by their sums -/
theorem pos_uniq : ∀ {a b : List Int}, (∀ x ∈ a, 0 < x) → (∀ x ∈ b, 0 < x) → (∀ n, sumN a n = sumN b n) → a = b
  | [], [], _, _, _ => rfl
  | [], y :: b, _, hb, h => by
    have h1 := h 1
    have := hb y List.mem_cons_self
    simp [sumN] at h1
    omega
  | x :: a, [], ha, _, h => by
    have h1 := h 1
    have := ha x List.mem_cons_self
    simp [sumN] at h1
    omega
  | x :: a, y :: b, ha, hb, h => by
    have h1 := h 1
    simp [sumN] at h1
    subst h1
    rw [pos_uniq (a := a) (b := b) (fun z hz => ha z (List.mem_cons_of_mem _ hz)) (fun z hz => hb z (List.mem_cons_of_mem _ hz)) fun n => ?_]
    have h2 := h (n + 1)
    simp [sumN] at h2
    exact h2
theorem IsRow.uniq {am : List (Int × Int)} (h : Am am) {row row' : List Int} (r : IsRow am row) (r' : IsRow am row') : row = row' :=
  pos_uniq (r.falls h).1 (r'.falls h).1 fun n => by rw [r.sum h, r'.sum h]
theorem sumN_flat : ∀ (row : List Int) (n : Nat), row.length ≤ n → sumN row n = sumN row row.length
  | [], n, _ => by rw [sumN_nil, sumN_nil]
  | x :: row, 0, h => by simp at h
  | x :: row, n + 1, h => by
    show x + sumN row n = x + sumN row row.length
    rw [sumN_flat row n (by simpa using h)]
theorem sumN_mono {row : List Int} (h : ∀ x ∈ row, 0 ≤ x) : ∀ n, sumN row n ≤ sumN row (n + 1) := by
  intro n
  rw [sumN_app]
  by_cases hn : n < row.length
  · have : 0 ≤ row.getD n 0 := by
      rw [List.getD_eq_getElem?_getD, List.getElem?_eq_getElem hn]
      exact h _ (List.getElem_mem hn)
    omega
  · have : row.getD n 0 = 0 := by rw [List.getD_eq_getElem?_getD, List.getElem?_eq_none (by omega)]; rfl
    omega
theorem sumN_le {row : List Int} (h : ∀ x ∈ row, 0 ≤ x) {m n : Nat} (hmn : m ≤ n) : sumN row m ≤ sumN row n := by
  induction n with
  | zero => have : m = 0 := by omega
            subst this; exact Int.le_refl _
  | succ n ih =>
    by_cases e : m = n + 1
    · subst e; exact Int.le_refl _
    · have := ih (by omega); have := sumN_mono h n; omega
theorem FF_le {am : List (Int × Int)} (h : Am am) {m n : Nat} (hmn : m ≤ n) : FF am m ≤ FF am n := by
  induction n with
  | zero => have : m = 0 := by omega
            subst this; exact Int.le_refl _
  | succ n ih =>
    by_cases e : m = n + 1
    · subst e; exact Int.le_refl _
    · have := ih (by omega); have := FF_mono h n; omega
end P20

set_option Elab.async false
set_option linter.all false
set_option maxRecDepth 100000
set_option maxHeartbeats 4000000
/-! K2m: what courses ask, plain. -/
namespace P20
/-- an event: a bill, or a card that comes -/
abbrev Ev := Sum Int (Int × Int)
def isB : Ev → Bool
  | .inl _ => true
  | .inr _ => false
def nB (evs : List Ev) : Nat := (evs.filter isB).length
def nC (evs : List Ev) : Nat := (evs.filter fun e => !isB e).length
theorem nB_inl (x : Int) (r : List Ev) : nB (.inl x :: r) = nB r + 1 := rfl
theorem nB_inr (q : Int × Int) (r : List Ev) : nB (.inr q :: r) = nB r := rfl
/-- sets of days with their worth -/
inductive Sel : Int → List Ev → List Int → Int → Prop
  | nil (i : Int) : Sel i [] [] 0
  | card {i b l v : Int} {rest : List Ev} {s : List Int} (h : Sel (i + 1) rest s v) : Sel i (.inr (b, l) :: rest) s (v - wor b l s.length)
  | skip {i x v : Int} {rest : List Ev} {s : List Int} (h : Sel (i + 1) rest s v) : Sel i (.inl x :: rest) s v
  | take {i x v : Int} {rest : List Ev} {s : List Int} (h : Sel (i + 1) rest s v) : Sel i (.inl x :: rest) (i :: s) (x + v)
/-- one step of the table, at an event with this index -/
def askStep (i : Int) (e : Ev) (best : List (Int × List Int)) : List (Int × List Int) := match e with
  | .inr (b, l) => best.map fun q => (q.1 - wor b l q.2.length, q.2)
  | .inl x =>
    let longer := best.map fun q => (q.1 + x, i :: q.2)
    [best.headD (0, [])] ++ ((List.range (best.length - 1)).map fun k => if (longer.getD k (0, [])).1 ≤ (best.getD (k + 1) (0, [])).1 then best.getD (k + 1) (0, []) else longer.getD k (0, [])) ++ [longer.getLastD (0, [])]
def asked (i : Int) : List Ev → List (Int × List Int)
  | [] => [(0, [])]
  | e :: rest => askStep i e (asked (i + 1) rest)
/-- a table as it should be -/
structure Tab (i : Int) (evs : List Ev) (t : List (Int × List Int)) : Prop where
  len : t.length = nB evs + 1
  at_ : ∀ (k : Nat) (a : Int) (ds : List Int), t[k]? = some (a, ds) → ds.length = k ∧ Sel i evs ds a ∧ ∀ s v, Sel i evs s v → s.length = k → v ≤ a
theorem Sel.len {i : Int} {evs : List Ev} {s : List Int} {v : Int} (h : Sel i evs s v) : s.length ≤ nB evs := by
  induction h with
  | nil => exact Nat.le_refl _
  | card h ih => rw [nB_inr]; exact ih
  | skip h ih => rw [nB_inl]; omega
  | take h ih => rw [nB_inl, List.length_cons]; omega
theorem asked_tab : ∀ (evs : List Ev) (i : Int), Tab i evs (asked i evs)
  | [], i => ⟨rfl, fun k a ds e => by
      cases k with
      | zero =>
        simp [asked] at e
        obtain ⟨rfl, rfl⟩ := e
        exact ⟨rfl, .nil i, fun s v h _ => by cases h; exact Int.le_refl _⟩
      | succ k => simp [asked] at e⟩
  | .inr (b, l) :: rest, i => by
    have ih := asked_tab rest (i + 1)
    refine ⟨?_, fun k a ds e => ?_⟩
    · show ((asked (i + 1) rest).map _).length = _
      rw [List.length_map, ih.len, nB_inr]
    · have e' : ((asked (i + 1) rest).map fun q => (q.1 - wor b l q.2.length, q.2))[k]? = some (a, ds) := e
      rw [List.getElem?_map] at e'
      cases e1 : (asked (i + 1) rest)[k]? with
      | none => rw [e1] at e'; cases e'
      | some q =>
        obtain ⟨a', ds'⟩ := q
        rw [e1] at e'
        cases e'
        obtain ⟨h1, h2, h3⟩ := ih.at_ k a' _ e1
        refine ⟨h1, .card h2, fun s v h hs => ?_⟩
        cases h with
        | card h =>
          have := h3 _ _ h hs
          rw [hs, h1]
          omega
  | .inl x :: rest, i => by
    have ih := asked_tab rest (i + 1)
    have hn : nB (.inl x :: rest) = nB rest + 1 := rfl
    have hlen : (asked (i + 1) rest).length = nB rest + 1 := ih.len
    generalize hb : asked (i + 1) rest = best at ih hlen
    have hres : asked i (.inl x :: rest) = askStep i (.inl x) best := by rw [← hb]; rfl
    rw [hres]
    obtain ⟨q0, br, rfl⟩ : ∃ q br, best = q :: br := by
      cases best with
      | nil => simp at hlen
      | cons q br => exact ⟨q, br, rfl⟩
    have hget : ∀ k, k < nB rest + 1 → (q0 :: br)[k]? = some ((q0 :: br).getD k (0, [])) := fun k hk => by
      rw [List.getD_eq_getElem?_getD, List.getElem?_eq_getElem (by omega)]; rfl
    have hgl : ∀ k, k < nB rest + 1 → ((q0 :: br).map fun q => (q.1 + x, i :: q.2)).getD k (0, []) = (((q0 :: br).getD k (0, [])).1 + x, i :: ((q0 :: br).getD k (0, [])).2) := fun k hk => by
      rw [List.getD_eq_getElem?_getD, List.getElem?_map, hget k hk]; rfl
    have hst : ∀ k, k ≤ nB rest + 1 → (askStep i (.inl x) (q0 :: br))[k]? = some (if k = 0 then q0 else if h : k < nB rest + 1 then (if ((q0 :: br).getD (k - 1) (0, [])).1 + x ≤ ((q0 :: br).getD k (0, [])).1 then (q0 :: br).getD k (0, []) else (((q0 :: br).getD (k - 1) (0, [])).1 + x, i :: ((q0 :: br).getD (k - 1) (0, [])).2)) else (((q0 :: br).getD (nB rest) (0, [])).1 + x, i :: ((q0 :: br).getD (nB rest) (0, [])).2)) := fun k hk => by
      unfold askStep
      simp only []
      cases k with
      | zero => simp
      | succ k =>
        rw [if_neg (by omega)]
        show ((([(q0 :: br).headD (0, [])] ++ _) ++ [_])[k + 1]?) = _
        by_cases hk2 : k + 1 < nB rest + 1
        · have hlen' : br.length = nB rest := by rw [List.length_cons] at hlen; omega
          rw [dif_pos hk2, List.getElem?_append_left (by simp; omega)]
          show ((List.range ((q0 :: br).length - 1)).map _)[k]? = _
          rw [List.getElem?_map, List.getElem?_range (by rw [hlen]; omega)]
          simp only [Option.map_some, hgl k (by omega)]
          rfl
        · rw [dif_neg hk2]
          have hke : k = nB rest := by omega
          have hlen' : br.length = nB rest := by rw [List.length_cons] at hlen; omega
          rw [List.getElem?_append_right (by simp; omega)]
          have e0 : k + 1 - ([(q0 :: br).headD (0, [])] ++ ((List.range ((q0 :: br).length - 1)).map fun k => if (((q0 :: br).map fun q => (q.1 + x, i :: q.2)).getD k (0, [])).1 ≤ ((q0 :: br).getD (k + 1) (0, [])).1 then (q0 :: br).getD (k + 1) (0, []) else ((q0 :: br).map fun q => (q.1 + x, i :: q.2)).getD k (0, []))).length = 0 := by simp; omega
          rw [e0]
          simp only [List.getElem?_cons_zero]
          congr 1
          rw [List.getLastD_eq_getLast?, List.getLast?_eq_getElem?]
          have e1 : ((q0 :: br).map fun q => (q.1 + x, i :: q.2)).length - 1 = nB rest := by rw [List.length_map, hlen]; omega
          rw [e1, List.getElem?_map, hget (nB rest) (by omega)]
          rfl
    refine ⟨?_, fun k a ds e => ?_⟩
    · rw [hn]
      unfold askStep
      simp
      simp at hlen
      omega
    · have hk : k ≤ nB rest + 1 := by
        have := (List.getElem?_eq_some_iff.mp e).1
        have h2 : (askStep i (.inl x) (q0 :: br)).length = nB rest + 2 := by
          unfold askStep
          simp
          simp at hlen
          omega
        omega
      rw [hst k hk] at e
      have e := Option.some.inj e
      have tk : ∀ j, j < nB rest + 1 → ∀ q, q = (q0 :: br).getD j (0, []) → q.2.length = j ∧ Sel (i + 1) rest q.2 q.1 ∧ ∀ s v, Sel (i + 1) rest s v → s.length = j → v ≤ q.1 := fun j hj q hq => ih.at_ j q.1 q.2 (by rw [hget j hj, hq])
      have cmp : ∀ (s : List Int) (v : Int), Sel i (.inl x :: rest) s v → (Sel (i + 1) rest s v) ∨ ∃ s' v', s = i :: s' ∧ v = x + v' ∧ Sel (i + 1) rest s' v' := fun s v h => by
        cases h with
        | skip h => exact .inl h
        | take h => exact .inr ⟨_, _, rfl, rfl, h⟩
      by_cases k0 : k = 0
      · subst k0
        rw [if_pos rfl] at e
        obtain ⟨h1, h2, h3⟩ := tk 0 (by omega) q0 rfl
        subst e
        refine ⟨h1, .skip h2, fun s v h hs => ?_⟩
        rcases cmp s v h with h | ⟨s', v', es, ev, h'⟩
        · exact h3 s v h hs
        · rw [es] at hs; simp at hs
      · rw [if_neg k0] at e
        obtain ⟨p1, p2, p3⟩ := tk (k - 1) (by omega) _ rfl
        by_cases hk2 : k < nB rest + 1
        · rw [dif_pos hk2] at e
          obtain ⟨h1, h2, h3⟩ := tk k hk2 _ rfl
          split at e
          · rename_i hc
            rw [e] at h1 h2 h3 hc
            refine ⟨h1, .skip h2, fun s v h hs => ?_⟩
            rcases cmp s v h with h | ⟨s', v', es, ev, h'⟩
            · exact h3 s v h hs
            · have := p3 s' v' h' (by rw [es, List.length_cons] at hs; omega)
              simp only [] at hc
              omega
          · rename_i hc
            obtain ⟨ea, ed⟩ := Prod.mk.inj e
            subst ea ed
            refine ⟨by rw [List.length_cons, p1]; omega, ?_, fun s v h hs => ?_⟩
            · rw [Int.add_comm]; exact .take p2
            · rcases cmp s v h with h | ⟨s', v', es, ev, h'⟩
              · have := h3 s v h hs; omega
              · have := p3 s' v' h' (by rw [es, List.length_cons] at hs; omega); omega
        · rw [dif_neg hk2] at e
          have hke : k - 1 = nB rest := by omega
          rw [← hke] at e
          obtain ⟨ea, ed⟩ := Prod.mk.inj e
          subst ea ed
          refine ⟨by rw [List.length_cons, p1]; omega, ?_, fun s v h hs => ?_⟩
          · rw [Int.add_comm]; exact .take p2
          · rcases cmp s v h with h | ⟨s', v', es, ev, h'⟩
            · have := h.len; omega
            · have := p3 s' v' h' (by rw [es, List.length_cons] at hs; omega); omega
/-- what a course asks of 1, 2, .. days -/
def asks (evs : List Ev) : List Int := ((asked 0 evs).map Prod.fst).drop 1
theorem asked_len (evs : List Ev) (i : Int) : (asked i evs).length = nB evs + 1 := (asked_tab evs i).len
theorem asks_len (evs : List Ev) : (asks evs).length = nB evs := by simp [asks, asked_len]
theorem asked_zero : ∀ (evs : List Ev) (i : Int), Am (evs.filterMap fun e => match e with | .inr q => some q | .inl _ => none) → (asked i evs)[0]? = some (0, [])
  | [], i, _ => rfl
  | .inr (b, l) :: rest, i, h => by
    have ih := asked_zero rest (i + 1) (fun q hq => h q (by simp; exact .inr (by simpa using hq)))
    show ((asked (i + 1) rest).map _)[0]? = _
    rw [List.getElem?_map, ih]
    have := (h (b, l) (by simp)).2.1
    simp [wor_zero this]
  | .inl x :: rest, i, h => by
    have ih := asked_zero rest (i + 1) (fun q hq => h q (by simpa using hq))
    show (askStep i (.inl x) (asked (i + 1) rest))[0]? = _
    unfold askStep
    cases hb : asked (i + 1) rest with
    | nil => rw [hb] at ih; simp at ih
    | cons q br => rw [hb] at ih; simp at ih; simp [ih]
/-! ### sets of days, one by one -/
def spotsI : Int → List Ev → List Int
  | _, [] => []
  | i, .inl _ :: r => i :: spotsI (i + 1) r
  | i, .inr _ :: r => spotsI (i + 1) r
theorem spotsI_ge : ∀ (evs : List Ev) (i d : Int), d ∈ spotsI i evs → i ≤ d
  | [], i, d, h => by cases h
  | .inl x :: r, i, d, h => by
    rcases List.mem_cons.mp h with rfl | h
    · exact Int.le_refl _
    · have := spotsI_ge r (i + 1) d h; omega
  | .inr q :: r, i, d, h => by have := spotsI_ge r (i + 1) d h; omega
theorem spotsI_len : ∀ (evs : List Ev) (i : Int), (spotsI i evs).length = nB evs
  | [], i => rfl
  | .inl x :: r, i => by rw [nB_inl]; show (spotsI (i + 1) r).length + 1 = _; rw [spotsI_len r]
  | .inr q :: r, i => by rw [nB_inr]; exact spotsI_len r (i + 1)
def bAt (evs : List Ev) (d : Int) : Int := match evs[d.toNat]? with
  | some (.inl x) => x
  | _ => 0
def cutSum : Int → List Ev → List Int → Int
  | _, [], _ => 0
  | i, .inr q :: r, s => wor q.1 q.2 (s.filter fun d => decide (i < d)).length + cutSum (i + 1) r s
  | i, .inl _ :: r, s => cutSum (i + 1) r s
def lv (i : Int) (evs : List Ev) (s : List Int) : Int := (s.map fun d => bAt evs (d - i)).sum - cutSum i evs s
theorem bAt_cons {e : Ev} {r : List Ev} {i d : Int} (h : i + 1 ≤ d) : bAt (e :: r) (d - i) = bAt r (d - (i + 1)) := by
  unfold bAt
  have : (d - i).toNat = (d - (i + 1)).toNat + 1 := by omega
  rw [this]
  rfl
theorem cutSum_drop : ∀ (evs : List Ev) (i j : Int) (s : List Int), j < i → cutSum i evs (j :: s) = cutSum i evs s
  | [], i, j, s, h => rfl
  | .inr q :: r, i, j, s, h => by
    show wor q.1 q.2 ((j :: s).filter fun d => decide (i < d)).length + cutSum (i + 1) r (j :: s) = _
    rw [cutSum_drop r (i + 1) j s (by omega), List.filter_cons_of_neg (by simp; omega)]
    rfl
  | .inl x :: r, i, j, s, h => cutSum_drop r (i + 1) j s (by omega)
theorem sel_of_sub : ∀ (evs : List Ev) (i : Int) (s : List Int), s.Sublist (spotsI i evs) → Sel i evs s (lv i evs s)
  | [], i, s, h => by
    have : s = [] := List.eq_nil_of_sublist_nil h
    subst this
    exact .nil i
  | .inr (b, l) :: r, i, s, h => by
    have hs : s.Sublist (spotsI (i + 1) r) := h
    have ge : ∀ d ∈ s, i + 1 ≤ d := fun d hd => spotsI_ge r (i + 1) d (hs.subset hd)
    have ih := sel_of_sub r (i + 1) s hs
    have e : lv i (.inr (b, l) :: r) s = lv (i + 1) r s - wor b l s.length := by
      unfold lv
      have e1 : (s.map fun d => bAt (.inr (b, l) :: r) (d - i)) = s.map fun d => bAt r (d - (i + 1)) := List.map_congr_left fun d hd => bAt_cons (ge d hd)
      have e2 : s.filter (fun d => decide (i < d)) = s := List.filter_eq_self.mpr fun d hd => decide_eq_true (by have := ge d hd; omega)
      show _ - (wor b l (s.filter fun d => decide (i < d)).length + cutSum (i + 1) r s) = _
      rw [e1, e2]
      omega
    rw [e]
    exact .card ih
  | .inl x :: r, i, s, h => by
    have hs : s.Sublist (i :: spotsI (i + 1) r) := h
    have key : ∀ s' : List Int, s'.Sublist (spotsI (i + 1) r) → lv i (.inl x :: r) s' = lv (i + 1) r s' := fun s' hs' => by
      have ge : ∀ d ∈ s', i + 1 ≤ d := fun d hd => spotsI_ge r (i + 1) d (hs'.subset hd)
      unfold lv
      have e1 : (s'.map fun d => bAt (.inl x :: r) (d - i)) = s'.map fun d => bAt r (d - (i + 1)) := List.map_congr_left fun d hd => bAt_cons (ge d hd)
      rw [e1]
      rfl
    rcases List.sublist_cons_iff.mp hs with hs' | ⟨s', rfl, hs'⟩
    · rw [key s hs']
      exact .skip (sel_of_sub r (i + 1) s hs')
    · have ge : ∀ d ∈ s', i + 1 ≤ d := fun d hd => spotsI_ge r (i + 1) d (hs'.subset hd)
      have e : lv i (.inl x :: r) (i :: s') = x + lv (i + 1) r s' := by
        rw [← key s' hs']
        unfold lv
        rw [List.map_cons, List.sum_cons]
        have e2 : bAt (.inl x :: r) (i - i) = x := by rw [Int.sub_self]; rfl
        have e3 : cutSum i (.inl x :: r) (i :: s') = cutSum i (.inl x :: r) s' := cutSum_drop r (i + 1) i s' (by omega)
        rw [e2, e3]
        omega
      rw [e]
      exact .take (sel_of_sub r (i + 1) s' hs')
theorem Sel.sub {i : Int} {evs : List Ev} {s : List Int} {v : Int} (h : Sel i evs s v) : s.Sublist (spotsI i evs) := by
  induction h with
  | nil => exact List.Sublist.refl _
  | card h ih => exact ih
  | skip h ih => exact ih.cons _
  | take h ih => exact ih.cons_cons _
theorem Sel.uniq {i : Int} {evs : List Ev} {s : List Int} {v v' : Int} (h : Sel i evs s v) (h' : Sel i evs s v') : v = v' := by
  induction h generalizing v' with
  | nil => cases h'; rfl
  | card h ih =>
    cases h' with
    | card h2 => rw [ih h2]
  | @skip i x v rest s h ih =>
    cases h' with
    | skip h2 => exact ih h2
    | take h2 =>
      have := spotsI_ge _ _ _ (h.sub.subset List.mem_cons_self)
      omega
  | @take i x v rest s h ih =>
    cases h' with
    | take h2 => rw [ih h2]
    | skip h2 =>
      have := spotsI_ge _ _ _ (h2.sub.subset List.mem_cons_self)
      omega
theorem Sel.val {i : Int} {evs : List Ev} {s : List Int} {v : Int} (h : Sel i evs s v) : v = lv i evs s := h.uniq (sel_of_sub evs i s h.sub)
/-- all sets, as they are made one by one -/
def subsets (xs : List Int) : List (List Int) := xs.foldl (fun ss x => ss ++ ss.map fun s => s ++ [x]) [[]]
theorem subsets_snoc (xs : List Int) (x : Int) : subsets (xs ++ [x]) = subsets xs ++ (subsets xs).map fun s => s ++ [x] := by
  unfold subsets
  rw [List.foldl_append]
  rfl
theorem mem_subsets (xs s : List Int) : s ∈ subsets xs ↔ s.Sublist xs := by
  induction hn : xs.length generalizing xs s with
  | zero =>
    have : xs = [] := List.length_eq_zero_iff.mp hn
    subst this
    simp [subsets]
  | succ n ih =>
    obtain ⟨ys, y, rfl⟩ : ∃ ys y, xs = ys ++ [y] := by
      rcases List.eq_nil_or_concat xs with h | ⟨p, l, h⟩
      · rw [h] at hn; simp at hn
      · exact ⟨p, l, by simpa using h⟩
    have ih' := fun s => ih ys s (by simp at hn; exact hn)
    rw [subsets_snoc, List.mem_append, ih', List.mem_map, List.sublist_append_iff]
    constructor
    · rintro (h | ⟨s', h, rfl⟩)
      · exact ⟨s, [], by simp, h, List.nil_sublist _⟩
      · exact ⟨s', [y], rfl, (ih' s').mp h, List.Sublist.refl _⟩
    · rintro ⟨l1, l2, rfl, h1, h2⟩
      rcases List.sublist_cons_iff.mp h2 with h3 | ⟨l3, rfl, h3⟩
      · have := List.eq_nil_of_sublist_nil h3
        subst this
        exact .inl (by simpa using h1)
      · have := List.eq_nil_of_sublist_nil h3
        subst this
        exact .inr ⟨l1, (ih' l1).mpr h1, rfl⟩
theorem subsets_len (xs : List Int) : (subsets xs).length = 2 ^ xs.length := by
  induction hn : xs.length generalizing xs with
  | zero =>
    have : xs = [] := List.length_eq_zero_iff.mp hn
    subst this
    rfl
  | succ n ih =>
    obtain ⟨ys, y, rfl⟩ : ∃ ys y, xs = ys ++ [y] := by
      rcases List.eq_nil_or_concat xs with h | ⟨p, l, h⟩
      · rw [h] at hn; simp at hn
      · exact ⟨p, l, by simpa using h⟩
    have := ih ys (by simp at hn; exact hn)
    rw [subsets_snoc, List.length_append, List.length_map, this, Nat.pow_succ]
    omega
end P20

set_option Elab.async false
set_option linter.all false
set_option maxRecDepth 100000
set_option maxHeartbeats 4000000
/-! K3m: rows of bills with cards ahead and behind, plain. -/
namespace P20
open Mi L2
theorem asked_is {evs : List Ev} {i : Int} {L : List Int} (hl : L.length = nB evs + 1) (h : ∀ (k : Nat) (x : Int), L[k]? = some x → (∃ s, Sel i evs s x ∧ s.length = k) ∧ ∀ s v, Sel i evs s v → s.length = k → v ≤ x) : (asked i evs).map Prod.fst = L := by
  have T := asked_tab evs i
  apply List.ext_getElem?
  intro k
  by_cases hk : k < nB evs + 1
  · have hk1 : k < (asked i evs).length := by rw [T.len]; exact hk
    have hk2 : k < L.length := by rw [hl]; exact hk
    have e1 : (asked i evs)[k]? = some (asked i evs)[k] := List.getElem?_eq_getElem hk1
    have e2 : L[k]? = some L[k] := List.getElem?_eq_getElem hk2
    rw [List.getElem?_map, e1, e2]
    obtain ⟨t1, t2, t3⟩ := T.at_ k _ _ e1
    obtain ⟨⟨s, s1, s2⟩, s3⟩ := h k _ e2
    have h1 := t3 s _ s1 s2
    have h2 := s3 _ _ t2 t1
    simp only [Option.map_some]
    exact congrArg some (Int.le_antisymm h2 h1)
  · rw [List.getElem?_eq_none (by rw [List.length_map, T.len]; omega), List.getElem?_eq_none (by omega)]
/-- cards alone ask nothing -/
theorem sel_cards : ∀ {cs : List (Int × Int)} {i : Int} {s : List Int} {v : Int}, Am cs → Sel i (cs.map Sum.inr) s v → s = [] ∧ v = 0
  | [], i, s, v, _, h => by cases h; exact ⟨rfl, rfl⟩
  | (b, l) :: cs, i, s, v, ha, h => by
    cases h with
    | card h =>
      obtain ⟨rfl, rfl⟩ := sel_cards ha.tail h
      have := wor_zero (l := l) (ha (b, l) List.mem_cons_self).2.1
      exact ⟨rfl, by simp at this ⊢; omega⟩
theorem sel_cards' : ∀ {cs : List (Int × Int)} {i : Int}, Am cs → Sel i (cs.map Sum.inr) [] 0
  | [], i, _ => .nil i
  | (b, l) :: cs, i, ha => by
    have h := Sel.card (b := b) (l := l) (sel_cards' (cs := cs) (i := i + 1) ha.tail)
    have := wor_zero (l := l) (ha (b, l) List.mem_cons_self).2.1
    have e : (0 : Int) - wor b l ([] : List Int).length = 0 := by simp; omega
    rw [e] at h
    exact h
theorem sel_bills : ∀ {bs : List Int} {cs : List (Int × Int)} {i : Int} {s : List Int} {v : Int}, Am cs → Sel i (bs.map Sum.inl ++ cs.map Sum.inr) s v → ∃ t : List Int, t.Sublist bs ∧ t.length = s.length ∧ t.sum = v
  | [], cs, i, s, v, ha, h => by
    obtain ⟨rfl, rfl⟩ := sel_cards ha h
    exact ⟨[], List.Sublist.refl _, rfl, rfl⟩
  | b :: bs, cs, i, s, v, ha, h => by
    cases h with
    | skip h =>
      obtain ⟨t, h1, h2, h3⟩ := sel_bills ha h
      exact ⟨t, h1.cons _, h2, h3⟩
    | take h =>
      obtain ⟨t, h1, h2, h3⟩ := sel_bills ha h
      exact ⟨b :: t, h1.cons_cons _, by simp [h2], by simp [h3]⟩
theorem bills_sel : ∀ {bs : List Int} {cs : List (Int × Int)} {i : Int} {t : List Int}, Am cs → t.Sublist bs → ∃ s, Sel i (bs.map Sum.inl ++ cs.map Sum.inr) s t.sum ∧ s.length = t.length
  | [], cs, i, t, ha, h => by
    have := List.eq_nil_of_sublist_nil h
    subst this
    exact ⟨[], sel_cards' ha, rfl⟩
  | b :: bs, cs, i, t, ha, h => by
    rcases List.sublist_cons_iff.mp h with h' | ⟨t', rfl, h'⟩
    · obtain ⟨s, h1, h2⟩ := bills_sel (i := i + 1) ha h'
      exact ⟨s, .skip h1, h2⟩
    · obtain ⟨s, h1, h2⟩ := bills_sel (i := i + 1) ha h'
      exact ⟨i :: s, by rw [List.sum_cons]; exact .take h1, by simp [h2]⟩
theorem sel_ahead : ∀ {cs : List (Int × Int)} {rest : List Ev} {i : Int} {s : List Int} {v : Int}, Sel i (cs.map Sum.inr ++ rest) s v ↔ Sel (i + cs.length) rest s (v + FF cs s.length)
  | [], rest, i, s, v => by simp [FF]
  | (b, l) :: cs, rest, i, s, v => by
    have e : i + (((b, l) :: cs).length : Nat) = i + 1 + (cs.length : Nat) := by simp; omega
    rw [e, FF_cons]
    constructor
    · intro h
      cases h with
      | card h =>
        have := sel_ahead.mp h
        rename_i v'
        have e2 : v' - wor b l s.length + (wor b l s.length + FF cs s.length) = v' + FF cs s.length := by omega
        show Sel _ rest s (v' - wor b l s.length + (wor b l s.length + FF cs s.length))
        rw [e2]
        exact this
    · intro h
      have h2 : Sel (i + 1) (cs.map Sum.inr ++ rest) s (v + wor b l s.length) := sel_ahead.mpr (by
        have e2 : v + wor b l s.length + FF cs s.length = v + (wor b l s.length + FF cs s.length) := by omega
        rw [e2]; exact h)
      have h3 := Sel.card (b := b) (l := l) h2
      have e3 : v + wor b l s.length - wor b l s.length = v := by omega
      rw [e3] at h3
      exact h3
/-! ### the greatest ones -/
theorem take_le {x : Int} {r : List Int} (h : ∀ y ∈ r, y ≤ x) : ∀ n, n ≤ r.length → (r.take n).sum ≤ ((x :: r).take n).sum
  | 0, _ => by simp
  | n + 1, hn => by
    have hn' : n < r.length := by omega
    have := h r[n] (List.getElem_mem hn')
    have e : (r.take (n + 1)).sum = (r.take n).sum + r[n] := by
      rw [List.take_succ, List.getElem?_eq_getElem hn', List.sum_append]
      simp
    rw [e, List.take_succ_cons, List.sum_cons]
    omega
theorem sub_le : ∀ {r t : List Int}, r.Pairwise (· ≥ ·) → t.Sublist r → t.sum ≤ (r.take t.length).sum
  | [], t, _, h => by
    have := List.eq_nil_of_sublist_nil h
    subst this
    simp
  | x :: r, t, hr, h => by
    obtain ⟨h1, h2⟩ := List.pairwise_cons.mp hr
    rcases List.sublist_cons_iff.mp h with h' | ⟨t', rfl, h'⟩
    · have := sub_le h2 h'
      have := take_le (x := x) (r := r) (fun y hy => h1 y hy) t.length h'.length_le
      omega
    · have := sub_le h2 h'
      rw [List.sum_cons, List.length_cons, List.take_succ_cons, List.sum_cons]
      omega
theorem perm_sum {a b : List Int} (h : a.Perm b) : a.sum = b.sum := by
  induction h with
  | nil => rfl
  | cons x h ih => simp [ih]
  | swap x y l => simp; omega
  | trans h1 h2 ih1 ih2 => rw [ih1, ih2]
/-- the sums of the greatest ones, less what the cards ahead can pay -/
def dueR (ah : List (Int × Int)) (fs : List Int) : List Int := (List.range (fs.length + 1)).map fun k => (fs.take k).sum - FF ah k
theorem nB_mix (ah : List (Int × Int)) (bs : List Int) (be : List (Int × Int)) : nB (ah.map Sum.inr ++ (bs.map Sum.inl ++ be.map Sum.inr)) = bs.length := by
  have h1 : ∀ cs : List (Int × Int), nB (cs.map (Sum.inr : Int × Int → Ev)) = 0 := fun cs => by
    induction cs with
    | nil => rfl
    | cons c cs ih => exact ih
  have h2 : nB (bs.map (Sum.inl : Int → Ev)) = bs.length := by
    induction bs with
    | nil => rfl
    | cons b bs ih => rw [List.map_cons, nB_inl, ih]; rfl
  have h3 : ∀ a b : List Ev, nB (a ++ b) = nB a + nB b := fun a b => by simp [nB]
  rw [h3, h3, h1, h1, h2]
  omega
theorem asked_mix {ah : List (Int × Int)} {bs : List Int} {be : List (Int × Int)} (hbe : Am be) {fs : List Int} (hp : fs.Perm bs) (ho : fs.Pairwise (· ≥ ·)) : (asked 0 (ah.map Sum.inr ++ (bs.map Sum.inl ++ be.map Sum.inr))).map Prod.fst = dueR ah fs := by
  refine asked_is (by rw [nB_mix]; simp [dueR, hp.length_eq]) fun k x e => ?_
  have hk : k < fs.length + 1 := by
    have := (List.getElem?_eq_some_iff.mp e).1
    simpa [dueR] using this
  unfold dueR at e
  rw [List.getElem?_map, List.getElem?_range hk] at e
  cases e
  constructor
  · obtain ⟨t, ht1, ht2⟩ := List.exists_perm_sublist (List.take_sublist k fs) hp
    obtain ⟨s, s1, s2⟩ := bills_sel (cs := be) (i := 0 + ah.length) hbe ht2
    have hl : t.length = k := by rw [ht1.length_eq, List.length_take]; omega
    refine ⟨s, sel_ahead.mpr ?_, by omega⟩
    have : (fs.take k).sum - FF ah k + FF ah s.length = t.sum := by rw [s2, hl, perm_sum ht1]; omega
    rw [this]
    exact s1
  · intro s v h hs
    obtain ⟨t, t1, t2, t3⟩ := sel_bills hbe (sel_ahead.mp h)
    obtain ⟨t', q1, q2⟩ := List.exists_perm_sublist t1 hp.symm
    have := sub_le ho q2
    have hl : t'.length = k := by rw [q1.length_eq, t2, hs]
    rw [hl, perm_sum q1, t3, hs] at this
    show v ≤ (fs.take k).sum - FF ah k
    omega
/-- the least row above the sums of a falling row -/
theorem least_zeros (m : Nat) (t : Int) : Least t (sumsFrom t (List.replicate m 0)) [] := by
  cases m with
  | zero => exact .nil t
  | succ m =>
    have hs : ∀ (m : Nat) (t : Int), ∀ s ∈ sumsFrom t (List.replicate m 0), s = t := by
      intro m
      induction m with
      | zero => intro t s h; cases h
      | succ m ih =>
        intro t s h
        rw [List.replicate_succ] at h
        rcases List.mem_cons.mp h with h | h
        · omega
        · have := ih (t + 0) s h; omega
    refine .stop (k := 0) ⟨⟨0, t + 0, rfl, ?_⟩, fun i s e => ?_⟩ (Int.le_refl _)
    · unfold need; simp
    · have := hs (m + 1) t s (List.mem_of_getElem? e)
      subst this
      unfold need
      simp
theorem least_falls : ∀ {fs : List Int} {t : Int}, fs.Pairwise (· ≥ ·) → (∀ x ∈ fs, 0 ≤ x) → Least t (sumsFrom t fs) (fs.filter fun x => decide (0 < x))
  | [], t, _, _ => .nil t
  | x :: fs, t, ho, hn => by
    obtain ⟨h1, h2⟩ := List.pairwise_cons.mp ho
    by_cases hx : 0 < x
    · rw [List.filter_cons_of_pos (by simpa using hx)]
      refine .more (k := x) ⟨⟨0, t + x, rfl, ?_⟩, fun i s e => ?_⟩ hx (least_falls h2 fun y hy => hn y (List.mem_cons_of_mem _ hy))
      · unfold need; simp; omega
      · refine le_need_of (sumsFrom_le (row := x :: fs) (t := t) (fun y hy => ?_) e)
        rcases List.mem_cons.mp hy with rfl | hy
        · exact Int.le_refl _
        · exact h1 y hy
    · have hall : ∀ y ∈ x :: fs, y = 0 := fun y hy => by
        have h0 := hn y hy
        rcases List.mem_cons.mp hy with rfl | hy
        · omega
        · have := h1 y hy; omega
      have e1 : (x :: fs) = List.replicate (x :: fs).length 0 := List.eq_replicate_iff.mpr ⟨rfl, hall⟩
      have e2 : (x :: fs).filter (fun x => decide (0 < x)) = [] := List.filter_eq_nil_iff.mpr fun y hy => by rw [hall y hy]; decide
      rw [e2, e1]
      exact least_zeros _ t
end P20

set_option Elab.async false
set_option linter.all false
set_option maxRecDepth 100000
set_option maxHeartbeats 4000000
/-! K4m: the least row among falling rows, plain. -/
namespace P20
open Mi L2
theorem falls_snoc {row : List Int} {k : Int} (h : Falls row) (hk : 0 < k) (hl : ∀ y, row.getLast? = some y → k ≤ y) : Falls (row ++ [k]) := by
  refine ⟨fun x hx => ?_, fun i x y e1 e2 => ?_⟩
  · rcases List.mem_append.mp hx with hx | hx
    · exact h.1 x hx
    · rw [List.mem_singleton.mp hx]; exact hk
  · have hi := (List.getElem?_eq_some_iff.mp e2).1
    rw [List.length_append, List.length_singleton] at hi
    rw [List.getElem?_append_left (by omega)] at e1
    by_cases h2 : i + 1 < row.length
    · rw [List.getElem?_append_left h2] at e2
      exact h.2 i x y e1 e2
    · have h3 : i + 1 = row.length := by omega
      rw [h3, List.getElem?_append_right (Nat.le_refl _), Nat.sub_self] at e2
      cases e2
      refine hl x ?_
      rw [List.getLast?_eq_getElem?, show row.length - 1 = i by omega]
      exact e1
theorem sumN_one {row : List Int} {x : Int} (h : Falls (x :: row)) : sumN row 1 ≤ x := by
  cases row with
  | nil => rw [sumN_nil]; have := h.1 x List.mem_cons_self; omega
  | cons y r =>
    have := h.2 0 x y rfl rfl
    show y + sumN r 0 ≤ x
    have : sumN r 0 = 0 := by cases r <;> rfl
    omega
theorem sumN_ccv : ∀ {row : List Int}, Falls row → ∀ n, sumN row (n + 2) - sumN row (n + 1) ≤ sumN row (n + 1) - sumN row n
  | [], _, n => by simp [sumN_nil]
  | x :: row, h, 0 => by
    have h1 := sumN_one h
    have h2 : sumN (x :: row) 2 = x + sumN row 1 := rfl
    have h3 : sumN (x :: row) 1 = x + sumN row 0 := rfl
    have h4 : sumN row 0 = 0 := by cases row <;> rfl
    have h5 : sumN (x :: row) 0 = 0 := rfl
    show sumN (x :: row) 2 - sumN (x :: row) 1 ≤ sumN (x :: row) 1 - sumN (x :: row) 0
    omega
  | x :: row, h, n + 1 => by
    have ih := sumN_ccv h.tail n
    have h1 : sumN (x :: row) (n + 1 + 2) = x + sumN row (n + 2) := rfl
    have h2 : sumN (x :: row) (n + 1 + 1) = x + sumN row (n + 1) := rfl
    have h3 : sumN (x :: row) (n + 1) = x + sumN row n := rfl
    omega
theorem ccv_many {row : List Int} (h : Falls row) (k : Nat) : ∀ i : Nat, sumN row (k + 1 + i) ≤ sumN row (k + 1) + (i : Int) * (sumN row (k + 1) - sumN row k) ∧ sumN row (k + 1 + i + 1) - sumN row (k + 1 + i) ≤ sumN row (k + 1) - sumN row k
  | 0 => ⟨by simp, sumN_ccv h k⟩
  | i + 1 => by
    obtain ⟨h1, h2⟩ := ccv_many h k i
    have h3 := sumN_ccv h (k + 1 + i)
    refine ⟨?_, by
      show sumN row (k + 1 + i + 2) - sumN row (k + 1 + i + 1) ≤ _
      omega⟩
    rw [show ((i + 1 : Nat) : Int) = (i : Int) + 1 by omega, Int.add_mul, Int.one_mul]
    show sumN row (k + 1 + i + 1) ≤ _
    omega
/-- the least row has the least sums -/
theorem Least.least {t : Int} {ss row other : List Int} (h : Least t ss row) (ho : Falls other) (hc : ∀ (n : Nat) (s : Int), ss[n]? = some s → s ≤ t + sumN other (n + 1)) : ∀ n, sumN row n ≤ sumN other n
  | 0 => by
    have h1 : sumN row 0 = 0 := by cases row <;> rfl
    have h2 : sumN other 0 = 0 := by cases other <;> rfl
    omega
  | k + 1 => by
    have ih := h.least ho hc k
    have hm := sumN_mono (row := other) (fun x hx => by have := ho.1 x hx; omega) k
    by_cases hk : k < row.length
    · have ek : row[k]? = some row[k] := List.getElem?_eq_getElem hk
      obtain ⟨i, s, e1, h1⟩ := h.tight k _ ek
      have h2 := hc _ _ e1
      have h3 := (ccv_many ho k i).1
      have es : sumN row (k + 1) = sumN row k + row[k] := by rw [sumN_app, List.getD_eq_getElem?_getD, ek]; rfl
      rcases Int.lt_or_le (sumN other (k + 1)) (sumN row (k + 1)) with z | z
      · have hd : sumN other (k + 1) - sumN other k ≤ row[k] - 1 := by omega
        have h4 : (i : Int) * (sumN other (k + 1) - sumN other k) ≤ (i : Int) * (row[k] - 1) := Int.mul_le_mul_of_nonneg_left hd (by omega)
        rw [Int.add_mul, Int.one_mul] at h1
        rw [show k + i + 1 = k + 1 + i by omega] at h2
        omega
      · exact z
    · have h1 := sumN_flat row (k + 1) (by omega)
      have h2 := sumN_flat row k (by omega)
      omega
theorem Least.empty_iff {ss row : List Int} (h : Least 0 ss row) : 0 < row.length ↔ ∃ s ∈ ss, 0 < s := by
  constructor
  · intro hl
    have ek : row[0]? = some row[0] := List.getElem?_eq_getElem hl
    obtain ⟨i, s, e1, h1⟩ := h.tight 0 _ ek
    refine ⟨s, List.mem_of_getElem? e1, ?_⟩
    have h2 := h.pos _ (List.getElem_mem hl)
    have h3 : 0 ≤ ((i : Int) + 1) * (row[0] - 1) := Int.mul_nonneg (by omega) (by omega)
    generalize ((i : Int) + 1) * (row[0] - 1) = z at h1 h3
    have h4 : sumN row 0 = 0 := by cases row <;> rfl
    omega
  · rintro ⟨s, hs, h0⟩
    obtain ⟨n, hn⟩ := List.mem_iff_getElem?.mp hs
    have h1 := h.cover n s hn
    cases row with
    | nil => rw [sumN_nil] at h1; omega
    | cons x r => simp
/-! the rows still to be gone through -/
def wt (l : List (List Int × Int × Int)) : Nat := (l.map fun q => 2 ^ q.2.1.toNat).sum
theorem wt_append (a b : List (List Int × Int × Int)) : wt (a ++ b) = wt a + wt b := by simp [wt]
theorem wt_len : ∀ l : List (List Int × Int × Int), l.length ≤ wt l
  | [] => Nat.le_refl _
  | q :: l => by
    have := wt_len l
    have h : 0 < 2 ^ q.2.1.toNat := Nat.two_pow_pos _
    show l.length + 1 ≤ 2 ^ q.2.1.toNat + wt l
    omega
theorem wt_kids (row : List Int) : ∀ (m : Nat) (r : Int), (m : Int) ≤ r → wt ((List.range m).map fun i : Nat => (row ++ [(1 : Int) + i], r - ((1 : Int) + i), (1 : Int) + i)) + 2 ^ (r.toNat - m) = 2 ^ r.toNat
  | 0, r, _ => by simp [wt]
  | m + 1, r, h => by
    have ih := wt_kids row m r (by omega)
    rw [List.range_succ, List.map_append, wt_append]
    have e1 : wt (List.map (fun i : Nat => (row ++ [(1 : Int) + i], r - ((1 : Int) + i), (1 : Int) + i)) [m]) = 2 ^ (r.toNat - (m + 1)) := by
      simp [wt]
      congr 1
      omega
    rw [e1]
    have e2 : 2 ^ (r.toNat - m) = 2 ^ (r.toNat - (m + 1)) * 2 := by
      rw [← Nat.pow_succ]
      congr 1
      omega
    omega
end P20

set_option Elab.async false
set_option linter.all false
set_option maxRecDepth 100000
set_option maxHeartbeats 4000000
/-! W3m: sparing payments, plain. -/
namespace P20
open Mi L2
/-- the parts of the cards at a level -/
def pts (am : List (Int × Int)) (k : Nat) : List Int := am.map fun q => wor q.1 q.2 (k + 1) - wor q.1 q.2 k
theorem pts_len (am : List (Int × Int)) (k : Nat) : (pts am k).length = am.length := by simp [pts]
theorem pts_sum (am : List (Int × Int)) (k : Nat) : (pts am k).sum = FF am (k + 1) - FF am k := by
  induction am with
  | nil => rfl
  | cons q am ih =>
    rw [FF_cons, FF_cons]
    show (wor q.1 q.2 (k + 1) - wor q.1 q.2 k) + (pts am k).sum = _
    omega
theorem pts_fall {am : List (Int × Int)} (h : Am am) {j k : Nat} (hjk : j ≤ k) : (pts am k).sum ≤ (pts am j).sum := by
  induction hjk with
  | refl => exact Int.le_refl _
  | step _ ih =>
    rename_i m _
    refine Int.le_trans ?_ ih
    rw [pts_sum, pts_sum]
    have := FF_conc h m
    omega
theorem pts_zero {am : List (Int × Int)} (h : Am am) {k : Nat} (hk : 24 ≤ k) : (pts am k).sum = 0 := by
  induction am with
  | nil => rfl
  | cons q am ih =>
    obtain ⟨h1, h2, h3⟩ := h q List.mem_cons_self
    have e1 : (24 : Int) * q.2 ≤ (k : Int) * q.2 := mono_mul (by omega) (by omega)
    have e2 := succ_mul' k q.2
    have e3 := ih h.tail
    show (wor q.1 q.2 (k + 1) - wor q.1 q.2 k) + (pts am k).sum = 0
    unfold wor
    omega
/-- the greatest level with parts for this bill -/
def IsLev (am : List (Int × Int)) (x : Int) (L : Nat) : Prop := (pts am (L + 1)).sum < x ∧ ∀ j, j < L → x ≤ (pts am (j + 1)).sum
theorem lev_ex {am : List (Int × Int)} (h : Am am) {x : Int} (hx : 0 < x) : ∃ L, L ≤ 24 ∧ IsLev am x L := by
  have key : ∀ n : Nat, (∃ L, L ≤ n ∧ IsLev am x L) ∨ ∀ j, j ≤ n → x ≤ (pts am (j + 1)).sum := by
    intro n
    induction n with
    | zero =>
      by_cases h0 : (pts am (0 + 1)).sum < x
      · exact .inl ⟨0, Nat.le_refl _, h0, fun j hj => by omega⟩
      · exact .inr fun j hj => by
          have : j = 0 := by omega
          subst this
          omega
    | succ n ih =>
      rcases ih with ⟨L, h1, h2⟩ | h1
      · exact .inl ⟨L, by omega, h2⟩
      · by_cases h0 : (pts am (n + 1 + 1)).sum < x
        · exact .inl ⟨n + 1, Nat.le_refl _, h0, fun j hj => h1 j (by omega)⟩
        · exact .inr fun j hj => by
            by_cases hj2 : j = n + 1
            · subst hj2; omega
            · exact h1 j (by omega)
  rcases key 24 with h1 | h1
  · exact h1
  · have := h1 24 (Nat.le_refl _)
    rw [pts_zero h (by decide)] at this
    omega
theorem IsLev.uniq {am : List (Int × Int)} {x : Int} {L L' : Nat} (h : IsLev am x L) (h' : IsLev am x L') : L = L' := by
  rcases Nat.lt_trichotomy L L' with z | z | z
  · have := h'.2 L z; have := h.1; omega
  · exact z
  · have := h.2 L' z; have := h'.1; omega
/-- the level -/
noncomputable def lev (am : List (Int × Int)) (x : Int) : Nat := by classical exact if h : ∃ L, IsLev am x L then Classical.choose h else 0
theorem lev_is {am : List (Int × Int)} (h : Am am) {x : Int} (hx : 0 < x) : IsLev am x (lev am x) ∧ lev am x ≤ 24 := by
  obtain ⟨L, h1, h2⟩ := lev_ex h hx
  have : lev am x = L := by
    unfold lev
    rw [dif_pos ⟨L, h2⟩]
    exact (Classical.choose_spec (⟨L, h2⟩ : ∃ L, IsLev am x L)).uniq h2
  rw [this]
  exact ⟨h2, h1⟩
theorem IsLev.top {am : List (Int × Int)} {x : Int} {L : Nat} (h : IsLev am x L) (hx : x ≤ FF am 1) (ha : Am am) : x ≤ (pts am L).sum := by
  cases L with
  | zero => rw [pts_sum, FF_zero ha]; show x ≤ FF am (0 + 1) - 0; simpa using hx
  | succ L => exact h.2 L (Nat.lt_succ_self _)
noncomputable def lows (am : List (Int × Int)) (x : Int) : List Int := if x = 0 then am.map (fun _ => 0) else pts am (lev am x + 1)
noncomputable def highs (am : List (Int × Int)) (x : Int) : List Int := if x = 0 then am.map (fun _ => 0) else pts am (lev am x)
/-- a sum is spread between bounds -/
def sprd : Int → List (Int × Int) → List Int
  | _, [] => []
  | r, q :: l => (q.1 + min r (q.2 - q.1)) :: sprd (r - min r (q.2 - q.1)) l
noncomputable def pay (am : List (Int × Int)) (x : Int) : List Int := sprd (x - (lows am x).sum) ((lows am x).zip (highs am x))
def lbh (am : List (Int × Int)) (ys : List Int) : List (Int × Int) := (am.zip ys).map fun q => (q.1.1 - q.2, q.1.2)
/-- a row between bounds -/
def Betw : List Int → List Int → List Int → Prop
  | [], [], [] => True
  | a :: as, y :: ys, b :: bs => a ≤ y ∧ y ≤ b ∧ Betw as ys bs
  | _, _, _ => False
theorem sprd_is : ∀ {as bs : List Int} {r : Int}, as.length = bs.length → (∀ q ∈ as.zip bs, q.1 ≤ q.2) → 0 ≤ r → as.sum + r ≤ bs.sum → Betw as (sprd r (as.zip bs)) bs ∧ (sprd r (as.zip bs)).sum = as.sum + r
  | [], [], r, _, _, h0, h1 => ⟨trivial, by simp [sprd] at h1 ⊢; omega⟩
  | [], _ :: _, r, hl, _, _, _ => by cases hl
  | _ :: _, [], r, hl, _, _, _ => by cases hl
  | a :: as, b :: bs, r, hl, hq, h0, h1 => by
    have hab : a ≤ b := hq (a, b) List.mem_cons_self
    have hq' : ∀ q ∈ as.zip bs, q.1 ≤ q.2 := fun q h => hq q (List.mem_cons_of_mem _ h)
    have hle : ∀ (as bs : List Int), as.length = bs.length → (∀ q ∈ as.zip bs, q.1 ≤ q.2) → as.sum ≤ bs.sum := by
      intro as
      induction as with
      | nil => intro bs h _; cases bs with
        | nil => simp
        | cons => cases h
      | cons a as ih => intro bs h hq; cases bs with
        | nil => cases h
        | cons b bs =>
          have := ih bs (by simpa using h) fun q h => hq q (List.mem_cons_of_mem _ h)
          have := hq (a, b) List.mem_cons_self
          simp at this ⊢
          omega
    have hs := hle as bs (by simpa using hl) hq'
    rw [List.sum_cons, List.sum_cons] at h1
    obtain ⟨i1, i2⟩ := sprd_is (as := as) (bs := bs) (r := r - min r (b - a)) (by simpa using hl) hq' (by omega) (by omega)
    refine ⟨⟨?_, ?_, i1⟩, ?_⟩
    · show a ≤ a + min r (b - a); omega
    · show a + min r (b - a) ≤ b; omega
    · show (a + min r (b - a)) + (sprd (r - min r (b - a)) (as.zip bs)).sum = _
      rw [i2, List.sum_cons]
      omega
theorem Betw.len : ∀ {as ys bs : List Int}, Betw as ys bs → ys.length = as.length ∧ bs.length = as.length
  | [], [], [], _ => ⟨rfl, rfl⟩
  | _ :: _, _ :: _, _ :: _, h => by
    have := Betw.len h.2.2
    simp [this]
  | [], _ :: _, _, h => by simp [Betw] at h
  | [], [], _ :: _, h => by simp [Betw] at h
  | _ :: _, [], _, h => by simp [Betw] at h
  | _ :: _, _ :: _, [], h => by simp [Betw] at h
theorem wor_paid {b l y : Int} {L : Nat} (hl : 1 ≤ l) (hb : 0 ≤ b) (h1 : wor b l (L + 2) - wor b l (L + 1) ≤ y) (h2 : y ≤ wor b l (L + 1) - wor b l L) : (∀ k, k ≤ L → wor (b - y) l k = wor b l k) ∧ ∀ k, L + 1 ≤ k → wor (b - y) l k = wor b l (k + 1) - y := by
  have e1 := succ_mul' L l
  have e2 := succ_mul' (L + 1) l
  have e5 : ((L + 2 : Nat) : Int) * l = ((L + 1 : Nat) : Int) * l + l := e2
  have e6 : (0 : Int) ≤ (L : Int) * l := Int.mul_nonneg (by omega) (by omega)
  unfold wor at *
  constructor
  · intro k hk
    have e3 : (k : Int) * l ≤ (L : Int) * l := mono_mul (by omega) (by omega)
    omega
  · intro k hk
    have e3 : ((L + 1 : Nat) : Int) * l ≤ (k : Int) * l := mono_mul (by omega) (by omega)
    have e4 := succ_mul' k l
    omega
theorem FF_paid : ∀ {am : List (Int × Int)} {ys : List Int} {L : Nat}, Am am → Betw (pts am (L + 1)) ys (pts am L) → (∀ k, k ≤ L → FF (lbh am ys) k = FF am k) ∧ (∀ k, L + 1 ≤ k → FF (lbh am ys) k = FF am (k + 1) - ys.sum) ∧ Am (lbh am ys)
  | [], [], L, _, _ => ⟨fun _ _ => rfl, fun _ _ => rfl, Am.nil⟩
  | [], _ :: _, L, _, h => by simp [pts, Betw] at h
  | q :: am, [], L, _, h => by simp [pts, Betw] at h
  | q :: am, y :: ys, L, ha, h => by
    obtain ⟨h1, h2, h3⟩ := h
    obtain ⟨a1, a2, a3⟩ := ha q List.mem_cons_self
    obtain ⟨i1, i2, i3⟩ := FF_paid ha.tail h3
    have h1 : wor q.1 q.2 (L + 1 + 1) - wor q.1 q.2 (L + 1) ≤ y := h1
    have h2 : y ≤ wor q.1 q.2 (L + 1) - wor q.1 q.2 L := h2
    obtain ⟨w1, w2⟩ := wor_paid a1 a2 h1 h2
    have e : lbh (q :: am) (y :: ys) = (q.1 - y, q.2) :: lbh am ys := rfl
    rw [e]
    refine ⟨fun k hk => ?_, fun k hk => ?_, Am.cons ⟨a1, ?_, ?_⟩ i3⟩
    · rw [FF_cons, FF_cons, i1 k hk]
      show wor (q.1 - y) q.2 k + _ = _
      rw [w1 k hk]
    · rw [FF_cons, FF_cons, i2 k hk, List.sum_cons]
      show wor (q.1 - y) q.2 k + _ = _
      rw [w2 k hk]
      omega
    · have hm := wor_nonneg a2 (by omega : 0 ≤ q.2) L
      have hb : wor q.1 q.2 (L + 1) ≤ q.1 := by unfold wor; omega
      show 0 ≤ q.1 - y
      omega
    · have hm := wor_mono (b := q.1) (show 0 ≤ q.2 by omega) (L + 1)
      show q.1 - y ≤ 24 * q.2
      have : (0 : Int) ≤ y := by
        have : wor q.1 q.2 (L + 1) ≤ wor q.1 q.2 (L + 1 + 1) := hm
        omega
      omega
theorem betw_zip : ∀ {as bs : List Int}, as.length = bs.length → (∀ (i : Nat) (a b : Int), as[i]? = some a → bs[i]? = some b → a ≤ b) → ∀ q ∈ as.zip bs, q.1 ≤ q.2
  | as, bs, hl, h, q, hq => by
    obtain ⟨i, hi, e⟩ := List.mem_iff_getElem.mp hq
    have h1 : i < as.length := by simp at hi; omega
    have h2 : i < bs.length := by simp at hi; omega
    rw [List.getElem_zip] at e
    rw [← e]
    exact h i _ _ (List.getElem?_eq_getElem h1) (List.getElem?_eq_getElem h2)
theorem pts_le {am : List (Int × Int)} (h : Am am) (L : Nat) : ∀ q ∈ (pts am (L + 1)).zip (pts am L), q.1 ≤ q.2 := by
  refine betw_zip (by rw [pts_len, pts_len]) fun i a b e1 e2 => ?_
  unfold pts at e1 e2
  rw [List.getElem?_map] at e1 e2
  cases e : am[i]? with
  | none => rw [e] at e1; cases e1
  | some q =>
    rw [e] at e1 e2
    cases e1
    cases e2
    exact wor_conc (by have := (h q (List.mem_of_getElem? e)).1; omega) L
/-- what a sparing payment is -/
structure Paid (am : List (Int × Int)) (x : Int) (ys : List Int) : Prop where
  btw : Betw (lows am x) ys (highs am x)
  sum : ys.sum = x
  am_ : Am (lbh am ys)
  ff : ∀ k, FF (lbh am ys) k = min (FF am k) (FF am (k + 1) - x)
theorem lbh_zero : ∀ am : List (Int × Int), lbh am (am.map fun _ => 0) = am
  | [] => rfl
  | q :: am => by
    have := lbh_zero am
    show (q.1 - 0, q.2) :: lbh am (am.map fun _ => 0) = _
    rw [this]
    simp
theorem betw_zero : ∀ am : List (Int × Int), Betw (am.map fun _ => 0) (am.map fun _ => 0) (am.map fun _ => 0)
  | [] => trivial
  | q :: am => ⟨Int.le_refl _, Int.le_refl _, betw_zero am⟩
theorem sprd_zero : ∀ am : List (Int × Int), sprd 0 ((am.map fun _ => (0 : Int)).zip (am.map fun _ => (0 : Int))) = am.map fun _ => 0
  | [] => rfl
  | q :: am => by
    have := sprd_zero am
    show (0 + min 0 (0 - 0)) :: sprd (0 - min 0 (0 - 0)) ((am.map fun _ => (0 : Int)).zip (am.map fun _ => (0 : Int))) = _
    simp at this ⊢
    exact this
theorem sum_zero (am : List (Int × Int)) : (am.map fun _ => (0 : Int)).sum = 0 := by
  induction am with
  | nil => rfl
  | cons q am ih => rw [List.map_cons, List.sum_cons, ih]; rfl
theorem pay_is {am : List (Int × Int)} (ha : Am am) {x : Int} (h0 : 0 ≤ x) (h1 : x ≤ FF am 1) : Paid am x (pay am x) := by
  by_cases hx : x = 0
  · subst hx
    have e1 : lows am 0 = am.map (fun _ => 0) := if_pos rfl
    have e2 : highs am 0 = am.map (fun _ => 0) := if_pos rfl
    have e3 : pay am 0 = am.map (fun _ => 0) := by
      unfold pay
      rw [e1, e2, sum_zero]
      exact sprd_zero am
    rw [e3]
    refine ⟨by rw [e1, e2]; exact betw_zero am, sum_zero am, by rw [lbh_zero]; exact ha, fun k => ?_⟩
    rw [lbh_zero]
    have := FF_mono ha k
    omega
  · have e1 : lows am x = pts am (lev am x + 1) := if_neg hx
    have e2 : highs am x = pts am (lev am x) := if_neg hx
    obtain ⟨hL, hL24⟩ := lev_is ha (x := x) (by omega)
    have ht := hL.top h1 ha
    have hlt := hL.1
    obtain ⟨b1, b2⟩ := sprd_is (as := pts am (lev am x + 1)) (bs := pts am (lev am x)) (r := x - (pts am (lev am x + 1)).sum) (by rw [pts_len, pts_len]) (pts_le ha _) (by omega) (by omega)
    have e3 : pay am x = sprd (x - (pts am (lev am x + 1)).sum) ((pts am (lev am x + 1)).zip (pts am (lev am x))) := by unfold pay; rw [e1, e2]
    rw [e3]
    have hs : (sprd (x - (pts am (lev am x + 1)).sum) ((pts am (lev am x + 1)).zip (pts am (lev am x)))).sum = x := by rw [b2]; omega
    obtain ⟨f1, f2, f3⟩ := FF_paid ha b1
    refine ⟨by rw [e1, e2]; exact b1, hs, f3, fun k => ?_⟩
    by_cases hk : k ≤ lev am x
    · rw [f1 k hk]
      have h3 := pts_fall ha hk
      have h5 := pts_sum am k
      omega
    · rw [f2 k (by omega), hs]
      have h3 := pts_fall ha (show lev am x + 1 ≤ k by omega)
      have h5 := pts_sum am k
      omega
/-- sets of days that the cards can pay -/
def CanP (i : Int) (am : List (Int × Int)) (evs : List Ev) : Prop := ∀ s v, Sel i evs s v → v ≤ FF am s.length
theorem sel_nil : ∀ {evs : List Ev} (i : Int), (∀ q, Sum.inr q ∈ evs → 0 ≤ q.1) → Sel i evs [] 0
  | [], i, _ => .nil i
  | .inl x :: evs, i, h => .skip (sel_nil (i + 1) fun q hq => h q (List.mem_cons_of_mem _ hq))
  | .inr (b, l) :: evs, i, h => by
    have h1 := Sel.card (b := b) (l := l) (sel_nil (evs := evs) (i + 1) fun q hq => h q (List.mem_cons_of_mem _ hq))
    have h2 : wor b l 0 = 0 := wor_zero (l := l) (h (b, l) List.mem_cons_self)
    have e : (0 : Int) - wor b l ([] : List Int).length = 0 := by
      show (0 : Int) - wor b l 0 = 0
      omega
    rw [e] at h1
    exact h1
/-- the plan: one row of payments for each bill -/
noncomputable def ppl : List (Int × Int) → List Ev → Option (List (List Int))
  | _, [] => some []
  | am, .inr q :: r => ppl (am ++ [q]) r
  | am, .inl x :: r => if FF am 1 < x then none else (ppl (lbh am (pay am x)) r).map fun l => pay am x :: l
def Evs0 (evs : List Ev) : Prop := (∀ q, Sum.inr q ∈ evs → 1 ≤ q.2 ∧ 0 ≤ q.1 ∧ q.1 ≤ 24 * q.2) ∧ ∀ x, Sum.inl x ∈ evs → (0 : Int) ≤ x
theorem Evs0.tail {e : Ev} {evs : List Ev} (h : Evs0 (e :: evs)) : Evs0 evs := ⟨fun q hq => h.1 q (List.mem_cons_of_mem _ hq), fun x hx => h.2 x (List.mem_cons_of_mem _ hx)⟩
theorem ppl_iff : ∀ {evs : List Ev} {am : List (Int × Int)} (i : Int), Am am → Evs0 evs → ((ppl am evs).isSome = true ↔ CanP i am evs)
  | [], am, i, ha, _ => by
    constructor
    · intro _ s v h
      cases h
      exact FF_nonneg ha _
    · intro _; rfl
  | .inr (b, l) :: r, am, i, ha, he => by
    have hq := he.1 (b, l) List.mem_cons_self
    have ih := ppl_iff (evs := r) (am := am ++ [(b, l)]) (i + 1) (ha.append (Am.cons hq Am.nil)) he.tail
    show (ppl (am ++ [(b, l)]) r).isSome = true ↔ _
    rw [ih]
    have e1 : ∀ k, FF (am ++ [(b, l)]) k = FF am k + wor b l k := fun k => by rw [FF_append, FF_cons, FF_nil]; simp
    constructor
    · intro h s v hs
      cases hs with
      | card hs =>
        have := h _ _ hs
        rw [e1] at this
        omega
    · intro h s v hs
      have := h _ _ (Sel.card (b := b) (l := l) hs)
      rw [e1]
      omega
  | .inl x :: r, am, i, ha, he => by
    have hx := he.2 x List.mem_cons_self
    have e0 : ppl am (.inl x :: r) = if FF am 1 < x then none else (ppl (lbh am (pay am x)) r).map fun l => pay am x :: l := rfl
    rw [e0]
    by_cases h1 : FF am 1 < x
    · rw [if_pos h1]
      constructor
      · intro h; cases h
      · intro h
        have := h _ _ (Sel.take (x := x) (sel_nil (evs := r) (i + 1) fun q hq => (he.tail.1 q hq).2.1))
        have e : FF am ([i] : List Int).length = FF am 1 := rfl
        rw [e] at this
        omega
    · rw [if_neg h1, Option.isSome_map]
      have hp := pay_is ha hx (by omega)
      have ih := ppl_iff (evs := r) (am := lbh am (pay am x)) (i + 1) hp.am_ he.tail
      rw [ih]
      constructor
      · intro h s v hs
        cases hs with
        | skip hs =>
          have := h _ _ hs
          rw [hp.ff] at this
          omega
        | take hs =>
          have := h _ _ hs
          rw [hp.ff] at this
          rw [List.length_cons]
          omega
      · intro h s v hs
        have a1 := h _ _ (Sel.skip (x := x) hs)
        have a2 := h _ _ (Sel.take (x := x) hs)
        rw [List.length_cons] at a2
        rw [hp.ff]
        omega
theorem canp_tab {am : List (Int × Int)} {evs : List Ev} {i : Int} : CanP i am evs ↔ ∀ (k : Nat) (q : Int × List Int), (asked i evs)[k]? = some q → q.1 ≤ FF am k := by
  have T := asked_tab evs i
  constructor
  · intro h k q e
    obtain ⟨t1, t2, _⟩ := T.at_ k q.1 q.2 e
    have := h _ _ t2
    rw [t1] at this
    exact this
  · intro h s v hs
    have hk : s.length < (asked i evs).length := by rw [T.len]; have := hs.len; omega
    have e : (asked i evs)[s.length]? = some (asked i evs)[s.length] := List.getElem?_eq_getElem hk
    obtain ⟨_, _, t3⟩ := T.at_ s.length _ _ e
    exact Int.le_trans (t3 s v hs rfl) (h _ _ e)
end P20

set_option Elab.async false
set_option linter.all false
set_option maxRecDepth 100000
set_option maxHeartbeats 4000000
/-! K5m: what is left behind a payment, and the best that can be left, plain. -/
namespace P20
open Mi L2
/-- payments as they may be -/
def Box : List (Int × Int) → List Int → Prop
  | [], [] => True
  | q :: am, y :: ys => (0 ≤ y ∧ y ≤ min q.1 q.2) ∧ Box am ys
  | _, _ => False
theorem box_sum : ∀ {am : List (Int × Int)} {ys : List Int}, Box am ys → 0 ≤ ys.sum ∧ ys.sum ≤ FF am 1
  | [], [], _ => ⟨Int.le_refl _, Int.le_refl _⟩
  | q :: am, y :: ys, h => by
    have := box_sum h.2
    have h1 := h.1
    rw [FF_cons, List.sum_cons]
    have : wor q.1 q.2 1 = min q.1 q.2 := by unfold wor; simp
    omega
  | [], _ :: _, h => by simp [Box] at h
  | _ :: _, [], h => by simp [Box] at h
theorem box_len : ∀ {am : List (Int × Int)} {ys : List Int}, Box am ys → ys.length = am.length
  | [], [], _ => rfl
  | q :: am, y :: ys, h => by rw [List.length_cons, List.length_cons, box_len h.2]
  | [], _ :: _, h => by simp [Box] at h
  | _ :: _, [], h => by simp [Box] at h
theorem box_am : ∀ {am : List (Int × Int)} {ys : List Int}, Am am → Box am ys → Am (lbh am ys)
  | [], [], _, _ => Am.nil
  | q :: am, y :: ys, ha, h => by
    obtain ⟨a1, a2, a3⟩ := ha q List.mem_cons_self
    have h1 := h.1
    exact Am.cons (q := (q.1 - y, q.2)) ⟨a1, by show 0 ≤ q.1 - y; omega, by show q.1 - y ≤ 24 * q.2; omega⟩ (box_am ha.tail h.2)
  | [], _ :: _, _, h => by simp [Box] at h
  | _ :: _, [], _, h => by simp [Box] at h
/-- the most that can be left -/
def best (am : List (Int × Int)) (x : Int) (k : Nat) : Int := min (FF am k) (FF am (k + 1) - x)
theorem wor_up {b l y : Int} (hl : 1 ≤ l) (hy : 0 ≤ y) (hyl : y ≤ min b l) (k : Nat) : wor (b - y) l k ≤ wor b l k ∧ wor (b - y) l k ≤ wor b l (k + 1) - y := by
  have e1 := succ_mul' k l
  unfold wor
  omega
theorem FF_up : ∀ {am : List (Int × Int)} {ys : List Int}, Am am → Box am ys → ∀ k, FF (lbh am ys) k ≤ FF am k ∧ FF (lbh am ys) k ≤ FF am (k + 1) - ys.sum
  | [], [], _, _, k => ⟨Int.le_refl _, Int.le_refl _⟩
  | q :: am, y :: ys, ha, h, k => by
    obtain ⟨a1, a2, a3⟩ := ha q List.mem_cons_self
    have ih := FF_up ha.tail h.2 k
    have hw := wor_up a1 h.1.1 h.1.2 k
    have e : lbh (q :: am) (y :: ys) = (q.1 - y, q.2) :: lbh am ys := rfl
    rw [e, FF_cons, FF_cons, FF_cons, List.sum_cons]
    show wor (q.1 - y) q.2 k + FF (lbh am ys) k ≤ _ ∧ wor (q.1 - y) q.2 k + FF (lbh am ys) k ≤ _
    omega
  | [], _ :: _, _, h, _ => by simp [Box] at h
  | _ :: _, [], _, h, _ => by simp [Box] at h
theorem wor_low {b l y : Int} (hl : 1 ≤ l) (hb : 0 ≤ b) (hy : 0 ≤ y) (hyl : y ≤ min b l) (L : Nat) : (wor (b - y) l L = wor b l L → y ≤ wor b l (L + 1) - wor b l L) ∧ (wor (b - y) l (L + 1) = wor b l (L + 2) - y → wor b l (L + 2) - wor b l (L + 1) ≤ y) := by
  have e1 := succ_mul' L l
  have e2 : ((L + 2 : Nat) : Int) * l = ((L + 1 : Nat) : Int) * l + l := succ_mul' (L + 1) l
  have e6 : (0 : Int) ≤ (L : Int) * l := Int.mul_nonneg (by omega) (by omega)
  unfold wor
  omega
/-- what keeps the most at two levels is between the parts -/
theorem betw_of : ∀ {am : List (Int × Int)} {ys : List Int} {L : Nat}, Am am → Box am ys → FF am L ≤ FF (lbh am ys) L → FF am (L + 2) - ys.sum ≤ FF (lbh am ys) (L + 1) → Betw (pts am (L + 1)) ys (pts am L)
  | [], [], L, _, _, _, _ => trivial
  | q :: am, y :: ys, L, ha, h, h1, h2 => by
    obtain ⟨a1, a2, a3⟩ := ha q List.mem_cons_self
    have u1 := FF_up ha.tail h.2 L
    have u2 := FF_up ha.tail h.2 (L + 1)
    have w1 := wor_up a1 h.1.1 h.1.2 L
    have w2 := wor_up a1 h.1.1 h.1.2 (L + 1)
    have e : lbh (q :: am) (y :: ys) = (q.1 - y, q.2) :: lbh am ys := rfl
    rw [e, FF_cons, FF_cons] at h1
    rw [e, FF_cons, FF_cons, List.sum_cons] at h2
    have h1 : wor q.1 q.2 L + FF am L ≤ wor (q.1 - y) q.2 L + FF (lbh am ys) L := h1
    have h2 : wor q.1 q.2 (L + 2) + FF am (L + 2) - (y + ys.sum) ≤ wor (q.1 - y) q.2 (L + 1) + FF (lbh am ys) (L + 1) := h2
    have w2' : wor (q.1 - y) q.2 (L + 1) ≤ wor q.1 q.2 (L + 2) - y := w2.2
    have u2' : FF (lbh am ys) (L + 1) ≤ FF am (L + 2) - ys.sum := u2.2
    have wl := wor_low a1 a2 h.1.1 h.1.2 L
    exact ⟨wl.2 (by omega), wl.1 (by omega), betw_of ha.tail h.2 (by omega) (by omega)⟩
  | [], _ :: _, _, _, h, _, _ => by simp [Box] at h
  | _ :: _, [], _, _, h, _, _ => by simp [Box] at h
theorem box_zero : ∀ {am : List (Int × Int)} {ys : List Int}, Box am ys → ys.sum = 0 → ys = am.map fun _ => 0
  | [], [], _, _ => rfl
  | q :: am, y :: ys, h, h0 => by
    have := box_sum h.2
    have h1 := h.1
    rw [List.sum_cons] at h0
    have e : y = 0 := by omega
    rw [e, List.map_cons, ← box_zero h.2 (by omega)]
  | [], _ :: _, h, _ => by simp [Box] at h
  | _ :: _, [], h, _ => by simp [Box] at h
/-- a payment is between the bounds just if it leaves the best -/
theorem sparing_iff {am : List (Int × Int)} {ys : List Int} (ha : Am am) (hb : Box am ys) : Betw (lows am ys.sum) ys (highs am ys.sum) ↔ ∀ k, best am ys.sum k ≤ FF (lbh am ys) k := by
  obtain ⟨x0, x1⟩ := box_sum hb
  by_cases hx : ys.sum = 0
  · have e1 : lows am ys.sum = am.map (fun _ => 0) := if_pos hx
    have e2 : highs am ys.sum = am.map (fun _ => 0) := if_pos hx
    rw [e1, e2]
    have hz := box_zero hb hx
    constructor
    · intro _ k
      unfold best
      rw [hz, lbh_zero]
      omega
    · intro _
      rw [hz]
      exact betw_zero am
  · have e1 : lows am ys.sum = pts am (lev am ys.sum + 1) := if_neg hx
    have e2 : highs am ys.sum = pts am (lev am ys.sum) := if_neg hx
    obtain ⟨hL, hL24⟩ := lev_is ha (x := ys.sum) (by omega)
    have ht := hL.top x1 ha
    have hlt := hL.1
    rw [e1, e2]
    generalize lev am ys.sum = L at hL hL24 ht hlt
    have p1 := pts_sum am L
    have p2 := pts_sum am (L + 1)
    constructor
    · intro h k
      obtain ⟨f1, f2, _⟩ := FF_paid ha h
      unfold best
      by_cases hk : k ≤ L
      · rw [f1 k hk]; omega
      · rw [f2 k (by omega)]; omega
    · intro h
      have g1 := h L
      have g2 := h (L + 1)
      unfold best at g1 g2
      refine betw_of ha hb (by omega) ?_
      have p2' : (pts am (L + 1)).sum = FF am (L + 2) - FF am (L + 1) := p2
      have g2' : min (FF am (L + 1)) (FF am (L + 2) - ys.sum) ≤ FF (lbh am ys) (L + 1) := g2
      omega
end P20

set_option Elab.async false
set_option linter.all false
set_option maxRecDepth 100000
set_option maxHeartbeats 4000000
/-! K6m: the row left behind a sparing payment, plain. -/
namespace P20
open Mi L2
theorem sumN_zero (row : List Int) : sumN row 0 = 0 := by cases row <;> rfl
theorem sumN_append : ∀ (a b : List Int) (k : Nat), sumN (a ++ b) k = sumN a k + sumN b (k - a.length)
  | [], b, k => by simp [sumN_nil]
  | x :: a, b, 0 => by
    rw [sumN_zero, sumN_zero, Nat.zero_sub, sumN_zero]
    rfl
  | x :: a, b, k + 1 => by
    have ih := sumN_append a b k
    show x + sumN (a ++ b) k = x + sumN a k + sumN b (k + 1 - (a.length + 1))
    rw [ih, show k + 1 - (a.length + 1) = k - a.length by omega]
    omega
theorem sumN_takeN : ∀ (row : List Int) (L k : Nat), sumN (row.take L) k = sumN row (min k L)
  | [], L, k => by simp [sumN_nil]
  | x :: row, 0, k => by simp [sumN_nil, sumN_zero]
  | x :: row, L + 1, 0 => by simp [sumN_zero]
  | x :: row, L + 1, k + 1 => by
    have ih := sumN_takeN row L k
    show x + sumN (row.take L) k = _
    rw [ih, show min (k + 1) (L + 1) = min k L + 1 by omega]
    rfl
theorem sumN_dropN : ∀ (row : List Int) (m k : Nat), sumN (row.drop m) k = sumN row (m + k) - sumN row m
  | row, 0, k => by simp [sumN_zero]
  | [], m + 1, k => by simp [sumN_nil]
  | x :: row, m + 1, k => by
    have ih := sumN_dropN row m k
    show sumN (row.drop m) k = _
    rw [ih, show m + 1 + k = (m + k) + 1 by omega]
    show _ = x + sumN row (m + k) - (x + sumN row m)
    omega
/-- what is left of a row -/
def takenL (row : List Int) (x : Int) : List Int :=
  if x = 0 then row else
    let L := (row.filter fun y => decide (x ≤ y)).length - 1
    let rest := row.getD L 0 + row.getD (L + 1) 0 - x
    row.take L ++ (if 0 < rest then [rest] else []) ++ row.drop (L + 2)
theorem range_filter (d m : Nat) (h : m ≤ d) : (List.range d).filter (fun k => decide (k < m)) = List.range m := by
  induction d with
  | zero =>
    have : m = 0 := by omega
    subst this
    rfl
  | succ d ih =>
    rw [List.range_succ, List.filter_append]
    by_cases hm : m = d + 1
    · subst hm
      rw [List.filter_eq_self.mpr fun k hk => decide_eq_true (by have := List.mem_range.mp hk; omega), List.filter_cons_of_pos (by simp), List.filter_nil, ← List.range_succ]
    · rw [ih (by omega), List.filter_cons_of_neg (by simp; omega), List.filter_nil, List.append_nil]
theorem row_filter {am : List (Int × Int)} (ha : Am am) {row : List Int} (hr : IsRow am row) {x : Int} (hx : 0 < x) (h1 : x ≤ FF am 1) : (row.filter fun y => decide (x ≤ y)).length = lev am x + 1 ∧ lev am x < row.length := by
  obtain ⟨hL, h24⟩ := lev_is ha hx
  have ht := hL.top h1 ha
  have hlt := hL.1
  have hsum := hr.sum ha
  obtain ⟨d, hd, hm, hnm, rfl⟩ := hr
  have hlen : ((List.range d).map fun k => FF am (k + 1) - FF am k).length = d := by simp
  have hLd : lev am x < d := by
    rcases Nat.lt_or_ge (lev am x) d with z | z
    · exact z
    · have e1 := hsum (lev am x)
      have e2 := hsum (lev am x + 1)
      rw [sumN_flat _ _ (by rw [hlen]; omega)] at e1 e2
      have e3 := pts_sum am (lev am x)
      omega
  refine ⟨?_, by rw [hlen]; exact hLd⟩
  rw [List.filter_map, List.length_map]
  have key : ∀ k, ((fun y => decide (x ≤ y)) ∘ fun k => FF am (k + 1) - FF am k) k = decide (k < lev am x + 1) := fun k => by
    show decide (x ≤ FF am (k + 1) - FF am k) = _
    have e3 := pts_sum am k
    by_cases hk : k < lev am x + 1
    · have := pts_fall ha (show k ≤ lev am x by omega)
      rw [decide_eq_true hk, decide_eq_true (by omega)]
    · have := pts_fall ha (show lev am x + 1 ≤ k by omega)
      rw [decide_eq_false hk, decide_eq_false (by omega)]
  rw [List.filter_congr fun k _ => key k, range_filter d (lev am x + 1) (by omega), List.length_range]
theorem taken_best {am : List (Int × Int)} (ha : Am am) {row : List Int} (hr : IsRow am row) {x : Int} (h0 : 0 ≤ x) (h1 : x ≤ FF am 1) : (∀ k, sumN (takenL row x) k = best am x k) ∧ (takenL row x).length ≤ 24 := by
  have hlen := hr.len
  have hsum := hr.sum ha
  unfold takenL
  by_cases hx : x = 0
  · subst hx
    rw [if_pos rfl]
    refine ⟨fun k => ?_, hlen⟩
    rw [hsum]
    unfold best
    have := FF_mono ha k
    omega
  · rw [if_neg hx]
    obtain ⟨f1, f2⟩ := row_filter ha hr (show 0 < x by omega) h1
    obtain ⟨hL, h24⟩ := lev_is ha (x := x) (by omega)
    have ht := hL.top h1 ha
    have hlt := hL.1
    dsimp only
    rw [f1, Nat.add_sub_cancel]
    generalize lev am x = L at *
    have s1 := sumN_app L row
    have s2 := sumN_app (L + 1) row
    rw [hsum, hsum] at s1 s2
    have p1 := pts_sum am L
    have p2 := pts_sum am (L + 1)
    have p2' : (pts am (L + 1)).sum = FF am (L + 2) - FF am (L + 1) := p2
    have s2' : FF am (L + 2) = FF am (L + 1) + row.getD (L + 1) 0 := s2
    have hm := FF_mono ha (L + 1)
    have hm' : FF am (L + 1) ≤ FF am (L + 2) := hm
    have htl : (row.take L).length = L := by rw [List.length_take]; omega
    refine ⟨fun k => ?_, ?_⟩
    · rw [List.append_assoc, sumN_append, sumN_takeN, hsum, htl]
      unfold best
      by_cases hk : k ≤ L
      · have := pts_fall ha hk
        have p3 := pts_sum am k
        rw [show min k L = k by omega, show k - L = 0 by omega, sumN_zero]
        omega
      · have := pts_fall ha (show L + 1 ≤ k by omega)
        have p3 := pts_sum am k
        rw [show min k L = L by omega, sumN_append, sumN_dropN, hsum, hsum]
        split
        · rename_i hrest
          have e1 : sumN [row.getD L 0 + row.getD (L + 1) 0 - x] (k - L) = row.getD L 0 + row.getD (L + 1) 0 - x := by
            rw [show k - L = (k - L - 1) + 1 by omega]
            show (row.getD L 0 + row.getD (L + 1) 0 - x) + sumN [] (k - L - 1) = _
            rw [sumN_nil, Int.add_zero]
          rw [e1]
          simp only [List.length_cons, List.length_nil]
          rw [show L + 2 + (k - L - (0 + 1)) = k + 1 by omega]
          omega
        · rename_i hrest
          rw [sumN_nil]
          simp only [List.length_nil, Nat.sub_zero]
          have hz : FF am (L + 2) = FF am (L + 1) := by omega
          have hflat : ∀ j, FF am (L + 1 + j) = FF am (L + 1) := fun j => by
            induction j with
            | zero => rfl
            | succ j ih =>
              have q1 := pts_fall ha (show L + 1 ≤ L + 1 + j by omega)
              have q2 := pts_sum am (L + 1 + j)
              have q3 := FF_mono ha (L + 1 + j)
              show FF am (L + 1 + j + 1) = _
              omega
          have g1 := hflat (1 + (k - L))
          have g2 := hflat (k - L)
          rw [show L + 1 + (1 + (k - L)) = L + 2 + (k - L) by omega] at g1
          rw [show L + 1 + (k - L) = k + 1 by omega] at g2
          omega
    · rw [List.length_append, List.length_append, htl, List.length_drop]
      split <;> simp <;> omega
end P20

set_option Elab.async false
set_option linter.all false
set_option maxRecDepth 100000
set_option maxHeartbeats 4000000
/-! K7m: few cards with a given row, plain. -/
namespace P20
open Mi L2
/-- the falls of a row -/
def fls : List Int → List Int
  | [] => []
  | [x] => [x]
  | x :: y :: r => (x - y) :: fls (y :: r)
theorem fls_len : ∀ row : List Int, (fls row).length = row.length
  | [] => rfl
  | [x] => rfl
  | x :: y :: r => by rw [fls, List.length_cons, fls_len (y :: r)]; rfl
/-- what falls are worth: the first at day d -/
def WW (d : Nat) : List Int → Nat → Int
  | [], _ => 0
  | a :: r, k => a * ((min k d : Nat) : Int) + WW (d + 1) r k
theorem WW_append (a : List Int) : ∀ (d k : Nat), WW d (a ++ [0]) k = WW d a k := by
  induction a with
  | nil => intro d k; show (0 : Int) * _ + 0 = 0; omega
  | cons x a ih => intro d k; show x * _ + WW (d + 1) (a ++ [0]) k = x * _ + WW (d + 1) a k; rw [ih]
theorem WW_row : ∀ (row : List Int) (d k : Nat), WW (d + 1) (fls row) k = row.headD 0 * ((min k d : Nat) : Int) + sumN row (k - d)
  | [], d, k => by rw [sumN_nil]; show (0 : Int) = 0 * _ + 0; omega
  | [x], d, k => by
    show x * ((min k (d + 1) : Nat) : Int) + 0 = x * ((min k d : Nat) : Int) + sumN [x] (k - d)
    by_cases h : k ≤ d
    · rw [show min k (d + 1) = k by omega, show min k d = k by omega, show k - d = 0 by omega]
      show _ = _ + 0
      rfl
    · rw [show min k (d + 1) = d + 1 by omega, show min k d = d by omega, show k - d = (k - d - 1) + 1 by omega]
      show _ = x * (d : Int) + (x + sumN [] (k - d - 1))
      rw [sumN_nil, show ((d + 1 : Nat) : Int) = (d : Int) + 1 by omega, Int.mul_add, Int.mul_one]
      omega
  | x :: y :: r, d, k => by
    have ih := WW_row (y :: r) (d + 1) k
    show (x - y) * ((min k (d + 1) : Nat) : Int) + WW (d + 1 + 1) (fls (y :: r)) k = x * ((min k d : Nat) : Int) + sumN (x :: y :: r) (k - d)
    rw [ih]
    show (x - y) * ((min k (d + 1) : Nat) : Int) + (y * ((min k (d + 1) : Nat) : Int) + sumN (y :: r) (k - (d + 1))) = _
    rw [Int.sub_mul]
    by_cases h : k ≤ d
    · rw [show min k (d + 1) = k by omega, show min k d = k by omega, show k - d = 0 by omega, show k - (d + 1) = 0 by omega]
      show _ = x * (k : Int) + 0
      have : sumN (y :: r) 0 = 0 := rfl
      omega
    · rw [show min k (d + 1) = d + 1 by omega, show min k d = d by omega, show k - d = (k - (d + 1)) + 1 by omega]
      show _ = x * (d : Int) + (x + sumN (y :: r) (k - (d + 1)))
      rw [show ((d + 1 : Nat) : Int) = (d : Int) + 1 by omega, Int.mul_add, Int.mul_one, Int.mul_add, Int.mul_one]
      omega
/-- few cards -/
def few : Nat → List Int → List (Int × Int)
  | d, a :: b :: r =>
    if a = 0 then few (d + 1) (b :: r)
    else if b = 0 then ((d : Int) * (a + b) + b, a + b) :: few (d + 1) (b :: r)
    else ((d : Int) * (a + b) + b, a + b) :: few (d + 2) r
  | _, _ => []
termination_by _ l => l.length
theorem wor_card {a b : Int} (ha : 0 < a) (hb : 0 ≤ b) (d k : Nat) : wor ((d : Int) * (a + b) + b) (a + b) k = a * ((min k d : Nat) : Int) + b * ((min k (d + 1) : Nat) : Int) := by
  unfold wor
  by_cases h : k ≤ d
  · rw [show min k d = k by omega, show min k (d + 1) = k by omega]
    have h1 : (k : Int) * (a + b) ≤ (d : Int) * (a + b) := mono_mul (by omega) (by omega)
    have h2 : (k : Int) * (a + b) = a * (k : Int) + b * (k : Int) := by rw [Int.mul_add, Int.mul_comm, Int.mul_comm (k : Int) b]
    omega
  · rw [show min k d = d by omega, show min k (d + 1) = d + 1 by omega]
    have h1 : ((d + 1 : Nat) : Int) * (a + b) ≤ (k : Int) * (a + b) := mono_mul (by omega) (by omega)
    rw [succ_mul'] at h1
    have h2 : (d : Int) * (a + b) = a * (d : Int) + b * (d : Int) := by rw [Int.mul_add, Int.mul_comm, Int.mul_comm (d : Int) b]
    have h3 : b * ((d + 1 : Nat) : Int) = b * (d : Int) + b := by rw [show ((d + 1 : Nat) : Int) = (d : Int) + 1 by omega, Int.mul_add, Int.mul_one]
    omega
theorem few_FF : ∀ (n : Nat) (f : List Int) (d k : Nat), f.length ≤ n → (∀ x ∈ f, 0 ≤ x) → f.getLast? = some 0 → FF (few d f) k = WW d f k
  | n, [], d, k, _, _, h => by cases h
  | n, [a], d, k, _, _, h => by
    have : a = 0 := by simpa using h
    subst this
    show FF (few d [0]) k = 0 * _ + 0
    rw [few]
    · simp [FF]
    · intro a b r e; cases e
  | 0, a :: b :: r, d, k, hn, _, _ => by simp at hn
  | n + 1, a :: b :: r, d, k, hn, hp, hl => by
    have ha := hp a List.mem_cons_self
    have hb := hp b (List.mem_cons_of_mem _ List.mem_cons_self)
    have hl2 : (b :: r).getLast? = some 0 := by rw [List.getLast?_cons_cons] at hl; exact hl
    have hp2 : ∀ x ∈ b :: r, 0 ≤ x := fun x hx => hp x (List.mem_cons_of_mem _ hx)
    have ih := few_FF n (b :: r) (d + 1) k (by simp at hn ⊢; omega) hp2 hl2
    show FF (few d (a :: b :: r)) k = a * ((min k d : Nat) : Int) + WW (d + 1) (b :: r) k
    rw [few]
    by_cases h0 : a = 0
    · rw [if_pos h0, ih, h0]
      omega
    · rw [if_neg h0]
      have hc := wor_card (a := a) (b := b) (by omega) hb d k
      by_cases h1 : b = 0
      · rw [if_pos h1, FF_cons, ih]
        show wor _ _ k + _ = _
        rw [hc, h1]
        omega
      · rw [if_neg h1, FF_cons]
        show wor _ _ k + _ = _
        rw [hc]
        show _ = a * ((min k d : Nat) : Int) + (b * ((min k (d + 1) : Nat) : Int) + WW (d + 1 + 1) r k)
        cases r with
        | nil =>
          have : b = 0 := by simpa using hl2
          exact absurd this h1
        | cons c r =>
          have hl3 : (c :: r).getLast? = some 0 := by rw [List.getLast?_cons_cons] at hl2; exact hl2
          have ih2 := few_FF n (c :: r) (d + 2) k (by simp at hn ⊢; omega) (fun x hx => hp2 x (List.mem_cons_of_mem _ hx)) hl3
          have ih3 : FF (few (d + 2) (c :: r)) k = WW (d + 1 + 1) (c :: r) k := ih2
          rw [ih3]
          omega
theorem few_am : ∀ (n : Nat) (f : List Int) (d : Nat), f.length ≤ n → (∀ x ∈ f, 0 ≤ x) → f.getLast? = some 0 → d + f.length ≤ 26 → Am (few d f)
  | n, [], d, _, _, h, _ => by cases h
  | n, [a], d, _, _, h, _ => by
    rw [few]
    · exact Am.nil
    · intro a b r e; cases e
  | 0, a :: b :: r, d, hn, _, _, _ => by simp at hn
  | n + 1, a :: b :: r, d, hn, hp, hl, h26 => by
    have ha := hp a List.mem_cons_self
    have hb := hp b (List.mem_cons_of_mem _ List.mem_cons_self)
    have hl2 : (b :: r).getLast? = some 0 := by rw [List.getLast?_cons_cons] at hl; exact hl
    have hp2 : ∀ x ∈ b :: r, 0 ≤ x := fun x hx => hp x (List.mem_cons_of_mem _ hx)
    have ih := few_am n (b :: r) (d + 1) (by simp at hn ⊢; omega) hp2 hl2 (by simp at h26 ⊢; omega)
    simp only [List.length_cons] at h26
    rw [few]
    by_cases h0 : a = 0
    · rw [if_pos h0]; exact ih
    · rw [if_neg h0]
      have h24 : b = 0 → d ≤ 24 := fun _ => by omega
      have m1 : 0 ≤ (d : Int) * (a + b) := Int.mul_nonneg (by omega) (by omega)
      by_cases h1 : b = 0
      · rw [if_pos h1]
        have m2 : (d : Int) * (a + b) ≤ 24 * (a + b) := mono_mul (by omega) (by omega)
        exact Am.cons (q := ((d : Int) * (a + b) + b, a + b)) ⟨by show 1 ≤ a + b; omega, by show 0 ≤ (d : Int) * (a + b) + b; omega, by show (d : Int) * (a + b) + b ≤ 24 * (a + b); omega⟩ ih
      · rw [if_neg h1]
        cases r with
        | nil =>
          have : b = 0 := by simpa using hl2
          exact absurd this h1
        | cons c r =>
          have hl3 : (c :: r).getLast? = some 0 := by rw [List.getLast?_cons_cons] at hl2; exact hl2
          simp only [List.length_cons] at h26
          have ih2 := few_am n (c :: r) (d + 2) (by simp at hn ⊢; omega) (fun x hx => hp2 x (List.mem_cons_of_mem _ hx)) hl3 (by simp; omega)
          have m2 : ((d + 1 : Nat) : Int) * (a + b) ≤ 24 * (a + b) := mono_mul (by omega) (by omega)
          rw [succ_mul'] at m2
          exact Am.cons (q := ((d : Int) * (a + b) + b, a + b)) ⟨by show 1 ≤ a + b; omega, by show 0 ≤ (d : Int) * (a + b) + b; omega, by show (d : Int) * (a + b) + b ≤ 24 * (a + b); omega⟩ ih2
/-- the number of cards, by runs of falls -/
def lfew : Nat → List Int → Nat
  | run, [] => (run + 1) / 2
  | run, a :: r => if 0 < a then lfew (run + 1) r else (run + 1) / 2 + lfew 0 r
theorem lfew_two : ∀ (f : List Int) (run : Nat), lfew (run + 2) f = lfew run f + 1
  | [], run => by show (run + 2 + 1) / 2 = (run + 1) / 2 + 1; omega
  | a :: r, run => by
    have ih := lfew_two r (run + 1)
    show (if 0 < a then lfew (run + 2 + 1) r else (run + 2 + 1) / 2 + lfew 0 r) = (if 0 < a then lfew (run + 1) r else (run + 1) / 2 + lfew 0 r) + 1
    split
    · exact ih
    · omega
theorem few_len : ∀ (n : Nat) (f : List Int) (d : Nat), f.length ≤ n → (∀ x ∈ f, 0 ≤ x) → (few d (f ++ [0])).length = lfew 0 f
  | n, [], d, _, _ => by
    show (few d [0]).length = 0
    rw [few]
    · rfl
    · intro a b r e; cases e
  | 0, a :: r, d, hn, _ => by simp at hn
  | n + 1, [a], d, hn, hp => by
    have ha := hp a List.mem_cons_self
    show (few d [a, 0]).length = if 0 < a then (1 + 1) / 2 else (0 + 1) / 2 + (0 + 1) / 2
    rw [few]
    have hz : few (d + 1) [0] = [] := by
      rw [few]
      intro a b r e; cases e
    by_cases h0 : a = 0
    · rw [if_pos h0, hz, h0]; rfl
    · rw [if_neg h0, if_pos rfl, hz, if_pos (by omega)]; rfl
  | n + 1, a :: b :: r, d, hn, hp => by
    have ha := hp a List.mem_cons_self
    have hb := hp b (List.mem_cons_of_mem _ List.mem_cons_self)
    have hp2 : ∀ x ∈ b :: r, 0 ≤ x := fun x hx => hp x (List.mem_cons_of_mem _ hx)
    have ih := few_len n (b :: r) (d + 1) (by simp at hn ⊢; omega) hp2
    have ih2 := few_len n r (d + 2) (by simp at hn ⊢; omega) (fun x hx => hp2 x (List.mem_cons_of_mem _ hx))
    show (few d (a :: b :: (r ++ [0]))).length = if 0 < a then lfew (0 + 1) (b :: r) else (0 + 1) / 2 + lfew 0 (b :: r)
    rw [few]
    by_cases h0 : a = 0
    · rw [if_pos h0, if_neg (by omega)]
      have : (few (d + 1) (b :: (r ++ [0]))).length = lfew 0 (b :: r) := ih
      omega
    · have ha0 : 0 < a := by omega
      rw [if_neg h0, if_pos ha0]
      by_cases h1 : b = 0
      · rw [if_pos h1, List.length_cons]
        have e : (few (d + 1) (b :: (r ++ [0]))).length = lfew 0 (b :: r) := ih
        rw [e, h1]
        have z : ¬ (0 : Int) < 0 := by decide
        simp only [lfew, if_neg z]
        omega
      · rw [if_neg h1, List.length_cons, ih2]
        have hb0 : 0 < b := by omega
        show _ = if 0 < b then lfew 2 r else _
        rw [if_pos hb0, lfew_two]
end P20

set_option Elab.async false
set_option linter.all false
set_option maxRecDepth 100000
set_option maxHeartbeats 4000000
/-! D8m: one course is no harder than another. -/
namespace P20
/-- so many bills of a course, with this value -/
inductive Pk : List Ev → Nat → Int → Prop
  | nil : Pk [] 0 0
  | card {b l v : Int} {rest : List Ev} {k : Nat} (h : Pk rest k v) : Pk (.inr (b, l) :: rest) k (v - wor b l k)
  | skip {x v : Int} {rest : List Ev} {k : Nat} (h : Pk rest k v) : Pk (.inl x :: rest) k v
  | take {x v : Int} {rest : List Ev} {k : Nat} (h : Pk rest k v) : Pk (.inl x :: rest) (k + 1) (x + v)
theorem Pk.of {i : Int} {evs : List Ev} {s : List Int} {v : Int} (h : Sel i evs s v) : Pk evs s.length v := by
  induction h with
  | nil => exact .nil
  | card h ih => exact .card ih
  | skip h ih => exact .skip ih
  | take h ih => exact .take ih
theorem Pk.sel {evs : List Ev} {k : Nat} {v : Int} (h : Pk evs k v) : ∀ i : Int, ∃ s, Sel i evs s v ∧ s.length = k := by
  induction h with
  | nil => intro i; exact ⟨[], .nil i, rfl⟩
  | card h ih =>
    intro i
    obtain ⟨s, h1, h2⟩ := ih (i + 1)
    subst h2
    exact ⟨s, .card h1, rfl⟩
  | skip h ih => intro i; obtain ⟨s, h1, h2⟩ := ih (i + 1); exact ⟨s, .skip h1, h2⟩
  | take h ih => intro i; obtain ⟨s, h1, h2⟩ := ih (i + 1); exact ⟨i :: s, .take h1, by simp [h2]⟩
def Dom (e e' : List Ev) : Prop := ∀ k v, Pk e k v → ∃ k' v', Pk e' k' v' ∧ k' ≤ k ∧ v ≤ v'
theorem Dom.canp {am : List (Int × Int)} {e e' : List Ev} (ha : Am am) (h : Dom e e') (c : CanP 0 am e') : CanP 0 am e := fun s v hs => by
  obtain ⟨k', v', h1, h2, h3⟩ := h _ _ (Pk.of hs)
  obtain ⟨s', h4, h5⟩ := h1.sel 0
  have h6 := c _ _ h4
  rw [h5] at h6
  have := FF_le ha h2
  omega
theorem Pk.zero {evs : List Ev} (hc : ∀ q, Sum.inr q ∈ evs → (0 : Int) ≤ q.1) {k : Nat} {v : Int} (h : Pk evs k v) : k = 0 → v = 0 := by
  induction h with
  | nil => intro _; rfl
  | @card b l v rest k h ih =>
    intro e
    have h0 : (0 : Int) ≤ b := hc (b, l) List.mem_cons_self
    have := ih (fun q hq => hc q (List.mem_cons_of_mem _ hq)) e
    subst e
    rw [wor_zero h0]
    omega
  | skip h ih => intro e; exact ih (fun q hq => hc q (List.mem_cons_of_mem _ hq)) e
  | take h ih => intro e; cases e
theorem Falls.of_least {t : Int} {ss row : List Int} (h : Least t ss row) : Falls row := ⟨h.pos, h.falls⟩
theorem asks_at {evs : List Ev} {n : Nat} {s : Int} (h : (asks evs)[n]? = some s) : Pk evs (n + 1) s := by
  unfold asks at h
  rw [List.getElem?_drop, List.getElem?_map] at h
  cases e : (asked 0 evs)[1 + n]? with
  | none => rw [e] at h; cases h
  | some q =>
    rw [e] at h
    cases h
    obtain ⟨h1, h2, _⟩ := (asked_tab evs 0).at_ _ _ _ e
    have := Pk.of h2
    rw [h1, Nat.add_comm] at this
    exact this
theorem asks_le {evs : List Ev} {k : Nat} {v : Int} (h : Pk evs (k + 1) v) : ∃ s, (asks evs)[k]? = some s ∧ v ≤ s := by
  obtain ⟨s', h1, h2⟩ := h.sel 0
  have hl := h1.len
  have hk : k + 1 < (asked 0 evs).length := by rw [asked_len]; omega
  have e : (asked 0 evs)[k + 1]? = some (asked 0 evs)[k + 1] := List.getElem?_eq_getElem hk
  obtain ⟨_, _, h3⟩ := (asked_tab evs 0).at_ _ _ _ e
  refine ⟨_, ?_, h3 s' v h1 h2⟩
  unfold asks
  rw [List.getElem?_drop, List.getElem?_map, Nat.add_comm, e]
  rfl
theorem Dom.form {e e' : List Ev} {row row' : List Int} (hc : ∀ q, Sum.inr q ∈ e' → (0 : Int) ≤ q.1) (h : Dom e e') (r : Least 0 (asks e) row) (r' : Least 0 (asks e') row') : ∀ n, sumN row n ≤ sumN row' n := by
  have hn : ∀ x ∈ row', (0 : Int) ≤ x := fun x hx => Int.le_of_lt (r'.pos x hx)
  refine r.least (Falls.of_least r') fun n s hs => ?_
  obtain ⟨k', v', h1, h2, h3⟩ := h _ _ (asks_at hs)
  have h4 : v' ≤ sumN row' k' := by
    cases k' with
    | zero => rw [h1.zero hc rfl]; simp [sumN]
    | succ k =>
      obtain ⟨s', e1, e2⟩ := asks_le h1
      have := r'.cover k s' e1
      omega
  have h5 := sumN_le hn h2
  omega
theorem Dom.refl (e : List Ev) : Dom e e := fun k v h => ⟨k, v, h, Nat.le_refl _, Int.le_refl _⟩
theorem Dom.trans {a b c : List Ev} (h : Dom a b) (h2 : Dom b c) : Dom a c := fun k v hk => by
  obtain ⟨k', v', h1, h3, h4⟩ := h _ _ hk
  obtain ⟨k2, v2, h5, h6, h7⟩ := h2 _ _ h1
  exact ⟨k2, v2, h5, by omega, by omega⟩
theorem Dom.form_eq {e e' : List Ev} {row row' : List Int} (hc : ∀ q, Sum.inr q ∈ e → (0 : Int) ≤ q.1) (hc' : ∀ q, Sum.inr q ∈ e' → (0 : Int) ≤ q.1) (h : Dom e e') (h' : Dom e' e) (r : Least 0 (asks e) row) (r' : Least 0 (asks e') row') : row = row' :=
  pos_uniq r.pos r'.pos fun n => Int.le_antisymm (h.form hc' r r' n) (h'.form hc r' r n)
/-! ### bills alone -/
def bl_ (bs : List Int) : List Ev := bs.map Sum.inl
theorem bl_ok (bs : List Int) : ∀ q : Int × Int, Sum.inr q ∈ bl_ bs → (0 : Int) ≤ q.1 := fun q h => by
  obtain ⟨x, _, hx⟩ := List.mem_map.mp h
  cases hx
/-- bills ahead of others -/
theorem pk_bills : ∀ {bs : List Int} {rest : List Ev} {k : Nat} {v : Int}, Pk (bl_ bs ++ rest) k v ↔ ∃ (t : List Int) (k' : Nat) (v' : Int), t.Sublist bs ∧ Pk rest k' v' ∧ k = t.length + k' ∧ v = t.sum + v'
  | [], rest, k, v => by
    constructor
    · intro h; exact ⟨[], k, v, .slnil, h, by simp, by simp⟩
    · rintro ⟨t, k', v', h1, h2, rfl, rfl⟩
      cases List.sublist_nil.mp h1
      simpa [bl_] using h2
  | b :: bs, rest, k, v => by
    have e : bl_ (b :: bs) ++ rest = Sum.inl b :: (bl_ bs ++ rest) := rfl
    rw [e]
    constructor
    · intro h
      cases h with
      | skip h =>
        obtain ⟨t, k', v', h1, h2, h3, h4⟩ := pk_bills.mp h
        exact ⟨t, k', v', .cons _ h1, h2, h3, h4⟩
      | take h =>
        obtain ⟨t, k', v', h1, h2, h3, h4⟩ := pk_bills.mp h
        exact ⟨b :: t, k', v', .cons₂ _ h1, h2, by simp; omega, by simp; omega⟩
    · rintro ⟨t, k', v', h1, h2, rfl, rfl⟩
      rcases List.sublist_cons_iff.mp h1 with h' | ⟨t', rfl, h'⟩
      · exact .skip (pk_bills.mpr ⟨t, k', v', h', h2, rfl, rfl⟩)
      · have := Pk.take (x := b) (pk_bills.mpr ⟨t', k', v', h', h2, rfl, rfl⟩)
        have e1 : (b :: t').length + k' = t'.length + k' + 1 := by simp; omega
        have e2 : (b :: t').sum + v' = b + (t'.sum + v') := by simp; omega
        rw [e1, e2]
        exact this
theorem pk_bl {bs : List Int} {k : Nat} {v : Int} : Pk (bl_ bs) k v ↔ ∃ t : List Int, t.Sublist bs ∧ k = t.length ∧ v = t.sum := by
  have := pk_bills (bs := bs) (rest := []) (k := k) (v := v)
  rw [List.append_nil] at this
  rw [this]
  constructor
  · rintro ⟨t, k', v', h1, h2, h3, h4⟩
    cases h2
    exact ⟨t, h1, by omega, by omega⟩
  · rintro ⟨t, h1, h3, h4⟩
    exact ⟨t, 0, 0, h1, .nil, by omega, by omega⟩
def DomB (a b : List Int) : Prop := ∀ t : List Int, t.Sublist a → ∃ t' : List Int, t'.Sublist b ∧ t'.length ≤ t.length ∧ t.sum ≤ t'.sum
theorem DomB.dom {a b : List Int} (h : DomB a b) : Dom (bl_ a) (bl_ b) := fun k v hk => by
  obtain ⟨t, h1, rfl, rfl⟩ := pk_bl.mp hk
  obtain ⟨t', h2, h3, h4⟩ := h t h1
  exact ⟨_, _, pk_bl.mpr ⟨t', h2, rfl, rfl⟩, h3, h4⟩
theorem DomB.trans {a b c : List Int} (h : DomB a b) (h2 : DomB b c) : DomB a c := fun t ht => by
  obtain ⟨t', h1, h3, h4⟩ := h _ ht
  obtain ⟨t2, h5, h6, h7⟩ := h2 _ h1
  exact ⟨t2, h5, by omega, by omega⟩
theorem DomB.sub {a b : List Int} (h : a.Sublist b) : DomB a b := fun t ht => ⟨t, ht.trans h, Nat.le_refl _, Int.le_refl _⟩
theorem DomB.perm {a b : List Int} (h : a.Perm b) : DomB a b := by
  induction h with
  | nil => exact fun t ht => ⟨t, ht, Nat.le_refl _, Int.le_refl _⟩
  | cons x h ih =>
    intro t ht
    rcases List.sublist_cons_iff.mp ht with h' | ⟨t', rfl, h'⟩
    · obtain ⟨t2, h1, h2, h3⟩ := ih t h'
      exact ⟨t2, .cons _ h1, h2, h3⟩
    · obtain ⟨t2, h1, h2, h3⟩ := ih t' h'
      exact ⟨x :: t2, .cons₂ _ h1, by simp; omega, by simp; omega⟩
  | swap x y l =>
    intro t ht
    rcases List.sublist_cons_iff.mp ht with h' | ⟨t', rfl, h'⟩
    · rcases List.sublist_cons_iff.mp h' with h2 | ⟨t2, rfl, h2⟩
      · exact ⟨t, .cons _ (.cons _ h2), Nat.le_refl _, Int.le_refl _⟩
      · exact ⟨x :: t2, .cons₂ _ (.cons _ h2), Nat.le_refl _, Int.le_refl _⟩
    · rcases List.sublist_cons_iff.mp h' with h2 | ⟨t2, rfl, h2⟩
      · exact ⟨y :: t', .cons _ (.cons₂ _ h2), Nat.le_refl _, Int.le_refl _⟩
      · exact ⟨x :: y :: t2, .cons₂ _ (.cons₂ _ h2), by simp, by simp; omega⟩
  | trans h1 h2 i1 i2 => exact i1.trans i2
/-- a bill 0 put in -/
theorem DomB.zero (a b : List Int) : DomB (a ++ 0 :: b) (a ++ b) := by
  refine (DomB.perm List.perm_middle).trans fun t ht => ?_
  rcases List.sublist_cons_iff.mp ht with h' | ⟨t', rfl, h'⟩
  · exact ⟨t, h', Nat.le_refl _, Int.le_refl _⟩
  · exact ⟨t', h', by simp, by simp⟩
/-- a bill parted in two -/
theorem DomB.part (a b : List Int) {x p : Int} (h0 : 0 ≤ p) (h1 : p ≤ x) : DomB (a ++ p :: b ++ [x - p]) (a ++ x :: b) := by
  have e : (a ++ p :: b ++ [x - p]).Perm (p :: (x - p) :: (a ++ b)) := by
    refine List.perm_append_comm.trans ?_
    refine (List.Perm.cons _ List.perm_middle).trans ?_
    exact .swap _ _ _
  refine (DomB.perm e).trans (DomB.trans ?_ (DomB.perm (List.perm_middle (l₁ := a) (l₂ := b) (a := x)).symm))
  intro t ht
  rcases List.sublist_cons_iff.mp ht with h' | ⟨t', rfl, h'⟩
  · rcases List.sublist_cons_iff.mp h' with h2 | ⟨t2, rfl, h2⟩
    · exact ⟨t, .cons _ h2, Nat.le_refl _, Int.le_refl _⟩
    · exact ⟨x :: t2, .cons₂ _ h2, by simp, by simp; omega⟩
  · rcases List.sublist_cons_iff.mp h' with h2 | ⟨t2, rfl, h2⟩
    · exact ⟨x :: t', .cons₂ _ h2, by simp, by simp; omega⟩
    · exact ⟨x :: t2, .cons₂ _ h2, by simp, by simp; omega⟩
theorem sub_sum {t a : List Int} (h : t.Sublist a) (h0 : ∀ x ∈ a, (0 : Int) ≤ x) : t.sum ≤ a.sum := by
  induction h with
  | slnil => exact Int.le_refl _
  | cons x h ih =>
    have := ih fun y hy => h0 y (List.mem_cons_of_mem _ hy)
    have := h0 x List.mem_cons_self
    simp; omega
  | cons_cons x h ih =>
    have := ih fun y hy => h0 y (List.mem_cons_of_mem _ hy)
    simp; omega
/-- the first ones made one -/
theorem DomB.join (a b : List Int) (h0 : ∀ x ∈ a, (0 : Int) ≤ x) : DomB (a ++ b) ([a.sum] ++ b) := fun t ht => by
  obtain ⟨t1, t2, rfl, h1, h2⟩ := List.sublist_append_iff.mp ht
  cases t1 with
  | nil => exact ⟨t2, .cons _ h2, by simp, by simp⟩
  | cons y t1 =>
    have := sub_sum h1 h0
    refine ⟨a.sum :: t2, .cons₂ _ h2, by simp, ?_⟩
    rw [List.sum_append, List.sum_cons (a := a.sum)]
    omega
/-! ### one card amid the bills -/
def crdAt (a : List Int) (q : Int × Int) (b : List Int) : List Ev := bl_ a ++ .inr q :: bl_ b
theorem crd_ok {a b : List Int} {q : Int × Int} (h : 0 ≤ q.1) : ∀ p : Int × Int, Sum.inr p ∈ crdAt a q b → (0 : Int) ≤ p.1 := fun p hp => by
  rcases List.mem_append.mp hp with h1 | h1
  · exact bl_ok _ _ h1
  · rcases List.mem_cons.mp h1 with h2 | h2
    · cases h2; exact h
    · exact bl_ok _ _ h2
theorem pk_crd {a b : List Int} {q : Int × Int} {k : Nat} {v : Int} : Pk (crdAt a q b) k v ↔ ∃ t1 t2 : List Int, t1.Sublist a ∧ t2.Sublist b ∧ k = t1.length + t2.length ∧ v = t1.sum + t2.sum - wor q.1 q.2 t2.length := by
  unfold crdAt
  rw [pk_bills]
  constructor
  · rintro ⟨t, k', v', h1, h2, rfl, rfl⟩
    obtain ⟨b', l'⟩ := q
    cases h2 with
    | card h =>
      obtain ⟨t2, h3, rfl, rfl⟩ := pk_bl.mp h
      exact ⟨t, t2, h1, h3, rfl, by simp only; omega⟩
  · rintro ⟨t1, t2, h1, h2, rfl, rfl⟩
    exact ⟨t1, t2.length, t2.sum - wor q.1 q.2 t2.length, h1, .card (pk_bl.mpr ⟨t2, h2, rfl, rfl⟩), rfl, by omega⟩
theorem wor_le {b l : Int} (hl : 0 ≤ l) {m n : Nat} (h : m ≤ n) : wor b l m ≤ wor b l n := by
  induction n with
  | zero => cases Nat.le_zero.mp h; exact Int.le_refl _
  | succ n ih =>
    rcases Nat.lt_or_ge m (n + 1) with h1 | h1
    · have := ih (by omega)
      have := wor_mono (b := b) hl n
      omega
    · have : m = n + 1 := by omega
      rw [this]
      exact Int.le_refl _
/-- sooner is easier -/
theorem Dom.sooner (a c b : List Int) {q : Int × Int} (hl : 0 ≤ q.2) : Dom (crdAt a q (c ++ b)) (crdAt (a ++ c) q b) := fun k v h => by
  obtain ⟨t1, t2, h1, h2, rfl, rfl⟩ := pk_crd.mp h
  obtain ⟨c1, b1, rfl, h3, h4⟩ := List.sublist_append_iff.mp h2
  refine ⟨_, _, pk_crd.mpr ⟨t1 ++ c1, b1, h1.append h3, h4, rfl, rfl⟩, by simp; omega, ?_⟩
  have := wor_le (b := q.1) hl (show b1.length ≤ (c1 ++ b1).length by simp)
  rw [List.sum_append, List.sum_append]
  omega
theorem Dom.last (a : List Int) {q : Int × Int} (h : 0 ≤ q.1) : Dom (crdAt a q []) (bl_ a) ∧ Dom (bl_ a) (crdAt a q []) := by
  refine ⟨fun k v hk => ?_, fun k v hk => ?_⟩
  · obtain ⟨t1, t2, h1, h2, rfl, rfl⟩ := pk_crd.mp hk
    cases List.sublist_nil.mp h2
    exact ⟨_, _, pk_bl.mpr ⟨t1, h1, rfl, rfl⟩, by simp, by simp [wor_zero h]⟩
  · obtain ⟨t1, h1, rfl, rfl⟩ := pk_bl.mp hk
    exact ⟨_, _, pk_crd.mpr ⟨t1, [], h1, .slnil, rfl, rfl⟩, by simp, by simp [wor_zero h]⟩
/-- a card ahead of all bills is a card of the wallet -/
theorem canp_first {am : List (Int × Int)} {q : Int × Int} {b : List Int} : CanP 0 (am ++ [q]) (bl_ b) ↔ CanP 0 am (crdAt [] q b) := by
  have key : ∀ {am : List (Int × Int)} {e : List Ev}, CanP 0 am e ↔ ∀ k v, Pk e k v → v ≤ FF am k := fun {am e} => by
    constructor
    · intro h k v hk
      obtain ⟨s, h1, rfl⟩ := hk.sel 0
      exact h _ _ h1
    · intro h s v hs
      exact h _ _ (Pk.of hs)
  rw [key, key]
  have eF : ∀ k, FF (am ++ [q]) k = FF am k + wor q.1 q.2 k := fun k => by rw [FF_append, FF_cons, FF_nil]; omega
  constructor
  · intro h k v hk
    obtain ⟨t1, t2, h1, h2, rfl, rfl⟩ := pk_crd.mp hk
    cases List.sublist_nil.mp h1
    have := h _ _ (pk_bl.mpr ⟨t2, h2, rfl, rfl⟩)
    rw [eF] at this
    simp
    omega
  · intro h k v hk
    obtain ⟨t2, h2, rfl, rfl⟩ := pk_bl.mp hk
    have := h _ _ (pk_crd.mpr ⟨[], t2, .slnil, h2, rfl, rfl⟩)
    rw [eF]
    simp at this
    omega
end P20

set_option Elab.async false
set_option linter.all false
set_option maxRecDepth 100000
set_option maxHeartbeats 4000000
/-! E6m: even rows. -/
namespace P20
theorem canp_pk {am : List (Int × Int)} {e : List Ev} {i : Int} : CanP i am e ↔ ∀ k v, Pk e k v → v ≤ FF am k := by
  constructor
  · intro h k v hk
    obtain ⟨s, h1, rfl⟩ := hk.sel i
    exact h _ _ h1
  · intro h s v hs
    exact h _ _ (Pk.of hs)
theorem canp_pw {am : List (Int × Int)} {fs : List Int} (h : fs.Pairwise (· ≥ ·)) {i : Int} : CanP i am (bl_ fs) ↔ ∀ k, k ≤ fs.length → (fs.take k).sum ≤ FF am k := by
  rw [canp_pk]
  constructor
  · intro hh k hk
    refine hh k _ (pk_bl.mpr ⟨fs.take k, List.take_sublist _ _, ?_, rfl⟩)
    rw [List.length_take]
    omega
  · intro hh k v hk
    obtain ⟨t, h1, rfl, rfl⟩ := pk_bl.mp hk
    exact Int.le_trans (sub_le h h1) (hh _ h1.length_le)
theorem conc_le {am : List (Int × Int)} (h : Am am) {i j : Nat} (hij : i ≤ j) : FF am (j + 1) - FF am j ≤ FF am (i + 1) - FF am i := by
  induction j with
  | zero => cases Nat.le_zero.mp hij; exact Int.le_refl _
  | succ j ih =>
    by_cases e : i = j + 1
    · subst e; exact Int.le_refl _
    · have := ih (by omega)
      have h2 : FF am (j + 1 + 1) - FF am (j + 1) ≤ FF am (j + 1) - FF am j := FF_conc h j
      omega
theorem FF_lowto {am : List (Int × Int)} (h : Am am) {c : Int} : ∀ j : Nat, (∀ i, i < j → c ≤ FF am (i + 1) - FF am i) → (j : Int) * c ≤ FF am j
  | 0, _ => by rw [FF_zero h]; simp
  | j + 1, hh => by
    have h1 := FF_lowto h j fun i hi => hh i (by omega)
    have h2 := hh j (by omega)
    rw [Int.natCast_add, Int.natCast_one, Int.add_mul, Int.one_mul]
    omega
theorem FF_upto {am : List (Int × Int)} {c : Int} {j : Nat} : ∀ m : Nat, (∀ i, j ≤ i → FF am (i + 1) - FF am i ≤ c) → FF am (j + m) ≤ FF am j + (m : Int) * c
  | 0, _ => by simp
  | m + 1, hh => by
    have h1 := FF_upto m hh
    have h2 := hh (j + m) (by omega)
    rw [Int.natCast_add, Int.natCast_one, Int.add_mul, Int.one_mul]
    have e : j + (m + 1) = j + m + 1 := by omega
    rw [e]
    omega
/-- a wallet that pays a sum in d days pays it evenly -/
theorem even_le {am : List (Int × Int)} (h : Am am) {d : Nat} (hd : 0 < d) {q r : Int} (hr : 0 ≤ r) (hT : (d : Int) * q + r ≤ FF am d) {j : Nat} (hj : j ≤ d) : (j : Int) * q + min (j : Int) r ≤ FF am j := by
  cases j with
  | zero => rw [FF_zero h]; simp; omega
  | succ j =>
    by_cases z : q + 1 ≤ FF am (j + 1) - FF am j
    · have h1 := FF_lowto h (c := q + 1) (j + 1) fun i hi => Int.le_trans z (conc_le h (by omega))
      rw [Int.mul_add, Int.mul_one] at h1
      have : min ((j + 1 : Nat) : Int) r ≤ ((j + 1 : Nat) : Int) := Int.min_le_left _ _
      omega
    · have h1 := FF_upto (am := am) (c := q) (j := j + 1) (d - (j + 1)) fun i hi => Int.le_trans (conc_le h (show j ≤ i by omega)) (by omega)
      rw [show j + 1 + (d - (j + 1)) = d by omega] at h1
      have e : (d : Int) * q = ((j + 1 : Nat) : Int) * q + ((d - (j + 1) : Nat) : Int) * q := by
        rw [← Int.add_mul]
        congr 1
        omega
      have : min ((j + 1 : Nat) : Int) r ≤ r := Int.min_le_right _ _
      omega
end P20

set_option Elab.async false
set_option linter.all false
set_option maxRecDepth 100000
set_option maxHeartbeats 4000000
/-! F1m: forms by their sums, plain. -/
namespace P20
open Mi L2
theorem flsP : ∀ {row : List Int}, Falls row → ∀ x ∈ fls row, 0 ≤ x
  | [], _, x, hx => by cases hx
  | [a], h, x, hx => by
    rw [List.mem_singleton.mp hx]
    have := h.1 a List.mem_cons_self
    omega
  | a :: b :: r, h, x, hx => by
    rcases List.mem_cons.mp hx with e | hx
    · have := h.2 0 a b rfl rfl
      omega
    · exact flsP h.tail x hx
/-- each form is that of some cards -/
theorem row_am {row : List Int} (h : Falls row) (hl : row.length ≤ 24) : ∃ am, Am am ∧ IsRow am row := by
  have hfp := flsP h
  have h0 : ∀ x ∈ fls row ++ [0], 0 ≤ x := fun x hx => by
    rcases List.mem_append.mp hx with hx | hx
    · exact hfp x hx
    · rw [List.mem_singleton.mp hx]; exact Int.le_refl _
  have hA : Am (few 1 (fls row ++ [0])) := few_am _ _ 1 (Nat.le_refl _) h0 (by simp) (by simp [fls_len]; omega)
  have hFF : ∀ k, FF (few 1 (fls row ++ [0])) k = sumN row k := fun k => by
    rw [few_FF _ _ 1 k (Nat.le_refl _) h0 (by simp), WW_append, WW_row row 0 k]
    simp
  refine ⟨_, hA, row.length, hl, fun k hk => ?_, ?_, ?_⟩
  · rw [← FF_step hA, hFF, hFF, sumN_app]
    have := h.1 (row.getD k 0) (by rw [List.getD_eq_getElem?_getD, List.getElem?_eq_getElem hk]; exact List.getElem_mem hk)
    omega
  · rw [← FF_step hA, hFF, hFF, sumN_app, List.getD_eq_getElem?_getD, List.getElem?_eq_none (Nat.le_refl _)]
    simp
  · refine List.ext_getElem? fun k => ?_
    by_cases hk : k < row.length
    · rw [List.getElem?_map, List.getElem?_range hk, List.getElem?_eq_getElem hk]
      simp only [Option.map_some, hFF, sumN_app]
      rw [List.getD_eq_getElem?_getD, List.getElem?_eq_getElem hk]
      simp
      omega
    · rw [List.getElem?_eq_none (by simpa using hk), List.getElem?_eq_none (by simpa using hk)]
theorem even_row {row : List Int} (h : Falls row) (hl : row.length ≤ 24) {d : Nat} (hd : 0 < d) {q r : Int} (hr : 0 ≤ r) (hT : (d : Int) * q + r ≤ sumN row d) {j : Nat} (hj : j ≤ d) : (j : Int) * q + min (j : Int) r ≤ sumN row j := by
  obtain ⟨am, ha, hi⟩ := row_am h hl
  rw [hi.sum ha] at hT ⊢
  exact even_le ha hd hr hT hj
theorem falls_of_pw {r : List Int} (h : r.Pairwise (· ≥ ·)) (p : ∀ x ∈ r, 0 < x) : Falls r := by
  refine ⟨p, fun k x y e1 e2 => ?_⟩
  obtain ⟨h1, rfl⟩ := List.getElem?_eq_some_iff.mp e1
  obtain ⟨h2, rfl⟩ := List.getElem?_eq_some_iff.mp e2
  exact List.pairwise_iff_getElem.mp h k (k + 1) h1 h2 (by omega)
theorem Falls.pw {r : List Int} (h : Falls r) : r.Pairwise (· ≥ ·) := by
  induction r with
  | nil => exact .nil
  | cons x r ih =>
    refine List.pairwise_cons.mpr ⟨fun y hy => ?_, ih h.tail⟩
    obtain ⟨k, hk⟩ := List.mem_iff_getElem?.mp hy
    exact h.all_le k y hk
theorem falls_of_conc {row : List Int} (p : ∀ x ∈ row, 0 < x) (h : ∀ k, sumN row (k + 2) - sumN row (k + 1) ≤ sumN row (k + 1) - sumN row k) : Falls row := by
  refine ⟨p, fun k x y e1 e2 => ?_⟩
  have h1 := sumN_app k row
  have h2 := sumN_app (k + 1) row
  rw [List.getD_eq_getElem?_getD, e1] at h1
  rw [List.getD_eq_getElem?_getD, e2] at h2
  have h3 := h k
  have h2' : sumN row (k + 2) = sumN row (k + 1) + y := h2
  have h1' : sumN row (k + 1) = sumN row k + x := h1
  omega
theorem takenL_pos {row : List Int} (p : ∀ x ∈ row, 0 < x) (x : Int) : ∀ y ∈ takenL row x, 0 < y := by
  intro y hy
  unfold takenL at hy
  split at hy
  · exact p y hy
  · dsimp only at hy
    rcases List.mem_append.mp hy with hy | hy
    · rcases List.mem_append.mp hy with hy | hy
      · exact p y (List.mem_of_mem_take hy)
      · split at hy
        · rename_i hh
          rw [List.mem_singleton.mp hy]
          exact hh
        · cases hy
    · exact p y (List.mem_of_mem_drop hy)
/-- a bill taken -/
theorem taken_row {row : List Int} (h : Falls row) (hl : row.length ≤ 24) {x : Int} (h0 : 0 ≤ x) (h1 : x ≤ sumN row 1) : (∀ k, sumN (takenL row x) k = min (sumN row k) (sumN row (k + 1) - x)) ∧ Falls (takenL row x) ∧ (takenL row x).length ≤ 24 := by
  obtain ⟨am, ha, hi⟩ := row_am h hl
  have hs := hi.sum ha
  obtain ⟨t1, t2⟩ := taken_best ha hi h0 (by rw [← hs]; exact h1)
  have e : ∀ k, sumN (takenL row x) k = min (sumN row k) (sumN row (k + 1) - x) := fun k => by
    rw [t1, hs, hs]; rfl
  refine ⟨e, falls_of_conc (takenL_pos h.1 x) fun k => ?_, t2⟩
  rw [e, e, e]
  have c1 := sumN_ccv h k
  have c2 := sumN_ccv h (k + 1)
  have e1 : k + 1 + 1 = k + 2 := rfl
  have e2 : k + 1 + 2 = k + 3 := rfl
  have e3 : k + 2 + 1 = k + 3 := rfl
  rw [e1, e2] at c2
  rw [e1, e3]
  omega
/-! ### sums that rise ever less -/
def dif (f : Nat → Int) (n : Nat) : List Int := (List.range n).map fun k => f (k + 1) - f k
def posL (l : List Int) : List Int := l.filter fun x => decide (0 < x)
theorem dif_len (f : Nat → Int) (n : Nat) : (dif f n).length = n := by simp [dif]
theorem dif_sum {f : Nat → Int} (f0 : f 0 = 0) (n : Nat) : ∀ k, sumN (dif f n) k = f (min k n)
  | 0 => by rw [sumN_zero, Nat.zero_min, f0]
  | k + 1 => by
    rw [sumN_app, dif_sum f0 n k, List.getD_eq_getElem?_getD]
    unfold dif
    by_cases hk : k < n
    · rw [List.getElem?_map, List.getElem?_range hk, show min k n = k by omega, show min (k + 1) n = k + 1 by omega]
      show f k + (f (k + 1) - f k) = _
      omega
    · rw [List.getElem?_eq_none (by simpa using hk), show min k n = n by omega, show min (k + 1) n = n by omega]
      show f n + 0 = _
      omega
theorem chain_le {f : Nat → Int} {n : Nat} (c : ∀ k, k + 2 ≤ n → f (k + 2) - f (k + 1) ≤ f (k + 1) - f k) {i : Nat} : ∀ j : Nat, i ≤ j → j < n → f (j + 1) - f j ≤ f (i + 1) - f i
  | 0, hij, _ => by cases Nat.le_zero.mp hij; exact Int.le_refl _
  | j + 1, hij, hj => by
    by_cases e : i = j + 1
    · subst e; exact Int.le_refl _
    · have := chain_le (n := n) c (i := i) j (by omega) (by omega)
      have h2 : f (j + 1 + 1) - f (j + 1) ≤ f (j + 1) - f j := c j (by omega)
      omega
theorem dif_pw {f : Nat → Int} {n : Nat} (c : ∀ k, k + 2 ≤ n → f (k + 2) - f (k + 1) ≤ f (k + 1) - f k) : (dif f n).Pairwise (· ≥ ·) := by
  refine List.pairwise_iff_getElem.mpr fun i j hi hj hij => ?_
  have e : ∀ (i : Nat) (h : i < (dif f n).length), (dif f n)[i] = f (i + 1) - f i := fun i h => by simp [dif]
  rw [e, e]
  rw [dif_len] at hi hj
  exact chain_le c j (by omega) hj
theorem posL_sum : ∀ {l : List Int}, l.Pairwise (· ≥ ·) → (∀ x ∈ l, 0 ≤ x) → ∀ k, sumN (posL l) k = sumN l k
  | [], _, _, k => rfl
  | d :: t, hp, h0, k => by
    obtain ⟨p1, p2⟩ := List.pairwise_cons.mp hp
    have ih := posL_sum p2 fun x hx => h0 x (List.mem_cons_of_mem _ hx)
    by_cases hd : 0 < d
    · have e : posL (d :: t) = d :: posL t := List.filter_cons_of_pos (by simpa using hd)
      rw [e]
      cases k with
      | zero => rfl
      | succ k =>
        show d + sumN (posL t) k = d + sumN t k
        rw [ih]
    · have hd0 : d = 0 := by have := h0 d List.mem_cons_self; omega
      have ht : ∀ x ∈ t, x = 0 := fun x hx => by
        have h1 := p1 x hx
        have h2 := h0 x (List.mem_cons_of_mem _ hx)
        omega
      have e : posL (d :: t) = [] := List.filter_eq_nil_iff.mpr fun x hx => by
        rcases List.mem_cons.mp hx with rfl | hx
        · simpa using hd
        · rw [ht x hx]; decide
      have z : ∀ (l : List Int), (∀ x ∈ l, x = 0) → ∀ k, sumN l k = 0 := by
        intro l
        induction l with
        | nil => intro _ k; exact sumN_nil k
        | cons a l ih =>
          intro h k
          cases k with
          | zero => rfl
          | succ k =>
            show a + sumN l k = 0
            rw [ih (fun x hx => h x (List.mem_cons_of_mem _ hx)), h a List.mem_cons_self]
            rfl
      rw [e, sumN_nil, z (d :: t) fun x hx => by
        rcases List.mem_cons.mp hx with e | hx
        · rw [e]; exact hd0
        · exact ht x hx]
theorem posL_falls {l : List Int} (h : l.Pairwise (· ≥ ·)) : Falls (posL l) := falls_of_pw (h.sublist List.filter_sublist) fun x hx => by
  have := (List.mem_filter.mp hx).2
  simpa using this
theorem posL_len (l : List Int) : (posL l).length ≤ l.length := List.length_filter_le _ _
/-- the row of sums that rise ever less -/
theorem row_of_sums {f : Nat → Int} {n : Nat} (f0 : f 0 = 0) (c : ∀ k, k + 2 ≤ n → f (k + 2) - f (k + 1) ≤ f (k + 1) - f k) (m : ∀ k, k < n → f k ≤ f (k + 1)) :
    Falls (posL (dif f n)) ∧ (posL (dif f n)).length ≤ n ∧ ∀ k, sumN (posL (dif f n)) k = f (min k n) := by
  have hp := dif_pw c
  refine ⟨posL_falls hp, by have := posL_len (dif f n); rw [dif_len] at this; exact this, fun k => ?_⟩
  rw [posL_sum hp (fun x hx => ?_), dif_sum f0]
  unfold dif at hx
  obtain ⟨i, hi, rfl⟩ := List.mem_map.mp hx
  have := m i (List.mem_range.mp hi)
  omega
theorem falls_eq {a b : List Int} (ha : Falls a) (hb : Falls b) (h : ∀ n, sumN a n = sumN b n) : a = b := pos_uniq ha.1 hb.1 h
theorem sumN_up {row : List Int} (h : Falls row) (k : Nat) : sumN row k ≤ sumN row (k + 1) := sumN_mono (fun x hx => by have := h.1 x hx; omega) k
theorem sumN_end {row : List Int} {n : Nat} (hl : row.length ≤ n) (k : Nat) : sumN row (min k n) = sumN row k := by
  by_cases h : k ≤ n
  · rw [Nat.min_eq_left h]
  · rw [Nat.min_eq_right (by omega), sumN_flat row n hl, sumN_flat row k (by omega)]
end P20

set_option Elab.async false
set_option linter.all false
set_option maxRecDepth 100000
set_option maxHeartbeats 4000000
namespace Sh
open PySem PySem.Spec PyProof.Rows L2 Mi He
@[reducible] def mb_check_form : MS := mIfS (mNot (mB (mCB isiD (mCons (mVar 0) (mCons (mC (.cls "Form")) (mNil)))))) (mStuck) (mNext)
def mf_check_form : List D → M D := mFn 1 mb_check_form
@[reducible] def mb_number_at : MS := mRet (mIf (mB (mBin ltD (mVar 1) (mCB lenD (mCons (mVar 0) (mNil))))) (mBin ixD (mVar 0) (mVar 1)) (mC (.int 0)))
def mf_number_at : List D → M D := mFn 2 mb_number_at
@[reducible] def ce_sums_for_1 : ME := mCall 2 mf_number_at (mCons (mVar 0) (mCons (mVar 2) (mNil)))
@[reducible] def mb_sums_for : MS := mRet (mCall 1 mf_sums_of (mCons (mFz (mLcO [2] (mIof rng1 (mCons (mVar 1) (mNil))) (mGn 2) (mYes) (ce_sums_for_1))) (mNil)))
def mf_sums_for : List D → M D := mFn 3 mb_sums_for
@[reducible] def mb_both_sums : MS := mSeq (mSet 2 (mCB maxD (mCons (mCB lenD (mCons (mVar 0) (mNil))) (mCons (mCB lenD (mCons (mVar 1) (mNil))) (mNil))))) (mRet (mCB zpL (mCons (mCall 2 mf_sums_for (mCons (mVar 0) (mCons (mVar 2) (mNil)))) (mCons (mCall 2 mf_sums_for (mCons (mVar 1) (mCons (mVar 2) (mNil)))) (mNil)))))
def mf_both_sums : List D → M D := mFn 3 mb_both_sums
@[reducible] def mb_at_most : MS := mRet (mCB allD (mCons (mFz (mLcO [2, 3] (mIany (mCall 2 mf_both_sums (mCons (mVar 0) (mCons (mVar 1) (mNil))))) (mGt 2 (mGcons (mGn 2) (mGcons (mGn 3) (mGnil)))) (mYes) (mBin leD (mVar 2) (mVar 3)))) (mNil)))
def mf_at_most : List D → M D := mFn 4 mb_at_most
@[reducible] def mb_Form_within : MS := mSeq (mDrop (mCall 1 mf_check_form (mCons (mVar 1) (mNil)))) (mRet (mCall 2 mf_at_most (mCons (mUn (fldD "Form" ["numbers"] 0) (mVar 0)) (mCons (mUn (fldD "Form" ["numbers"] 0) (mVar 1)) (mNil)))))
def mf_Form_within : List D → M D := mFn 2 mb_Form_within
end Sh

set_option Elab.async false
set_option linter.all false
set_option maxRecDepth 100000
set_option maxHeartbeats 4000000
namespace Sh
open PySem PySem.Spec PyProof.Rows L2 Mi He
@[reducible] def ce_is_bills_1 : ME := mCall 1 mf_is_natural (mCons (mVar 1) (mNil))
@[reducible] def mb_is_bills : MS := mRet (mAndV (mCB isiD (mCons (mVar 0) (mCons (mC (.ty "tuple")) (mNil)))) (mCB allD (mCons (mFz (mLcO [1] (mIany (mVar 0)) (mGn 1) (mYes) (ce_is_bills_1))) (mNil))))
def mf_is_bills : List D → M D := mFn 2 mb_is_bills
@[reducible] def lb_pays_bills_1 : MS := mSeq (mPar [2, 3] (mMsh (mBin addD (mVar 2) (mVar 5)) (mMsh (mBin addD (mVar 3) (mCall 2 mf_number_at (mCons (mVar 0) (mCons (mVar 4) (mNil))))) (mMnil)))) (mIfS (mB (mBin gtD (mVar 2) (mVar 3))) (mRet (mC (.bl false))) (mNext))
@[reducible] def mb_pays_bills : MS := mSeq (mAsg2 (mC (.int 0)) (mGn 2) (mGn 3)) (mSeq (mFor (mIof enumA (mCons (mFz (mCBO (srtT true) (mCons (mVar 1) (mNil)))) (mNil))) (mGt 2 (mGcons (mGn 4) (mGcons (mGn 5) (mGnil)))) (lb_pays_bills_1)) (mRet (mC (.bl true))))
def mf_pays_bills : List D → M D := mFn 6 mb_pays_bills
@[reducible] def mb_Form___contains__ : MS := mRet (mAndV (mCall 1 mf_is_bills (mCons (mVar 1) (mNil))) (mCall 2 mf_pays_bills (mCons (mUn (fldD "Form" ["numbers"] 0) (mVar 0)) (mCons (mVar 1) (mNil)))))
def mf_Form___contains__ : List D → M D := mFn 2 mb_Form___contains__
end Sh

set_option Elab.async false
set_option linter.all false
set_option maxRecDepth 100000
set_option maxHeartbeats 4000000
namespace Mi
open PySem L2
/-- a comprehension over data made of plain things, that draws nothing -/
theorem ok_lcm {α : Type} {g : MG} {mt : MT} {me : ME} {ρ : Env} {u : PuS} {xs : List α} {f : α → D} (r : α → Env) (t : α → Bool) (e : α → D) {P : List D → PuS → Prop} (h1 : ∀ x ∈ xs, g (f x) ρ = some (r x)) (h2 : ∀ x ∈ xs, Ok (mt (r x)) u fun b u' => b = t x ∧ u' = u)
    (h3 : ∀ x ∈ xs, t x = true → Ok (me (r x)) u fun b u' => b = e x ∧ u' = u) (h : P ((xs.filter t).map e) u) : Ok (lcD g mt me ρ (xs.map f)) u P := by
  have : lcD g mt me ρ (xs.map f) u = some ((xs.filter t).map e, u) := by
    clear h
    induction xs with
    | nil => rfl
    | cons x xs ih =>
      have ih := ih (fun y hy => h1 y (List.mem_cons_of_mem _ hy)) (fun y hy => h2 y (List.mem_cons_of_mem _ hy)) (fun y hy => h3 y (List.mem_cons_of_mem _ hy))
      refine eq_of_ok ?_
      rw [List.map_cons]
      unfold lcD
      rw [ok_bind, ok_lft]
      refine ⟨_, h1 x List.mem_cons_self, ?_⟩
      rw [ok_bind, ok_of (eq_of_ok (h2 x List.mem_cons_self))]
      cases ht : t x with
      | false =>
        rw [if_neg (by decide), ok_of ih]
        simp [ht]
      | true =>
        rw [if_pos rfl, ok_bind, ok_of (eq_of_ok (h3 x List.mem_cons_self ht)), ok_bind, ok_of ih, ok_pure]
        simp [ht]
  exact (ok_of this).mpr h
/-- .. of all items -/
theorem ok_lca {α : Type} {g : MG} {me : ME} {ρ : Env} {u : PuS} {xs : List α} {f : α → D} (r : α → Env) (e : α → D) {P : List D → PuS → Prop} (h1 : ∀ x ∈ xs, g (f x) ρ = some (r x))
    (h3 : ∀ x ∈ xs, Ok (me (r x)) u fun b u' => b = e x ∧ u' = u) (h : P (xs.map e) u) : Ok (lcD g mYes me ρ (xs.map f)) u P :=
  ok_lcm r (fun _ => true) e h1 (fun x hx => by simp) (fun x hx _ => h3 x hx) (by rw [List.filter_eq_self.mpr fun _ _ => rfl]; exact h)
/-- .. of all items of a range -/
theorem ok_lcra {g : MG} {me : ME} {ρ : Env} {u : PuS} {lo : Int} {n : Nat} (r : Nat → Env) (e : Nat → D) {P : List D → PuS → Prop} (h1 : ∀ i, i < n → g (.int (lo + (i : Nat))) ρ = some (r i))
    (h3 : ∀ i, i < n → Ok (me (r i)) u fun b u' => b = e i ∧ u' = u) (h : P ((List.range n).map e) u) : Ok (lcD g mYes me ρ (rngD lo n)) u P :=
  ok_lcr r (fun _ => true) e h1 (fun i hi => by simp) (fun i hi _ => h3 i hi) (by rw [List.filter_eq_self.mpr fun _ _ => rfl]; exact h)
theorem flatDs_strs (ns : List Str) : flatDs (ns.map D.str) = some (ns.map V.str) := by
  induction ns with
  | nil => rfl
  | cons n ns ih =>
    show (match flatD (.str n), flatDs (ns.map D.str) with
      | some a, some as => some (a :: as)
      | _, _ => none) = _
    rw [ih]; rfl
theorem inV_strs (x : Str) (ns : List Str) : inV (.str x) (ns.map V.str) = decide (x ∈ ns) := by
  induction ns with
  | nil => rfl
  | cons n ns ih =>
    show (eqV (.str n) (.str x) || inV (.str x) (ns.map V.str)) = _
    rw [ih]
    have : eqV (.str n) (.str x) = decide (x = n) := by
      show (n == x) = _
      by_cases h : x = n
      · subst h; simp
      · have : ¬ n = x := fun z => h z.symm
        simp [h, this]
    rw [this]
    by_cases h : x = n <;> simp [h]
@[simp] theorem s_inStrs {x : Str} {ns : List Str} : inD (.str x) (.lst (ns.map D.str)) = some (.bl (decide (x ∈ ns))) := by
  show (inB (.str x) (.lst (ns.map D.str))).map D.bl = _
  have : inB (.str x) (.lst (ns.map D.str)) = (flatDs (ns.map D.str)).map fun ws => inV (.str x) ws := rfl
  rw [this, flatDs_strs]
  show some (D.bl (inV (.str x) (ns.map V.str))) = _
  rw [inV_strs]
@[simp] theorem s_inStrsT {x : Str} {ns : List Str} : inD (.str x) (.tup (ns.map D.str)) = some (.bl (decide (x ∈ ns))) := by
  show (inB (.str x) (.tup (ns.map D.str))).map D.bl = _
  have : inB (.str x) (.tup (ns.map D.str)) = (flatDs (ns.map D.str)).map fun ws => inV (.str x) ws := rfl
  rw [this, flatDs_strs]
  show some (D.bl (inV (.str x) (ns.map V.str))) = _
  rw [inV_strs]
theorem s_sumI {ns : List Int} : sumD [.lst (ns.map D.int)] = some (.int ns.sum) := by
  show (intsD (ns.map D.int)).map (fun ns => D.int ns.sum) = _
  rw [intsD_map]; rfl
theorem s_sumT {ns : List Int} : sumD [.tup (ns.map D.int)] = some (.int ns.sum) := by
  show (intsD (ns.map D.int)).map (fun ns => D.int ns.sum) = _
  rw [intsD_map]; rfl
end Mi
namespace Sh
open PySem L2 Mi P20
def prD (q : Int × Int) : D := .tup [.int q.1, .int q.2]
def cardD (q : Int × Int) : D := .obj "Card" ["held", "daily"] [.int q.1, .int q.2]
def pairD (x : Str × (Int × Int)) : D := .tup [.str x.1, cardD x.2]
def walD (ps : List (Str × (Int × Int))) : D := .obj "Wallet" ["pairs"] [.tup (ps.map pairD)]
theorem worth_ok {b l : Int} {k : Nat} (hk : k ≤ 1000) {u : PuS} {P : D → PuS → Prop} (h : P (.int (wor b l k)) u) : Ok (mf_worth [.int b, .int l, .int k]) u P := by
  unfold mf_worth mb_worth
  simp
  refine ⟨.inl (.inl (by omega)), ?_⟩
  have : (if (k : Int) * l < b then (k : Int) * l else b) = wor b l k := by unfold wor; split <;> omega
  rw [this]
  exact h
theorem part_ok {b l : Int} {k : Nat} (hk : k < 1000) {u : PuS} {P : D → PuS → Prop} (h : P (.int (wor b l (k + 1) - wor b l k)) u) : Ok (mf_part [.int b, .int l, .int k]) u P := by
  unfold mf_part mb_part
  simp
  refine worth_ok (k := k + 1) (by omega) ?_
  refine worth_ok (by omega) ?_
  simpa using h
theorem card_init {b l : Int} (hl : 1 ≤ l) (hb : 0 ≤ b) (h24 : b ≤ 24 * l) {u : PuS} {P : List Str × List D → PuS → Prop} (h : P (["held", "daily"], [.int b, .int l]) u) : Ok (mf_Card___init__ [.int b, .int l]) u P := by
  unfold mf_Card___init__ mb_Card___init__
  have h1 : 0 ≤ l := by omega
  have h2 : ¬ l = 0 := by omega
  have h3 : ¬ 24 * l < b := by omega
  simp [startI, hb, h1, h2, h3]
  exact ⟨[], [], ⟨rfl, rfl⟩, by simp, by decide, ⟨by simp, by decide⟩, by decide, h⟩
def IsNm (x : Str) : Prop := ∀ u, mf_is_name [.str x] u = some (.bl true, u)
structure Nms (ps : List (Str × (Int × Int))) : Prop where
  len : ps.length ≤ 12
  nd : (ps.map Prod.fst).Nodup
  nm : ∀ p ∈ ps, IsNm p.1
theorem wrong_pair_ok {ps : List (Str × (Int × Int))} (hn : Nms ps) {u : PuS} {P : D → PuS → Prop} (h : P .non u) : Ok (mf_wrong_pair [.tup (ps.map pairD)]) u P := by
  unfold mf_wrong_pair mb_wrong_pair
  simp
  refine ok_list (enumD (ps.map pairD)) (fun k ρ u' => u' = u ∧ ∃ a b c d, ρ = [.sh (.tup (ps.map pairD)), .ow (((ps.take k).map Prod.fst).map D.str), a, b, c, d]) ?_ ?_ _ _ ⟨rfl, _, _, _, _, rfl⟩
  · rintro k d ρ u' e ⟨rfl, a, b, c, d, rfl⟩
    obtain ⟨x, ex, rfl⟩ := enumD_at e
    rw [List.getElem?_map] at ex
    cases e2 : ps[k]? with
    | none => rw [e2] at ex; cases ex
    | some p =>
      rw [e2] at ex
      cases ex
      have hk : k < ps.length := (List.getElem?_eq_some_iff.mp e2).1
      have hl := hn.len
      unfold lb_wrong_pair_1
      have h1 : ¬ (k : Int) = 12 := by omega
      have e3 : isiD [pairD p, .ty "tuple"] = some (.bl true) := rfl
      have e4 : isiD [cardD p.2, .cls "Card"] = some (.bl true) := rfl
      have e5 : ¬ p.1 ∈ (ps.take k).map Prod.fst := by
        intro hm
        have hnd := hn.nd
        have e6 : ps.map Prod.fst = (ps.take k).map Prod.fst ++ p.1 :: (ps.drop (k + 1)).map Prod.fst := by
          have : p = ps[k] := (List.getElem?_eq_some_iff.mp e2).2.symm
          rw [this, ← List.map_cons (f := Prod.fst), ← List.drop_eq_getElem_cons hk, ← List.map_append, List.take_append_drop]
        rw [e6] at hnd
        exact (List.nodup_append.mp hnd).2.2 _ hm _ List.mem_cons_self rfl
      have e7 : (ps.take (k + 1)).map Prod.fst = (ps.take k).map Prod.fst ++ [p.1] := by
        rw [List.take_succ, e2]; simp
      have hlen : ((ps.take k).map Prod.fst).length ≤ 12 := by simp; omega
      rw [e7]
      generalize (ps.take k).map Prod.fst = nk at e5 hlen ⊢
      simp [e3, h1, -List.map_map]
      have e8 : lenD [pairD p] = some (.int 2) := rfl
      simp [e8, -List.map_map]
      refine ⟨_, rfl, ?_⟩
      simp [-List.map_map]
      rw [ok_of (hn.nm p (List.mem_of_getElem? e2) u')]
      simp [e4, e5]
      omega
  · rintro ρ u' ⟨rfl, a, b, c, d, rfl⟩
    simpa using h
theorem wal_init {ps : List (Str × (Int × Int))} (hn : Nms ps) {u : PuS} {P : List Str × List D → PuS → Prop} (h : P (["pairs"], [.tup (ps.map pairD)]) u) : Ok (mf_Wallet___init__ [.tup (ps.map pairD)]) u P := by
  unfold mf_Wallet___init__ mb_Wallet___init__
  have e : isiD [.tup (ps.map pairD), .ty "tuple"] = some (.bl true) := rfl
  simp [startI, e]
  refine wrong_pair_ok hn ?_
  have e2 : isntD .non .non = some (.bl false) := rfl
  simp [e2]
  exact ⟨[], [], ⟨rfl, rfl⟩, by simp, by decide, h⟩
@[simp] theorem check_wallet_ok {ps : List (Str × (Int × Int))} {u : PuS} {P : D → PuS → Prop} : Ok (mf_check_wallet [walD ps]) u P ↔ P .non u := by
  unfold mf_check_wallet mb_check_wallet
  have e : isiD [walD ps, .cls "Wallet"] = some (.bl true) := rfl
  simp [e]
theorem row_of_ok {am : List (Int × Int)} (ha : Am am) (hl : am.length ≤ 1000) {d : D} (hd : itD d = some (am.map prD)) {u : PuS} {P : D → PuS → Prop} (h : ∀ row, IsRow am row → P (.tup (row.map D.int)) u) : Ok (mf_row_of [d]) u P := by
  unfold mf_row_of mb_row_of
  simp
  refine ok_while (fun n ρ u' => u' = u ∧ ∃ k : Nat, n = 24 - k ∧ k ≤ 24 ∧ (∀ j, j < k → Mor am j) ∧ ∃ a b, ρ = [.sh d, .ow (((List.range k).map fun j => FF am (j + 1) - FF am j).map D.int), .sh (.int k), a, b]) ?_ 24 100000 _ _ (by decide) ⟨rfl, 0, rfl, by omega, fun j hj => by omega, _, _, rfl⟩
  rintro n ρ u' ⟨rfl, k, rfl, hk, hm, a, b, rfl⟩
  simp [hd, -List.map_map]
  refine ⟨by omega, ?_⟩
  refine ok_lcm (fun q => [.sh d, .ow (((List.range k).map fun j => FF am (j + 1) - FF am j).map D.int), .sh (.int k), .sh (.int q.1), .sh (.int q.2)]) (fun q => decide ((k : Int) * q.2 < q.1)) (fun q => .int q.1) ?_ ?_ ?_ ?_
  · intro q hq; rfl
  · intro q hq
    unfold ct_row_of_1
    simp
    exact .inl (.inl (by omega))
  · intro q hq _; simp
  have e1 : (am.filter fun q => decide ((k : Int) * q.2 < q.1)).map (fun q => D.int q.1) = ((am.filter fun q => decide ((k : Int) * q.2 < q.1)).map Prod.fst).map D.int := by rw [List.map_map]; rfl
  rw [e1]
  simp only [s_neL0]
  by_cases hmo : Mor am k
  · have hne : ¬ (am.filter fun q => decide ((k : Int) * q.2 < q.1)).map Prod.fst = [] := by
      intro z
      obtain ⟨q, hq, hm⟩ := hmo
      have : q ∈ am.filter fun q => decide ((k : Int) * q.2 < q.1) := List.mem_filter.mpr ⟨hq, decide_eq_true hm⟩
      rw [List.map_eq_nil_iff.mp z] at this
      cases this
    simp only [hne, decide_false, Bool.not_false, Option.some.injEq, exists_eq_left', onB_bl, br_t]
    have hk24 : k < 24 := by
      rcases Nat.lt_or_ge k 24 with z | z
      · exact z
      · have : k = 24 := by omega
        subst this
        exact absurd hmo ha.stop
    refine ⟨24 - (k + 1), by omega, ?_⟩
    simp [hd, -List.map_map]
    refine ⟨by omega, ?_⟩
    refine ok_lca (fun q => [.sh d, .ow (((List.range k).map fun j => FF am (j + 1) - FF am j).map D.int), .sh (.int k), .sh (.int q.1), .sh (.int q.2)]) (fun q => .int (wor q.1 q.2 (k + 1) - wor q.1 q.2 k)) ?_ ?_ ?_
    · intro q hq; rfl
    · intro q hq
      unfold ce_row_of_2
      simp
      exact part_ok (by omega) ⟨rfl, rfl⟩
    have e2 : (am.map fun q => D.int (wor q.1 q.2 (k + 1) - wor q.1 q.2 k)) = (am.map fun q => wor q.1 q.2 (k + 1) - wor q.1 q.2 k).map D.int := by rw [List.map_map]; rfl
    rw [e2]
    refine ⟨_, s_sumI, ?_⟩
    have e3 : (am.map fun q => wor q.1 q.2 (k + 1) - wor q.1 q.2 k).sum = FF am (k + 1) - FF am k := by
      clear e1 e2 hne hmo hm hd h ha hl
      induction am with
      | nil => rfl
      | cons q am ih => rw [FF_cons, FF_cons, List.map_cons, List.sum_cons, ih]; omega
    rw [e3]
    simp [-List.map_map]
    refine ⟨by omega, k + 1, by omega, by omega, fun j hj => ?_, ?_⟩
    · by_cases e : j = k
      · subst e; exact hmo
      · exact hm j (by omega)
    · rw [List.range_succ, List.map_append, List.map_append]
      simp
  · have hne : (am.filter fun q => decide ((k : Int) * q.2 < q.1)).map Prod.fst = [] := by
      rw [List.map_eq_nil_iff, List.filter_eq_nil_iff]
      intro q hq z
      exact hmo ⟨q, hq, of_decide_eq_true z⟩
    simp only [hne]
    simp [-List.map_map]
    exact h _ ⟨k, hk, hm, hmo, rfl⟩
def amD (ps : List (Str × (Int × Int))) : List (Int × Int) := ps.map Prod.snd
theorem wform_ok {ps : List (Str × (Int × Int))} (ha : Am (ps.map Prod.snd)) (hl : ps.length ≤ 1000) {u : PuS} {P : D → PuS → Prop} (h : ∀ row, IsRow (ps.map Prod.snd) row → P (formD row) u) : Ok (mf_Wallet_form [walD ps]) u P := by
  unfold mf_Wallet_form mb_Wallet_form walD
  simp
  refine ⟨by omega, ?_⟩
  refine ok_lca (fun p => [.sh (walD ps), .sh (.str p.1), .sh (cardD p.2)]) (fun p => prD p.2) ?_ ?_ ?_
  · intro p hp; rfl
  · intro p hp
    unfold ce_Wallet_form_1 cardD prD
    simp
  refine row_of_ok (am := ps.map Prod.snd) ha (by simpa using hl) (by rw [List.map_map]; rfl) fun row hr => ?_
  exact init_ok ⟨hr.falls ha, hr.len⟩ (h row hr)
/-- so many bills with this sum, as even as possible -/
def evn (t : Int) (n : Nat) : List Int := (List.range n).map fun i : Nat => if (i : Int) < t % n then t / n + 1 else t / n
theorem dmC_log {a b : Int} (h : 0 < b) (h2 : b.natAbs.log2 < 8000) : dmC a b = true := by
  unfold dmC
  have e : Builtin.divisionGoesByPylong a b = false := by
    unfold Builtin.divisionGoesByPylong
    simp only []
    have hb : ¬ ((if (b == 0) = true then 0 else b.natAbs.log2 / 30 + 1) > 300) := by
      split
      · omega
      · omega
    simp only [hb, decide_false, Bool.false_and]
  rw [e, decide_eq_true h]; rfl
theorem even_ok {t : Int} {n : Nat} (hn : 0 < n ∧ n ≤ 1000) {u : PuS} {P : D → PuS → Prop} (h : P (.tup ((evn t n).map D.int)) u) : Ok (mf_even [.int t, .int n]) u P := by
  unfold mf_even mb_even
  have e1 : dmC t n = true := dmC_small (by omega)
  simp [e1]
  refine ⟨by omega, by rw [rngD_len]; omega, ?_⟩
  refine ok_lcra (fun i => [.sh (.int t), .sh (.int n), .sh (.int (t / n)), .sh (.int (t % n)), .sh (.int (0 + (i : Nat)))]) (fun i => .int (if (i : Int) < t % n then t / n + 1 else t / n)) ?_ ?_ ?_
  · intro i hi; rfl
  · intro i hi
    unfold ce_even_1
    simp
    refine brd (fun z => ?_) (fun z => ?_)
    · intro; omega
    · intro; omega
  have : (List.range n).map (fun i : Nat => D.int (if (i : Int) < t % n then t / n + 1 else t / n)) = (evn t n).map D.int := by unfold evn; rw [List.map_map]; rfl
  rw [this]
  simpa using h
theorem sumsFrom_at : ∀ (row : List Int) (t : Int) (k : Nat), k < row.length → (sumsFrom t row)[k]? = some (t + sumN row (k + 1))
  | [], t, k, h => by simp at h
  | x :: row, t, 0, h => by simp [sumsFrom, sumN]
  | x :: row, t, k + 1, h => by
    show (sumsFrom (t + x) row)[k]? = some (t + (x + sumN row (k + 1)))
    rw [sumsFrom_at row (t + x) k (by simpa using h)]
    congr 1
    omega
theorem sums_at (row : List Int) (k : Nat) (h : k ≤ row.length) : (0 :: sumsFrom 0 row)[k]? = some (sumN row k) := by
  cases k with
  | zero => rfl
  | succ k =>
    show (sumsFrom 0 row)[k]? = _
    rw [sumsFrom_at row 0 k (by omega)]
    simp
/-- the first day on which the other row has more -/
def Parts (one other : List Int) (r : Option Nat) : Prop := match r with
  | some d => (1 ≤ d ∧ d ≤ other.length) ∧ sumN one d < sumN other d ∧ ∀ j, 1 ≤ j → j < d → sumN other j ≤ sumN one j
  | none => ∀ j, 1 ≤ j → j ≤ other.length → sumN other j ≤ sumN one j
/-- a row or None -/
def optD : Option (List Int) → D := opD fun xs => .tup (xs.map D.int)
@[simp] theorem isN_opt {r : Option (List Int)} : isD (optD r) .non = some (.bl r.isNone) := by cases r <;> rfl
@[simp] theorem isntN_opt {r : Option (List Int)} : isntD (optD r) .non = some (.bl (!r.isNone)) := by cases r <;> rfl
@[simp] theorem eq_opt {a b : Option (List Int)} : eqMD (optD a) (optD b) = some (.bl (decide (a = b))) := EqT.row.eq (by decide) a b
@[simp] theorem ne_opt {a b : Option (List Int)} : neMD (optD a) (optD b) = some (.bl (!decide (a = b))) := EqT.row.ne (by decide) a b
theorem parted_ok {one other : List Int} (h1 : one.length ≤ 24) (h2 : other.length ≤ 24) {u : PuS} {P : D → PuS → Prop} (h : ∀ r, Parts one other r → P (optD (r.map fun d => evn (sumN one d + 1) d)) u) : Ok (mf_parted [.tup (one.map D.int), .tup (other.map D.int)]) u P := by
  unfold mf_parted mb_parted
  simp
  refine sums_of_ok h1 ?_
  refine sums_of_ok h2 ?_
  simp
  refine ⟨by rw [sumsFrom_len]; omega, ?_⟩
  rw [sumsFrom_len]
  refine ok_range 1 other.length (fun k ρ u' => u' = u ∧ (∀ j, 1 ≤ j → j ≤ k → sumN other j ≤ sumN one j) ∧ ∃ a b, ρ = [.sh (.tup (one.map D.int)), .sh (.tup (other.map D.int)), .sh (.lst (.int 0 :: (sumsFrom 0 one).map D.int)), .sh (.lst (.int 0 :: (sumsFrom 0 other).map D.int)), a, b]) ?_ ?_ _ _ ⟨rfl, fun j h1 h2 => by omega, _, _, rfl⟩
  · rintro k ρ u' hk ⟨rfl, hj, a, b, rfl⟩
    unfold lb_parted_1
    have e1 : atI (.int 0 :: (sumsFrom 0 other).map D.int) (1 + (k : Int)) = some (.int (sumN other (k + 1))) := by
      rw [show (1 + (k : Int)) = ((k + 1 : Nat) : Int) by omega]
      exact getI (ns := 0 :: sumsFrom 0 other) (sums_at other (k + 1) (by omega))
    have e2 : atI (.int 0 :: (sumsFrom 0 one).map D.int) (if ((one.length : Int) + 1 - 1) < 1 + (k : Int) then ((one.length : Int) + 1 - 1) else 1 + (k : Int)) = some (.int (sumN one (k + 1))) := by
      split
      · rw [show ((one.length : Int) + 1 - 1) = (one.length : Int) by omega, sumN_flat one (k + 1) (by omega)]
        exact getI (ns := 0 :: sumsFrom 0 one) (sums_at one one.length (Nat.le_refl _))
      · rw [show (1 + (k : Int)) = ((k + 1 : Nat) : Int) by omega]
        exact getI (ns := 0 :: sumsFrom 0 one) (sums_at one (k + 1) (by omega))
    simp at e2
    simp [e1, e2, sumsFrom_len]
    refine brd (fun z => ?_) (fun z => ?_)
    · have := h (some (k + 1)) ⟨⟨by omega, by omega⟩, z, fun j h1 h2 => hj j h1 (by omega)⟩
      rw [show (1 + (k : Int)) = ((k + 1 : Nat) : Int) by omega]
      refine even_ok (by omega) this
    · intro j h1 h2
      by_cases e : j = k + 1
      · subst e; omega
      · exact hj j h1 (by omega)
  · rintro ρ u' ⟨rfl, hj, a, b, rfl⟩
    simp
    exact h none hj
theorem parting_ok {ps qs : List (Str × (Int × Int))} (ha : Am (ps.map Prod.snd)) (hb : Am (qs.map Prod.snd)) (hl : ps.length ≤ 1000) (hm : qs.length ≤ 1000) {u : PuS} {P : D → PuS → Prop}
    (h : ∀ ra rb r, IsRow (ps.map Prod.snd) ra → IsRow (qs.map Prod.snd) rb → Parts ra rb r → P (optD (r.map fun d => evn (sumN ra d + 1) d)) u) : Ok (mf_parting_row [walD ps, walD qs]) u P := by
  unfold mf_parting_row mb_parting_row
  simp
  refine ⟨_, _, rfl, ?_⟩
  refine wform_ok ha hl fun ra hra => ?_
  refine ⟨_, _, rfl, ?_⟩
  simp
  refine ⟨_, _, rfl, ?_⟩
  refine wform_ok hb hm fun rb hrb => ?_
  refine ⟨_, _, rfl, ?_⟩
  simp
  exact parted_ok hra.len hrb.len fun r hr => h ra rb r hra hrb hr
theorem covers_ok {ps qs : List (Str × (Int × Int))} (ha : Am (ps.map Prod.snd)) (hb : Am (qs.map Prod.snd)) (hl : ps.length ≤ 1000) (hm : qs.length ≤ 1000) {u : PuS} {P : D → PuS → Prop}
    (h : ∀ ra rb r, IsRow (ps.map Prod.snd) ra → IsRow (qs.map Prod.snd) rb → Parts ra rb r → P (.bl r.isNone) u) : Ok (mf_covers [walD ps, walD qs]) u P := by
  unfold mf_covers mb_covers
  simp
  refine parting_ok ha hb hl hm fun ra rb r h1 h2 h3 => ?_
  simpa using h ra rb r h1 h2 h3
theorem alike_ok {ps qs : List (Str × (Int × Int))} (ha : Am (ps.map Prod.snd)) (hb : Am (qs.map Prod.snd)) (hl : ps.length ≤ 1000) (hm : qs.length ≤ 1000) {u : PuS} {P : D → PuS → Prop}
    (h : ∀ ra rb, IsRow (ps.map Prod.snd) ra → IsRow (qs.map Prod.snd) rb → P (.bl (decide (ra = rb))) u) : Ok (mf_alike [walD ps, walD qs]) u P := by
  unfold mf_alike mb_alike
  simp
  refine ⟨_, _, rfl, ?_⟩
  refine wform_ok ha hl fun ra hra => ?_
  refine ⟨_, _, rfl, ?_⟩
  refine wform_ok hb hm fun rb hrb => ?_
  refine ⟨⟨_, _, rfl⟩, ⟨_, _, rfl⟩, ?_⟩
  unfold formD
  simp
  exact h ra rb hra hrb
/-- the first day on which the other one can pay more -/
def PartsF (am bm : List (Int × Int)) (r : Option Nat) : Prop := match r with
  | some d => (1 ≤ d ∧ d ≤ 25) ∧ FF am d < FF bm d ∧ ∀ j, 1 ≤ j → j < d → FF bm j ≤ FF am j
  | none => ∀ j, 1 ≤ j → j ≤ 25 → FF bm j ≤ FF am j
theorem parts_eq {am bm : List (Int × Int)} (ha : Am am) (hb : Am bm) {ra rb : List Int} (h1 : IsRow am ra) (h2 : IsRow bm rb) {r r' : Option Nat} (p : Parts ra rb r) (q : PartsF am bm r') : r = r' := by
  have s1 := h1.sum ha
  have s2 := h2.sum hb
  have l2 := h2.len
  cases r with
  | some d =>
    obtain ⟨⟨d1, d2⟩, d3, d4⟩ := p
    rw [s1, s2] at d3
    cases r' with
    | some e =>
      obtain ⟨⟨e1, e2⟩, e3, e4⟩ := q
      rcases Nat.lt_trichotomy d e with z | z | z
      · have := e4 d d1 z; omega
      · rw [z]
      · have := d4 e e1 z
        rw [s1, s2] at this
        omega
    | none => have := q d d1 (by omega); omega
  | none =>
    cases r' with
    | none => rfl
    | some e =>
      obtain ⟨⟨e1, e2⟩, e3, e4⟩ := q
      exfalso
      by_cases hle : e ≤ rb.length
      · have := p e e1 hle
        rw [s1, s2] at this
        omega
      · have hf := sumN_flat rb e (by omega)
        rw [s2, s2] at hf
        by_cases h0 : rb.length = 0
        · rw [h0, FF_zero hb] at hf
          have := FF_nonneg ha e
          omega
        · have := p rb.length (by omega) (Nat.le_refl _)
          rw [s1, s2] at this
          have := FF_le ha (show rb.length ≤ e by omega)
          omega
/-- two rows are one just if neither has more on some day -/
theorem rows_eq {am bm : List (Int × Int)} (ha : Am am) (hb : Am bm) {ra rb : List Int} (h1 : IsRow am ra) (h2 : IsRow bm rb) {r r' : Option Nat} (p : PartsF am bm r) (q : PartsF bm am r') : ra = rb ↔ r = none ∧ r' = none := by
  constructor
  · intro e
    have hs : ∀ n, FF am n = FF bm n := fun n => by rw [← h1.sum ha, ← h2.sum hb, e]
    constructor
    · cases r with
      | none => rfl
      | some d => have := p.2.1; rw [hs d] at this; omega
    · cases r' with
      | none => rfl
      | some d => have := q.2.1; rw [hs d] at this; omega
  · rintro ⟨rfl, rfl⟩
    refine pos_uniq (h1.falls ha).1 (h2.falls hb).1 fun n => ?_
    rw [h1.sum ha, h2.sum hb]
    have key : ∀ n, n ≤ 25 → FF am n = FF bm n := fun n hn => by
      cases n with
      | zero => rw [FF_zero ha, FF_zero hb]
      | succ n =>
        have := p (n + 1) (by omega) hn
        have := q (n + 1) (by omega) hn
        omega
    by_cases hn : n ≤ 25
    · exact key n hn
    · rw [FF_flat ha ha.stop n (by omega), FF_flat hb hb.stop n (by omega)]
      exact key 24 (by omega)
end Sh

set_option Elab.async false
set_option linter.all false
set_option maxRecDepth 100000
set_option maxHeartbeats 4000000
/-! ShWl: what number_at, sums_for, both_sums, at_most, Form.within answer. -/
namespace Sh
open PySem L2 Mi P20
theorem number_at_ok {row : List Int} {k : Nat} {u : PuS} {P : D → PuS → Prop} (h : P (.int (row.getD k 0)) u) : Ok (mf_number_at [.tup (row.map D.int), .int k]) u P := by
  unfold mf_number_at mb_number_at
  simp
  refine brd (fun z => ?_) (fun z => ?_)
  · have z' : k < row.length := by omega
    have e : row[k]? = some row[k] := List.getElem?_eq_getElem z'
    rw [getI e]
    simp
    rw [List.getD_eq_getElem?_getD, e] at h
    exact h
  · rw [List.getD_eq_getElem?_getD, List.getElem?_eq_none (by omega)] at h
    exact h
/-- the first so many numbers, filled up with 0 -/
def pad (row : List Int) (n : Nat) : List Int := (List.range n).map fun k => row.getD k 0
theorem pad_sum (row : List Int) (n : Nat) : ∀ k, k ≤ n → sumN (pad row n) k = sumN row k := by
  intro k
  induction k with
  | zero => intro _; rfl
  | succ k ih =>
    intro hk
    rw [sumN_app, sumN_app, ih (by omega)]
    congr 1
    unfold pad
    rw [List.getD_eq_getElem?_getD, List.getElem?_map, List.getElem?_range (by omega)]
    rfl
theorem pad_len (row : List Int) (n : Nat) : (pad row n).length = n := by simp [pad]
theorem sums_of_lst {row : List Int} (hl : row.length ≤ 24) {u : PuS} {P : D → PuS → Prop} (hp : P (.lst ((0 :: sumsFrom 0 row).map D.int)) u) : Ok (mf_sums_of [.lst (row.map D.int)]) u P := by
  unfold mf_sums_of mb_sums_of
  simp
  refine ok_list (row.map D.int) (fun k ρ u' => u' = u ∧ ∃ (pre : List Int) (t : Int) (w : Sd), pre.length = k ∧ (pre ++ [t]) ++ sumsFrom t (row.drop k) = 0 :: sumsFrom 0 row ∧ ρ = [.sh (.lst (row.map D.int)), .ow ((pre ++ [t]).map D.int), w]) ?_ ?_ _ _ ⟨rfl, [], 0, _, rfl, rfl, rfl⟩
  · rintro k d ρ u' e ⟨rfl, pre, t, w, hk, hs, rfl⟩
    have hkl : k < row.length := by have := (List.getElem?_eq_some_iff.mp e).1; simpa using this
    have ed : d = .int row[k] := by rw [List.getElem?_map, List.getElem?_eq_getElem hkl] at e; exact (Option.some.inj e).symm
    subst ed
    unfold lb_sums_of_1
    have e1 : atI ((pre ++ [t]).map D.int) (-1) = some (.int t) := by rw [List.map_append]; exact at_last
    simp at e1
    simp [e1]
    refine ⟨by omega, pre ++ [t], by simp [hk], ?_, by simp⟩
    rw [← hs, List.drop_eq_getElem_cons hkl]
    simp [sumsFrom]
  · rintro ρ u' ⟨rfl, pre, t, w, hk, hs, rfl⟩
    rw [List.length_map] at hk
    rw [List.drop_eq_nil_of_le (by simp)] at hs
    simp only [sumsFrom, List.append_nil] at hs
    rw [← hs] at hp
    simpa using hp
def sumsTo (row : List Int) (n : Nat) : List Int := (List.range (n + 1)).map (sumN row)
theorem sums_for_ok {row : List Int} {n : Nat} (hn : n ≤ 24) {u : PuS} {P : D → PuS → Prop} (h : P (.lst ((sumsTo row n).map D.int)) u) : Ok (mf_sums_for [.tup (row.map D.int), .int n]) u P := by
  unfold mf_sums_for mb_sums_for
  simp
  refine ⟨by omega, by rw [rngD_len]; omega, ?_⟩
  refine ok_lcra (fun i => [.sh (.tup (row.map D.int)), .sh (.int n), .sh (.int (0 + (i : Nat)))]) (fun i => .int (row.getD i 0)) ?_ ?_ ?_
  · intro i hi; rfl
  · intro i hi
    unfold ce_sums_for_1
    simp
    exact number_at_ok ⟨rfl, rfl⟩
  have e : (List.range n).map (fun i => D.int (row.getD i 0)) = (pad row n).map D.int := by unfold pad; rw [List.map_map]; rfl
  rw [e]
  refine sums_of_lst (by rw [pad_len]; exact hn) ?_
  have e2 : (0 :: sumsFrom 0 (pad row n)) = sumsTo row n := by
    apply List.ext_getElem?
    intro i
    by_cases hi : i ≤ n
    · rw [sums_at _ _ (by rw [pad_len]; exact hi), pad_sum row n i hi]
      unfold sumsTo
      rw [List.getElem?_map, List.getElem?_range (by omega)]
      rfl
    · rw [List.getElem?_eq_none (by rw [List.length_cons, sumsFrom_len, pad_len]; omega), List.getElem?_eq_none (by unfold sumsTo; simp; omega)]
  rw [e2]
  exact h
def bsum (a b : List Int) (n : Nat) : List (Int × Int) := (List.range (n + 1)).map fun k => (sumN a k, sumN b k)
theorem both_sums_ok {a b : List Int} (ha : a.length ≤ 24) (hb : b.length ≤ 24) {u : PuS} {P : D → PuS → Prop} (h : P (.lst ((bsum a b (max a.length b.length)).map prD)) u) : Ok (mf_both_sums [.tup (a.map D.int), .tup (b.map D.int)]) u P := by
  unfold mf_both_sums mb_both_sums
  have em : (if a.length < b.length then (b.length : Int) else (a.length : Int)) = ((max a.length b.length : Nat) : Int) := by split <;> omega
  simp only [ok_fn, s_start, List.map_cons, List.map_nil]
  refine seq_go fun K R hK hR => ?_
  simp
  rw [em]
  refine hK _ _ ?_
  clear hK hR K R
  generalize hn : max a.length b.length = n at h
  simp
  refine sums_for_ok (by omega) ?_
  refine sums_for_ok (by omega) ?_
  have ez : zpL [.lst ((sumsTo a n).map D.int), .lst ((sumsTo b n).map D.int)] = some (.lst ((bsum a b n).map prD)) := by
    show some (D.lst (zipD _ _)) = _
    congr 2
    apply List.ext_getElem?
    intro i
    cases hz : (zipD ((sumsTo a n).map D.int) ((sumsTo b n).map D.int))[i]? with
    | none =>
      have h1 := List.getElem?_eq_none_iff.mp hz
      rw [zipD_len] at h1
      rw [List.getElem?_eq_none (by unfold bsum; simp [sumsTo] at h1 ⊢; omega)]
    | some d =>
      obtain ⟨x', y', e1, e2, rfl⟩ := zipD_at hz
      have hi : i < n + 1 := by
        have := (List.getElem?_eq_some_iff.mp e1).1
        simpa [sumsTo] using this
      unfold sumsTo at e1 e2
      rw [List.getElem?_map, List.getElem?_map, List.getElem?_range hi] at e1 e2
      cases e1
      cases e2
      unfold bsum
      rw [List.getElem?_map, List.getElem?_map, List.getElem?_range hi]
      rfl
  rw [ez]
  simp
  exact h
theorem le_iff {a b : List Int} : (∀ k, k < max a.length b.length + 1 → sumN a k ≤ sumN b k) ↔ ∀ k, sumN a k ≤ sumN b k := by
  constructor
  · intro h k
    by_cases hk : k < max a.length b.length + 1
    · exact h k hk
    · have := h (max a.length b.length) (by omega)
      rw [sumN_flat a k (by omega), sumN_flat b k (by omega)]
      rw [sumN_flat a _ (by omega), sumN_flat b _ (by omega)] at this
      exact this
  · intro h k _; exact h k
theorem at_most_ok {a b : List Int} (ha : a.length ≤ 24) (hb : b.length ≤ 24) {u : PuS} {P : D → PuS → Prop} (h : ∀ r : Bool, (r = true ↔ ∀ k, sumN a k ≤ sumN b k) → P (.bl r) u) : Ok (mf_at_most [.tup (a.map D.int), .tup (b.map D.int)]) u P := by
  unfold mf_at_most mb_at_most
  simp
  refine both_sums_ok ha hb ?_
  simp
  refine ⟨by unfold bsum; simp; omega, ?_⟩
  refine ok_lca (fun q : Int × Int => [.sh (.tup (a.map D.int)), .sh (.tup (b.map D.int)), .sh (.int q.1), .sh (.int q.2)]) (fun q => .bl (decide (q.1 ≤ q.2))) ?_ ?_ ?_
  · intro q hq; rfl
  · intro q hq; simp
  have e : (bsum a b (max a.length b.length)).map (fun q => D.bl (decide (q.1 ≤ q.2))) = ((bsum a b (max a.length b.length)).map fun q => decide (q.1 ≤ q.2)).map D.bl := by rw [List.map_map]; rfl
  rw [e]
  have ea : ∀ bs : List Bool, allD [.lst (bs.map D.bl)] = some (.bl (bs.all id)) := fun bs => by
    show (blsD (bs.map D.bl)).map (fun bs => D.bl (bs.all id)) = _
    rw [blsD_map]
    rfl
  rw [ea]
  simp only [Option.some.injEq, exists_eq_left']
  refine h _ ?_
  rw [List.all_map, List.all_eq_true, ← le_iff]
  unfold bsum
  constructor
  · intro hh k hk
    have := hh (sumN a k, sumN b k) (List.mem_map.mpr ⟨k, List.mem_range.mpr hk, rfl⟩)
    simpa using this
  · intro hh q hq
    obtain ⟨k, hk, rfl⟩ := List.mem_map.mp hq
    simpa using hh k (List.mem_range.mp hk)
theorem check_form_ok {row : List Int} {u : PuS} {P : D → PuS → Prop} (h : P .non u) : Ok (mf_check_form [formD row]) u P := by
  unfold mf_check_form mb_check_form
  have e : isiD [formD row, .cls "Form"] = some (.bl true) := rfl
  simp [e]
  exact h
theorem within_ok {a b : List Int} (ha : a.length ≤ 24) (hb : b.length ≤ 24) {u : PuS} {P : D → PuS → Prop} (h : ∀ r : Bool, (r = true ↔ ∀ k, sumN a k ≤ sumN b k) → P (.bl r) u) : Ok (mf_Form_within [formD a, formD b]) u P := by
  unfold mf_Form_within mb_Form_within
  rw [ok_fn]
  refine seq_go fun K R hK hR => ?_
  simp
  refine check_form_ok ?_
  refine hK _ _ ?_
  unfold formD
  simp
  exact at_most_ok ha hb h
end Sh

set_option Elab.async false
set_option linter.all false
set_option maxRecDepth 100000
set_option maxHeartbeats 4000000
/-! ShXl: what is_bills, pays_bills and in of a form answer. -/
namespace Sh
open PySem L2 Mi P20
theorem srtT_ints (b : Bool) (ns : List Int) : srtT b [.tup (ns.map D.int)] = some ((srtI b ns).map D.int) := by
  show (intsD (ns.map D.int)).map _ = _
  rw [intsD_map]
  rfl
theorem is_bills_ok {bs : List Int} (h0 : ∀ x ∈ bs, (0 : Int) ≤ x) (hl : bs.length ≤ 1000) {u : PuS} {P : D → PuS → Prop} (h : P (.bl true) u) : Ok (mf_is_bills [.tup (bs.map D.int)]) u P := by
  unfold mf_is_bills mb_is_bills
  have e : isiD [.tup (bs.map D.int), .ty "tuple"] = some (.bl true) := rfl
  simp [e]
  refine ⟨by omega, ?_⟩
  refine ok_lca (fun x : Int => [.sh (.tup (bs.map D.int)), .sh (.int x)]) (fun x => .bl true) ?_ ?_ ?_
  · intro x hx; rfl
  · intro x hx
    unfold ce_is_bills_1
    simp [h0 x hx]
  have e2 : bs.map (fun _ => D.bl true) = (bs.map fun _ => true).map D.bl := by rw [List.map_map]; rfl
  rw [e2]
  have ea : allD [.lst ((bs.map fun _ => true).map D.bl)] = some (.bl true) := by
    show (blsD _).map (fun bs => D.bl (bs.all id)) = _
    rw [blsD_map]
    simp
  rw [ea]
  simp
  exact h
theorem pays_bills_ok {row bs : List Int} (hl : bs.length ≤ 1000) {u : PuS} {P : D → PuS → Prop} (h : ∀ r : Bool, (r = true ↔ ∀ k, k ≤ bs.length → ((srtI true bs).take k).sum ≤ sumN row k) → P (.bl r) u) : Ok (mf_pays_bills [.tup (row.map D.int), .tup (bs.map D.int)]) u P := by
  unfold mf_pays_bills mb_pays_bills
  rw [ok_fn]
  refine seq_go fun K R hK hR => ?_
  simp
  refine hK _ _ ?_
  clear hK hR K R
  have hfl : (srtI true bs).length = bs.length := (srtI_perm true bs).length_eq
  refine seq_go fun K R hK hR => ?_
  simp [srtT_ints]
  generalize srtI true bs = fs at h hfl
  refine ok_list (enumD (fs.map D.int)) (fun k ρ u' => u' = u ∧ (∀ j, j ≤ k → (fs.take j).sum ≤ sumN row j) ∧ ∃ a b : Sd, ρ = [.sh (.tup (row.map D.int)), .sh (.tup (bs.map D.int)), .sh (.int (fs.take k).sum), .sh (.int (sumN row k)), a, b]) ?_ ?_ _ _ ⟨rfl, fun j hj => by cases Nat.le_zero.mp hj; simp [sumN], .un, .un, by simp [sumN]⟩
  · rintro k d ρ u' e ⟨rfl, hs, a, b, rfl⟩
    obtain ⟨x, ex, rfl⟩ := enumD_ints e
    have hk : k < fs.length := (List.getElem?_eq_some_iff.mp ex).1
    refine ⟨_, rfl, ?_⟩
    refine st_go fun R0 hR0 => ?_
    unfold lb_pays_bills_1
    have et : (fs.take (k + 1)).sum = (fs.take k).sum + x := by
      rw [List.take_succ_eq_append_getElem hk, List.sum_append]
      rw [List.getElem?_eq_getElem hk] at ex
      cases ex
      simp
    have er : sumN row (k + 1) = sumN row k + row[k]?.getD 0 := by rw [sumN_app k row, List.getD_eq_getElem?_getD]
    refine seq_go fun K1 R1 hK1 hR1 => ?_
    simp
    refine number_at_ok ?_
    simp
    refine hK1 _ _ ?_
    clear hK1 hR1 K1 R1
    simp
    refine brd (fun z => ?_) (fun z => ?_)
    · refine hR0 _ _ (hR _ _ (h false ?_))
      constructor
      · intro z; cases z
      · intro hh
        have := hh (k + 1) (by omega)
        rw [et, er] at this
        omega
    · refine hR0 _ _ ⟨rfl, fun j hj => ?_, .sh (.int k), .sh (.int x), ?_⟩
      · by_cases e1 : j = k + 1
        · subst e1; rw [et, er]; omega
        · exact hs j (by omega)
      · rw [et, er]
  · rintro ρ u' ⟨rfl, hs, a, b, rfl⟩
    refine hK _ _ ?_
    simp
    refine h true ⟨fun _ k hk => hs k ?_, fun _ => rfl⟩
    rw [show (enumD (fs.map D.int)).length = fs.length by unfold enumD; simp]
    omega
theorem contains_ok {row bs : List Int} (h0 : ∀ x ∈ bs, (0 : Int) ≤ x) (hl : bs.length ≤ 1000) {u : PuS} {P : D → PuS → Prop} (h : ∀ r : Bool, (r = true ↔ ∀ k, k ≤ bs.length → ((srtI true bs).take k).sum ≤ sumN row k) → P (.bl r) u) : Ok (mf_Form___contains__ [formD row, .tup (bs.map D.int)]) u P := by
  unfold mf_Form___contains__ mb_Form___contains__ formD
  simp
  refine is_bills_ok h0 hl ?_
  simp
  exact pays_bills_ok hl h
/-- a falling row sorted is itself -/
theorem falls_pw : ∀ (row : List Int), Falls row → row.Pairwise (· ≥ ·)
  | [], _ => .nil
  | x :: row, h => by
    refine List.pairwise_cons.mpr ⟨fun y hy => ?_, falls_pw row h.tail⟩
    obtain ⟨k, hk⟩ := List.mem_iff_getElem?.mp hy
    exact h.all_le k y hk
theorem srt_falls {row : List Int} (h : Falls row) : srtI true row = row := by
  refine ordB_uniq (b := true) (srtI_ord true row) ?_ (srtI_perm true row)
  unfold OrdB
  simp
  exact falls_pw row h
theorem contains_row {row other : List Int} (hF : Falls other) (hn : ∀ x ∈ row, (0 : Int) ≤ x) (hl : other.length ≤ 1000) {u : PuS} {P : D → PuS → Prop} (h : ∀ r : Bool, (r = true ↔ ∀ k, sumN other k ≤ sumN row k) → P (.bl r) u) : Ok (mf_Form___contains__ [formD row, .tup (other.map D.int)]) u P := by
  refine contains_ok (fun x hx => Int.le_of_lt (hF.1 x hx)) hl fun r hr => h r ?_
  rw [hr, srt_falls hF]
  have st : ∀ (row : List Int) (n : Nat), (row.take n).sum = sumN row n := by
    intro row n
    induction n generalizing row with
    | zero => simp [sumN]
    | succ n ih =>
      cases row with
      | nil => rw [sumN_nil]; simp
      | cons x row => rw [List.take_succ_cons, List.sum_cons, ih row]; rfl
  constructor
  · intro hh k
    by_cases hk : k ≤ other.length
    · have := hh k hk; rw [st] at this; exact this
    · have h1 := hh other.length (Nat.le_refl _)
      rw [st] at h1
      rw [sumN_flat other k (by omega)]
      have := sumN_le hn (show other.length ≤ k by omega)
      omega
  · intro hh k _
    rw [st]
    exact hh k
end Sh

set_option Elab.async false
set_option linter.all false
set_option maxRecDepth 100000
set_option maxHeartbeats 4000000
/-! F1l: drawn rows with their bounds, repr of plain data, the operators of forms. -/
namespace S1
open PySem L2 Mi P20 Sh
def big : Int := 1000000000000000000000000000000
theorem large_big {u : PuS} (hu : Pu u) {P : D → PuS → Prop} (h : ∀ r u', 0 ≤ r → r < big → Pu u' → P (.int r) u') : Ok (mf__law_large [.pur]) u P := by
  unfold mf__law_large mb__law_large
  simp
  refine draw_ok (by decide) hu fun r u1 h0 h6 hu1 => ?_
  simp
  refine ⟨by omega, ?_⟩
  refine ok_range 0 r.toNat (fun k ρ u => Pu u ∧ ∃ n t, 0 ≤ n ∧ n < 1000000 ^ k ∧ ρ = [.sh .pur, .sh (.int n), t]) ?_ ?_ _ _ ⟨hu1, 0, _, by decide, by decide, rfl⟩
  · rintro k ρ u hk ⟨hu, n, t, hn, hb, rfl⟩
    refine ⟨_, rfl, ?_⟩
    refine st_go fun R0 hR0 => ?_
    simp
    refine draw_ok (by decide) hu fun r u1 h0 h6 hu1 => ?_
    simp
    refine hR0 _ _ ⟨hu1, _, _, ?_, ?_, rfl⟩
    · omega
    · rw [Int.pow_succ]
      omega
  · rintro ρ u ⟨hu, n, t, hn, hb, rfl⟩
    simp
    refine h _ _ hn ?_ hu
    have : (1000000 : Int) ^ r.toNat ≤ 1000000 ^ 5 := by
      have h5 : r.toNat ≤ 5 := by omega
      rcases Nat.lt_or_ge r.toNat 1 with z | z
      · rw [show r.toNat = 0 by omega]; decide
      · rcases Nat.lt_or_ge r.toNat 2 with z | z
        · rw [show r.toNat = 1 by omega]; decide
        · rcases Nat.lt_or_ge r.toNat 3 with z | z
          · rw [show r.toNat = 2 by omega]; decide
          · rcases Nat.lt_or_ge r.toNat 4 with z | z
            · rw [show r.toNat = 3 by omega]; decide
            · rcases Nat.lt_or_ge r.toNat 5 with z | z
              · rw [show r.toNat = 4 by omega]; decide
              · rw [show r.toNat = 5 by omega]; exact Int.le_refl _
    have e : (1000000 : Int) ^ 5 = big := by decide
    omega
theorem rowl_big {u : PuS} (hu : Pu u) {m : Nat} (hm : m ≤ 30) {x : Int} (hx : 0 < x) (hxb : x ≤ big) {P : Fl → PuS → Prop} (h : ∀ (ns : List Int) s t w u', ns.length = m → ns.Pairwise (· ≤ ·) → (∀ y ∈ ns, 0 < y ∧ y ≤ 31 * big) → Pu u' → P (.nx [.sh .pur, .sh (.int m), .ow (ns.map D.int), s, t, w]) u') :
    Ok (loopD (mGn 4) lb__law_row_1 (rngD 0 m) [.sh .pur, .sh (.int m), .ow [], .sh (.int x), .un, .un]) u P := by
  refine ok_range 0 m (fun k ρ u => Pu u ∧ ∃ (ns : List Int) (n : Int) (t w : Sd), ns.length = k ∧ ns.Pairwise (· ≤ ·) ∧ (∀ y ∈ ns, 0 < y ∧ y ≤ n) ∧ 0 < n ∧ n ≤ (k + 1 : Nat) * big ∧ ρ = [.sh .pur, .sh (.int m), .ow (ns.map D.int), .sh (.int n), t, w]) ?_ ?_ _ _ ⟨hu, [], x, _, _, rfl, .nil, (fun y hy => by cases hy), hx, by simpa using hxb, rfl⟩
  · rintro k ρ u hk ⟨hu, ns, n, t, w, hn, hp, hy, hn0, hnb, rfl⟩
    unfold lb__law_row_1
    refine ⟨_, rfl, ?_⟩
    refine st_go fun R0 hR0 => ?_
    have nxt : ∀ (y : Int) (u' : PuS) (a b : Sd), 0 ≤ y → y < big → Pu u' → R0 (.nx [.sh .pur, .sh (.int m), .ow (ns.map D.int ++ [D.int n]), .sh (.int (n + y)), a, b]) u' := fun y u' a b y0 yb hu' =>
      hR0 _ _ ⟨hu', ns ++ [n], n + y, a, b, by simp [hn], by
        refine List.pairwise_append.mpr ⟨hp, List.pairwise_singleton _ _, fun z hz w hw => ?_⟩
        rw [List.mem_singleton.mp hw]
        exact (hy z hz).2, fun z hz => by
        rcases List.mem_append.mp hz with hz | hz
        · have := hy z hz; omega
        · rw [List.mem_singleton.mp hz]; omega, by omega, by
        rw [show ((k + 1 + 1 : Nat) : Int) = ((k + 1 : Nat) : Int) + 1 by omega, Int.add_mul, Int.one_mul]
        omega, by simp⟩
    have nx0 : ∀ (u' : PuS) (a b : Sd), Pu u' → R0 (.nx [.sh .pur, .sh (.int m), .ow (ns.map D.int ++ [D.int n]), .sh (.int n), a, b]) u' := fun u' a b hu' => by
      have := nxt 0 u' a b (by omega) (by decide) hu'
      rw [Int.add_zero] at this
      exact this
    refine seq_go fun K R hK hR => ?_
    simp
    refine ⟨by omega, ?_⟩
    refine hK _ _ ?_
    clear hK hR K R
    refine seq_go fun K R hK hR => ?_
    simp
    refine draw_ok (by decide) hu fun r u1 h0 h6 hu1 => hK _ _ ?_
    clear hK hR K R
    simp
    refine brd (fun h1 => ?_) (fun h1 => ?_)
    · refine brd (fun h4 => ?_) (fun h4 => ?_)
      · refine draw_ok (by decide) hu1 fun r2 u2 r0 r8 hu2 => ?_
        exact ⟨_, rfl, nxt _ _ _ _ r0 (by unfold big; omega) hu2⟩
      · refine large_big hu1 fun r2 u2 r0 rb hu2 => ?_
        exact ⟨_, rfl, nxt _ _ _ _ r0 rb hu2⟩
    · exact nx0 _ _ _ hu1
  · rintro ρ u ⟨hu, ns, n, t, w, hn, hp, hy, hn0, hnb, rfl⟩
    refine h ns _ t w u hn hp (fun y h1 => ⟨(hy y h1).1, ?_⟩) hu
    have h2 := (hy y h1).2
    have h3 : ((m + 1 : Nat) : Int) * big ≤ 31 * big := Int.mul_le_mul_of_nonneg_right (by omega) (by decide)
    omega
def Row31 (ns : List Int) : Prop := Falls ns ∧ ∀ x ∈ ns, x ≤ 31 * big
theorem row_big {u : PuS} (hu : Pu u) {m : Nat} (hm : m ≤ 30) {P : D → PuS → Prop} (h : ∀ (ns : List Int) u', ns.length = m → Row31 ns → Pu u' → P (.tup (ns.map D.int)) u') : Ok (mf__law_row [.pur, .int m]) u P := by
  have fin : ∀ (ns : List Int) (u' : PuS), ns.length = m → ns.Pairwise (· ≤ ·) → (∀ y ∈ ns, 0 < y ∧ y ≤ 31 * big) → Pu u' → P (.tup (ns.reverse.map D.int)) u' := fun ns u' hn hp hy hu' =>
    h _ _ (by simp [hn]) ⟨falls_of_pw (List.pairwise_reverse.mpr hp) fun y h1 => (hy y (List.mem_reverse.mp h1)).1, fun y h1 => (hy y (List.mem_reverse.mp h1)).2⟩ hu'
  unfold mf__law_row mb__law_row
  simp
  refine draw_ok (by decide) hu fun r u1 h0 h6 hu1 => ?_
  by_cases h1 : 0 < r
  · simp [h1]
    refine draw_ok (by decide) hu1 fun r2 u2 _ _ hu2 => ?_
    simp
    refine ⟨by omega, rowl_big hu2 hm (by omega) (by unfold big; omega) fun ns s t w u' hn hp hy hu' => ?_⟩
    simp
    rw [← List.map_reverse]
    exact fin _ _ hn hp hy hu'
  · simp [h1]
    refine large_big hu1 fun r2 u2 _ _ hu2 => ?_
    simp
    refine ⟨by omega, rowl_big hu2 hm (by omega) (by omega) fun ns s t w u' hn hp hy hu' => ?_⟩
    simp
    rw [← List.map_reverse]
    exact fin _ _ hn hp hy hu'
end S1
namespace Sh
open PySem L2 Mi P20
/-! ### repr of plain data -/
def Rp (k n : Nat) (d : D) : Prop := ∃ a, toPD d = some a ∧ a.showable = true ∧ a.hasDict = false ∧ a.depth ≤ k ∧ a.shown.length ≤ n
theorem Rp.mono {k n k' n' : Nat} {d : D} (h : Rp k n d) (hk : k ≤ k') (hn : n ≤ n') : Rp k' n' d := by
  obtain ⟨a, h1, h2, h3, h4, h5⟩ := h
  exact ⟨a, h1, h2, h3, by omega, by omega⟩
theorem Rp.bl (b : Bool) : Rp 0 5 (.bl b) := ⟨.bool b, rfl, rfl, rfl, Nat.le_refl _, by cases b <;> decide⟩
theorem log_of {i : Int} {m : Nat} (h : i.natAbs < 2 ^ m) : i.natAbs.log2 < m + 1 := by
  by_cases z : i.natAbs = 0
  · rw [z]; simp
  · have := (Nat.log2_lt z).mpr h
    omega
theorem Rp.int {i : Int} (h : i.natAbs < 10 ^ 60) : Rp 0 61 (.int i) := by
  refine ⟨.int i, rfl, decide_eq_true ?_, rfl, Nat.le_refl _, ?_⟩
  · have h2 : i.natAbs < 2 ^ 200 := Nat.lt_trans h (by decide)
    have := log_of h2
    omega
  · have e := PySem.int_text_length_le10 (k := 60) (by decide) h
    show (Str.ofString (toString i)).length ≤ 61
    rw [ofString_length]
    exact e
theorem rp_all {k n : Nat} : ∀ {ds : List D}, (∀ d ∈ ds, Rp k n d) → ∃ as, toPDs ds = some as ∧ PyData.showableAll as = true ∧ PyData.hasDictAll as = false ∧ PyData.depthAll as ≤ k ∧ ((PyData.shownAll as).map (·.length)).sum ≤ ds.length * n ∧ (PyData.shownAll as).length = ds.length
  | [], _ => ⟨[], rfl, rfl, rfl, Nat.zero_le _, by simp [PyData.shownAll], rfl⟩
  | d :: ds, h => by
    obtain ⟨a, h1, h2, h3, h4, h5⟩ := h d List.mem_cons_self
    obtain ⟨as, g1, g2, g3, g4, g5, g6⟩ := rp_all fun x hx => h x (List.mem_cons_of_mem _ hx)
    refine ⟨a :: as, ?_, ?_, ?_, ?_, ?_, ?_⟩
    · unfold toPDs; rw [h1, g1]
    · unfold PyData.showableAll; rw [h2, g2]; rfl
    · unfold PyData.hasDictAll; rw [h3, g3]; rfl
    · unfold PyData.depthAll; omega
    · unfold PyData.shownAll
      rw [List.map_cons, List.sum_cons, List.length_cons, Nat.add_mul]
      omega
    · unfold PyData.shownAll; simp [g6]
theorem Rp.lst {k n : Nat} {ds : List D} (h : ∀ d ∈ ds, Rp k n d) : Rp (k + 1) (ds.length * n + 2 * ds.length + 3) (.lst ds) := by
  obtain ⟨as, g1, g2, g3, g4, g5, g6⟩ := rp_all h
  refine ⟨.list as, ?_, ?_, ?_, ?_, ?_⟩
  · unfold toPD; rw [g1]; rfl
  · unfold PyData.showable; exact g2
  · unfold PyData.hasDict; exact g3
  · unfold PyData.depth; omega
  · unfold PyData.shown
    have := listText_len_le (PyData.shownAll as)
    omega
theorem Rp.tup {k n : Nat} {ds : List D} (h : ∀ d ∈ ds, Rp k n d) : Rp (k + 1) (ds.length * n + 2 * ds.length + 3) (.tup ds) := by
  obtain ⟨as, g1, g2, g3, g4, g5, g6⟩ := rp_all h
  refine ⟨.tuple as, ?_, ?_, ?_, ?_, ?_⟩
  · unfold toPD; rw [g1]; rfl
  · unfold PyData.showable; exact g2
  · unfold PyData.hasDict; exact g3
  · unfold PyData.depth; omega
  · unfold PyData.shown
    have := tupleText_len_le (PyData.shownAll as)
    omega
theorem Rp.row {row : List Int} (hl : row.length ≤ 26) (h : ∀ x ∈ row, x.natAbs < 10 ^ 60) : Rp 1 1700 (.tup (row.map D.int)) := by
  refine (Rp.tup (k := 0) (n := 61) fun d hd => ?_).mono (Nat.le_refl _) (by rw [List.length_map]; omega)
  obtain ⟨x, hx, rfl⟩ := List.mem_map.mp hd
  exact Rp.int (h x hx)
theorem rep_is {k n : Nat} {d : D} (hs : seqQ d = true) (h : Rp k n d) (hk : k ≤ 60) (hn : n ≤ 100000) : ∃ t : Str, repLD d = some (.str t) := by
  obtain ⟨a, h1, h2, h3, h4, h5⟩ := h
  refine ⟨a.shown, ?_⟩
  unfold repLD
  rw [if_pos hs, h1]
  simp only [Option.bind_some]
  rw [if_pos ⟨h2, h3, by omega, by omega⟩]
end Sh

set_option Elab.async false
set_option linter.all false
set_option maxRecDepth 100000
set_option maxHeartbeats 4000000
namespace Sh
open PySem L2 Mi P20
def evD : Ev → D
  | .inl x => .int x
  | .inr q => cardD q
def courD (evs : List Ev) : D := .obj "Course" ["passed"] [.tup (evs.map evD)]
def evOk : Ev → Prop
  | .inl x => 0 ≤ x
  | .inr q => 1 ≤ q.2 ∧ 0 ≤ q.1 ∧ q.1 ≤ 24 * q.2
structure EvsOk (evs : List Ev) : Prop where
  each : ∀ e ∈ evs, evOk e
  bills : nB evs ≤ 12
  cards : nC evs ≤ 6
theorem nBC : ∀ evs : List Ev, nB evs + nC evs = evs.length
  | [] => rfl
  | .inl x :: r => by have := nBC r; rw [nB_inl]; show nB r + 1 + nC r = r.length + 1; omega
  | .inr q :: r => by have := nBC r; rw [nB_inr]; show nB r + (nC r + 1) = r.length + 1; omega
theorem EvsOk.len {evs : List Ev} (h : EvsOk evs) : evs.length ≤ 18 := by have := nBC evs; have := h.bills; have := h.cards; omega
theorem nB_append (a b : List Ev) : nB (a ++ b) = nB a + nB b := by simp [nB]
theorem nC_append (a b : List Ev) : nC (a ++ b) = nC a + nC b := by simp [nC]
theorem nB_take (evs : List Ev) (k : Nat) : nB (evs.take k) ≤ nB evs := by
  have := nB_append (evs.take k) (evs.drop k)
  rw [List.take_append_drop] at this
  omega
theorem nC_take (evs : List Ev) (k : Nat) : nC (evs.take k) ≤ nC evs := by
  have := nC_append (evs.take k) (evs.drop k)
  rw [List.take_append_drop] at this
  omega
@[simp] theorem bal_ok {q : Int × Int} {u : PuS} {P : D → PuS → Prop} : Ok (mf_Card_balance [.obj "Card" ["held", "daily"] [.int q.1, .int q.2]]) u P ↔ P (.int q.1) u := by
  unfold mf_Card_balance mb_Card_balance
  simp
@[simp] theorem lim_ok {q : Int × Int} {u : PuS} {P : D → PuS → Prop} : Ok (mf_Card_limit [.obj "Card" ["held", "daily"] [.int q.1, .int q.2]]) u P ↔ P (.int q.2) u := by
  unfold mf_Card_limit mb_Card_limit
  simp
theorem wrong_event_ok {evs : List Ev} (h : EvsOk evs) {u : PuS} {P : D → PuS → Prop} (hp : P .non u) : Ok (mf_wrong_event [.tup (evs.map evD)]) u P := by
  unfold mf_wrong_event mb_wrong_event
  simp
  refine ok_list (enumD (evs.map evD)) (fun k ρ u' => u' = u ∧ ∃ a b, ρ = [.sh (.tup (evs.map evD)), .sh (.int (nB (evs.take k))), .sh (.int (nC (evs.take k))), a, b]) ?_ ?_ _ _ ⟨rfl, _, _, rfl⟩
  · rintro k d ρ u' e ⟨rfl, a, b, rfl⟩
    obtain ⟨x, ex, rfl⟩ := enumD_at e
    rw [List.getElem?_map] at ex
    cases e2 : evs[k]? with
    | none => rw [e2] at ex; cases ex
    | some ev =>
      rw [e2] at ex
      cases ex
      have e7 : evs.take (k + 1) = evs.take k ++ [ev] := by rw [List.take_succ, e2]; simp
      have hb := nB_take evs (k + 1)
      have hc := nC_take evs (k + 1)
      have b12 := h.bills
      have c6 := h.cards
      unfold lb_wrong_event_1
      rw [e7] at hb hc ⊢
      rw [nB_append] at hb
      rw [nC_append] at hc
      rw [nB_append, nC_append]
      have hev := h.each ev (List.mem_of_getElem? e2)
      cases ev with
      | inl x =>
        have e3 : isiD [.int x, .cls "Card"] = some (.bl false) := rfl
        have n1 : nB [(Sum.inl x : Ev)] = 1 := rfl
        have n2 : nC [(Sum.inl x : Ev)] = 0 := rfl
        rw [n1] at hb
        rw [n2] at hc
        rw [n1, n2]
        have hx : 0 ≤ x := hev
        have h1 : ¬ (12 : Int) < (nB (evs.take k) : Int) + 1 := by omega
        have h2 : ¬ (6 : Int) < (nC (evs.take k) : Int) := by omega
        have e4 : evD (.inl x) = .int x := rfl
        simp [e3, e4, hx, h1, h2]
      | inr q =>
        have e3 : isiD [evD (.inr q), .cls "Card"] = some (.bl true) := rfl
        have n1 : nB [(Sum.inr q : Ev)] = 0 := rfl
        have n2 : nC [(Sum.inr q : Ev)] = 1 := rfl
        rw [n1] at hb
        rw [n2] at hc
        rw [n1, n2]
        have h1 : ¬ (12 : Int) < (nB (evs.take k) : Int) := by omega
        have h2 : ¬ (6 : Int) < (nC (evs.take k) : Int) + 1 := by omega
        simp [e3, h1, h2]
  · rintro ρ u' ⟨rfl, a, b, rfl⟩
    simpa using hp
theorem cour_init {evs : List Ev} (h : EvsOk evs) {u : PuS} {P : List Str × List D → PuS → Prop} (hp : P (["passed"], [.tup (evs.map evD)]) u) : Ok (mf_Course___init__ [.tup (evs.map evD)]) u P := by
  unfold mf_Course___init__ mb_Course___init__
  have e : isiD [.tup (evs.map evD), .ty "tuple"] = some (.bl true) := rfl
  simp [startI, e]
  refine wrong_event_ok h ?_
  have e2 : isntD .non .non = some (.bl false) := rfl
  simp [e2]
  exact ⟨[], [], ⟨rfl, rfl⟩, by simp, by decide, hp⟩
@[simp] theorem check_course_ok {evs : List Ev} {u : PuS} {P : D → PuS → Prop} : Ok (mf_check_course [courD evs]) u P ↔ P .non u := by
  unfold mf_check_course mb_check_course
  have e : isiD [courD evs, .cls "Course"] = some (.bl true) := rfl
  simp [e]
/-- an entry of the table -/
def askD (q : Int × List Int) : D := .tup [.int q.1, .tup (q.2.map D.int)]
theorem drop_cons {evs : List Ev} {k : Nat} {ev : Ev} (h : evs[k]? = some ev) : evs.drop k = ev :: evs.drop (k + 1) := by
  have hk : k < evs.length := (List.getElem?_eq_some_iff.mp h).1
  have e : ev = evs[k] := (List.getElem?_eq_some_iff.mp h).2.symm
  rw [e]; exact List.drop_eq_getElem_cons hk
theorem asked_sets_ok {evs : List Ev} (h18 : evs.length ≤ 100) {u : PuS} {P : D → PuS → Prop} (hp : P (.lst ((asked 0 evs).map askD)) u) : Ok (mf_asked_sets [.tup (evs.map evD)]) u P := by
  unfold mf_asked_sets mb_asked_sets
  simp
  have e0 : enL [.tup (evs.map evD)] = some (.lst (enumD (evs.map evD))) := rfl
  simp [e0]
  refine ok_list (enumD (evs.map evD)).reverse (fun k ρ u' => u' = u ∧ ∃ a b c d e f g, ρ = [.sh (.tup (evs.map evD)), .sh (.lst ((asked ((evs.length - k : Nat) : Int) (evs.drop (evs.length - k))).map askD)), a, b, c, d, e, f, g]) ?_ ?_ _ _ ?_
  · rintro k d ρ u' e ⟨rfl, a, b, c, d', e', f, g, rfl⟩
    have hk : k < evs.length := by
      have := (List.getElem?_eq_some_iff.mp e).1
      simpa [enumD_len] using this
    rw [List.getElem?_reverse (by rw [enumD_len, List.length_map]; exact hk), enumD_len, List.length_map] at e
    obtain ⟨x, ex, rfl⟩ := enumD_at e
    rw [List.getElem?_map] at ex
    have hj : evs.length - 1 - k + 1 = evs.length - k := by omega
    rw [show evs.length - (k + 1) = evs.length - 1 - k by omega]
    generalize hjj : evs.length - 1 - k = j at hj ex
    rw [← hj]
    cases e2 : evs[j]? with
    | none => rw [e2] at ex; cases ex
    | some ev =>
      rw [e2] at ex
      cases ex
      rw [drop_cons e2]
      have hn : (asked ((j + 1 : Nat) : Int) (evs.drop (j + 1))).length ≤ 101 := by
        rw [asked_len]
        have := nBC (evs.drop (j + 1))
        simp at this
        omega
      have hst : asked (j : Int) (ev :: evs.drop (j + 1)) = askStep (j : Int) ev (asked ((j + 1 : Nat) : Int) (evs.drop (j + 1))) := by
        show askStep (j : Int) ev (asked ((j : Int) + 1) _) = _
        rw [show ((j + 1 : Nat) : Int) = (j : Int) + 1 by omega]
      rw [hst]
      have hlen1 : 1 ≤ (asked ((j + 1 : Nat) : Int) (evs.drop (j + 1))).length := by rw [asked_len]; omega
      have hds : ∀ q ∈ asked ((j + 1 : Nat) : Int) (evs.drop (j + 1)), q.2.length ≤ 100 := fun q hq => by
        obtain ⟨n, hn', e3⟩ := List.mem_iff_getElem.mp hq
        have := ((asked_tab (evs.drop (j + 1)) ((j + 1 : Nat) : Int)).at_ n q.1 q.2 (by rw [List.getElem?_eq_getElem hn', e3])).1
        omega
      generalize asked ((j + 1 : Nat) : Int) (evs.drop (j + 1)) = best at hn hlen1 hds ⊢
      cases ev with
      | inr q =>
        have e3 : isiD [evD (.inr q), .cls "Card"] = some (.bl true) := rfl
        simp [e3, -s_Gt]
        refine ⟨_, rfl, ?_⟩
        simp [e3]
        refine ⟨by omega, ?_⟩
        refine ok_lca (fun z => [.sh (.tup (evs.map evD)), .sh (.lst (best.map askD)), .sh (.int j), .sh (evD (.inr q)), c, d', .sh (.int z.1), .sh (.tup (z.2.map D.int)), g]) (fun z => askD (z.1 - wor q.1 q.2 z.2.length, z.2)) ?_ ?_ ?_
        · intro z hz; rfl
        · intro z hz
          unfold ce_asked_sets_1
          simp
          refine ⟨_, _, rfl, ?_⟩
          simp
          refine ⟨_, _, rfl, ?_⟩
          simp
          refine worth_ok (by have := hds z hz; omega) ?_
          simp
          rfl
        · have e5 : best.map (fun z => askD (z.1 - wor q.1 q.2 z.2.length, z.2)) = (askStep (j : Int) (.inr q) best).map askD := by
            show _ = (best.map _).map askD
            rw [List.map_map]; rfl
          exact ⟨rfl, e5⟩
      | inl x =>
        have e3 : isiD [evD (.inl x), .cls "Card"] = some (.bl false) := rfl
        have ev4 : evD (.inl x) = .int x := rfl
        refine ⟨_, rfl, ?_⟩
        unfold lb_asked_sets_4
        rw [ok_ifS]
        simp only [ok_B, ok_CB, ok_cons, ok_nil, ok_var, ok_C, s_vSh, List.set_cons_succ, List.set_cons_zero, List.getElem?_cons_succ, List.getElem?_cons_zero, Option.some.injEq, exists_eq_left', e3, onB_bl, br_f]
        have hstp : (askStep (j : Int) (.inl x) best).map askD = [askD (best.headD (0, []))] ++ ((List.range (best.length - 1)).map fun k => askD (if ((best.map fun z => (z.1 + x, (j : Int) :: z.2)).getD k (0, [])).1 ≤ (best.getD (k + 1) (0, [])).1 then best.getD (k + 1) (0, []) else (best.map fun z => (z.1 + x, (j : Int) :: z.2)).getD k (0, []))) ++ [askD ((best.map fun z => (z.1 + x, (j : Int) :: z.2)).getLastD (0, []))] := by
          unfold askStep
          simp only [List.map_append, List.map_cons, List.map_nil, List.map_map]
          rfl
        generalize (askStep (j : Int) (.inl x) best).map askD = res at hstp ⊢
        refine seq_step fun kk hkk => ?_
        simp
        refine ⟨by omega, ?_⟩
        refine ok_lca (fun z => [.sh (.tup (evs.map evD)), .sh (.lst (best.map askD)), .sh (.int j), .sh (evD (.inl x)), c, d', .sh (.int z.1), .sh (.tup (z.2.map D.int)), g]) (fun z => askD (z.1 + x, (j : Int) :: z.2)) ?_ ?_ ?_
        · intro z hz; rfl
        · intro z hz
          unfold ce_asked_sets_2
          have ea : addD (.tup [.int (j : Int)]) (.tup (z.2.map D.int)) = some (.tup (((j : Int) :: z.2).map D.int)) := if_pos (by have := hds z hz; simp; omega)
          simp [ev4, ea]
          rfl
        have el : best.map (fun z => askD (z.1 + x, (j : Int) :: z.2)) = (best.map fun z => (z.1 + x, (j : Int) :: z.2)).map askD := by rw [List.map_map]; rfl
        rw [el]
        have hll : (best.map fun z => (z.1 + x, (j : Int) :: z.2)).length = best.length := List.length_map ..
        generalize (best.map fun z => (z.1 + x, (j : Int) :: z.2)) = longer at hll hstp ⊢
        refine hkk _ _ ?_
        clear hkk kk
        refine seq_step fun kk hkk => ?_
        simp [mBorLs]
        refine ⟨by omega, by rw [rngD_len]; omega, ?_⟩
        refine ok_lcra (fun k => [.sh (.tup (evs.map evD)), .sh (.lst (best.map askD)), .sh (.int j), .sh (evD (.inl x)), .sh (.lst (longer.map askD)), d', e', f, .sh (.int (1 + (k : Nat)))]) (fun k => askD (if (longer.getD k (0, [])).1 ≤ (best.getD (k + 1) (0, [])).1 then best.getD (k + 1) (0, []) else longer.getD k (0, []))) ?_ ?_ ?_
        · intro k hk; rfl
        · intro k hk
          unfold ce_asked_sets_3
          have i1 : atI (best.map askD) (1 + (k : Int)) = some (askD (best.getD (k + 1) (0, []))) := by
            rw [show (1 + (k : Int)) = ((k + 1 : Nat) : Int) by omega]
            exact at_nat (by rw [List.getElem?_map, List.getD_eq_getElem?_getD, List.getElem?_eq_getElem (by omega)]; rfl)
          have i2 : atI (longer.map askD) (1 + (k : Int) - 1) = some (askD (longer.getD k (0, []))) := by
            rw [show (1 + (k : Int) - 1) = (k : Int) by omega]
            exact at_nat (by rw [List.getElem?_map, List.getD_eq_getElem?_getD, List.getElem?_eq_getElem (by omega)]; rfl)
          have i3 : ∀ q, ixD (askD q) (.int 0) = some (.int q.1) := fun q => rfl
          generalize best.getD (k + 1) (0, []) = q1 at i1 ⊢
          generalize longer.getD k (0, []) = q2 at i2 ⊢
          simp [i1, i2, i3]
          refine brd (fun z => ?_) (fun z => ?_)
          · simp [z]
          · have z' : q1.1 < q2.1 := by omega
            simp [z, z']
        have hk0 : atI (best.map askD) 0 = some (askD (best.headD (0, []))) := by
          refine at_nat (k := 0) ?_
          cases best with
          | nil => simp at hlen1
          | cons a b => rfl
        have hkl : atI (longer.map askD) (-1) = some (askD (longer.getLastD (0, []))) := by
          obtain ⟨pre, last, rfl⟩ : ∃ pre last, longer = pre ++ [last] := by
            rcases List.eq_nil_or_concat longer with h | ⟨p, l, h⟩
            · rw [h] at hll; simp at hll; omega
            · exact ⟨p, l, by simpa using h⟩
          rw [List.map_append]
          simp only [List.map_cons, List.map_nil]
          rw [at_last, List.getLastD_eq_getLast?]
          simp
        refine hkk _ _ ?_
        clear hkk kk
        have hkp : ∃ kept : List D, ((List.range (best.length - 1)).map fun k => askD (if (longer.getD k (0, [])).1 ≤ (best.getD (k + 1) (0, [])).1 then best.getD (k + 1) (0, []) else longer.getD k (0, []))) = kept ∧ kept.length ≤ 200 := ⟨_, rfl, by simp; omega⟩
        obtain ⟨kept, ek, hkept⟩ := hkp
        rw [ek] at hstp ⊢
        generalize askD (best.headD (0, [])) = fst at hk0 hstp ⊢
        generalize askD (longer.getLastD (0, [])) = lst at hkl hstp ⊢
        have a1 : addD (.lst [fst]) (.lst kept) = some (.lst ([fst] ++ kept)) := s_addL (by simp; omega)
        have a2 : addD (.lst ([fst] ++ kept)) (.lst [lst]) = some (.lst (([fst] ++ kept) ++ [lst])) := s_addL (by simp; omega)
        simp only [List.singleton_append] at a1 a2
        rw [hstp]
        simp [hk0, hkl, a1, a2]
  · rintro ρ u' ⟨rfl, a, b, c, d', e', f, g, rfl⟩
    simp [enumD_len]
    simpa using hp
  · refine ⟨rfl, .un, .un, .un, .un, .un, .un, .un, ?_⟩
    rw [Nat.sub_zero, List.drop_eq_nil_of_le (Nat.le_refl _)]
    rfl
theorem asked_ok {evs : List Ev} (h18 : evs.length ≤ 100) {u : PuS} {P : D → PuS → Prop} (hp : P (.lst ((asks evs).map D.int)) u) : Ok (mf_asked [.tup (evs.map evD)]) u P := by
  unfold mf_asked mb_asked
  simp
  refine asked_sets_ok h18 ?_
  have hl : (asked 0 evs).length ≤ 101 := by rw [asked_len]; have := nBC evs; omega
  simp
  refine ⟨by omega, ?_⟩
  refine ok_lca (fun z => [.sh (.tup (evs.map evD)), .sh (.int z.1), .sh (.tup (z.2.map D.int))]) (fun z => .int z.1) ?_ ?_ ?_
  · intro z hz; rfl
  · intro z hz; simp
  have e : cutD ((asked 0 evs).map fun z => D.int z.1) (some 1) none = (asks evs).map D.int := by
    rw [show (1 : Int) = ((1 : Nat) : Int) from rfl, cut_from]
    unfold asks
    rw [List.map_drop, List.map_map]
    rfl
  simp [e]
  exact hp
@[simp] theorem events_ok {evs : List Ev} {u : PuS} {P : D → PuS → Prop} : Ok (mf_Course_events [.obj "Course" ["passed"] [.tup (evs.map evD)]]) u P ↔ P (.tup (evs.map evD)) u := by
  unfold mf_Course_events mb_Course_events
  simp
theorem casks_ok {evs : List Ev} (h18 : evs.length ≤ 100) {u : PuS} {P : D → PuS → Prop} (hp : P (.tup ((asks evs).map D.int)) u) : Ok (mf_Course_asks [.obj "Course" ["passed"] [.tup (evs.map evD)]]) u P := by
  unfold mf_Course_asks mb_Course_asks
  simp
  refine asked_ok h18 ?_
  simpa using hp
theorem cform_ok {evs : List Ev} (h18 : evs.length ≤ 100) (hb : nB evs ≤ 24) {u : PuS} {P : D → PuS → Prop} (hp : ∀ row, Least 0 (asks evs) row → P (formD row) u) : Ok (mf_Course_form [.obj "Course" ["passed"] [.tup (evs.map evD)]]) u P := by
  unfold mf_Course_form mb_Course_form
  simp
  refine asked_ok h18 ?_
  refine least_row_lst (by rw [asks_len]; exact hb) fun row hr => ?_
  exact init_ok (Least.good hr (by rw [asks_len]; exact hb)) (hp row hr)
@[simp] theorem cards_ok {ps : List (Str × (Int × Int))} (hl : ps.length ≤ 1000) {u : PuS} {P : D → PuS → Prop} (hp : P (.tup (ps.map fun p => cardD p.2)) u) : Ok (mf_Wallet_cards [.obj "Wallet" ["pairs"] [.tup (ps.map pairD)]]) u P := by
  unfold mf_Wallet_cards mb_Wallet_cards
  simp
  refine ⟨by omega, ?_⟩
  refine ok_lca (fun p => [.sh (walD ps), .sh (.str p.1), .sh (cardD p.2)]) (fun p => cardD p.2) ?_ ?_ ?_
  · intro p hp; rfl
  · intro p hp; simp
  exact hp
theorem amounts_ok {ps : List (Str × (Int × Int))} (hl : ps.length ≤ 1000) {u : PuS} {P : D → PuS → Prop} (hp : P (.tup ((ps.map Prod.snd).map prD)) u) : Ok (mf_amounts_of [walD ps]) u P := by
  unfold mf_amounts_of mb_amounts_of
  simp
  refine ⟨_, _, rfl, ?_⟩
  refine cards_ok hl ?_
  simp
  refine ⟨by omega, ?_⟩
  refine ok_lca (xs := ps) (f := fun p => cardD p.2) (fun p => [.sh (walD ps), .sh (cardD p.2)]) (fun p => prD p.2) ?_ ?_ ?_
  · intro p hp; rfl
  · intro p hp
    unfold ce_amounts_of_1
    simp
    refine ⟨_, _, rfl, ?_⟩
    rw [bal_ok]
    refine ⟨_, _, rfl, ?_⟩
    rw [lim_ok]
    exact ⟨rfl, rfl⟩
  rw [List.map_map] at hp
  exact hp
/-- the first number of days that bars -/
def BarsAt (am : List (Int × Int)) (t : List (Int × List Int)) (r : Option Nat) : Prop := match r with
  | some k => (∃ q, t[k]? = some q ∧ FF am k < q.1) ∧ ∀ j q, j < k → t[j]? = some q → q.1 ≤ FF am j
  | none => ∀ j q, t[j]? = some q → q.1 ≤ FF am j
theorem barring_days_ok {am : List (Int × Int)} {evs : List Ev} (ha : am.length ≤ 1000) (h18 : evs.length ≤ 100) {u : PuS} {P : D → PuS → Prop}
    (hp : ∀ r, BarsAt am (asked 0 evs) r → P (optD (r.map fun k => ((asked 0 evs).getD k (0, [])).2)) u) : Ok (mf_barring_days [.tup (am.map prD), .tup (evs.map evD)]) u P := by
  unfold mf_barring_days mb_barring_days
  simp
  refine asked_sets_ok h18 ?_
  have hl : (asked 0 evs).length ≤ 101 := by rw [asked_len]; have := nBC evs; omega
  simp
  refine ok_list (enumD ((asked 0 evs).map askD)) (fun k ρ u' => u' = u ∧ (∀ j q, j < k → (asked 0 evs)[j]? = some q → q.1 ≤ FF am j) ∧ ∃ a b c d e, ρ = [.sh (.tup (am.map prD)), .sh (.tup (evs.map evD)), a, b, c, d, e]) ?_ ?_ _ _ ⟨rfl, fun j q hj => by omega, _, _, _, _, _, rfl⟩
  · rintro k d ρ u' e ⟨rfl, hj, a, b, c, d', e', rfl⟩
    obtain ⟨x, ex, rfl⟩ := enumD_at e
    rw [List.getElem?_map] at ex
    cases e2 : (asked 0 evs)[k]? with
    | none => rw [e2] at ex; cases ex
    | some q =>
      rw [e2] at ex
      cases ex
      have hk : k < (asked 0 evs).length := (List.getElem?_eq_some_iff.mp e2).1
      unfold lb_barring_days_2
      refine ⟨_, rfl, ?_⟩
      simp
      refine ⟨by omega, ?_⟩
      refine ok_lca (fun z => [.sh (.tup (am.map prD)), .sh (.tup (evs.map evD)), .sh (.int k), .sh (.int q.1), .sh (.tup (q.2.map D.int)), .sh (.int z.1), .sh (.int z.2)]) (fun z => .int (wor z.1 z.2 k)) ?_ ?_ ?_
      · intro z hz; rfl
      · intro z hz
        unfold ce_barring_days_1
        simp
        exact worth_ok (by omega) ⟨rfl, rfl⟩
      have es : (am.map fun z => D.int (wor z.1 z.2 k)) = (am.map fun z => wor z.1 z.2 k).map D.int := by rw [List.map_map]; rfl
      rw [es]
      refine ⟨_, s_sumI, ?_⟩
      simp
      refine brd (fun z => ?_) (fun z => ?_)
      · have := hp (some k) ⟨⟨q, e2, z⟩, hj⟩
        have eg : (asked 0 evs).getD k (0, []) = q := by rw [List.getD_eq_getElem?_getD, e2]; rfl
        simp only [Option.map_some, eg] at this
        exact this
      · intro j a1 a2 hjk e3
        by_cases ee : j = k
        · subst ee
          rw [e2] at e3
          cases e3
          have z' : ¬ FF am j < a1 := z
          omega
        · exact hj j (a1, a2) (by omega) e3
  · rintro ρ u' ⟨rfl, hj, a, b, c, d', e', rfl⟩
    simp
    refine hp none fun j q e => hj j q ?_ e
    rw [enumD_len, List.length_map]
    exact (List.getElem?_eq_some_iff.mp e).1
theorem barring_ok {ps : List (Str × (Int × Int))} {evs : List Ev} (hl : ps.length ≤ 1000) (h18 : evs.length ≤ 100) {u : PuS} {P : D → PuS → Prop}
    (hp : ∀ r, BarsAt (ps.map Prod.snd) (asked 0 evs) r → P (optD (r.map fun k => ((asked 0 evs).getD k (0, [])).2)) u) : Ok (mf_barring [walD ps, courD evs]) u P := by
  unfold mf_barring mb_barring
  simp
  refine amounts_ok hl ?_
  refine ⟨_, _, rfl, ?_⟩
  rw [events_ok]
  exact barring_days_ok (by simpa using hl) h18 hp
end Sh

set_option Elab.async false
set_option linter.all false
set_option maxRecDepth 100000
set_option maxHeartbeats 4000000
/-! Txl: the texts of numbers, cards and courses read back. -/
namespace Sh
open PySem L2 Mi P20 TL
def nT (n : Nat) : Str := Str.ofString (toString ((n : Nat) : Int))
theorem tl_nT (n : Nat) : (nT n).cps.toList = numL n := tl_num n
theorem nT_len (n : Nat) : (nT n).length = (numL n).length := by
  rw [← tl_nT]
  exact Array.length_toList.symm
/-- plain signs -/
def As (x : Str) : Prop := ∀ c ∈ x.cps.toList, c < 128
theorem As.ok {x : Str} (h : As x) : PyData.strOk x = true := by
  unfold PyData.strOk
  rw [← Array.all_toList, List.all_eq_true]
  exact fun c hc => decide_eq_true (by have := h c hc; omega)
theorem str_eqD {a b : Str} (ha : As a) (hb : As b) : eqMD (.str a) (.str b) = some (.bl (decide (a = b))) := by
  unfold eqMD eqD
  have e : ∀ z, toPD (.str z) = some (.str z) := fun z => rfl
  rw [e, e]
  have h : ∀ z, As z → SeqAt.shaped (.str z) = true := fun z hz => by
    show (PyData.strOk z && decide (0 ≤ 64)) = true
    rw [hz.ok]
    rfl
  show Option.map _ (if _ then some (PyData.eqv (.str a) (.str b)) else none) = _
  rw [if_pos ⟨h a ha, h b hb⟩]
  have e2 : PyData.eqv (.str a) (.str b) = decide (a = b) := by
    unfold PyData.eqv
    rw [Bool.eq_iff_iff]
    simp
  rw [e2]
  rfl
theorem str_neD {a b : Str} (ha : As a) (hb : As b) : neMD (.str a) (.str b) = some (.bl (!decide (a = b))) := by
  have := str_eqD ha hb
  unfold eqMD at this
  unfold neMD
  cases h : eqD (.str a) (.str b) with
  | none => rw [h] at this; cases this
  | some c =>
    rw [h] at this
    have : c = decide (a = b) := by simpa using this
    rw [this]
    rfl
theorem nT_as (n : Nat) : As (nT n) := fun c hc => by
  rw [tl_nT] at hc
  have := numL_digits n c hc
  omega
theorem as0 : As "0" := by unfold As; decide
theorem asE : As "" := by unfold As; decide
theorem numL_head {n : Nat} (h : 0 < n) : ∃ c r, numL n = c :: r ∧ c ≠ 48 := by
  induction n using Nat.strongRecOn with
  | _ n ih =>
    by_cases h10 : n < 10
    · exact ⟨48 + n, [], numL_lt h10, by omega⟩
    · obtain ⟨c, r, e, hc⟩ := ih (n / 10) (by omega) (by omega)
      exact ⟨c, r ++ [48 + n % 10], by rw [numL_step (by omega), e]; rfl, hc⟩
theorem number_of_ok {n : Nat} (hn : n < 10 ^ 60) {u : PuS} {P : D → PuS → Prop} (h : P (.int n) u) : Ok (mf_number_of [.str (nT n)]) u P := by
  have hl : (numL n).length ≤ 60 := numL_len (by decide) hn
  have hd := numL_digits n
  have ht := tl_nT n
  have hi : PySem.intText? (nT n) = some (n : Int) := int_num (by omega)
  unfold mf_number_of mb_number_of
  rw [ok_fn]
  refine seq_go fun K R hK hR => ?_
  simp [str_eqD (nT_as n) asE]
  have hne : nT n ≠ Str.ofString "" := fun z => by
    have := congrArg (fun x : Str => x.cps.toList) z
    have h2 : numL n = [] := by rw [← ht]; exact this
    exact numL_ne n h2
  rw [decide_eq_false hne]
  simp only [br_f]
  have hit : itD (.str (nT n)) = some ((numL n).map fun c => D.str ⟨#[c]⟩) := by
    show some ((nT n).cps.toList.map fun c => D.str ⟨#[c]⟩) = _
    rw [ht]
  refine ⟨_, hit, by rw [List.length_map]; omega, ?_⟩
  refine ok_lca (fun c : Nat => [.sh (.str (nT n)), .sh (.str ⟨#[c]⟩)]) (fun c => .bl true) (fun c hc => rfl) (fun c hc => ?_) ?_
  · have hcd := hd c hc
    have e : inD (.str ⟨#[c]⟩) (.str "0123456789") = some (.bl true) := by
      show some (D.bl (decide (c ∈ (Str.ofString "0123456789").cps.toList))) = _
      have : c ∈ (Str.ofString "0123456789").cps.toList := by
        have e10 : (Str.ofString "0123456789").cps.toList = [48, 49, 50, 51, 52, 53, 54, 55, 56, 57] := by decide
        rw [e10]
        have h1 := hcd.1
        have h2 := hcd.2
        simp only [List.mem_cons, List.not_mem_nil, or_false]
        omega
      rw [decide_eq_true this]
    unfold ce_number_of_1
    simp [e]
  have ea : ∀ l : List Nat, allD [.lst (l.map fun _ => D.bl true)] = some (.bl true) := fun l => by
    have e2 : l.map (fun _ => D.bl true) = (l.map fun _ => true).map D.bl := by rw [List.map_map]; rfl
    rw [e2]
    show (blsD _).map (fun bs => D.bl (bs.all id)) = _
    rw [blsD_map]
    simp
  rw [ea]
  refine ⟨_, rfl, _, rfl, ?_⟩
  simp only [br_t]
  refine hK _ _ ?_
  clear hK hR K R
  have e3 : intSD [.str (nT n)] = some (.int n) := by
    show (match PySem.intText? (nT n) with | some m => if (nT n).length ≤ 640 then some (D.int m) else none | none => none) = _
    rw [hi]
    show (if (nT n).length ≤ 640 then some (D.int n) else none) = _
    rw [if_pos (by rw [nT_len]; omega)]
  simp [str_eqD (nT_as n) as0, e3]
  refine brd (fun _ => h) (fun h0 => ?_)
  have hn0 : 0 < n := by
    rcases Nat.eq_zero_or_pos n with z | z
    · subst z
      exact absurd rfl h0
    · exact z
  obtain ⟨c, r, e, hc⟩ := numL_head hn0
  have hix : ixD (.str (nT n)) (.int 0) = some (.str ⟨#[c]⟩) := by
    show (if (nT n).length ≤ 10000000 then (atI (nT n).cps.toList 0).map (fun c => D.str ⟨#[c]⟩) else none) = _
    rw [if_pos (by rw [nT_len]; omega), ht, e]
    have : atI (c :: r) 0 = some c := at_nat (k := 0) rfl
    rw [this]
    rfl
  have hca : As ⟨#[c]⟩ := fun d hd' => by
    have : d = c := by simpa using hd'
    have := hd c (by rw [e]; exact List.mem_cons_self)
    omega
  refine ⟨_, hix, _, str_neD hca as0, _, rfl, ?_⟩
  have : (⟨#[c]⟩ : Str) ≠ "0" := fun z => by
    have := congrArg (fun x : Str => x.cps.toList) z
    have h2 : [c] = [48] := this
    injection h2 with h2
    exact hc h2
  rw [decide_eq_false this]
  exact h
theorem len_tl (x : Str) : x.length = x.cps.toList.length := Array.length_toList.symm
theorem cutS_to1 (x : Str) : (cutS x none (some 1)).cps.toList = x.cps.toList.take 1 := by
  unfold cutS
  rw [show (1 : Int) = ((1 : Nat) : Int) from rfl, HT.sIx_nat, HT.sIx_none, len_tl]
  simp only [List.drop_zero, Nat.sub_zero]
  rcases Nat.le_total 1 x.cps.toList.length with h | h
  · rw [Nat.min_eq_left h]
  · rw [Nat.min_eq_right h, List.take_of_length_le (Nat.le_refl _), List.take_of_length_le h]
theorem cutS_from1 (x : Str) : cutS x (some 1) none = ⟨(x.cps.toList.drop 1).toArray⟩ := by
  unfold cutS
  rw [show (1 : Int) = ((1 : Nat) : Int) from rfl, HT.sIx_nat, HT.sIx_none, len_tl]
  congr 2
  rcases Nat.le_total 1 x.cps.toList.length with h | h
  · rw [Nat.min_eq_left h]
    exact List.take_of_length_le (by simp)
  · rw [Nat.min_eq_right h, List.drop_eq_nil_of_le (Nat.le_refl _), List.drop_eq_nil_of_le h]
    simp
/-- the text of a card -/
def cT (b l : Nat) : Str := Txt.join "/" [nT b, nT l]
theorem tl_cT (b l : Nat) : (cT b l).cps.toList = numL b ++ (47 :: numL l) := by
  show tl (Txt.join "/" [nT b, nT l]) = _
  rw [TL.join_eq, tl_join]
  show tl (nT b) ++ ([47] ++ tl (nT l)) = _
  rw [show tl (nT b) = numL b from tl_nT b, show tl (nT l) = numL l from tl_nT l]
  rfl
theorem split_cT (b l : Nat) : Txt.split (cT b l) "/" = [nT b, nT l] :=
  TL.split_join (y := "/") (s := 47) (S := []) rfl (by decide +kernel) (by simp) fun p hp => by
    rcases List.mem_cons.mp hp with rfl | hp
    · rw [show tl (nT b) = numL b from tl_nT b]; exact numL_free (by omega)
    · rw [List.mem_singleton.mp hp, show tl (nT l) = numL l from tl_nT l]; exact numL_free (by omega)
theorem isi_str (x : Str) : isiD [.str x, .ty "str"] = some (.bl true) := rfl
theorem card_of_ok {b l : Nat} (hb : b < 10 ^ 60) (hl : l < 10 ^ 60) (h1 : 1 ≤ l) (h24 : b ≤ 24 * l) {u : PuS} {P : D → PuS → Prop} (h : P (cardD (b, l)) u) : Ok (mf_card_of [.str (cT b l)]) u P := by
  have lb : (numL b).length ≤ 60 := numL_len (by decide) hb
  have ll : (numL l).length ≤ 60 := numL_len (by decide) hl
  have lc : (cT b l).length ≤ 130 := by
    rw [len_tl, tl_cT]
    simp
    omega
  have es : splD (cT b l) (.str "/") = some (.lst ([nT b, nT l].map D.str)) := by
    show (if _ then some (D.lst ((Txt.split (cT b l) "/").map D.str)) else none) = _
    rw [if_pos ⟨by decide, by omega⟩, split_cT]
  unfold mf_card_of mb_card_of
  rw [ok_fn]
  refine seq_go fun K R hK hR => ?_
  simp [isi_str]
  refine hK _ _ ?_
  clear hK hR K R
  refine seq_go fun K R hK hR => ?_
  simp [mBorLs, ok_S1]
  refine ⟨_, es, ?_⟩
  simp [ce_card_of_1]
  rw [show [D.str (nT b), D.str (nT l)] = [b, l].map (fun n => D.str (nT n)) from rfl]
  refine ok_lca (fun n : Nat => [.sh (.str (cT b l)), .un, .un, .un, .sh (.str (nT n))]) (fun n => .int n) (fun n hn => rfl) (fun n hn => ?_) ?_
  · simp
    refine number_of_ok ?_ ⟨rfl, rfl⟩
    simp at hn
    rcases hn with rfl | rfl
    · exact hb
    · exact hl
  refine hK _ _ ?_
  clear hK hR K R
  have e0 : atI [D.int (b : Nat), D.int (l : Nat)] 0 = some (.int b) := at_nat (k := 0) rfl
  have e1 : atI [D.int (b : Nat), D.int (l : Nat)] 1 = some (.int l) := at_nat (k := 1) rfl
  have i0 : ∀ n : Nat, isD (.int (n : Int)) .non = some (.bl false) := fun n => rfl
  refine seq_go fun K R hK hR => ?_
  simp [e0, e1, i0]
  refine hK _ _ ?_
  clear hK hR K R
  refine seq_go fun K R hK hR => ?_
  simp
  refine hK _ _ ?_
  clear hK hR K R
  simp
  refine brd (fun _ => ?_) (fun z => by omega)
  refine brd (fun _ => ?_) (fun z => by omega)
  exact card_init (by omega) (by omega) (by omega) h
/-- the text of an event -/
def eT : Ev → Str
  | .inl x => nT x.toNat
  | .inr q => ⟨(43 :: (numL q.1.toNat ++ (47 :: numL q.2.toNat))).toArray⟩
def evB : Ev → Prop
  | .inl x => 0 ≤ x ∧ x < 10 ^ 60
  | .inr q => 1 ≤ q.2 ∧ 0 ≤ q.1 ∧ q.1 ≤ 24 * q.2 ∧ q.1 < 10 ^ 60 ∧ q.2 < 10 ^ 60
theorem pow60 {x : Int} (h0 : 0 ≤ x) (h : x < 10 ^ 60) : x.toNat < 10 ^ 60 := by
  have e1 : (10 : Int) ^ 60 = 1000000000000000000000000000000000000000000000000000000000000 := by decide
  have e2 : (10 : Nat) ^ 60 = 1000000000000000000000000000000000000000000000000000000000000 := by decide
  rw [e1] at h
  rw [e2]
  omega
theorem as1 : As "+" := by unfold As; decide
theorem event_of_ok {e : Ev} (he : evB e) {u : PuS} {P : D → PuS → Prop} (h : P (evD e) u) : Ok (mf_event_of [.str (eT e)]) u P := by
  unfold mf_event_of mb_event_of
  rw [ok_fn]
  refine seq_go fun K R hK hR => ?_
  cases e with
  | inl x =>
    have hn := pow60 he.1 he.2
    have hl : (numL x.toNat).length ≤ 60 := numL_len (by decide) hn
    have es : slD (.str (eT (.inl x))) none (some 1) = some (.str (cutS (nT x.toNat) none (some 1))) := if_pos (by show (nT x.toNat).length ≤ _; rw [nT_len]; omega)
    have hne : cutS (nT x.toNat) none (some 1) ≠ "+" := fun z => by
      have h1 := congrArg (fun x : Str => x.cps.toList) z
      have h2 : (numL x.toNat).take 1 = [43] := by rw [← tl_nT, ← cutS_to1]; exact h1
      have h3 : 43 ∈ numL x.toNat := List.mem_of_mem_take (i := 1) (by rw [h2]; exact List.mem_cons_self)
      exact numL_free (by omega) h3
    have has : As (cutS (nT x.toNat) none (some 1)) := fun c hc => by
      rw [cutS_to1] at hc
      exact nT_as _ c (List.mem_of_mem_take hc)
    simp [es, str_eqD has as1, hne]
    refine hK _ _ ?_
    simp
    refine number_of_ok hn ?_
    have : ((x.toNat : Nat) : Int) = x := by have := he.1; omega
    rw [this]
    exact h
  | inr q =>
    obtain ⟨q1, q2, q3, q4, q5⟩ := he
    have hb := pow60 q2 q4
    have hl := pow60 (by omega) q5
    have lb : (numL q.1.toNat).length ≤ 60 := numL_len (by decide) hb
    have ll : (numL q.2.toNat).length ≤ 60 := numL_len (by decide) hl
    have htl : (eT (.inr q)).cps.toList = 43 :: (numL q.1.toNat ++ (47 :: numL q.2.toNat)) := rfl
    have hlen : (eT (.inr q)).length ≤ 10000000 := by
      rw [len_tl, htl]
      simp
      omega
    have es : slD (.str (eT (.inr q))) none (some 1) = some (.str "+") := by
      show (if _ then some (D.str (cutS (eT (.inr q)) none (some 1))) else none) = _
      rw [if_pos hlen]
      have : cutS (eT (.inr q)) none (some 1) = "+" := TL.ext_tl (by
        show (cutS (eT (.inr q)) none (some 1)).cps.toList = _
        rw [cutS_to1, htl]
        rfl)
      rw [this]
    have es2 : slD (.str (eT (.inr q))) (some 1) none = some (.str (cT q.1.toNat q.2.toNat)) := by
      show (if _ then some (D.str (cutS (eT (.inr q)) (some 1) none)) else none) = _
      rw [if_pos hlen]
      congr 2
      refine TL.ext_tl ?_
      show (cutS (eT (.inr q)) (some 1) none).cps.toList = (cT q.1.toNat q.2.toNat).cps.toList
      rw [cutS_from1, htl, tl_cT, List.drop_succ_cons, List.drop_zero]
    simp [es, es2, str_eqD as1 as1]
    refine card_of_ok hb hl (by omega) (by omega) (hR _ _ ?_)
    have e1 : ((q.1.toNat : Nat) : Int) = q.1 := by omega
    have e2 : ((q.2.toNat : Nat) : Int) = q.2 := by omega
    rw [e1, e2]
    exact h
theorem eT_free {e : Ev} : 32 ∉ (eT e).cps.toList := by
  cases e with
  | inl x =>
    show 32 ∉ (nT x.toNat).cps.toList
    rw [tl_nT]
    exact numL_free (by omega)
  | inr q =>
    show 32 ∉ 43 :: (numL q.1.toNat ++ (47 :: numL q.2.toNat))
    intro h
    rcases List.mem_cons.mp h with h | h
    · cases h
    · rcases List.mem_append.mp h with h | h
      · exact numL_free (by omega) h
      · rcases List.mem_cons.mp h with h | h
        · cases h
        · exact numL_free (by omega) h
theorem eT_as {e : Ev} : As (eT e) := by
  cases e with
  | inl x => exact nT_as _
  | inr q =>
    intro c hc
    have hc : c ∈ 43 :: (numL q.1.toNat ++ (47 :: numL q.2.toNat)) := hc
    rcases List.mem_cons.mp hc with h | h
    · omega
    · rcases List.mem_append.mp h with h | h
      · have := numL_digits _ c h; omega
      · rcases List.mem_cons.mp h with h | h
        · omega
        · have := numL_digits _ c h; omega
theorem eT_len {e : Ev} (h : evB e) : (eT e).length ≤ 130 := by
  cases e with
  | inl x =>
    show (nT x.toNat).length ≤ 130
    rw [nT_len]
    have := numL_len (k := 60) (by decide) (pow60 h.1 h.2)
    omega
  | inr q =>
    obtain ⟨q1, q2, q3, q4, q5⟩ := h
    have h1 := numL_len (k := 60) (by decide) (pow60 q2 q4)
    have h2 := numL_len (k := 60) (by decide) (pow60 (by omega) q5)
    rw [len_tl]
    show (43 :: (numL q.1.toNat ++ (47 :: numL q.2.toNat))).length ≤ 130
    simp
    omega
theorem eT_ne {e : Ev} : (eT e).cps.toList ≠ [] := by
  cases e with
  | inl x =>
    show (nT x.toNat).cps.toList ≠ []
    rw [tl_nT]
    exact numL_ne _
  | inr q => exact fun z => by cases z
/-- the text of a course -/
def coT (evs : List Ev) : Str := Txt.join " " (evs.map eT)
theorem coT_as (evs : List Ev) : As (coT evs) := by
  intro c hc
  have hc : c ∈ tl (Txt.join " " (evs.map eT)) := hc
  rw [TL.join_eq, tl_join] at hc
  have key : ∀ l : List Ev, c ∈ joinL [32] ((l.map eT).map tl) → c < 128 := by
    intro l
    induction l with
    | nil => intro h; cases h
    | cons a l ih =>
      intro h
      cases l with
      | nil => exact eT_as c h
      | cons b l =>
        have h : c ∈ tl (eT a) ++ ([32] ++ joinL [32] (((b :: l).map eT).map tl)) := h
        rcases List.mem_append.mp h with h | h
        · exact eT_as c h
        · rcases List.mem_append.mp h with h | h
          · have := List.mem_singleton.mp h; omega
          · exact ih h
  exact key evs hc
theorem coT_len {evs : List Ev} (h : ∀ e ∈ evs, evB e) (hl : evs.length ≤ 20) : (coT evs).length ≤ 3000 := by
  have h3 := StrLaws.join_length_le " " (evs.map eT)
  have : (Str.ofString " ").length = 1 := by decide
  rw [this, List.length_map] at h3
  have h4 : ((evs.map eT).map (·.length)).sum ≤ evs.length * 130 := by
    clear h3 hl
    induction evs with
    | nil => simp
    | cons a l ih =>
      have h5 := eT_len (h a List.mem_cons_self)
      have h6 := ih fun e he => h e (List.mem_cons_of_mem _ he)
      simp only [List.map_cons, List.sum_cons, List.length_cons, Nat.add_mul]
      omega
  have e : coT evs = Str.join " " (evs.map eT) := TL.join_eq _ _
  rw [e]
  omega
theorem coT_ne {evs : List Ev} : coT evs = "" ↔ evs = [] := by
  constructor
  · intro z
    cases evs with
    | nil => rfl
    | cons a l =>
      exfalso
      have h1 : tl (Txt.join " " ((a :: l).map eT)) = [] := by
        have := congrArg tl z
        exact this
      rw [TL.join_eq, tl_join] at h1
      cases l with
      | nil => exact eT_ne h1
      | cons b l =>
        have h1 : tl (eT a) ++ ([32] ++ joinL [32] (((b :: l).map eT).map tl)) = [] := h1
        simp at h1
  · rintro rfl; rfl
theorem course_of_ok {evs : List Ev} (he : ∀ e ∈ evs, evB e) (hk : EvsOk evs) {u : PuS} {P : D → PuS → Prop} (h : P (courD evs) u) : Ok (mf_course_of [.str (coT evs)]) u P := by
  have hl := hk.len
  have hlen := coT_len he (by omega)
  unfold mf_course_of mb_course_of
  rw [ok_fn]
  refine seq_go fun K R hK hR => ?_
  simp [isi_str]
  refine hK _ _ ?_
  clear hK hR K R
  refine seq_cut (fun ρ u' => u' = u ∧ ρ = [.sh (.str (coT evs)), .sh (.tup (evs.map evD)), .un]) ?_ ?_
  · simp [str_neD (coT_as evs) asE, ok_S1]
    cases evs with
    | nil =>
      have : coT [] = Str.ofString "" := rfl
      simp [this]
    | cons a l =>
      have hne : coT (a :: l) ≠ Str.ofString "" := fun z => by cases coT_ne.mp z
      have es : splD (coT (a :: l)) (.str " ") = some (.lst (((a :: l).map eT).map D.str)) := by
        show (if _ then some (D.lst ((Txt.split (coT (a :: l)) " ").map D.str)) else none) = _
        rw [if_pos ⟨by decide, by omega⟩]
        congr 3
        exact TL.split_join (y := " ") (s := 32) (S := []) rfl (by decide +kernel) (by simp) fun p hp => by
          obtain ⟨e, _, rfl⟩ := List.mem_map.mp hp
          exact eT_free
      generalize a :: l = evs at *
      simp [hne]
      refine ⟨_, es, _, rfl, ?_⟩
      refine ⟨by simp; omega, ?_⟩
      rw [List.map_map]
      refine ok_lca (f := D.str ∘ eT) (fun e : Ev => [.sh (.str (coT evs)), .un, .sh (.str (eT e))]) (fun e => evD e) (fun e hx => rfl) (fun e hx => ?_) ⟨rfl, rfl⟩
      unfold ce_course_of_1
      simp
      exact event_of_ok (he e hx) ⟨rfl, rfl⟩
  rintro ρ u' ⟨rfl, rfl⟩
  simp
  refine wrong_event_ok hk ?_
  have e0 : isD .non .non = some (.bl true) := rfl
  refine ⟨_, e0, _, rfl, ?_⟩
  simp only [br_t]
  exact cour_init hk h
theorem cread_ok {evs : List Ev} (he : ∀ e ∈ evs, evB e) (hk : EvsOk evs) {u : PuS} {P : D → PuS → Prop} (h : P (courD evs) u) : Ok (mf_Course_read [.cls "Course", .str (coT evs)]) u P := by
  unfold mf_Course_read mb_Course_read
  rw [ok_fn]
  refine seq_go fun K R hK hR => ?_
  simp
  refine course_of_ok he hk (hK _ _ ?_)
  clear hK hR K R
  have e0 : isD (courD evs) .non = some (.bl false) := rfl
  refine seq_go fun K R hK hR => ?_
  simp [e0]
  refine hK _ _ ?_
  simp
  exact h
theorem cardstr_ok {b l : Nat} (hb : b < 10 ^ 60) (hl : l < 10 ^ 60) {u : PuS} {P : D → PuS → Prop} (h : P (.str (cT b l)) u) : Ok (mf_Card___str__ [cardD (b, l)]) u P := by
  unfold mf_Card___str__ mb_Card___str__ cardD
  have lb : (numL b).length ≤ 60 := numL_len (by decide) hb
  have ll : (numL l).length ≤ 60 := numL_len (by decide) hl
  have lg : ∀ n : Nat, n < 10 ^ 60 → ((n : Nat) : Int).natAbs.log2 < 1920 := fun n hn => by
    have h2 : ((n : Nat) : Int).natAbs < 2 ^ 200 := by
      rw [Int.natAbs_natCast]
      exact Nat.lt_trans hn (by decide)
    have := log_of h2
    omega
  have f1 : fmtD (.int (b : Nat)) = some (.str (nT b)) := if_pos (lg b hb)
  have f2 : fmtD (.int (l : Nat)) = some (.str (nT l)) := if_pos (lg l hl)
  have e1 : Str.empty ++ nT b ++ Str.ofString "/" ++ nT l = cT b l := TL.ext_tl (by
    show tl _ = (cT b l).cps.toList
    rw [tl_append, tl_append, tl_append, tl_cT, show tl (nT b) = numL b from tl_nT b, show tl (nT l) = numL l from tl_nT l]
    have : tl (Str.ofString "/") = [47] := by decide
    have h0 : tl Str.empty = [] := rfl
    rw [this, h0]
    simp)
  have n1 := nT_len b
  have n2 := nT_len l
  have s1 : (Str.ofString "/").length = 1 := by decide
  have s0 : Str.empty.length = 0 := rfl
  simp
  refine ⟨_, f1, _, rfl, by rw [Str.length_append]; omega, by rw [Str.length_append, Str.length_append]; omega, _, f2, _, rfl, by rw [Str.length_append, Str.length_append, Str.length_append]; omega, ?_⟩
  rw [e1]
  exact h
theorem plus_cT (b l : Nat) : Str.empty ++ Str.ofString "+" ++ cT b l = ⟨(43 :: (numL b ++ (47 :: numL l))).toArray⟩ := TL.ext_tl (by
  show tl _ = 43 :: (numL b ++ (47 :: numL l))
  rw [tl_append, tl_append, show tl (cT b l) = _ from tl_cT b l]
  have : tl (Str.ofString "+") = [43] := by decide
  have h0 : tl Str.empty = [] := rfl
  rw [this, h0]
  rfl)
theorem cstr_ok {evs : List Ev} (he : ∀ e ∈ evs, evB e) (hl : evs.length ≤ 20) {u : PuS} {P : D → PuS → Prop} (h : P (.str (coT evs)) u) : Ok (mf_Course___str__ [courD evs]) u P := by
  unfold mf_Course___str__ mb_Course___str__ courD
  simp [ok_join]
  refine ⟨by omega, ?_⟩
  refine ok_lca (fun e : Ev => [.sh (.obj "Course" ["passed"] [.tup (evs.map evD)]), .sh (evD e)]) (fun e => .str (eT e)) (fun e hx => rfl) (fun e hx => ?_) ?_
  · have hb := he e hx
    unfold ce_Course___str___1
    cases e with
    | inl x =>
      have e1 : isiD [evD (.inl x), .cls "Card"] = some (.bl false) := rfl
      have hn := pow60 hb.1 hb.2
      have e2 : strID [evD (.inl x)] = some (.str (eT (.inl x))) := by
        show (if x.natAbs.log2 < 1920 then some (D.str (Str.ofString (toString x))) else none) = _
        have ex : ((x.toNat : Nat) : Int) = x := by have := hb.1; omega
        have h2 : x.natAbs < 2 ^ 200 := by
          have e : x.natAbs = x.toNat := by have := hb.1; omega
          rw [e]
          exact Nat.lt_trans hn (by decide)
        have := log_of h2
        rw [if_pos (by omega)]
        show some (D.str (Str.ofString (toString x))) = some (D.str (Str.ofString (toString ((x.toNat : Nat) : Int))))
        rw [ex]
      simp [e1, e2]
    | inr q =>
      obtain ⟨q1, q2, q3, q4, q5⟩ := hb
      have hb := pow60 q2 q4
      have hl2 := pow60 (by omega) q5
      have e1 : isiD [evD (.inr q), .cls "Card"] = some (.bl true) := rfl
      have ec : evD (.inr q) = cardD ((q.1.toNat : Nat), (q.2.toNat : Nat)) := by
        have e1 : ((q.1.toNat : Nat) : Int) = q.1 := by omega
        have e2 : ((q.2.toNat : Nat) : Int) = q.2 := by omega
        rw [e1, e2]
        rfl
      have lb : (numL q.1.toNat).length ≤ 60 := numL_len (by decide) hb
      have ll : (numL q.2.toNat).length ≤ 60 := numL_len (by decide) hl2
      have lc : (cT q.1.toNat q.2.toNat).length ≤ 130 := by
        rw [len_tl, tl_cT]
        simp
        omega
      have s1 : (Str.ofString "+").length = 1 := by decide
      have s0 : Str.empty.length = 0 := rfl
      simp [e1, ok_strO]
      refine ⟨by rw [Str.length_append]; omega, ?_⟩
      rw [ec]
      show Ok (if (Str.ofString "Card" : Str) = Str.ofString "Card" then mTxt mf_Card___str__ [cardD ((q.1.toNat : Nat), (q.2.toNat : Nat))] else lft none) u _
      rw [if_pos rfl, ok_txt]
      refine cardstr_ok hb hl2 ⟨_, rfl, _, rfl, by rw [Str.length_append, Str.length_append]; omega, ?_, rfl⟩
      exact plus_cT _ _
  have e3 : evs.map (fun e => D.str (eT e)) = (evs.map eT).map D.str := by rw [List.map_map]; rfl
  rw [e3]
  have h4 : ((evs.map eT).map (·.length)).sum ≤ evs.length * 130 := by
    clear e3 h hl
    induction evs with
    | nil => simp
    | cons a l ih =>
      have h5 := eT_len (he a List.mem_cons_self)
      have h6 := ih fun e hx => he e (List.mem_cons_of_mem _ hx)
      simp only [List.map_cons, List.sum_cons, List.length_cons, Nat.add_mul]
      omega
  refine ⟨.str (coT evs), ?_, h⟩
  show (strsD ((evs.map eT).map D.str)).bind _ = _
  rw [strsD_map]
  simp only [Option.bind_some]
  refine if_pos ?_
  have : (Str.ofString " ").length = 1 := by decide
  rw [this, List.length_map]
  omega
end Sh

set_option Elab.async false
set_option linter.all false
set_option maxRecDepth 100000
set_option maxHeartbeats 4000000
namespace G02
open PySem L2 Mi P20 Sh S1 TL
theorem log_big {n : Int} (h : 0 < n ∧ n < 1000000000000000000000000000000000000000000000000000000000000) : n.natAbs.log2 < 200 := by
  refine (Nat.log2_lt (by omega)).mpr ?_
  have : (2 : Nat) ^ 200 = 1606938044258990275541962092341162602522202993782792835301376 := by decide +kernel
  rw [this]
  omega
/-- a draw of a great range -/
theorem drawB_ok {n : Int} (hn : 0 < n ∧ n < 1000000000000000000000000000000000000000000000000000000000000) {u : PuS} (hu : Pu u) {P : D → PuS → Prop} (h : ∀ r u', 0 ≤ r → r < n → Pu u' → P (.int r) u') : Ok (mf__law_draw [.pur, .int n]) u P := by
  obtain ⟨x, s, c, rfl, h1, h2⟩ := hu
  unfold mf__law_draw mb__law_draw
  have hd : dmC x n = true := dmC_log hn.1 (by have := log_big hn; omega)
  simp [atI, ixN, hn.1, hd]
  have hh : ∀ k : Int, 0 ≤ k % n ∧ k % n < n := fun k => ⟨Int.emod_nonneg _ (by omega), Int.emod_lt_of_pos _ hn.1⟩
  refine brd (fun hx => ?_) (fun hx => ?_)
  · exact h _ _ (hh _).1 (hh _).2 ⟨_, _, _, rfl, h1, h2⟩
  · refine ⟨.inl (.inl (by omega)), h _ _ (hh _).1 (hh _).2 ⟨_, _, _, rfl, ?_, ?_⟩⟩
    all_goals omega
/-- a card's numbers -/
structure Cd (q : Int × Int) : Prop where
  l1 : 1 ≤ q.2
  b0 : 0 ≤ q.1
  le : q.1 ≤ 24 * q.2
  lb : q.2 ≤ big + 1
theorem pair_ok {u : PuS} (hu : Pu u) {P : D → PuS → Prop} (h : ∀ q u', Cd q → q.2 ≤ big → Pu u' → P (prD q) u') : Ok (mf__law_pair [.pur]) u P := by
  unfold mf__law_pair mb__law_pair
  rw [ok_fn]
  refine seq_go fun K R hK hR => ?_
  simp
  refine draw_ok (by decide) hu fun w u1 w0 w1 hu1 => ?_
  refine draw_ok (by decide) hu1 fun c u2 c0 c1 hu2 => ?_
  refine ⟨_, rfl, hK _ _ ?_⟩
  clear hK hR K R
  refine seq_cut (fun ρ u' => Pu u' ∧ ∃ (l : Int) (a : Sd), 1 ≤ l ∧ l ≤ big ∧ ρ = [.sh .pur, a, .sh (.int l)]) ?_ ?_
  · simp
    refine brd (fun z => ?_) (fun z => ?_)
    · refine large_big hu2 fun r u3 r0 r1 hu3 => ?_
      exact ⟨_, rfl, hu3, 1 + r, by omega, by omega, rfl⟩
    · exact ⟨hu2, by omega, by unfold big; omega⟩
  rintro ρ u ⟨hu, l, a, l1, lb, rfl⟩
  refine seq_go fun K R hK hR => ?_
  simp
  refine draw_ok (by decide) hu fun w u1 w0 w1 hu1 => hK _ _ ?_
  clear hK hR K R
  have bg : big = 1000000000000000000000000000000 := rfl
  refine seq_go fun K R hK hR => ?_
  simp
  refine brd (fun z => ?_) (fun z => ?_)
  · have m24 : mulC 24 l = true := mulC_l (by omega)
    have hw : w = 0 ∨ w = 1 ∨ w = 2 ∨ w = 3 := by omega
    have fin : ∀ x : Int, 0 ≤ x → x ≤ 24 * l → P (.tup [.int x, .int l]) u1 := fun x h0 h1 => h (x, l) u1 ⟨l1, h0, h1, by show l ≤ big + 1; omega⟩ lb hu1
    rcases hw with rfl | rfl | rfl | rfl
    · refine ⟨_, at_nat (k := 0) rfl, hR _ _ (fin _ (by omega) (by omega))⟩
    · refine ⟨_, at_nat (k := 1) rfl, hR _ _ (fin _ (by omega) (by omega))⟩
    · refine ⟨_, at_nat (k := 2) rfl, hR _ _ (fin _ (by omega) (by omega))⟩
    · refine ⟨_, at_nat (k := 3) rfl, hR _ _ (fin _ (by omega) (by omega))⟩
  refine hK _ _ ?_
  clear hK hR K R
  have fin : ∀ (x : Int) (u' : PuS), 0 ≤ x → x ≤ 24 * l → Pu u' → P (.tup [.int x, .int l]) u' := fun x u' h0 h1 hu' => h (x, l) u' ⟨l1, h0, h1, by show l ≤ big + 1; omega⟩ lb hu'
  simp
  refine brd (fun z => ?_) (fun z => ?_)
  · refine large_big hu1 fun r u3 r0 r1 hu3 => ?_
    simp
    have hh : 0 ≤ r % (24 * l + 1) ∧ r % (24 * l + 1) < 24 * l + 1 := ⟨Int.emod_nonneg _ (by omega), Int.emod_lt_of_pos _ (by omega)⟩
    exact ⟨by omega, fin _ _ hh.1 (by omega) hu3⟩
  · refine drawB_ok (by rw [bg] at lb; omega) hu1 fun r u3 r0 r1 hu3 => ?_
    exact fin _ _ r0 (by omega) hu3

structure CdN (q : Nat × Nat) : Prop where
  l1 : 1 ≤ q.2
  le : q.1 ≤ 24 * q.2
  lb : q.2 ≤ 1000000000000000000000000000001
def pD (q : Nat × Nat) : D := .tup [.int (q.1 : Int), .int (q.2 : Int)]
def cD (q : Nat × Nat) : D := cardD ((q.1 : Int), (q.2 : Int))
theorem pairN_ok {u : PuS} (hu : Pu u) {P : D → PuS → Prop} (h : ∀ (q : Nat × Nat) u', CdN q → q.2 ≤ 1000000000000000000000000000000 → Pu u' → P (pD q) u') : Ok (mf__law_pair [.pur]) u P :=
  pair_ok hu fun q u' c hb hu' => by
    obtain ⟨b, l⟩ := q
    obtain ⟨h1, h2, h3, h4⟩ := c
    have bg : big = 1000000000000000000000000000000 := rfl
    simp only [bg] at h1 h2 h3 h4 hb
    have e1 : ((b.toNat : Nat) : Int) = b := by omega
    have e2 : ((l.toNat : Nat) : Int) = l := by omega
    have := h (b.toNat, l.toNat) u' ⟨by show 1 ≤ l.toNat; omega, by show b.toNat ≤ 24 * l.toNat; omega, by show l.toNat ≤ _; omega⟩ (by show l.toNat ≤ _; omega) hu'
    unfold pD at this
    simp only [e1, e2] at this
    exact this
theorem CdN.b60 {q : Nat × Nat} (h : CdN q) : q.1 < 10 ^ 60 := by
  have := h.le
  have := h.lb
  have e : (10 : Nat) ^ 60 = 1000000000000000000000000000000000000000000000000000000000000 := by decide
  omega
theorem CdN.l60 {q : Nat × Nat} (h : CdN q) : q.2 < 10 ^ 60 := by
  have := h.lb
  have e : (10 : Nat) ^ 60 = 1000000000000000000000000000000000000000000000000000000000000 := by decide
  omega
theorem strI {x : Nat} (h : x < 10 ^ 60) : strID [.int (x : Int)] = some (.str (nT x)) := by
  refine if_pos ?_
  rw [Int.natAbs_natCast]
  have h2 : x < 2 ^ 200 := Nat.lt_trans h (by decide)
  by_cases z : x = 0
  · subst z; decide
  · have := (Nat.log2_lt z).mpr h2
    omega
theorem fmtI {x : Nat} (h : x < 10 ^ 60) : fmtD (.int (x : Int)) = some (.str (nT x)) := strI h
theorem line_eq (b l : Nat) : nT b ++ Str.ofString "/" ++ nT l = cT b l := TL.ext_tl (by
  show TL.tl _ = TL.tl _
  rw [TL.tl_append, TL.tl_append, show TL.tl (nT b) = numL b from tl_nT _, show TL.tl (nT l) = numL l from tl_nT _, show TL.tl (cT b l) = _ from tl_cT b l]
  have h1 : TL.tl (Str.ofString "/") = [47] := by decide
  rw [h1]
  simp)
theorem nlen {x : Nat} (h : x < 10 ^ 60) : (nT x).length ≤ 60 := by
  rw [nT_len]
  exact TL.numL_len (by decide) h
theorem clen {q : Nat × Nat} (h : CdN q) : (cT q.1 q.2).length ≤ 121 := by
  rw [← line_eq, Str.length_append, Str.length_append]
  have := nlen h.b60
  have := nlen h.l60
  have p1 : (Str.ofString "/").length = 1 := by decide
  omega
theorem as_cT (b l : Nat) : As (cT b l) := fun c hc => by
  rw [tl_cT] at hc
  rcases List.mem_append.mp hc with hc | hc
  · have := nT_as b c
    rw [tl_nT] at this
    exact this hc
  · rcases List.mem_cons.mp hc with rfl | hc
    · decide
    · have := nT_as l c
      rw [tl_nT] at this
      exact this hc
theorem line_ok {q : Nat × Nat} (h : CdN q) {Q : D → Prop} (k : Q (.str (cT q.1 q.2))) : ∃ z, strID [.int (q.1 : Int)] = some z ∧ ∃ y, addD z (.str (Str.ofString "/")) = some y ∧ ∃ x, strID [.int (q.2 : Int)] = some x ∧ ∃ w, addD y x = some w ∧ Q w := by
  have := nlen h.b60
  have := nlen h.l60
  have p1 : (Str.ofString "/").length = 1 := by decide
  refine ⟨_, strI h.b60, _, if_pos (by omega), _, strI h.l60, _, if_pos (by rw [Str.length_append]; omega), ?_⟩
  rw [line_eq]
  exact k
theorem isCard {d : D} (h : (tyN d).isSome = true) (k : Str) : isiD [d, .cls k] = some (.bl false) := by
  cases d <;> first | rfl | cases h
theorem rgtT {d : D} (h : (tyN d).isSome = true) (k : Str) (ks : List Str) : rgtB k ks d = true := by
  cases d <;> first | rfl | cases h
theorem ceq_ok {q r : Nat × Nat} {u : PuS} {P : D → PuS → Prop} (h : P (.bl (decide (q = r))) u) : Ok (mf_Card___eq__ [cD q, cD r]) u P := by
  unfold mf_Card___eq__ mb_Card___eq__ cD cardD
  have e1 : isiD [.obj "Card" ["held", "daily"] [.int (r.1 : Int), .int (r.2 : Int)], .cls "Card"] = some (.bl true) := rfl
  have e2 : decide (q = r) = (decide (q.1 = r.1) && decide (q.2 = r.2)) := by rw [Bool.eq_iff_iff]; simp [Prod.ext_iff]
  rw [e2] at h
  simp [e1]
  refine brd (fun z => ?_) (fun z => ?_)
  · have z1 : q.1 = r.1 := by omega
    have e3 : decide ((q.2 : Int) = r.2) = decide (q.2 = r.2) := by rw [Bool.eq_iff_iff]; simp; omega
    rw [e3]
    simpa [z1] using h
  · have z1 : ¬ q.1 = r.1 := by omega
    simpa [z1] using h
theorem ceqF_ok {q : Nat × Nat} {d : D} (hd : (tyN d).isSome = true) {u : PuS} {P : D → PuS → Prop} (h : P (.bl false) u) : Ok (mf_Card___eq__ [cD q, d]) u P := by
  unfold mf_Card___eq__ mb_Card___eq__
  simp [isCard hd]
  exact h
theorem cinit {q : Nat × Nat} (h : CdN q) {u : PuS} {P : List Str × List D → PuS → Prop} (k : P (["held", "daily"], [.int (q.1 : Int), .int (q.2 : Int)]) u) : Ok (mf_Card___init__ [.int (q.1 : Int), .int (q.2 : Int)]) u P :=
  card_init (by have := h.l1; omega) (by omega) (by have := h.le; omega) k
theorem cread {q : Nat × Nat} (h : CdN q) {u : PuS} {P : D → PuS → Prop} (k : P (cD q) u) : Ok (mf_Card_read [.cls "Card", .str (cT q.1 q.2)]) u P := by
  unfold mf_Card_read mb_Card_read
  simp
  refine card_of_ok h.b60 h.l60 h.l1 h.le ?_
  have e1 : isD (cardD ((q.1 : Int), (q.2 : Int))) .non = some (.bl false) := rfl
  simp [e1]
  exact k
theorem made_ok {q : Nat × Nat} (h : CdN q) {u : PuS} (hu : Pu u) {P : D → PuS → Prop} (k : ∀ u', Pu u' → P (cD q) u') : Ok (mf__law_made [.pur, .int (q.1 : Int), .int (q.2 : Int)]) u P := by
  unfold mf__law_made mb__law_made
  rw [ok_fn]
  refine seq_go fun K R hK hR => ?_
  simp
  refine draw_ok (by decide) hu fun w u1 w0 w1 hu1 => ?_
  refine line_ok h ?_
  refine hK _ _ ?_
  clear hK hR K R
  have eC : D.obj "Card" ["held", "daily"] [.int (q.1 : Int), .int (q.2 : Int)] = cD q := rfl
  have g1 : gI [1, 0] [] [D.int (q.2 : Int), .int (q.1 : Int)] = [D.int (q.1 : Int), .int (q.2 : Int)] := rfl
  have g2 : gI [0, 1] [] [D.int (q.1 : Int), .int (q.2 : Int)] = [D.int (q.1 : Int), .int (q.2 : Int)] := rfl
  have g3 : gI [0, 1] [D.int (q.1 : Int)] [D.int (q.2 : Int)] = [D.int (q.1 : Int), .int (q.2 : Int)] := rfl
  have g4 : gI [0, 1] [D.cls "Card"] [D.str (cT q.1 q.2)] = [D.cls "Card", D.str (cT q.1 q.2)] := rfl
  have fin := k u1 hu1
  refine seq_go fun K R hK hR => ?_
  simp
  refine brd (fun z => ?_) (fun z => ?_)
  · refine brd (fun z => ?_) (fun z => ?_)
    · refine cinit h ?_
      exact hR _ _ fin
    · simp [g1]
      refine cinit h ?_
      exact hR _ _ fin
  refine hK _ _ ?_
  clear hK hR K R
  refine seq_go fun K R hK hR => ?_
  simp
  refine brd (fun z => ?_) (fun z => ?_)
  · refine brd (fun z => ?_) (fun z => ?_)
    · simp [g3]
      refine cinit h ?_
      exact hR _ _ fin
    · simp [g2]
      refine cinit h ?_
      exact hR _ _ fin
  refine hK _ _ ?_
  clear hK hR K R
  simp [g4]
  refine brd (fun z => ?_) (fun z => ?_)
  · refine cread h ?_
    exact fin
  · refine cread h ?_
    exact fin

def rT (q : Nat × Nat) : Str := Str.ofString "Card " ++ cT q.1 q.2
theorem rlen {q : Nat × Nat} (h : CdN q) : (rT q).length ≤ 126 := by
  have := clen h
  have p1 : (Str.ofString "Card ").length = 5 := by decide
  unfold rT
  rw [Str.length_append]
  omega
theorem e0 (s : Str) : Str.empty ++ s = s := TL.ext_tl (by rw [TL.tl_append]; rfl)
theorem repr_ok {q : Nat × Nat} (h : CdN q) {u : PuS} {P : D → PuS → Prop} (k : P (.str (rT q)) u) : Ok (mf_Card___repr__ [cD q]) u P := by
  unfold mf_Card___repr__ mb_Card___repr__ cD cardD
  have := nlen h.b60
  have := nlen h.l60
  have p1 : (Str.ofString "/").length = 1 := by decide
  have p2 : (Str.ofString "Card ").length = 5 := by decide
  have e : Str.ofString "Card " ++ nT q.1 ++ Str.ofString "/" ++ nT q.2 = rT q := by
    unfold rT
    rw [← line_eq]
    exact TL.ext_tl (by
      show TL.tl _ = TL.tl _
      simp only [TL.tl_append, List.append_assoc])
  simp [e0, fmtI h.b60, fmtI h.l60]
  refine ⟨by omega, by rw [Str.length_append]; omega, by rw [Str.length_append, Str.length_append]; omega, by rw [Str.length_append, Str.length_append, Str.length_append]; omega, ?_⟩
  rw [e]
  exact k
theorem as_rT (q : Nat × Nat) : As (rT q) := fun c hc => by
  unfold rT at hc
  have h1 : TL.tl (Str.ofString "Card ") = [67, 97, 114, 100, 32] := by decide
  have h2 : TL.tl (Str.ofString "Card " ++ cT q.1 q.2) = [67, 97, 114, 100, 32] ++ (cT q.1 q.2).cps.toList := by rw [TL.tl_append, h1]
  have hc' : c ∈ TL.tl (Str.ofString "Card " ++ cT q.1 q.2) := hc
  rw [h2] at hc'
  rcases List.mem_append.mp hc' with hc' | hc'
  · simp at hc'
    omega
  · exact as_cT _ _ c hc'
theorem rp_str {s : Str} {m : Nat} (h : As s) (hl : s.length ≤ m) : Rp 0 (10 * m + 2) (.str s) := ⟨.str s, rfl, rfl, rfl, Nat.le_refl _, by
  have := PySem.StrLaws.reprText_len s (fun c hc => Nat.lt_trans (h c hc) (by decide))
  show (PySem.reprText s).length ≤ _
  omega⟩
theorem str_ok {q : Nat × Nat} (h : CdN q) {u : PuS} {P : D → PuS → Prop} (k : P (.str (cT q.1 q.2)) u) : Ok ((match cD q with
  | .obj c ks ds => if c = Str.ofString "Card" then mTxt mf_Card___str__ [.obj c ks ds] else lft none
  | _ => lft none : M D)) u P := by
  show Ok (if (Str.ofString "Card" : Str) = Str.ofString "Card" then mTxt mf_Card___str__ [cD q] else lft none) u P
  rw [if_pos rfl, ok_txt]
  exact cardstr_ok h.b60 h.l60 ⟨_, rfl, k⟩
theorem rep_ok {q : Nat × Nat} (h : CdN q) {u : PuS} {P : D → PuS → Prop} (k : P (.str (rT q)) u) : Ok ((match cD q with
  | .obj c ks ds => if c = Str.ofString "Card" then mTxt mf_Card___repr__ [.obj c ks ds] else lft none
  | .non => M.pure (.str "None")
  | .bl b => M.pure (.str (bTx b))
  | _ => lft none : M D)) u P := by
  show Ok (if (Str.ofString "Card" : Str) = Str.ofString "Card" then mTxt mf_Card___repr__ [cD q] else lft none) u P
  rw [if_pos rfl, ok_txt]
  exact repr_ok h ⟨_, rfl, k⟩
theorem shown_ok {q : Nat × Nat} (h : CdN q) {u : PuS} {P : D → PuS → Prop} (k : P (.bl true) u) : Ok (mf__law_shown [cD q, .int (q.1 : Int), .int (q.2 : Int)]) u P := by
  unfold mf__law_shown mb__law_shown
  rw [ok_fn]
  refine seq_go fun K R hK hR => ?_
  simp
  refine line_ok h ?_
  refine hK _ _ ?_
  clear hK hR K R
  refine seq_go fun K R hK hR => ?_
  have p2 : (Str.ofString "Card ").length = 5 := by decide
  have cl := clen h
  have a1 : addD (.str (Str.ofString "Card ")) (.str (cT q.1 q.2)) = some (.str (rT q)) := if_pos (by omega)
  simp [a1]
  refine hK _ _ ?_
  clear hK hR K R
  have exc : (∃ ks ds, cD q = .obj "Card" ks ds) ↔ True := ⟨fun _ => trivial, fun _ => ⟨_, _, rfl⟩⟩
  have cb : ∀ {P : D → PuS → Prop} {u : PuS}, P (.int (q.1 : Int)) u → Ok (mf_Card_balance [cD q]) u P := fun {P u} h => by
    unfold mf_Card_balance mb_Card_balance cD cardD
    simp
    exact h
  have cl : ∀ {P : D → PuS → Prop} {u : PuS}, P (.int (q.2 : Int)) u → Ok (mf_Card_limit [cD q]) u P := fun {P u} h => by
    unfold mf_Card_limit mb_Card_limit cD cardD
    simp
    exact h
  obtain ⟨t, ht⟩ := rep_is (d := .lst [.int (q.1 : Int), .int (q.2 : Int), .str (cT q.1 q.2), .str (rT q), .bl true]) rfl (Rp.lst (k := 0) (n := 1262) fun d hd => by
    have hb := h.b60
    have hl := h.l60
    simp at hd
    rcases hd with rfl | rfl | rfl | rfl | rfl
    · exact (Rp.int (by rw [Int.natAbs_natCast]; exact hb)).mono (Nat.le_refl _) (by decide)
    · exact (Rp.int (by rw [Int.natAbs_natCast]; exact hl)).mono (Nat.le_refl _) (by decide)
    · exact (rp_str (as_cT _ _) (clen h)).mono (Nat.le_refl _) (by decide)
    · exact (rp_str (as_rT _) (rlen h)).mono (Nat.le_refl _) (by decide)
    · exact (Rp.bl true).mono (Nat.le_refl _) (by decide)) (by decide) (by simp)
  simp [ok_strO, ok_rep, exc]
  refine ⟨_, _, rfl, cb ?_⟩
  refine ⟨_, _, rfl, cl ?_⟩
  refine str_ok h ?_
  refine rep_ok h ?_
  refine ⟨_, ht, _, ht, _, rfl, ?_⟩
  simp
  exact k
theorem pT : EqT pD (fun q : Nat × Nat => .tuple [.int (q.1 : Int), .int (q.2 : Int)]) 1 := ⟨fun e => rfl, fun e => rfl, fun e => Nat.le_refl _, fun q r => by
  show (((q.1 : Int) == (r.1 : Int)) && (((q.2 : Int) == (r.2 : Int)) && true)) = _
  rw [Bool.eq_iff_iff]
  simp [Prod.ext_iff]
  omega⟩
/-- a comprehension that draws, made of plain things -/
theorem ok_lcw {α : Type} {g : MG} {me : ME} {ρ : Mi.Env} (I : PuS → Prop) {f e : α → D} (r : α → Mi.Env) : ∀ (xs : List α) (u : PuS) {P : List D → PuS → Prop}, I u → (∀ x ∈ xs, g (f x) ρ = some (r x)) → (∀ x ∈ xs, ∀ u, I u → Ok (me (r x)) u fun b u' => b = e x ∧ I u') → (∀ u', I u' → P (xs.map e) u') → Ok (lcD g mYes me ρ (xs.map f)) u P
  | [], u, P, hu, _, _, h => ok_pure.mpr (h u hu)
  | x :: xs, u, P, hu, h1, h2, h => by
    rw [List.map_cons]
    unfold lcD
    rw [ok_bind, ok_lft]
    refine ⟨_, h1 x List.mem_cons_self, ?_⟩
    rw [ok_bind]
    have : Ok (mYes (r x)) u fun b u' => b = true ∧ u' = u := by simp
    refine this.mono fun b u' z => ?_
    obtain ⟨rfl, rfl⟩ := z
    simp only [if_true, ok_bind]
    refine (h2 x List.mem_cons_self _ hu).mono fun y u2 z2 => ?_
    obtain ⟨rfl, hu2⟩ := z2
    refine ok_lcw I r xs u2 hu2 (fun y hy => h1 y (List.mem_cons_of_mem _ hy)) (fun y hy => h2 y (List.mem_cons_of_mem _ hy)) fun u' hu' => ?_
    rw [ok_pure]
    exact h u' hu'
theorem zip_is (qs : List (Nat × Nat)) (hl : qs.length ≤ 100) : zipA2 [.lst (qs.map cD), .lst (qs.map pD)] = some (qs.map fun q => .tup [cD q, pD q]) := by
  show some (zipD (qs.map cD) (qs.map pD)) = _
  congr 1
  clear hl
  unfold zipD
  induction qs with
  | nil => rfl
  | cons q qs ih => simpa using ih
def AllC (qs : List (Nat × Nat)) : Prop := ∀ q ∈ qs, CdN q
theorem right_ok {u : PuS} (hu : Pu u) {P : D → PuS → Prop} (hp : ∀ u', P (.bl true) u') : Ok (mf__law_right [.pur]) u P := by
  unfold mf__law_right mb__law_right
  rw [ok_fn]
  refine seq_go fun K R hK hR => ?_
  simp
  refine draw_ok (by decide) hu fun w u1 w0 w1 hu1 => hK _ _ ?_
  clear hK hR K R
  refine seq_go fun K R hK hR => ?_
  simp [mBorLs]
  refine ⟨by rw [rngD_len]; decide, ?_⟩
  refine (ok_lc (g := mGn 4) (mt := mYes) (me := ce__law_right_1) Pu (fun d => ∃ q : Nat × Nat, d = pD q ∧ CdN q ∧ q.2 ≤ 1000000000000000000000000000000) _ u1 hu1 ?_).mono fun ys u2 hy => ?_
  · intro d hd u hu
    refine ⟨_, rfl, ?_⟩
    simp
    exact pairN_ok hu fun q u' hq hb hu' => ⟨⟨q.1, q.2, rfl, hq, hb⟩, hu'⟩
  obtain ⟨⟨hyl, hye⟩, hu2⟩ := hy
  obtain ⟨qs, hqs, hq⟩ : ∃ qs : List (Nat × Nat), ys = qs.map pD ∧ ∀ q ∈ qs, CdN q ∧ q.2 ≤ 1000000000000000000000000000000 := by
    clear hyl
    induction ys with
    | nil => exact ⟨[], rfl, by simp⟩
    | cons y ys ih =>
      obtain ⟨qs, h1, h2⟩ := ih fun z hz => hye z (List.mem_cons_of_mem _ hz)
      obtain ⟨q, h3, h4⟩ := hye y List.mem_cons_self
      exact ⟨q :: qs, by rw [h1, h3]; rfl, fun z hz => by
        rcases List.mem_cons.mp hz with rfl | hz
        · exact h4
        · exact h2 z hz⟩
  subst hqs
  have hl4 : qs.length = 4 := by simpa [rngD_len] using hyl
  obtain ⟨q0, q1, q2, q3, rfl⟩ : ∃ a b c d, qs = [a, b, c, d] := by
    match qs, hl4 with
    | [a, b, c, d], _ => exact ⟨a, b, c, d, rfl⟩
  refine hK _ _ ?_
  clear hK hR K R hyl hye hl4
  have c1 := (hq q1 (by simp)).1
  have b1 := (hq q1 (by simp)).2
  refine seq_cut (fun ρ u' => Pu u' ∧ ∃ qs : List (Nat × Nat), qs.length = 5 ∧ AllC qs ∧ ρ = [.sh .pur, .sh (.int w), .ow (qs.map pD), .un, .un, .un, .un, .un, .un, .un, .un, .un]) ?_ ?_
  · simp
    refine brd (fun z => ?_) (fun z => ?_)
    · refine ⟨_, at_nat (k := 0) rfl, ?_⟩
      refine ⟨hu2, [q0, q1, q2, q3, q0], rfl, fun q h => ?_, rfl⟩
      have h' : q = q0 ∨ q = q1 ∨ q = q2 ∨ q = q3 ∨ q = q0 := by simpa using h
      rcases h' with rfl | rfl | rfl | rfl | rfl <;> exact (hq _ (by simp)).1
    · refine ⟨_, at_nat (k := 1) rfl, ?_⟩
      refine ⟨_, at_nat (l := [D.int (q1.1 : Int), D.int (q1.2 : Int)]) (k := 0) rfl, ?_⟩
      refine ⟨_, at_nat (k := 1) rfl, ?_⟩
      refine ⟨_, at_nat (l := [D.int (q1.1 : Int), D.int (q1.2 : Int)]) (k := 1) rfl, _, rfl, ?_⟩
      refine ⟨hu2, [q0, q1, q2, q3, (q1.1, q1.2 + 1)], rfl, fun q h => ?_, ?_⟩
      · have h' : q = q0 ∨ q = q1 ∨ q = q2 ∨ q = q3 ∨ q = (q1.1, q1.2 + 1) := by simpa using h
        rcases h' with rfl | rfl | rfl | rfl | rfl
        · exact (hq _ (by simp)).1
        · exact (hq _ (by simp)).1
        · exact (hq _ (by simp)).1
        · exact (hq _ (by simp)).1
        · exact ⟨by show 1 ≤ q1.2 + 1; omega, by show q1.1 ≤ 24 * (q1.2 + 1); have := c1.le; omega, by show q1.2 + 1 ≤ _; omega⟩
      · simp [pD]
  clear hq c1 b1 hu2
  rintro ρ u2 ⟨hu2, qs, hl, hq, rfl⟩
  refine seq_go fun K R hK hR => ?_
  simp [mBorLs]
  refine ⟨by omega, ?_⟩
  refine ok_lcw (f := pD) (e := cD) Pu (fun q => [.sh .pur, .sh (.int w), .sh (.lst (qs.map pD)), .un, .un, .un, .sh (.int (q.1 : Int)), .sh (.int (q.2 : Int)), .un, .un, .un, .un]) qs u2 hu2 (fun q hx => rfl) (fun q hx u hu => ?_) fun u3 hu3 => ?_
  · unfold ce__law_right_2
    simp
    exact made_ok (hq q hx) hu fun u' hu' => ⟨rfl, hu'⟩
  refine hK _ _ ?_
  clear hK hR K R
  clear hu hu1 hu2
  have zi := zip_is qs (by omega)
  refine seq_cut (fun ρ u' => Pu u' ∧ ∃ a b c d : Sd, ρ = [.sh .pur, .sh (.int w), .sh (.lst (qs.map pD)), .sh (.lst (qs.map cD)), a, b, c, d, .un, .un, .un, .un]) ?_ ?_
  · simp
    refine ok_range 0 2 (fun k ρ u' => Pu u' ∧ ∃ a b c d : Sd, ρ = [.sh .pur, .sh (.int w), .sh (.lst (qs.map pD)), .sh (.lst (qs.map cD)), a, b, c, d, .un, .un, .un, .un]) ?_ ?_ _ _ ⟨hu3, _, _, _, _, rfl⟩
    · rintro k ρ v hk' ⟨hv, a, b, c, d, rfl⟩
      refine ⟨_, rfl, ?_⟩
      refine st_go fun R0 hR0 => ?_
      unfold lb__law_right_4
      simp [zi]
      refine ok_list (qs.map fun q => D.tup [cD q, pD q]) (fun j ρ u' => Pu u' ∧ ∃ b c d : Sd, ρ = [.sh .pur, .sh (.int w), .sh (.lst (qs.map pD)), .sh (.lst (qs.map cD)), .sh (.int (k : Int)), b, c, d, .un, .un, .un, .un]) ?_ ?_ _ _ ⟨hv, b, c, d, rfl⟩
      · rintro j e ρ u' hj ⟨hu', b, c, d, rfl⟩
        rw [List.getElem?_map] at hj
        cases ej : qs[j]? with
        | none => rw [ej] at hj; cases hj
        | some q =>
          rw [ej] at hj
          cases hj
          refine ⟨[.sh .pur, .sh (.int w), .sh (.lst (qs.map pD)), .sh (.lst (qs.map cD)), .sh (.int (k : Int)), .sh (cD q), .sh (.int (q.1 : Int)), .sh (.int (q.2 : Int)), .un, .un, .un, .un], rfl, ?_⟩
          refine st_go fun R1 hR1 => ?_
          unfold lb__law_right_3
          simp
          refine shown_ok (hq q (List.mem_of_getElem? ej)) ?_
          simp
          exact hR1 _ _ ⟨hu', _, _, _, rfl⟩
      · rintro ρ u' ⟨hu', b, c, d, rfl⟩
        exact hR0 _ _ ⟨hu', _, _, _, _, rfl⟩
    · rintro ρ v ⟨hv, a, b, c, d, rfl⟩
      exact ⟨hv, _, _, _, _, rfl⟩
  rintro ρ v ⟨hv, a, b, c, d, rfl⟩
  refine seq_cut (fun ρ u' => True) ?_ ?_
  · simp [zi]
    refine ok_list (qs.map fun q => D.tup [cD q, pD q]) (fun j ρ u' => ∃ a b c d e f g h : Sd, ρ = [.sh .pur, .sh (.int w), .sh (.lst (qs.map pD)), .sh (.lst (qs.map cD)), a, b, c, d, e, f, g, h]) ?_ ?_ _ _ ⟨_, _, _, _, _, _, _, _, rfl⟩
    · rintro j x ρ u' hj ⟨a, b, c, d, e, f, g, h, rfl⟩
      rw [List.getElem?_map] at hj
      cases ej : qs[j]? with
      | none => rw [ej] at hj; cases hj
      | some q =>
        rw [ej] at hj
        cases hj
        have cq := hq q (List.mem_of_getElem? ej)
        refine ⟨[.sh .pur, .sh (.int w), .sh (.lst (qs.map pD)), .sh (.lst (qs.map cD)), a, .sh (cD q), c, d, .sh (pD q), f, g, h], rfl, ?_⟩
        refine st_go fun R0 hR0 => ?_
        unfold lb__law_right_7
        refine seq_cut (fun ρ v => v = u' ∧ ∃ f g h : Sd, ρ = [.sh .pur, .sh (.int w), .sh (.lst (qs.map pD)), .sh (.lst (qs.map cD)), a, .sh (cD q), c, d, .sh (pD q), f, g, h]) ?_ ?_
        · simp [zi]
          refine ok_list (qs.map fun q => D.tup [cD q, pD q]) (fun j ρ v => v = u' ∧ ∃ f g h : Sd, ρ = [.sh .pur, .sh (.int w), .sh (.lst (qs.map pD)), .sh (.lst (qs.map cD)), a, .sh (cD q), c, d, .sh (pD q), f, g, h]) ?_ ?_ _ _ ⟨rfl, _, _, _, rfl⟩
          · rintro j x ρ v hj ⟨rfl, f, g, h, rfl⟩
            rw [List.getElem?_map] at hj
            cases ej : qs[j]? with
            | none => rw [ej] at hj; cases hj
            | some r =>
              rw [ej] at hj
              cases hj
              refine ⟨[.sh .pur, .sh (.int w), .sh (.lst (qs.map pD)), .sh (.lst (qs.map cD)), a, .sh (cD q), c, d, .sh (pD q), .sh (cD r), .sh (pD r), h], rfl, ?_⟩
              refine st_go fun R1 hR1 => ?_
              unfold lb__law_right_5
              have exc : ∀ q : Nat × Nat, (∃ ks ds, cD q = .obj "Card" ks ds) ↔ True := fun q => ⟨fun _ => trivial, fun _ => ⟨_, _, rfl⟩⟩
              have x1 := pT.eq (by decide) q r
              have x2 := pT.ne (by decide) q r
              obtain ⟨t, ht⟩ := rep_is (d := .lst [.bl (decide (q = r)), .bl (!decide (q = r))]) rfl (Rp.lst (k := 0) (n := 5) fun d hd => by
                simp at hd
                rcases hd with rfl | rfl
                · exact Rp.bl _
                · exact Rp.bl _) (by decide) (by simp)
              simp [exc]
              refine ceq_ok ?_
              refine ⟨_, rfl, ?_⟩
              refine ceq_ok ?_
              refine ⟨_, rfl, ?_⟩
              simp [x1, x2]
              refine ⟨_, ht, _, ht, _, rfl, ?_⟩
              simp
              exact hR1 _ _ ⟨rfl, _, _, _, rfl⟩
          · rintro ρ v ⟨rfl, f, g, h, rfl⟩
            exact ⟨rfl, _, _, _, rfl⟩
        rintro ρ v ⟨rfl, f, g, h, rfl⟩
        have exc : ∀ q : Nat × Nat, (∃ ks ds, cD q = .obj "Card" ks ds) ↔ True := fun q => ⟨fun _ => trivial, fun _ => ⟨_, _, rfl⟩⟩
        have i0 : ixD (pD q) (.int 0) = some (.int (q.1 : Int)) := at_nat (l := [D.int (q.1 : Int), D.int (q.2 : Int)]) (k := 0) rfl
        have i1 : ixD (pD q) (.int 1) = some (.int (q.2 : Int)) := at_nat (l := [D.int (q.1 : Int), D.int (q.2 : Int)]) (k := 1) rfl
        have li : listD [pD q] = some (.lst [.int (q.1 : Int), .int (q.2 : Int)]) := rfl
        simp [i0, i1, li, ok_strO, ok_rep]
        refine str_ok cq ?_
        refine rep_ok cq ?_
        have tall : ∀ y ∈ [D.non, D.bl true, D.int 0, D.int (q.1 : Int), D.int (q.2 : Int), pD q, D.lst [D.int (q.1 : Int), D.int (q.2 : Int)], D.str (cT q.1 q.2), D.str (rT q), D.lst [cD q], D.dct [] []], (tyN y).isSome = true := by
          intro y hy
          simp at hy
          rcases hy with rfl | rfl | rfl | rfl | rfl | rfl | rfl | rfl | rfl | rfl | rfl <;> rfl
        refine ok_list _ (fun j ρ v => ∃ h : Sd, ρ = [.sh .pur, .sh (.int w), .sh (.lst (qs.map pD)), .sh (.lst (qs.map cD)), a, .sh (cD q), c, d, .sh (pD q), f, g, h]) ?_ ?_ _ _ ⟨_, rfl⟩
        · rintro j y ρ v hj ⟨h, rfl⟩
          have ty := tall y (List.mem_of_getElem? hj)
          refine ⟨_, rfl, ?_⟩
          refine st_go fun R1 hR1 => ?_
          unfold lb__law_right_6
          simp [exc, rgtT ty]
          refine ceqF_ok ty ?_
          refine ⟨_, rfl, ?_⟩
          simp
          refine ceqF_ok ty ?_
          refine ⟨_, rfl, ?_⟩
          simp
          exact hR1 _ _ ⟨_, rfl⟩
        · rintro ρ v ⟨h, rfl⟩
          exact hR0 _ _ ⟨_, _, _, _, _, _, _, _, rfl⟩
    · rintro ρ u' _
      trivial
  rintro ρ v _
  simp
  exact hp _
theorem hlaw (ns : List Int) (o : HO) (hl : ns.length ≤ 63) : ∃ u', mf_law [.scr ns] (.idle o) = some (.bl true, u') :=
  law_fin (fun ns u => law_all (by decide) (fun u hu => right_ok hu fun _ => rfl) ns u) ns o hl
end G02

set_option Elab.async false
set_option linter.all false
set_option maxRecDepth 100000
set_option maxHeartbeats 4000000
namespace G02
open PySem PySem.Spec PyProof.Rows L2 Mi He Sh S1
def top (i : Nat) : Stmt := PySem.Challenge.pw_sparepay_k02_cards_made_and_read.main.body.getD i (.Pass ⟨0, 0, 0, 0⟩)
def sub (s : Stmt) (j : Nat) : Stmt := match s with
  | .ClassDef _ _ _ b _ _ _ _ _ _ _ => b.getD j (.Pass ⟨0, 0, 0, 0⟩)
  | _ => .Pass ⟨0, 0, 0, 0⟩

@[reducible] def cs : List Str := ["Card"]
theorem hc_Card : ("Card" : Str) ∈ cs := by decide
abbrev st__law_draw : Stmt := (top 17)
def d__law_draw : DefP := ⟨.glob "_law_draw", "_law_draw", "_law_draw", defArgs st__law_draw, defBody st__law_draw, defScope st__law_draw⟩
theorem sc__law_draw : FnScope ["_law_purse_here", "_law_many", "_law_digit", "_law_first"] ["_law_purse_here", "_law_many"] (defScope st__law_draw) := ⟨rfl, rfl, rfl, by decide +kernel, rfl, by decide +kernel, by decide +kernel⟩
abbrev st__law_large : Stmt := (top 18)
def d__law_large : DefP := ⟨.glob "_law_large", "_law_large", "_law_large", defArgs st__law_large, defBody st__law_large, defScope st__law_large⟩
theorem sc__law_large : FnScope ["_law_purse_here", "_law_found", "_law_turn"] ["_law_purse_here"] (defScope st__law_large) := ⟨rfl, rfl, rfl, by decide +kernel, rfl, by decide +kernel, by decide +kernel⟩
abbrev st__law_pair : Stmt := (top 19)
def d__law_pair : DefP := ⟨.glob "_law_pair", "_law_pair", "_law_pair", defArgs st__law_pair, defBody st__law_pair, defScope st__law_pair⟩
theorem sc__law_pair : FnScope ["_law_purse_here", "_law_way", "_law_cap"] ["_law_purse_here"] (defScope st__law_pair) := ⟨rfl, rfl, rfl, by decide +kernel, rfl, by decide +kernel, by decide +kernel⟩
abbrev st_is_integer : Stmt := (top 8)
def d_is_integer : DefP := ⟨.glob "is_integer", "is_integer", "is_integer", defArgs st_is_integer, defBody st_is_integer, defScope st_is_integer⟩
theorem sc_is_integer : FnScope ["value"] ["value"] (defScope st_is_integer) := ⟨rfl, rfl, rfl, by decide +kernel, rfl, by decide +kernel, by decide +kernel⟩
abbrev st_is_natural : Stmt := (top 9)
def d_is_natural : DefP := ⟨.glob "is_natural", "is_natural", "is_natural", defArgs st_is_natural, defBody st_is_natural, defScope st_is_natural⟩
theorem sc_is_natural : FnScope ["value"] ["value"] (defScope st_is_natural) := ⟨rfl, rfl, rfl, by decide +kernel, rfl, by decide +kernel, by decide +kernel⟩
abbrev st_Card___init__ : Stmt := (sub (top 12) 0)
def d_Card___init__ : DefP := ⟨.meth "Card" "__init__", "__init__", "Card.__init__", defArgs st_Card___init__, defBody st_Card___init__, defScope st_Card___init__⟩
theorem sc_Card___init__ : FnScope ["self", "balance", "limit"] ["self", "balance", "limit"] (defScope st_Card___init__) := ⟨rfl, rfl, rfl, by decide +kernel, rfl, by decide +kernel, by decide +kernel⟩
abbrev st_number_of : Stmt := (top 10)
def d_number_of : DefP := ⟨.glob "number_of", "number_of", "number_of", defArgs st_number_of, defBody st_number_of, defScope st_number_of⟩
theorem sc_number_of : FnScope ["text", "sign"] ["text"] (defScope st_number_of) := ⟨rfl, rfl, rfl, by decide +kernel, rfl, by decide +kernel, by decide +kernel⟩
abbrev st_card_of : Stmt := (top 13)
def d_card_of : DefP := ⟨.glob "card_of", "card_of", "card_of", defArgs st_card_of, defBody st_card_of, defScope st_card_of⟩
theorem sc_card_of : FnScope ["text", "numbers", "balance", "limit", "word"] ["text"] (defScope st_card_of) := ⟨rfl, rfl, rfl, by decide +kernel, rfl, by decide +kernel, by decide +kernel⟩
abbrev st_Card_read : Stmt := (sub (top 12) 1)
def d_Card_read : DefP := ⟨.clsm "Card" "read", "read", "Card.read", defArgs st_Card_read, defBody st_Card_read, defScope st_Card_read⟩
theorem sc_Card_read : FnScope ["cls", "text", "found"] ["cls", "text"] (defScope st_Card_read) := ⟨rfl, rfl, rfl, by decide +kernel, rfl, by decide +kernel, by decide +kernel⟩
abbrev st__law_made : Stmt := (top 20)
def d__law_made : DefP := ⟨.glob "_law_made", "_law_made", "_law_made", defArgs st__law_made, defBody st__law_made, defScope st__law_made⟩
theorem sc__law_made : FnScope ["_law_purse_here", "_law_money", "_law_cap", "_law_way", "_law_line"] ["_law_purse_here", "_law_money", "_law_cap"] (defScope st__law_made) := ⟨rfl, rfl, rfl, by decide +kernel, rfl, by decide +kernel, by decide +kernel⟩
abbrev st_Card___repr__ : Stmt := (sub (top 12) 10)
def d_Card___repr__ : DefP := ⟨.meth "Card" "__repr__", "__repr__", "Card.__repr__", defArgs st_Card___repr__, defBody st_Card___repr__, defScope st_Card___repr__⟩
theorem sc_Card___repr__ : FnScope ["self"] ["self"] (defScope st_Card___repr__) := ⟨rfl, rfl, rfl, by decide +kernel, rfl, by decide +kernel, by decide +kernel⟩
abbrev st_Card___str__ : Stmt := (sub (top 12) 9)
def d_Card___str__ : DefP := ⟨.meth "Card" "__str__", "__str__", "Card.__str__", defArgs st_Card___str__, defBody st_Card___str__, defScope st_Card___str__⟩
theorem sc_Card___str__ : FnScope ["self"] ["self"] (defScope st_Card___str__) := ⟨rfl, rfl, rfl, by decide +kernel, rfl, by decide +kernel, by decide +kernel⟩
abbrev st_Card_limit : Stmt := (sub (top 12) 3)
def d_Card_limit : DefP := ⟨.prop "Card" "limit", "limit", "Card.limit", defArgs st_Card_limit, defBody st_Card_limit, defScope st_Card_limit⟩
theorem sc_Card_limit : FnScope ["self"] ["self"] (defScope st_Card_limit) := ⟨rfl, rfl, rfl, by decide +kernel, rfl, by decide +kernel, by decide +kernel⟩
abbrev st_Card_balance : Stmt := (sub (top 12) 2)
def d_Card_balance : DefP := ⟨.prop "Card" "balance", "balance", "Card.balance", defArgs st_Card_balance, defBody st_Card_balance, defScope st_Card_balance⟩
theorem sc_Card_balance : FnScope ["self"] ["self"] (defScope st_Card_balance) := ⟨rfl, rfl, rfl, by decide +kernel, rfl, by decide +kernel, by decide +kernel⟩
abbrev st__law_shown : Stmt := (top 21)
def d__law_shown : DefP := ⟨.glob "_law_shown", "_law_shown", "_law_shown", defArgs st__law_shown, defBody st__law_shown, defScope st__law_shown⟩
theorem sc__law_shown : FnScope ["_law_card", "_law_money", "_law_cap", "_law_line", "_law_due"] ["_law_card", "_law_money", "_law_cap"] (defScope st__law_shown) := ⟨rfl, rfl, rfl, by decide +kernel, rfl, by decide +kernel, by decide +kernel⟩
abbrev st_Card___eq__ : Stmt := (sub (top 12) 8)
def d_Card___eq__ : DefP := ⟨.meth "Card" "__eq__", "__eq__", "Card.__eq__", defArgs st_Card___eq__, defBody st_Card___eq__, defScope st_Card___eq__⟩
theorem sc_Card___eq__ : FnScope ["self", "other"] ["self", "other"] (defScope st_Card___eq__) := ⟨rfl, rfl, rfl, by decide +kernel, rfl, by decide +kernel, by decide +kernel⟩
abbrev st__law_right : Stmt := (top 22)
def d__law_right : DefP := ⟨.glob "_law_right", "_law_right", "_law_right", defArgs st__law_right, defBody st__law_right, defScope st__law_right⟩
theorem sc__law_right : FnScope ["_law_purse_here", "_law_again", "_law_pairs", "_law_made_here", "_law_turn", "_law_card", "_law_money", "_law_cap", "_law_pair_here", "_law_mate", "_law_other", "_law_thing"] ["_law_purse_here"] (defScope st__law_right) := ⟨rfl, rfl, rfl, by decide +kernel, rfl, by decide +kernel, by decide +kernel⟩
abbrev st__law_purse : Stmt := (top 16)
def d__law_purse : DefP := ⟨.glob "_law_purse", "_law_purse", "_law_purse", defArgs st__law_purse, defBody st__law_purse, defScope st__law_purse⟩
theorem sc__law_purse : FnScope ["_law_cell_here"] ["_law_cell_here"] (defScope st__law_purse) := ⟨rfl, rfl, rfl, by decide +kernel, rfl, by decide +kernel, by decide +kernel⟩
abbrev st__law_cell : Stmt := (top 15)
def d__law_cell : DefP := ⟨.glob "_law_cell", "_law_cell", "_law_cell", defArgs st__law_cell, defBody st__law_cell, defScope st__law_cell⟩
theorem sc__law_cell : FnScope ["_law_cells", "_law_k", "_law_seed", "_law_cell_here"] ["_law_cells", "_law_k"] (defScope st__law_cell) := ⟨rfl, rfl, rfl, by decide +kernel, rfl, by decide +kernel, by decide +kernel⟩
abbrev st_law : Stmt := (top 23)
def d_law : DefP := ⟨.glob "law", "law", "law", defArgs st_law, defBody st_law, defScope st_law⟩
theorem sc_law : FnScope ["_law_cells", "_law_k"] ["_law_cells"] (defScope st_law) := ⟨rfl, rfl, rfl, by decide +kernel, rfl, by decide +kernel, by decide +kernel⟩
def fa : List Ft := [
  .isi cs,
  .b (.free "len"),
  .b (.free "min"),
  .b (.free "max"),
  .b (.free "range"),
  .b (.free "divmod"),
  .b (.free "int"),
  .b (.glo "_law_draw"),
  .b (.glo "_law_large"),
  .b (.glo "_law_pair"),
  .b (.free "str"),
  .b (.free "isinstance"),
  .b (.free "bool"),
  .b (.glo "is_integer"),
  .b (.glo "is_natural"),
  .b (.int "MOST_DAYS" 24),
  .b (.noat "Card" "held"),
  .b (.cls "Card"),
  .b (.noat "Card" "daily"),
  .b (.mkr "Card"),
  .b (.glo "Card"),
  .b (.str "DIGITS" "0123456789"),
  .b (.free "all"),
  .b (.glo "number_of"),
  .b (.glo "card_of"),
  .clsm "Card" "read",
  .b (.glo "_law_made"),
  .b (.free "zip"),
  .raw (noLenB "Card"),
  .raw (ownB "Card" "__repr__"),
  .b (.free "repr"),
  .raw (ownB "Card" "__str__"),
  .prop "Card" "limit",
  .prop "Card" "balance",
  .b (.glo "_law_shown"),
  .eqc "Card",
  .b (.free "list"),
  .raw (eqAB "Card" []),
  .b (.glo "_law_cell"),
  .b (.glo "_law_purse"),
  .b (.glo "_law_right"),
  .b (.glo "law"),
  .raw noListsB]
def fn : List DefP := [d__law_draw, d__law_large, d__law_pair, d_is_integer, d_is_natural, d_Card___init__, d_number_of, d_card_of, d_Card_read, d__law_made, d_Card___repr__, d_Card___str__, d_Card_limit, d_Card_balance, d__law_shown, d_Card___eq__, d__law_right, d__law_purse, d__law_cell, d_law]
section
variable [TB : Tabl]
variable {P : Program} {w : World} {K : PySem.W.Frag} {mg : Str → Option Value} {base : Heap}

theorem kb_Card___init___1_balance_limit (C : HF fa fn K mg) : KBn K (fdOf K (Pl.ad K (.meth "Card" "__init__"))) ["self", "balance", "limit"] 1 ["balance", "limit"] (gI [0, 1, 2]) (gI [0, 1, 2]) := (C.fun_ 5 (d := d_Card___init__) rfl).kb0 1 ["balance", "limit"] [0, 1, 2] fun _ _ _ _ _ _ us ws h1 h2 => match us, ws, h1, h2 with | [_], [_, _], _, _ => rfl
theorem kb_Card___init___1_limit_balance (C : HF fa fn K mg) : KBn K (fdOf K (Pl.ad K (.meth "Card" "__init__"))) ["self", "balance", "limit"] 1 ["limit", "balance"] (gI [0, 2, 1]) (gI [0, 2, 1]) := (C.fun_ 5 (d := d_Card___init__) rfl).kb0 1 ["limit", "balance"] [0, 2, 1] fun _ _ _ _ _ _ us ws h1 h2 => match us, ws, h1, h2 with | [_], [_, _], _, _ => rfl
theorem kb_Card___init___2_limit (C : HF fa fn K mg) : KBn K (fdOf K (Pl.ad K (.meth "Card" "__init__"))) ["self", "balance", "limit"] 2 ["limit"] (gI [0, 1, 2]) (gI [0, 1, 2]) := (C.fun_ 5 (d := d_Card___init__) rfl).kb0 2 ["limit"] [0, 1, 2] fun _ _ _ _ _ _ us ws h1 h2 => match us, ws, h1, h2 with | [_, _], [_], _, _ => rfl
theorem kb_Card_read_1_text (C : HF fa fn K mg) : KBn K (fdOf K (Pl.ad K (.clsm "Card" "read"))) ["cls", "text"] 1 ["text"] (gI [0, 1]) (gI [0, 1]) := (C.fun_ 8 (d := d_Card_read) rfl).kb0 1 ["text"] [0, 1] fun _ _ _ _ _ _ us ws h1 h2 => match us, ws, h1, h2 with | [_], [_], _, _ => rfl
theorem bi__law_draw {K : PySem.W.Frag} {mg : Str → Option Value} (C : HF fa fn K mg) : Binds K (fdOf K (Pl.ad K (.glob "_law_draw"))) ["_law_purse_here", "_law_many"] [] := (C.fun_ 0 (d := d__law_draw) rfl).bindsN fun _ _ _ _ _ _ us hl => match us, hl with | [_, _], _ => rfl
theorem ok__law_draw (C : HF fa fn K mg) : FO cs P w K mg base 1 (.glob "_law_draw") ["_law_purse_here", "_law_many"] 2 mf__law_draw := by
  have f_divmod := C.free 5 rfl
  have f_int := C.free 6 rfl
  have sc := sc__law_draw
  refine fn_mir (C.fun_ 0 (d := d__law_draw) rfl) sc__law_draw fun cdv A outer s H E p F0 hr => ?_
  exact dBcons (dPutP 0 (dBin op_addA m_add (dIxP 0 (dInt)) (dInt)) (dInt)) (dBcons (dIfS (dTcmp op_gt m_gt (dIxP 0 (dInt)) (dInt) (nomark _)) (dBcons (dDmP 0 2 rfl (dCallB m_dm call_divmodW rfl f_divmod bb_divmod (dCons (dIxP 0 (dInt)) (dCons (dVar 1) (dNil)))) (dInt) sc.nd rfl (by first | exact Or.inl rfl | exact Or.inr rfl)) (dBone (dRet (dVar 2)))) (dBnil)) (dBcons (dSet (i := 3) sc.nd rfl (by first | exact Or.inl rfl | exact Or.inr rfl) (dBin op_mod m_mod (dCallT m_int1 call_int1 rfl f_int bb_int (dCons (dBin op_addA m_add (dBin op_mulA m_mul (dIxP 0 (dInt)) (dInt)) (dBin op_mulA m_mul (dInt) (dIxP 0 (dInt)))) (dNil))) (dInt))) (dBcons (dPutP 0 (dBin op_mod m_mod (dCallT m_int1 call_int1 rfl f_int bb_int (dCons (dBin op_addA m_add (dBin op_mulA m_mul (dVar 3) (dBin op_addA m_add (dBin op_mod m_mod (dCallT m_int1 call_int1 rfl f_int bb_int (dCons (dVar 3) (dNil))) (dInt)) (dInt))) (dBin op_mulA m_mul (dInt) (dIxP 0 (dInt)))) (dNil))) (dInt)) (dInt)) (dBone (dRet (dBin op_mod m_mod (dCallT m_int1 call_int1 rfl f_int bb_int (dCons (dBin op_fdivW m_fdiv (dIxP 0 (dInt)) (dInt)) (dNil))) (dVar 1)))))))
theorem bi__law_large {K : PySem.W.Frag} {mg : Str → Option Value} (C : HF fa fn K mg) : Binds K (fdOf K (Pl.ad K (.glob "_law_large"))) ["_law_purse_here"] [] := (C.fun_ 1 (d := d__law_large) rfl).bindsN fun _ _ _ _ _ _ us hl => match us, hl with | [_], _ => rfl
theorem ok__law_large (C : HF fa fn K mg) : FO cs P w K mg base 2 (.glob "_law_large") ["_law_purse_here"] 1 mf__law_large := by
  have G__law_draw := ok__law_draw (P := P) (w := w) (base := base) C
  have F__law_draw := C.fun_ 0 (d := d__law_draw) rfl
  have B__law_draw := bi__law_draw C
  have g__law_draw := C.glo 7 rfl
  have f_range := C.free 4 rfl
  have sc := sc__law_large
  refine fn_mir (C.fun_ 1 (d := d__law_large) rfl) sc__law_large fun cdv A outer s H E p F0 hr => ?_
  exact dBcons (dSet (i := 1) sc.nd rfl (by first | exact Or.inl rfl | exact Or.inr rfl) (dInt)) (dBcons (dFor PassesOwn.never rfl (dIrng1 rfl f_range (dCons (dCall G__law_draw (hr.mono (by decide)) rfl g__law_draw F__law_draw.kp B__law_draw (dCons (dVar 0) (dCons (dInt) (dNil)))) (dNil))) (dGn (i := 2) sc.nd rfl (by first | exact Or.inl rfl | exact Or.inr rfl)) (dBone (dSet (i := 1) sc.nd rfl (by first | exact Or.inl rfl | exact Or.inr rfl) (dBin op_addA m_add (dBin op_mulA m_mul (dVar 1) (dBin op_pow m_pow (dInt) (dInt))) (dCall G__law_draw (hr.mono (by decide)) rfl g__law_draw F__law_draw.kp B__law_draw (dCons (dVar 0) (dCons (dBin op_pow m_pow (dInt) (dInt)) (dNil)))))))) (dBone (dRet (dVar 1))))
theorem bi__law_pair {K : PySem.W.Frag} {mg : Str → Option Value} (C : HF fa fn K mg) : Binds K (fdOf K (Pl.ad K (.glob "_law_pair"))) ["_law_purse_here"] [] := (C.fun_ 2 (d := d__law_pair) rfl).bindsN fun _ _ _ _ _ _ us hl => match us, hl with | [_], _ => rfl
theorem ok__law_pair (C : HF fa fn K mg) : FO cs P w K mg base 3 (.glob "_law_pair") ["_law_purse_here"] 1 mf__law_pair := by
  have G__law_draw := ok__law_draw (P := P) (w := w) (base := base) C
  have F__law_draw := C.fun_ 0 (d := d__law_draw) rfl
  have B__law_draw := bi__law_draw C
  have g__law_draw := C.glo 7 rfl
  have G__law_large := ok__law_large (P := P) (w := w) (base := base) C
  have F__law_large := C.fun_ 1 (d := d__law_large) rfl
  have B__law_large := bi__law_large C
  have g__law_large := C.glo 8 rfl
  have f_int := C.free 6 rfl
  have sc := sc__law_pair
  refine fn_mir (C.fun_ 2 (d := d__law_pair) rfl) sc__law_pair fun cdv A outer s H E p F0 hr => ?_
  exact dBcons (dPar (i := 1) (j := 2) rfl sc.nd rfl rfl (by decide) rfl rfl (dMsh (dCall G__law_draw (hr.mono (by decide)) rfl g__law_draw F__law_draw.kp B__law_draw (dCons (dVar 0) (dCons (dInt) (dNil)))) (dMsh (dBin op_addA m_add (dInt) (dCall G__law_draw (hr.mono (by decide)) rfl g__law_draw F__law_draw.kp B__law_draw (dCons (dVar 0) (dCons (dInt) (dNil))))) (dMnil)))) (dBcons (dIfS (dTcmp op_gt m_gt (dVar 1) (dInt) (nomark _)) (dBone (dSet (i := 2) sc.nd rfl (by first | exact Or.inl rfl | exact Or.inr rfl) (dBin op_addA m_add (dInt) (dCall G__law_large (hr.mono (by decide)) rfl g__law_large F__law_large.kp B__law_large (dCons (dVar 0) (dNil)))))) (dBnil)) (dBcons (dSet (i := 1) sc.nd rfl (by first | exact Or.inl rfl | exact Or.inr rfl) (dCall G__law_draw (hr.mono (by decide)) rfl g__law_draw F__law_draw.kp B__law_draw (dCons (dVar 0) (dCons (dInt) (dNil))))) (dBcons (dIfS (dTcmp op_lt m_lt (dVar 1) (dInt) (nomark _)) (dBone (dRet (dTup (dCons (dIx ix_seq m_ix (dFz (dLstO (dCons (dInt) (dCons (dBin op_mulA m_mul (dInt) (dVar 2)) (dCons (dVar 2) (dCons (dBin op_sub m_sub (dBin op_mulA m_mul (dInt) (dVar 2)) (dInt)) (dNil))))))) (dVar 1)) (dCons (dVar 2) (dNil)))))) (dBnil)) (dBone (dRet (dTup (dCons (dIf (dTcmp (op_eqD hr.units) m_eq (dVar 1) (dInt) (nomark _)) (dBin op_mod m_mod (dCallT m_int1 call_int1 rfl f_int bb_int (dCons (dCall G__law_large (hr.mono (by decide)) rfl g__law_large F__law_large.kp B__law_large (dCons (dVar 0) (dNil))) (dNil))) (dBin op_addA m_add (dBin op_mulA m_mul (dInt) (dVar 2)) (dInt))) (dCall G__law_draw (hr.mono (by decide)) rfl g__law_draw F__law_draw.kp B__law_draw (dCons (dVar 0) (dCons (dBin op_addA m_add (dBin op_mulA m_mul (dInt) (dVar 2)) (dInt)) (dNil))))) (dCons (dVar 2) (dNil)))))))))
theorem bi_is_integer {K : PySem.W.Frag} {mg : Str → Option Value} (C : HF fa fn K mg) : Binds K (fdOf K (Pl.ad K (.glob "is_integer"))) ["value"] [] := (C.fun_ 3 (d := d_is_integer) rfl).bindsN fun _ _ _ _ _ _ us hl => match us, hl with | [_], _ => rfl
theorem ok_is_integer (C : HF fa fn K mg) : FO cs P w K mg base 1 (.glob "is_integer") ["value"] 1 mf_is_integer := by
  have isi := isi_ok (C.fact 0 rfl)
  have f_int := C.free 6 rfl
  have f_isinstance := C.free 11 rfl
  have f_bool := C.free 12 rfl
  have sc := sc_is_integer
  refine fn_mir (C.fun_ 3 (d := d_is_integer) rfl) sc_is_integer fun cdv A outer s H E p F0 hr => ?_
  exact dBone (dRet (dAndV (dCallB (m_isi isi) call_isi rfl f_isinstance bb_isinstance (dCons (dVar 0) (dCons (dTy rfl f_int bb_int) (dNil)))) (dOneV (dNotV (dCallB (m_isi isi) call_isi rfl f_isinstance bb_isinstance (dCons (dVar 0) (dCons (dTy rfl f_bool bb_bool) (dNil))))))))
theorem bi_is_natural {K : PySem.W.Frag} {mg : Str → Option Value} (C : HF fa fn K mg) : Binds K (fdOf K (Pl.ad K (.glob "is_natural"))) ["value"] [] := (C.fun_ 4 (d := d_is_natural) rfl).bindsN fun _ _ _ _ _ _ us hl => match us, hl with | [_], _ => rfl
theorem ok_is_natural (C : HF fa fn K mg) : FO cs P w K mg base 2 (.glob "is_natural") ["value"] 1 mf_is_natural := by
  have G_is_integer := ok_is_integer (P := P) (w := w) (base := base) C
  have F_is_integer := C.fun_ 3 (d := d_is_integer) rfl
  have B_is_integer := bi_is_integer C
  have g_is_integer := C.glo 13 rfl
  have sc := sc_is_natural
  refine fn_mir (C.fun_ 4 (d := d_is_natural) rfl) sc_is_natural fun cdv A outer s H E p F0 hr => ?_
  exact dBone (dRet (dAndV (dCall G_is_integer (hr.mono (by decide)) rfl g_is_integer F_is_integer.kp B_is_integer (dCons (dVar 0) (dNil))) (dOneV (dCmp op_ge m_ge (dVar 0) (dInt) (nomark _)))))
theorem bi_Card___init__ {K : PySem.W.Frag} {mg : Str → Option Value} (C : HF fa fn K mg) : Binds K (fdOf K (Pl.ad K (.meth "Card" "__init__"))) ["self", "balance", "limit"] [] := (C.fun_ 5 (d := d_Card___init__) rfl).bindsN fun _ _ _ _ _ _ us hl => match us, hl with | [_, _, _], _ => rfl
theorem ok_Card___init__ (C : HF fa fn K mg) : FnOk P w K mg base CX0 3 (Pl.ad K (.meth "Card" "__init__")) (fdOf K (Pl.ad K (.meth "Card" "__init__"))) ["self", "balance", "limit"] (spI (WW cs K) "Card" 2 mf_Card___init__) := by
  have G_is_natural := ok_is_natural (P := P) (w := w) (base := base) C
  have F_is_natural := C.fun_ 4 (d := d_is_natural) rfl
  have B_is_natural := bi_is_natural C
  have g_is_natural := C.glo 14 rfl
  obtain ⟨_, k_MOST_DAYS⟩ := C.int 15 rfl
  have n_Card_held := C.noat 16 rfl
  have c_Card := C.cls 17 rfl
  have n_Card_daily := C.noat 18 rfl
  have sc := sc_Card___init__
  refine fn_init (ck := "Card") (nm := "self") (N := ["balance", "limit"]) (n := 2) (C.fun_ 5 (d := d_Card___init__) rfl) sc_Card___init__ rfl fun cdv A outer s H E p F0 H0 sf hr => ?_
  exact dBcons (dIfS (dNotT (dTst (dCall G_is_natural (hr.mono (by decide)) rfl g_is_natural F_is_natural.kp B_is_natural (dCons (dVar 1) (dNil))))) (dBone (dNever)) (dBnil)) (dBcons (dIfS (PW.pt (dOrT (dNotT (dTst (dCall G_is_natural (hr.mono (by decide)) rfl g_is_natural F_is_natural.kp B_is_natural (dCons (dVar 2) (dNil))))) (dOr1 (dTcmp (op_eqD hr.units) m_eq (dVar 2) (dInt) (nomark _))))) (dBone (dNever)) (dBnil)) (dBcons (dIfS (dTcmp op_gt m_gt (dVar 1) (dBin op_mulA m_mul (dGI rfl k_MOST_DAYS) (dVar 2)) (nomark _)) (dBone (dNever)) (dBnil)) (dBcons (dSelfSet (ck := "Card") 0 c_Card n_Card_held (dVar 1)) (dBone (dSelfSet (ck := "Card") 0 c_Card n_Card_daily (dVar 2))))))
theorem bi_number_of {K : PySem.W.Frag} {mg : Str → Option Value} (C : HF fa fn K mg) : Binds K (fdOf K (Pl.ad K (.glob "number_of"))) ["text"] [] := (C.fun_ 6 (d := d_number_of) rfl).bindsN fun _ _ _ _ _ _ us hl => match us, hl with | [_], _ => rfl
theorem ok_number_of (C : HF fa fn K mg) : FO cs P w K mg base 1 (.glob "number_of") ["text"] 1 mf_number_of := by
  obtain ⟨_, k_DIGITS⟩ := C.str 21 rfl
  have f_all := C.free 22 rfl
  have f_int := C.free 6 rfl
  have sc := sc_number_of
  refine fn_mir (C.fun_ 6 (d := d_number_of) rfl) sc_number_of fun cdv A outer s H E p F0 hr => ?_
  exact dBcons (dIfS (PW.pt (dOrT (dTcmp (op_eqD hr.units) m_eq (dVar 0) (dStr) (nomark _)) (dOr1 (dNotT (dTst (dCallB m_all (cr_all rfl) rfl f_all bb_all (dCons (dFz (dLcO (own := [("sign", 1)]) rfl sc.nd (dIany (dVar 0)) (blkOk_by (by kernel_rfl)) (fun _ _ _ _ _ => dGn (i := 1) sc.nd rfl (by first | exact Or.inl rfl | exact Or.inr rfl)) (fun _ _ _ _ _ => dYes) (fun _ _ _ _ _ => dCmp op_inA m_in (dVar 1) (dGS rfl k_DIGITS) rfl))) (dNil)))))))) (dBone (dRet (dNon))) (dBnil)) (dBone (dRet (dIf (PW.pt (dOrT (dTcmp (op_eqD hr.units) m_eq (dVar 0) (dStr) (nomark _)) (dOr1 (dTcmp (op_neD hr.units) m_ne (dIx ix_seq m_ix (dVar 0) (dInt)) (dStr) (nomark _))))) (dCallT m_intS call_int_str rfl f_int bb_int (dCons (dVar 0) (dNil))) (dNon))))
theorem bi_card_of {K : PySem.W.Frag} {mg : Str → Option Value} (C : HF fa fn K mg) : Binds K (fdOf K (Pl.ad K (.glob "card_of"))) ["text"] [] := (C.fun_ 7 (d := d_card_of) rfl).bindsN fun _ _ _ _ _ _ us hl => match us, hl with | [_], _ => rfl
theorem ok_card_of (C : HF fa fn K mg) : FO cs P w K mg base 5 (.glob "card_of") ["text"] 1 mf_card_of := by
  have isi := isi_ok (C.fact 0 rfl)
  have f_str := C.free 10 rfl
  have f_isinstance := C.free 11 rfl
  have G_number_of := ok_number_of (P := P) (w := w) (base := base) C
  have F_number_of := C.fun_ 6 (d := d_number_of) rfl
  have B_number_of := bi_number_of C
  have g_number_of := C.glo 23 rfl
  have f_len := C.free 1 rfl
  obtain ⟨_, k_MOST_DAYS⟩ := C.int 15 rfl
  have G_Card___init__ := ok_Card___init__ (P := P) (w := w) (base := base) C
  have F_Card___init__ := C.fun_ 5 (d := d_Card___init__) rfl
  have B_Card___init__ := bi_Card___init__ C
  have m_Card := C.mkr 19 rfl
  have g_Card := C.glo 20 rfl
  have sc := sc_card_of
  refine fn_mir (C.fun_ 7 (d := d_card_of) rfl) sc_card_of fun cdv A outer s H E p F0 hr => ?_
  exact dBcons (dIfS (dNotT (dTst (dCallB (m_isi isi) call_isi rfl f_isinstance bb_isinstance (dCons (dVar 0) (dCons (dTy rfl f_str bb_str) (dNil)))))) (dBone (dRet (dNon))) (dBnil)) (dBcons (dLcSet 1 [] (own := [("word", 4)]) rfl sc.nd rfl rfl (sw_true rfl rfl rfl (by kernel_rfl)) (dIany (dSplit (dVar 0) (dStr))) (blkOk_by (by kernel_rfl)) (fun _ _ _ _ _ => dGn (i := 4) sc.nd rfl (by first | exact Or.inl rfl | exact Or.inr rfl)) (fun _ _ _ _ _ => dYes) (fun _ _ _ _ _ => dCall G_number_of (hr.mono (by decide)) rfl g_number_of F_number_of.kp B_number_of (dCons (dVar 4) (dNil)))) (dBcons (dIfS (PW.pt (dOrT (dTcmp (op_neD hr.units) m_ne (dCallB m_len call_lenA rfl f_len bb_len (dCons (dVar 1) (dNil))) (dInt) (nomark _)) (dOrT (dTcmp op_isA m_is (dIx ix_seq m_ix (dVar 1) (dInt)) (dNon) (nomark _)) (dOr1 (dTcmp op_isA m_is (dIx ix_seq m_ix (dVar 1) (dInt)) (dNon) (nomark _)))))) (dBone (dRet (dNon))) (dBnil)) (dBcons (dAsg (dVar 1) (dGl (n := 2) rfl (dGcons (dGn (i := 2) sc.nd rfl (by first | exact Or.inl rfl | exact Or.inr rfl)) (dGcons (dGn (i := 3) sc.nd rfl (by first | exact Or.inl rfl | exact Or.inr rfl)) (dGnil))))) (dBone (dRet (dIf (PW.pt (dAndT (dTcmp op_gt m_gt (dVar 3) (dInt) (nomark _)) (dAnd1 (dTcmp op_le m_le (dVar 2) (dBin op_mulA m_mul (dGI rfl k_MOST_DAYS) (dVar 3)) (nomark _))))) (dMake (ck := "Card") hc_Card m_Card G_Card___init__ (hr.mono (by decide)) rfl g_Card B_Card___init__ (dCons (dVar 2) (dCons (dVar 3) (dNil)))) (dNon)))))))
theorem bi_Card_read {K : PySem.W.Frag} {mg : Str → Option Value} (C : HF fa fn K mg) : Binds K (fdOf K (Pl.ad K (.clsm "Card" "read"))) ["cls", "text"] [] := (C.fun_ 8 (d := d_Card_read) rfl).bindsN fun _ _ _ _ _ _ us hl => match us, hl with | [_, _], _ => rfl
theorem ok_Card_read (C : HF fa fn K mg) : FO cs P w K mg base 6 (.clsm "Card" "read") ["cls", "text"] 2 mf_Card_read := by
  have G_card_of := ok_card_of (P := P) (w := w) (base := base) C
  have F_card_of := C.fun_ 7 (d := d_card_of) rfl
  have B_card_of := bi_card_of C
  have g_card_of := C.glo 24 rfl
  have sc := sc_Card_read
  refine fn_mir (C.fun_ 8 (d := d_Card_read) rfl) sc_Card_read fun cdv A outer s H E p F0 hr => ?_
  exact dBcons (dSet (i := 2) sc.nd rfl (by first | exact Or.inl rfl | exact Or.inr rfl) (dCall G_card_of (hr.mono (by decide)) rfl g_card_of F_card_of.kp B_card_of (dCons (dVar 1) (dNil)))) (dBcons (dIfS (dTcmp op_isA m_is (dVar 2) (dNon) (nomark _)) (dBone (dNever)) (dBnil)) (dBone (dRet (dVar 2))))
theorem bi__law_made {K : PySem.W.Frag} {mg : Str → Option Value} (C : HF fa fn K mg) : Binds K (fdOf K (Pl.ad K (.glob "_law_made"))) ["_law_purse_here", "_law_money", "_law_cap"] [] := (C.fun_ 9 (d := d__law_made) rfl).bindsN fun _ _ _ _ _ _ us hl => match us, hl with | [_, _, _], _ => rfl
theorem ok__law_made (C : HF fa fn K mg) : FO cs P w K mg base 7 (.glob "_law_made") ["_law_purse_here", "_law_money", "_law_cap"] 3 mf__law_made := by
  have f_str := C.free 10 rfl
  have G__law_draw := ok__law_draw (P := P) (w := w) (base := base) C
  have F__law_draw := C.fun_ 0 (d := d__law_draw) rfl
  have B__law_draw := bi__law_draw C
  have g__law_draw := C.glo 7 rfl
  have G_Card___init__ := ok_Card___init__ (P := P) (w := w) (base := base) C
  have F_Card___init__ := C.fun_ 5 (d := d_Card___init__) rfl
  have B_Card___init__ := bi_Card___init__ C
  have m_Card := C.mkr 19 rfl
  have g_Card := C.glo 20 rfl
  have K_kb_Card___init___1_limit_balance := kb_Card___init___1_limit_balance C
  have K_kb_Card___init___2_limit := kb_Card___init___2_limit C
  have K_kb_Card___init___1_balance_limit := kb_Card___init___1_balance_limit C
  have G_Card_read := ok_Card_read (P := P) (w := w) (base := base) C
  have F_Card_read := C.fun_ 8 (d := d_Card_read) rfl
  have B_Card_read := bi_Card_read C
  have cm_Card_read := clsm_ok (C.fact 25 rfl)
  have K_kb_Card_read_1_text := kb_Card_read_1_text C
  have sc := sc__law_made
  refine fn_mir (C.fun_ 9 (d := d__law_made) rfl) sc__law_made fun cdv A outer s H E p F0 hr => ?_
  exact dBcons (dPar (i := 3) (j := 4) rfl sc.nd rfl rfl (by decide) rfl rfl (dMsh (dCall G__law_draw (hr.mono (by decide)) rfl g__law_draw F__law_draw.kp B__law_draw (dCons (dVar 0) (dCons (dInt) (dNil)))) (dMsh (dBin op_addA m_add (dBin op_addA m_add (dCallT m_strI call_str_int rfl f_str bb_str (dCons (dVar 1) (dNil))) (dStr)) (dCallT m_strI call_str_int rfl f_str bb_str (dCons (dVar 2) (dNil)))) (dMnil)))) (dBcons (dIfS (dTcmp op_lt m_lt (dVar 3) (dInt) (nomark _)) (dBone (dRet (dIf (dTcmp (op_eqD hr.units) m_eq (dVar 3) (dInt) (nomark _)) (dMake (ck := "Card") hc_Card m_Card G_Card___init__ (hr.mono (by decide)) rfl g_Card B_Card___init__ (dCons (dVar 1) (dCons (dVar 2) (dNil)))) (dMakeK (ks := ["limit", "balance"]) (ck := "Card") (perm' := [1, 0]) hc_Card m_Card G_Card___init__ (hr.mono (by decide)) rfl g_Card K_kb_Card___init___1_limit_balance (dKcons (dVar 2) (dKcons (dVar 1) (dKnil))) (fun _ _ => rfl))))) (dBnil)) (dBcons (dIfS (dTcmp op_lt m_lt (dVar 3) (dInt) (nomark _)) (dBone (dRet (dIf (dTcmp (op_eqD hr.units) m_eq (dVar 3) (dInt) (nomark _)) (dMakeN (np := 1) (ks := ["limit"]) (ck := "Card") (perm' := [0, 1]) hc_Card m_Card G_Card___init__ (hr.mono (by decide)) rfl g_Card K_kb_Card___init___2_limit (dCons (dVar 1) (dNil)) (dKcons (dVar 2) (dKnil)) (fun _ _ _ => rfl)) (dMakeK (ks := ["balance", "limit"]) (ck := "Card") (perm' := [0, 1]) hc_Card m_Card G_Card___init__ (hr.mono (by decide)) rfl g_Card K_kb_Card___init___1_balance_limit (dKcons (dVar 1) (dKcons (dVar 2) (dKnil))) (fun _ _ => rfl))))) (dBnil)) (dBone (dRet (dIf (dTcmp (op_eqD hr.units) m_eq (dVar 3) (dInt) (nomark _)) (dCMet1 (ck := "Card") hc_Card (dGC (k := "Card") hc_Card rfl g_Card) cm_Card_read G_Card_read (hr.mono (by decide)) B_Card_read (dCons (dVar 4) (dNil))) (dCMetK (ks := ["text"]) (ck := "Card") hc_Card (dGC (k := "Card") hc_Card rfl g_Card) cm_Card_read G_Card_read (hr.mono (by decide)) K_kb_Card_read_1_text (dKcons (dVar 4) (dKnil))))))))
theorem bi_Card___repr__ {K : PySem.W.Frag} {mg : Str → Option Value} (C : HF fa fn K mg) : Binds K (fdOf K (Pl.ad K (.meth "Card" "__repr__"))) ["self"] [] := (C.fun_ 10 (d := d_Card___repr__) rfl).bindsN fun _ _ _ _ _ _ us hl => match us, hl with | [_], _ => rfl
theorem ok_Card___repr__ (C : HF fa fn K mg) : FO cs P w K mg base 1 (.meth "Card" "__repr__") ["self"] 1 mf_Card___repr__ := by
  have n_Card_held := C.noat 16 rfl
  have c_Card := C.cls 17 rfl
  have n_Card_daily := C.noat 18 rfl
  have sc := sc_Card___repr__
  refine fn_mir (C.fun_ 10 (d := d_Card___repr__) rfl) sc_Card___repr__ fun cdv A outer s H E p F0 hr => ?_
  exact dBone (dRet (dFs (DJ.cons (dStr) (DJ.cons (dFmt (dFld (ck := "Card") (ks := ["held", "daily"]) 0 rfl (by decide) c_Card n_Card_held (dVar 0))) (DJ.cons (dStr) (DJ.cons (dFmt (dFld (ck := "Card") (ks := ["held", "daily"]) 1 rfl (by decide) c_Card n_Card_daily (dVar 0))) (DJ.nil)))))))
theorem bi_Card___str__ {K : PySem.W.Frag} {mg : Str → Option Value} (C : HF fa fn K mg) : Binds K (fdOf K (Pl.ad K (.meth "Card" "__str__"))) ["self"] [] := (C.fun_ 11 (d := d_Card___str__) rfl).bindsN fun _ _ _ _ _ _ us hl => match us, hl with | [_], _ => rfl
theorem ok_Card___str__ (C : HF fa fn K mg) : FO cs P w K mg base 1 (.meth "Card" "__str__") ["self"] 1 mf_Card___str__ := by
  have n_Card_held := C.noat 16 rfl
  have c_Card := C.cls 17 rfl
  have n_Card_daily := C.noat 18 rfl
  have sc := sc_Card___str__
  refine fn_mir (C.fun_ 11 (d := d_Card___str__) rfl) sc_Card___str__ fun cdv A outer s H E p F0 hr => ?_
  exact dBone (dRet (dFs (DJ.cons (dFmt (dFld (ck := "Card") (ks := ["held", "daily"]) 0 rfl (by decide) c_Card n_Card_held (dVar 0))) (DJ.cons (dStr) (DJ.cons (dFmt (dFld (ck := "Card") (ks := ["held", "daily"]) 1 rfl (by decide) c_Card n_Card_daily (dVar 0))) (DJ.nil))))))
theorem bi_Card_limit {K : PySem.W.Frag} {mg : Str → Option Value} (C : HF fa fn K mg) : Binds K (fdOf K (Pl.ad K (.prop "Card" "limit"))) ["self"] [] := (C.fun_ 12 (d := d_Card_limit) rfl).bindsN fun _ _ _ _ _ _ us hl => match us, hl with | [_], _ => rfl
theorem ok_Card_limit (C : HF fa fn K mg) : FO cs P w K mg base 1 (.prop "Card" "limit") ["self"] 1 mf_Card_limit := by
  have n_Card_daily := C.noat 18 rfl
  have c_Card := C.cls 17 rfl
  have sc := sc_Card_limit
  refine fn_mir (C.fun_ 12 (d := d_Card_limit) rfl) sc_Card_limit fun cdv A outer s H E p F0 hr => ?_
  exact dBone (dRet (dFld (ck := "Card") (ks := ["held", "daily"]) 1 rfl (by decide) c_Card n_Card_daily (dVar 0)))
theorem bi_Card_balance {K : PySem.W.Frag} {mg : Str → Option Value} (C : HF fa fn K mg) : Binds K (fdOf K (Pl.ad K (.prop "Card" "balance"))) ["self"] [] := (C.fun_ 13 (d := d_Card_balance) rfl).bindsN fun _ _ _ _ _ _ us hl => match us, hl with | [_], _ => rfl
theorem ok_Card_balance (C : HF fa fn K mg) : FO cs P w K mg base 1 (.prop "Card" "balance") ["self"] 1 mf_Card_balance := by
  have n_Card_held := C.noat 16 rfl
  have c_Card := C.cls 17 rfl
  have sc := sc_Card_balance
  refine fn_mir (C.fun_ 13 (d := d_Card_balance) rfl) sc_Card_balance fun cdv A outer s H E p F0 hr => ?_
  exact dBone (dRet (dFld (ck := "Card") (ks := ["held", "daily"]) 0 rfl (by decide) c_Card n_Card_held (dVar 0)))
theorem bi__law_shown {K : PySem.W.Frag} {mg : Str → Option Value} (C : HF fa fn K mg) : Binds K (fdOf K (Pl.ad K (.glob "_law_shown"))) ["_law_card", "_law_money", "_law_cap"] [] := (C.fun_ 14 (d := d__law_shown) rfl).bindsN fun _ _ _ _ _ _ us hl => match us, hl with | [_, _, _], _ => rfl
theorem ok__law_shown (C : HF fa fn K mg) : FOG cs P w K mg base 4 (.glob "_law_shown") ["_law_card", "_law_money", "_law_cap"] 3 mf__law_shown := by
  have f_str := C.free 10 rfl
  have nb_Card := noLen_ok (C.fact 28 rfl)
  have f_bool := C.free 12 rfl
  have G_Card___repr__ := ok_Card___repr__ (P := P) (w := w) (base := base) C
  have F_Card___repr__ := C.fun_ 10 (d := d_Card___repr__) rfl
  have B_Card___repr__ := bi_Card___repr__ C
  have oR_Card___repr__ := own_ok (C.fact 29 rfl)
  have f_repr := C.free 30 rfl
  have G_Card___str__ := ok_Card___str__ (P := P) (w := w) (base := base) C
  have F_Card___str__ := C.fun_ 11 (d := d_Card___str__) rfl
  have B_Card___str__ := bi_Card___str__ C
  have oS_Card___str__ := own_ok (C.fact 31 rfl)
  have G_Card_limit := ok_Card_limit (P := P) (w := w) (base := base) C
  have F_Card_limit := C.fun_ 12 (d := d_Card_limit) rfl
  have B_Card_limit := bi_Card_limit C
  have p_Card_limit := prop_ok (C.fact 32 rfl)
  have c_Card := C.cls 17 rfl
  have G_Card_balance := ok_Card_balance (P := P) (w := w) (base := base) C
  have F_Card_balance := C.fun_ 13 (d := d_Card_balance) rfl
  have B_Card_balance := bi_Card_balance C
  have p_Card_balance := prop_ok (C.fact 33 rfl)
  have sc := sc__law_shown
  refine fn_mirG (C.fun_ 14 (d := d__law_shown) rfl) sc__law_shown fun cdv A outer s H E p F0 hgd hr => ?_
  exact dBcons (dSet (i := 3) sc.nd rfl (by first | exact Or.inl rfl | exact Or.inr rfl) (dBin op_addA m_add (dBin op_addA m_add (dCallT m_strI call_str_int rfl f_str bb_str (dCons (dVar 1) (dNil))) (dStr)) (dCallT m_strI call_str_int rfl f_str bb_str (dCons (dVar 2) (dNil))))) (dBcons (dSet (i := 4) sc.nd rfl (by first | exact Or.inl rfl | exact Or.inr rfl) (dFz (dLstO (dCons (dVar 1) (dCons (dVar 2) (dCons (dVar 3) (dCons (dBin op_addA m_add (dStr) (dVar 3)) (dCons (dBl) (dNil))))))))) (dBone (dRet (dCmp op_eq m_eqS (dRepL hgd (room65' hr) rfl f_repr (dFz (dLstO (dCons (dProp (ck := "Card") (dVar 0) c_Card p_Card_balance G_Card_balance (hr.mono (by decide)) B_Card_balance) (dCons (dProp (ck := "Card") (dVar 0) c_Card p_Card_limit G_Card_limit (hr.mono (by decide)) B_Card_limit) (dCons (dStrO (ck := "Card") G_Card___str__ (hr.mono (by decide)) B_Card___str__ oS_Card___str__ rfl f_str (dVar 0)) (dCons (dRepX (ck := "Card") G_Card___repr__ (hr.mono (by decide)) B_Card___repr__ oR_Card___repr__ rfl f_repr (dVar 0)) (dCons (dTrueOb (ck := "Card") nb_Card rfl f_bool (dVar 0)) (dNil))))))))) (dRepL hgd (room65' hr) rfl f_repr (dVar 4)) (nomark _)))))
theorem bi_Card___eq__ {K : PySem.W.Frag} {mg : Str → Option Value} (C : HF fa fn K mg) : Binds K (fdOf K (Pl.ad K (.meth "Card" "__eq__"))) ["self", "other"] [] := (C.fun_ 15 (d := d_Card___eq__) rfl).bindsN fun _ _ _ _ _ _ us hl => match us, hl with | [_, _], _ => rfl
theorem ok_Card___eq__ (C : HF fa fn K mg) : FO cs P w K mg base 1 (.meth "Card" "__eq__") ["self", "other"] 2 mf_Card___eq__ := by
  have isi := isi_ok (C.fact 0 rfl)
  have g_Card := C.glo 20 rfl
  have f_isinstance := C.free 11 rfl
  have n_Card_held := C.noat 16 rfl
  have c_Card := C.cls 17 rfl
  have n_Card_daily := C.noat 18 rfl
  have sc := sc_Card___eq__
  refine fn_mir (C.fun_ 15 (d := d_Card___eq__) rfl) sc_Card___eq__ fun cdv A outer s H E p F0 hr => ?_
  exact dBone (dRet (dAndV (dCallB (m_isi isi) call_isi rfl f_isinstance bb_isinstance (dCons (dVar 1) (dCons (dGC (k := "Card") hc_Card rfl g_Card) (dNil)))) (dAndV (dCmp (op_eqD hr.units) m_eq (dFld (ck := "Card") (ks := ["held", "daily"]) 0 rfl (by decide) c_Card n_Card_held (dVar 0)) (dFld (ck := "Card") (ks := ["held", "daily"]) 0 rfl (by decide) c_Card n_Card_held (dVar 1)) (nomark _)) (dOneV (dCmp (op_eqD hr.units) m_eq (dFld (ck := "Card") (ks := ["held", "daily"]) 1 rfl (by decide) c_Card n_Card_daily (dVar 0)) (dFld (ck := "Card") (ks := ["held", "daily"]) 1 rfl (by decide) c_Card n_Card_daily (dVar 1)) (nomark _))))))
theorem bi__law_right {K : PySem.W.Frag} {mg : Str → Option Value} (C : HF fa fn K mg) : Binds K (fdOf K (Pl.ad K (.glob "_law_right"))) ["_law_purse_here"] [] := (C.fun_ 16 (d := d__law_right) rfl).bindsN fun _ _ _ _ _ _ us hl => match us, hl with | [_], _ => rfl
theorem ok__law_right (C : HF fa fn K mg) : FOG cs P w K mg base 8 (.glob "_law_right") ["_law_purse_here"] 1 mf__law_right := by
  have G__law_draw := ok__law_draw (P := P) (w := w) (base := base) C
  have F__law_draw := C.fun_ 0 (d := d__law_draw) rfl
  have B__law_draw := bi__law_draw C
  have g__law_draw := C.glo 7 rfl
  have f_range := C.free 4 rfl
  have G__law_pair := ok__law_pair (P := P) (w := w) (base := base) C
  have F__law_pair := C.fun_ 2 (d := d__law_pair) rfl
  have B__law_pair := bi__law_pair C
  have g__law_pair := C.glo 9 rfl
  have G__law_made := ok__law_made (P := P) (w := w) (base := base) C
  have F__law_made := C.fun_ 9 (d := d__law_made) rfl
  have B__law_made := bi__law_made C
  have g__law_made := C.glo 26 rfl
  have f_zip := C.free 27 rfl
  have G__law_shown := ok__law_shown (P := P) (w := w) (base := base) C
  have F__law_shown := C.fun_ 14 (d := d__law_shown) rfl
  have B__law_shown := bi__law_shown C
  have g__law_shown := C.glo 34 rfl
  have G_Card___eq__ := ok_Card___eq__ (P := P) (w := w) (base := base) C
  have F_Card___eq__ := C.fun_ 15 (d := d_Card___eq__) rfl
  have B_Card___eq__ := bi_Card___eq__ C
  have e_Card := eqc_ok (C.fact 35 rfl)
  have f_repr := C.free 30 rfl
  have G_Card___repr__ := ok_Card___repr__ (P := P) (w := w) (base := base) C
  have F_Card___repr__ := C.fun_ 10 (d := d_Card___repr__) rfl
  have B_Card___repr__ := bi_Card___repr__ C
  have oR_Card___repr__ := own_ok (C.fact 29 rfl)
  have G_Card___str__ := ok_Card___str__ (P := P) (w := w) (base := base) C
  have F_Card___str__ := C.fun_ 11 (d := d_Card___str__) rfl
  have B_Card___str__ := bi_Card___str__ C
  have oS_Card___str__ := own_ok (C.fact 31 rfl)
  have f_str := C.free 10 rfl
  have f_list := C.free 36 rfl
  have ea_Card := eqA_ok (eqc_ok (C.fact 35 rfl)) (C.fact 37 rfl)
  have isi := isi_ok (C.fact 0 rfl)
  have sc := sc__law_right
  refine fn_mirG (C.fun_ 16 (d := d__law_right) rfl) sc__law_right fun cdv A outer s H E p F0 hgd hr => ?_
  exact dBcons (dSet (i := 1) sc.nd rfl (by first | exact Or.inl rfl | exact Or.inr rfl) (dCall G__law_draw (hr.mono (by decide)) rfl g__law_draw F__law_draw.kp B__law_draw (dCons (dVar 0) (dCons (dInt) (dNil))))) (dBcons (dLcSetO 2 [] (own := [("_law_turn", 4)]) rfl sc.nd rfl rfl (sw_true rfl rfl rfl (by kernel_rfl)) (dIrng1 rfl f_range (dCons (dInt) (dNil))) (blkOk_by (by kernel_rfl)) (fun _ _ _ _ _ => dGn (i := 4) sc.nd rfl (by first | exact Or.inl rfl | exact Or.inr rfl)) (fun _ _ _ _ _ => dYes) (fun _ _ _ _ _ => dCall G__law_pair (hr.mono (by decide)) rfl g__law_pair F__law_pair.kp B__law_pair (dCons (dVar 0) (dNil)))) (dBcons (dApp 2 (dIf (dTcmp (op_eqD hr.units) m_eq (dVar 1) (dInt) (nomark _)) (dIxO 2 (dInt)) (dTup (dCons (dIx ix_seq m_ix (dIxO 2 (dInt)) (dInt)) (dCons (dBin op_addA m_add (dIx ix_seq m_ix (dIxO 2 (dInt)) (dInt)) (dInt)) (dNil)))))) (dBcons (dFrzS 2 (dLcSet 3 [] (own := [("_law_money", 6), ("_law_cap", 7)]) rfl sc.nd rfl rfl (sw_true rfl rfl rfl (by kernel_rfl)) (dIany (dVar 2)) (blkOk_by (by kernel_rfl)) (fun _ _ _ _ _ => dGt (n := 2) rfl (dGcons (dGn (i := 6) sc.nd rfl (by first | exact Or.inl rfl | exact Or.inr rfl)) (dGcons (dGn (i := 7) sc.nd rfl (by first | exact Or.inl rfl | exact Or.inr rfl)) (dGnil)))) (fun _ _ _ _ _ => dYes) (fun _ _ _ _ _ => dCall G__law_made (hr.mono (by decide)) rfl g__law_made F__law_made.kp B__law_made (dCons (dVar 0) (dCons (dVar 6) (dCons (dVar 7) (dNil))))))) (dBcons (dFor PassesOwn.never rfl (dIrng1 rfl f_range (dCons (dInt) (dNil))) (dGn (i := 4) sc.nd rfl (by first | exact Or.inl rfl | exact Or.inr rfl)) (dBone (dFrzS 2 (dFor PassesOwn.never rfl (dIzipA rfl f_zip (dCons (dVar 3) (dCons (dVar 2) (dNil)))) (dGt (n := 2) rfl (dGcons (dGn (i := 5) sc.nd rfl (by first | exact Or.inl rfl | exact Or.inr rfl)) (dGcons (dGt (n := 2) rfl (dGcons (dGn (i := 6) sc.nd rfl (by first | exact Or.inl rfl | exact Or.inr rfl)) (dGcons (dGn (i := 7) sc.nd rfl (by first | exact Or.inl rfl | exact Or.inr rfl)) (dGnil)))) (dGnil)))) (dBone (dIfS (dNotT (dTst (dCallG G__law_shown hgd (hr.mono (by decide)) rfl g__law_shown F__law_shown.kp B__law_shown (dCons (dVar 5) (dCons (dVar 6) (dCons (dVar 7) (dNil))))))) (dBone (dRet (dBl))) (dBnil))))))) (dBcons (dFrzS 2 (dFor PassesOwn.never rfl (dIzipA rfl f_zip (dCons (dVar 3) (dCons (dVar 2) (dNil)))) (dGt (n := 2) rfl (dGcons (dGn (i := 5) sc.nd rfl (by first | exact Or.inl rfl | exact Or.inr rfl)) (dGcons (dGn (i := 8) sc.nd rfl (by first | exact Or.inl rfl | exact Or.inr rfl)) (dGnil)))) (dBcons (dFrzS 2 (dFor PassesOwn.never rfl (dIzipA rfl f_zip (dCons (dVar 3) (dCons (dVar 2) (dNil)))) (dGt (n := 2) rfl (dGcons (dGn (i := 9) sc.nd rfl (by first | exact Or.inl rfl | exact Or.inr rfl)) (dGcons (dGn (i := 10) sc.nd rfl (by first | exact Or.inl rfl | exact Or.inr rfl)) (dGnil)))) (dBone (dIfS (dTcmp op_ne m_neS (dRepL hgd (room65' hr) rfl f_repr (dFz (dLstO (dCons (dEqO (ck := "Card") G_Card___eq__ (hr.mono (by decide)) B_Card___eq__ e_Card (dVar 5) (dVar 9)) (dCons (dNeO (ck := "Card") G_Card___eq__ (hr.mono (by decide)) B_Card___eq__ e_Card (dVar 5) (dVar 9)) (dNil)))))) (dRepL hgd (room65' hr) rfl f_repr (dFz (dLstO (dCons (dCmp (op_eqD hr.units) m_eq (dVar 8) (dVar 10) (nomark _)) (dCons (dCmp (op_neD hr.units) m_ne (dVar 8) (dVar 10) (nomark _)) (dNil)))))) (nomark _)) (dBone (dRet (dBl))) (dBnil))))) (dBone (dFor PassesOwn.never rfl (dIany (dFz (dLstO (dCons (dNon) (dCons (dBl) (dCons (dInt) (dCons (dIx ix_seq m_ix (dVar 8) (dInt)) (dCons (dIx ix_seq m_ix (dVar 8) (dInt)) (dCons (dVar 8) (dCons (dCallT m_list call_list_of rfl f_list bb_list (dCons (dVar 8) (dNil))) (dCons (dStrO (ck := "Card") G_Card___str__ (hr.mono (by decide)) B_Card___str__ oS_Card___str__ rfl f_str (dVar 5)) (dCons (dRepX (ck := "Card") G_Card___repr__ (hr.mono (by decide)) B_Card___repr__ oR_Card___repr__ rfl f_repr (dVar 5)) (dCons (dFz (dLstO (dCons (dVar 5) (dNil)))) (dCons (dDct0) (dNil))))))))))))))) (dGn (i := 11) sc.nd rfl (by first | exact Or.inl rfl | exact Or.inr rfl)) (dBone (dIfS (PW.pt (dOrT (dTeqA (ck := "Card") (ks := []) isi G_Card___eq__ (hr.mono (by decide)) B_Card___eq__ ea_Card (dVar 5) (dVar 11)) (dOr1 (dNotT (dTneA (ck := "Card") (ks := []) isi G_Card___eq__ (hr.mono (by decide)) B_Card___eq__ ea_Card (dVar 5) (dVar 11)))))) (dBone (dRet (dBl))) (dBnil)))))))) (dBone (dRet (dBl))))))))
theorem bi__law_purse {K : PySem.W.Frag} {mg : Str → Option Value} (C : HF fa fn K mg) : Binds K (fdOf K (Pl.ad K (.glob "_law_purse"))) ["_law_cell_here"] [] := (C.fun_ 17 (d := d__law_purse) rfl).bindsN fun _ _ _ _ _ _ us hl => match us, hl with | [_], _ => rfl
theorem okL__law_purse (C : HF fa fn K mg) : FnOk P w K mg base CX0 1 (Pl.ad K (.glob "_law_purse")) (fdOf K (Pl.ad K (.glob "_law_purse"))) ["_law_cell_here"] (spL (WW cs K) 1 mfL__law_purse) := by
  have f_int := C.free 6 rfl
  have sc := sc__law_purse
  refine fn_mirL (C.fun_ 17 (d := d__law_purse) rfl) sc__law_purse fun cdv A outer s H E p F0 hr => ?_
  exact dBone (dRetL (dLstO (dCons (dIf (dTcmp op_ge m_ge (dVar 0) (dBin op_pow m_pow (dInt) (dInt)) (nomark _)) (dVar 0) (dInt)) (dCons (dBin op_mod m_mod (dCallT m_int1 call_int1 rfl f_int bb_int (dCons (dVar 0) (dNil))) (dInt)) (dCons (dInt) (dNil))))))
theorem bi__law_cell {K : PySem.W.Frag} {mg : Str → Option Value} (C : HF fa fn K mg) : Binds K (fdOf K (Pl.ad K (.glob "_law_cell"))) ["_law_cells", "_law_k"] [] := (C.fun_ 18 (d := d__law_cell) rfl).bindsN fun _ _ _ _ _ _ us hl => match us, hl with | [_, _], _ => rfl
theorem ok__law_cell (C : HF fa fn K mg) : FO cs P w K mg base 1 (.glob "_law_cell") ["_law_cells", "_law_k"] 2 mf__law_cell := by
  have f_len := C.free 1 rfl
  have f_int := C.free 6 rfl
  have sc := sc__law_cell
  refine fn_mir (C.fun_ 18 (d := d__law_cell) rfl) sc__law_cell fun cdv A outer s H E p F0 hr => ?_
  exact dBcons (dIfS (dTcmp op_lt m_lt (dVar 1) (dCallB m_len call_lenA rfl f_len bb_len (dCons (dVar 0) (dNil))) (nomark _)) (dBone (dRet (dIx ix_seq m_ix (dVar 0) (dVar 1)))) (dBnil)) (dBcons (dSet (i := 2) sc.nd rfl (by first | exact Or.inl rfl | exact Or.inr rfl) (dBin op_mod m_mod (dCallT m_int1 call_int1 rfl f_int bb_int (dCons (dBin op_mulA m_mul (dBin op_mulA m_mul (dInt) (dBin op_addA m_add (dVar 1) (dInt))) (dBin op_addA m_add (dVar 1) (dInt))) (dNil))) (dInt))) (dBcons (dFor PassesOwn.never rfl (dIany (dSl (dVar 0) (dOn) (dOs (dInt)))) (dGn (i := 3) sc.nd rfl (by first | exact Or.inl rfl | exact Or.inr rfl)) (dBone (dSet (i := 2) sc.nd rfl (by first | exact Or.inl rfl | exact Or.inr rfl) (dBin op_mod m_mod (dCallT m_int1 call_int1 rfl f_int bb_int (dCons (dBin op_addA m_add (dBin op_mulA m_mul (dVar 2) (dInt)) (dVar 3)) (dNil))) (dInt))))) (dBone (dRet (dVar 2)))))
theorem bi_law {K : PySem.W.Frag} {mg : Str → Option Value} (C : HF fa fn K mg) : Binds K (fdOf K (Pl.ad K (.glob "law"))) ["_law_cells"] [] := (C.fun_ 19 (d := d_law) rfl).bindsN fun _ _ _ _ _ _ us hl => match us, hl with | [_], _ => rfl
theorem ok_law (C : HF fa fn K mg) : FOG cs P w K mg base 9 (.glob "law") ["_law_cells"] 1 mf_law := by
  have f_len := C.free 1 rfl
  have f_min := C.free 2 rfl
  have f_max := C.free 3 rfl
  have f_range := C.free 4 rfl
  have G__law_right := ok__law_right (P := P) (w := w) (base := base) C
  have F__law_right := C.fun_ 16 (d := d__law_right) rfl
  have B__law_right := bi__law_right C
  have GL__law_purse := okL__law_purse (P := P) (w := w) (base := base) C
  have F__law_purse := C.fun_ 17 (d := d__law_purse) rfl
  have B__law_purse := bi__law_purse C
  have G__law_cell := ok__law_cell (P := P) (w := w) (base := base) C
  have F__law_cell := C.fun_ 18 (d := d__law_cell) rfl
  have B__law_cell := bi__law_cell C
  have g__law_cell := C.glo 38 rfl
  have g__law_purse := C.glo 39 rfl
  have g__law_right := C.glo 40 rfl
  have f_all := C.free 22 rfl
  have sc := sc_law
  refine fn_mirG (C.fun_ 19 (d := d_law) rfl) sc_law fun cdv A outer s H E p F0 hgd hr => ?_
  exact dBone (dRet (dCallB m_all (cr_all rfl) rfl f_all bb_all (dCons (dFz (dLcO (own := [("_law_k", 1)]) rfl sc.nd (dIrng1 rfl f_range (dCons (dCallB m_max (cr_maxA rfl) rfl f_max bb_max (dCons (dInt) (dCons (dCallB m_min (cr_minA rfl) rfl f_min bb_min (dCons (dCallB m_len call_lenA rfl f_len bb_len (dCons (dVar 0) (dNil))) (dCons (dInt) (dNil)))) (dNil)))) (dNil))) (blkOk_by (by kernel_rfl)) (fun _ _ _ _ _ => dGn (i := 1) sc.nd rfl (by first | exact Or.inl rfl | exact Or.inr rfl)) (fun _ _ _ _ _ => dYes) (fun _ _ _ _ _ => dWithG G__law_right hgd (hr.mono (by decide)) rfl g__law_right F__law_right.kp B__law_right (dCallL GL__law_purse (hr.mono (by decide)) rfl g__law_purse F__law_purse.kp B__law_purse (dCons (dCall G__law_cell (hr.mono (by decide)) rfl g__law_cell F__law_cell.kp B__law_cell (dCons (dVar 0) (dCons (dVar 1) (dNil)))) (dNil)))))) (dNil))))
theorem glaw (C : HF fa fn K mg) : mg "law" = some (.ref (ga K "law")) := C.glo 41 rfl
theorem flaw (C : HF fa fn K mg) : FunP K d_law := C.fun_ 19 rfl
end
end G02

set_option maxHeartbeats 0
namespace G02
open PySem PySem.Spec PyProof.Rows L2 Mi He
abbrev RR : PySem.W.OpenRow := PySem.W.OpenLaw.row PySem.Challenge.rw_sparepay_k02_cards_made_and_read
def loose : List Str := [("_wall" : Str), ("WrongValue" : Str), ("InvalidText" : Str), ("InvalidAmount" : Str), ("MOST_DAYS" : Str), ("DIGITS" : Str), ("is_integer" : Str), ("is_natural" : Str), ("number_of" : Str), ("Card" : Str), ("card_of" : Str), ("_law_cell" : Str), ("_law_purse" : Str), ("_law_draw" : Str), ("_law_large" : Str), ("_law_pair" : Str), ("_law_made" : Str), ("_law_shown" : Str), ("_law_right" : Str)]
abbrev hk : PySem.W.Hook := hookP 5 fa fn
def ob (s : PySem.W.SharedT) : AlP := obsPG 5 fa fn (HandSHeadRun.getT s)
theorem ob_eq (s : PySem.W.SharedT) : ob s = hk.obs s.abs := obsPG_eq (HandSHeadRun.getT_eq s)
theorem run (w : World) : HandSHeadRun.RunEq RR (PySem.W.view RR.prog [23]) hk ob 20000 loose w := by
  intro os
  kernel_rfl
end G02

open PySem PySem.W PySem.Calls PyProof.Rows in
theorem G02.fin (hlaw : ∀ (ns : List Int) (o : L2.HO), ns.length ≤ 63 → ∃ u', G02.mf_law [.scr ns] (.idle o) = some (.bl true, u')) : PySem.Challenge.rw_sparepay_k02_cards_made_and_read.Holds := by
  w_on; o_law
  refine HandSHeadRun.head_any (r := OpenLaw.row PySem.Challenge.rw_sparepay_k02_cards_made_and_read) (q := view (OpenLaw.row PySem.Challenge.rw_sparepay_k02_cards_made_and_read).prog [23]) (H := G02.hk) (ob := G02.ob) (M := 20000) (loose := G02.loose) (d := HandSHeadRun.topDef (OpenLaw.row PySem.Challenge.rw_sparepay_k02_cards_made_and_read).prog 23) (kwd := []) G02.ob_eq
    (by kernel_rfl) (fun s => by kernel_rfl) G02.run (by kernel_rfl) (by kernel_rfl) (by kernel_rfl) (by rfl) (by first | assumption | decide +kernel) (by decide +kernel) ⟨rfl, rfl, rfl, rfl, rfl, by decide +kernel⟩ ?hw ?hc
  case hw => w_witness2
  case hc =>
    refine Mi.walk_G (l := PySem.Challenge.rw_sparepay_k02_cards_made_and_read) (n := 63) (k := 9) (x := "_law_cells") rfl (by decide) (by kernel_rfl) ⟨rfl, by decide, by decide⟩ ?F
    intro w mg fa h Y G hmg0
    obtain ⟨K, KX, c⟩ := Y
    have hmg : mg ("law" : PySem.Str) = some (.ref fa) := by
      have e : (HandSHeadRun.topDef (OpenLaw.row PySem.Challenge.rw_sparepay_k02_cards_made_and_read).prog 23).name = ("law" : PySem.Str) := by kernel_rfl
      rw [← e]
      exact hmg0
    have C : Mi.HF G02.fa G02.fn K mg := ⟨c, h, KX, G⟩
    have eg := G02.glaw C
    rw [hmg] at eg
    cases eg
    have b := L2.FunD.bindsA (ps := ["_law_cells"]) (G02.flaw C) fun _ _ _ _ _ _ us hl => match us, hl with | [_], _ => rfl
    refine ⟨K, _, @Mi.spM Mi.noTabl (Mi.WW G02.cs K) 1 G02.mf_law, KX, fun s v => b s [v] rfl, fun H a ns hl _ hS => Mi.law_sp (TB := Mi.noTabl) (C.fact 42 rfl) 63 hlaw H a ns hl hS (fun _ h => nomatch h), fun base _ _ => G02.ok_law (TB := Mi.noTabl) C⟩

theorem PySem.Challenge.cw_sparepay_k02_cards_made_and_read_holds : PySem.Challenge.rw_sparepay_k02_cards_made_and_read.Holds := by
  exact G02.fin G02.hlaw
