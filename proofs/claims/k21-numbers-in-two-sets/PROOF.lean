import PyProof.Rows.All
import Wide.All
import OpenK.AllK
import Wide.FinOn
import KE.KStateDown
import Lean
import HandS.ForMost
import HandS.ForExc
import HandS.Flow
import HandS.Wide
import HandS.WideBits
import HandS.Small
import HandS.More
import HandS.Defaults
import HandS.IsInst
import HandS.Conv
import HandS.Codes
import HandS.SlotsOwn
import HandS.Property
import KE.KOpsOwn
import KE.KCallOwn
import HandS.Head0
import HandS.Head1
import HandS.Head2
import HandS.HeadEnd
import HandS.HeadHook1
import HandS.HeadHook2
import HandS.HeadHook3
import HandS.HeadHook4
import PySem.Challenge.RW_roomdials_k21_numbers_in_two_sets
set_option Elab.async false
set_option linter.all false
set_option maxRecDepth 100000
set_option maxHeartbeats 4000000
namespace Rd
open PySem PySem.Spec PyProof.Rows L2
/-! ### heaps -/
/-- all but t is as it was -/
def But (t : Addr) (H H' : Hp) : Prop := ∀ b o, b ≠ t → H b = some o → H' b = some o
theorem But.refl (t : Addr) (H : Hp) : But t H H := fun _ _ _ h => h
theorem But.trans {t : Addr} {H H1 H2 : Hp} (a : But t H H1) (b : But t H1 H2) : But t H H2 := fun c o n h => b c o n (a c o n h)
theorem But.of_same {t : Addr} {H H1 : Hp} (a : Same H H1) : But t H H1 := fun c o _ h => a c o h
theorem But.upd {t : Addr} {H H1 : Hp} {o : HO} (a : But t H H1) : But t H (L2.upd H1 t o) := fun c u n h => by
  rw [upd_ne n]
  exact a c u n h
theorem But.seq {K : PySem.W.Frag} {t : Addr} {H H' : Hp} {a : Addr} {xs : List V} (e : But t H H') (n : a ≠ t) (h : SqL K H a xs) : SqL K H' a xs := by
  rcases h with (h | ⟨o, h⟩) | h
  · exact .inl (.inl (e _ _ n h))
  · exact .inl (.inr ⟨o, e _ _ n h⟩)
  · exact .inr h
theorem same_new {H : Hp} {p : Addr} {o : HO} (h : H p = none) : Same H (upd H p o) := fun a u e => by
  rw [upd_ne (ne_of_none e h)]
  exact e
theorem same_new' {H H1 : Hp} {p : Addr} {o : HO} (s : Same H H1) (h : H1 p = none) : Same H (upd H1 p o) := s.trans (same_new h)
theorem iteT' {c : Bool} {A B : Prop} (hc : c = true) (h : A) : if c = true then A else B := by
  rw [if_pos hc]
  exact h
theorem iteF' {c : Bool} {A B : Prop} (hc : c = false) (h : B) : if c = true then A else B := by
  rw [if_neg (by rw [hc]; exact Bool.false_ne_true)]
  exact h
/-! ### callables -/
section
variable (P : Program) (w : World) (K : PySem.W.Frag) (mg : Str → Option Value) (base : Heap)
/-- a def of the module that may be called by its name -/
structure Cal (k : Nat) (x : Str) (sp : Sp) : Prop where
  ex : ∃ (f : Addr) (fd : FuncData) (ps : List Str), FnOk P w K mg base (L2.CX P w) k f fd ps sp ∧ mg x = some (.ref f) ∧ PySem.W.keepIn K (.ref f) = true ∧ Binds K fd ps []
/-- a method of the class at C -/
structure Met (k : Nat) (C : Addr) (m : Str) (sp : Sp) : Prop where
  ex : ∃ (f : Addr) (fd : FuncData) (ps : List Str), Cls K C ∧ Meth K C m f ∧ FnOk P w K mg base (L2.CX P w) k f fd ps sp ∧ Binds K fd ps []
/-- a class that may be made by its name; sp: its __init__ -/
structure Mak (k : Nat) (x : Str) (C : Addr) (sp : Sp) : Prop where
  ex : ∃ (f : Addr) (fd : FuncData) (ps : List Str), Mk K C f ∧ FnOk P w K mg base (L2.CX P w) k f fd ps sp ∧ mg x = some (.ref C) ∧ Binds K fd ps []
end
abbrev FnP (K : PySem.W.Frag) (x q : Str) (st : Stmt) (f : Addr) (fd : FuncData) : Prop := FunD K x q (defArgs st) (defBody st) (defScope st) [] [] f fd
section
variable {X : Cx} {k j : Nat} {C : Addr} {x m : Str} {sp : Sp} {p pos apos : Pos} {e o : Expr} {es : List Expr} {ta : TE} {t : TA}
theorem pe_c (c : Cal X.prog X.w X.K X.mg X.base k x sp) (hr : Room j X.A) (hk : k ≤ j) (hg : Gl X x) (ha : PA X (e :: es) t)
    (hdb : (x == ("__debug__" : Str)) = false := by decide) (he : starEach (e :: es) X.env = (false, eval e X.env) :: starEach es X.env := by rfl) (hpl : (backTo pos (starEach es X.env)).any (·.1) = false := by rfl) :
    PE X (.Call (.Name x p) (e :: es) [] pos) (tCall sp [] E0 t) := by
  obtain ⟨f, fd, ps, F, hm, kp, b⟩ := c.ex
  exact pe_call F (hr.mono hk) hg hm kp b .nil passL ha hdb he hpl
theorem pe_mk (c : Mak X.prog X.w X.K X.mg X.base k x C sp) (hr : Room j X.A) (hk : k + 1 ≤ j) (hg : Gl X x) (ha : PA X (e :: es) t)
    (hdb : (x == ("__debug__" : Str)) = false := by decide) (he : starEach (e :: es) X.env = (false, eval e X.env) :: starEach es X.env := by rfl) (hpl : (backTo pos (starEach es X.env)).any (·.1) = false := by rfl) :
    PE X (.Call (.Name x p) (e :: es) [] pos) (tMake C sp [] E0 t) := by
  obtain ⟨f, fd, ps, M, F, hm, b⟩ := c.ex
  exact pe_make M F (hr.mono hk) hg hm b .nil passL ha hdb he hpl
theorem pe_mt {pl : Sem Bool} (c : Met X.prog X.w X.K X.mg X.base k C m sp) (hr : Room j X.A) (hk : k ≤ j) (he : PE X o ta) (ha : PA X (e :: es) t)
    (hst : starEach (e :: es) X.env = (false, eval e X.env) :: starEach es X.env := by rfl) (hpl : (backTo pos (starEach es X.env)).any (·.1) = false := by rfl)
    (ht : eval (.Call (.Attribute o m apos) (e :: es) [] pos) X.env = (do
      let ov ← eval o X.env
      standAt apos.atName
      let (f, first) ← holding [ov] (getMethod ov m pl)
      callWith pos f first (backTo pos (starEach (e :: es) X.env)) (backToKw pos (keywordEach [] X.env))) := by rfl) :
    PE X (.Call (.Attribute o m apos) (e :: es) [] pos) (tMeth C m sp [] E0 ta t) := by
  obtain ⟨f, fd, ps, hc, hm, F, b⟩ := c.ex
  exact pe_meth (pl := pl) he hc hm F (hr.mono hk) b .nil passL ha hst hpl ht
theorem pe_mt0 {pl : Sem Bool} (c : Met X.prog X.w X.K X.mg X.base k C m sp) (hr : Room j X.A) (hk : k ≤ j) (he : PE X o ta)
    (ht : eval (.Call (.Attribute o m apos) [] [] pos) X.env = (do
      let ov ← eval o X.env
      standAt apos.atName
      let (f, first) ← holding [ov] (getMethod ov m pl)
      callWith pos f first (backTo pos (starEach [] X.env)) (backToKw pos (keywordEach [] X.env))) := by rfl) :
    PE X (.Call (.Attribute o m apos) [] [] pos) (tMeth C m sp [] E0 ta tNil) := by
  obtain ⟨f, fd, ps, hc, hm, F, b⟩ := c.ex
  exact pe_meth0 (pl := pl) he hc hm F (hr.mono hk) b .nil passL ht
end
/-! ### the tape -/
def tapeKv (c : Addr) (pl lf : Int) : List (Key × V) := [(Sum.inr "cells", .ref c), (Sum.inr "place", .int pl), (Sum.inr "left", .int lf)]
/-- at t a tape: cells, of which fewer than n draws were begun -/
def TapeAt (H : Hp) (t : Addr) (n : Nat) : Prop := ∃ (c : Addr) (ns : List Int) (pl lf : Int), H t = some (.dK (tapeKv c pl lf)) ∧ H c = some (.lst (ns.map V.int)) ∧ ns ≠ [] ∧ ns.length ≤ 63 ∧ 0 ≤ pl ∧ pl ≤ (n : Int) ∧ 0 ≤ lf
theorem TapeAt.mono {H : Hp} {t : Addr} {n m : Nat} (h : TapeAt H t n) (hn : n ≤ m) : TapeAt H t m := by
  obtain ⟨c, ns, pl, lf, h1, h2, h3, h4, h5, h6, h7⟩ := h
  exact ⟨c, ns, pl, lf, h1, h2, h3, h4, h5, by omega, h7⟩
theorem TapeAt.same {H H' : Hp} {t : Addr} {n : Nat} (h : TapeAt H t n) (s : Same H H') : TapeAt H' t n := by
  obtain ⟨c, ns, pl, lf, h1, h2, h3, h4, h5, h6, h7⟩ := h
  exact ⟨c, ns, pl, lf, s _ _ h1, s _ _ h2, h3, h4, h5, h6, h7⟩
theorem tape_cells (c : Addr) (pl lf : Int) : valV (tapeKv c pl lf) (Sum.inr "cells") = some (.ref c) := by kernel_rfl
theorem tape_place (c : Addr) (pl lf : Int) : valV (tapeKv c pl lf) (Sum.inr "place") = some (.int pl) := by kernel_rfl
theorem tape_left (c : Addr) (pl lf : Int) : valV (tapeKv c pl lf) (Sum.inr "left") = some (.int lf) := by kernel_rfl
theorem tape_put_place (c : Addr) (pl lf z : Int) : putK (tapeKv c pl lf) (Sum.inr "place") (.int z) = tapeKv c z lf := by kernel_rfl
theorem tape_put_left (c : Addr) (pl lf z : Int) : putK (tapeKv c pl lf) (Sum.inr "left") (.int z) = tapeKv c pl z := by kernel_rfl
/-- _law_begin(script) -/
def spBegin (K : PySem.W.Frag) : Sp := fun vs H Q _ => ∃ (a : Addr) (ns : List Int), vs = [.ref a] ∧ SqL K H a (ns.map V.int) ∧ ∀ H' t, Same H H' → H t = none → TapeAt H' t 0 → Q (.ref t) H'
/-- _law_draw(tape, many) -/
def spDraw : Sp := fun vs H Q _ => ∃ (t : Addr) (n : Nat) (m : Int), vs = [.ref t, .int m] ∧ TapeAt H t n ∧ n ≤ 1000000000 ∧ 0 < m ∧ m.natAbs.log2 < 9000 ∧ ∀ H' r, 0 ≤ r → r < m → But t H H' → TapeAt H' t (n + 1) → Q (.int r) H'
end Rd
set_option maxHeartbeats 4000000
namespace Rd
open PySem PySem.Spec PyProof.Rows L2
/-! ### != by an own == (object's own __ne__) -/
section
variable {prog : Program} {w : World} {A : Around} {E : Value → Shared → Prop} {s : Shared} {K : PySem.W.Frag} {x C f : Addr} {ox : Obj} {od : Option Obj} {b tb : Value}
theorem ne_entry {Q : Fin → Shared → Prop} (hu : A.units < cLine) (X : K.In s.heap) (I : PySem.W.InstAt s.heap x ox C od) (hs : PySem.W.findIn K (.ref C) "__eq__" = some (some (.ref f))) (hf : PySem.W.isFn K (.ref f) = true)
    (h : wpAny (model prog w) A (call (.ref f) [.ref x, b]) (fun v s' => ∃ c, v = .bool c ∧ Q (.done (.ret (.bool (!c)))) s') E s) : wpAny (model prog w) A (Builtin.«object.__ne__» ⟨[.ref x, b], []⟩) Q E s := by
  unfold Builtin.«object.__ne__»
  refine wpAny_bind (wpAny_of_eq (a := (Value.ref x, [b])) (by first | rfl | kernel_rfl) ?_)
  show wpAny _ _ (cRoomFor "comparison" [.ref x, b] >>= _) _ _ _
  refine wpAny_bind (wpAny_cRoomFor hu ?_)
  refine wpAny_bind (PySem.W.ifBound_K X I hs hf (wpAny_mono h (fun v s' z => ?_) fun _ _ e => e))
  obtain ⟨c, rfl, q⟩ := z
  show wpAny _ _ (truthy (.bool c) >>= _) _ _ _
  exact wpAny_bind (wpAny_pure (wpAny_pure q))
theorem ifBound_ne {M : Model} {args : List Value} {Q : Option Value → Shared → Prop} (X : K.In s.heap) (I : PySem.W.InstAt s.heap x ox C od) (hs : PySem.W.findIn K (.ref C) "__ne__" = some (some (.builtin "object.__ne__")))
    (h : wpAny M A (call (.builtin "object.__ne__") (.ref x :: args)) (fun v => Q (some v)) E s) : wpAny M A (callSpecialIfBound? (.ref x) "__ne__" args) Q E s := by
  simp only [callSpecialIfBound?, bindSpecialIfBound?]
  refine wpAny_holding (wpAny_bind (wpAny_bind (wpAny_bind (I.type.here ((PySem.W.looks_findIn X hs).here ?_)))))
  refine wpAny_bind (wpAny_askSetting (wpAny_ite ?_))
  have fin : wpAny M A (call (.builtin "object.__ne__") ([.ref x] ++ args) >>= fun v => pure (some v)) Q E s := wpAny_bind (wpAny_mono h (fun v s' h' => wpAny_pure h') fun _ _ h' => h')
  split
  · exact wpAny_bind (wpAny_of_eq (F.cmp_object.ne.bind _) (wpAny_pure (by exact fin)))
  · exact wpAny_tryCatch (wpAny_bind (wpAny_of_eq (F.cmp_object.ne.bind _) (wpAny_pure (by exact fin))))
theorem ne_K {Q : Value → Shared → Prop} (hu : A.units < cLine) (hu1 : A.in1.units < cLine) (X : K.In s.heap) (I : PySem.W.InstAt s.heap x ox C od) (hb : PySem.W.Looks (model prog w) s.heap (typeOf b) tb) (hn : PySem.W.notFirst K C tb = true)
    (hm : PySem.W.mroIn K C (.type "object") = some true) (hne : PySem.W.findIn K (.ref C) "__ne__" = some (some (.builtin "object.__ne__"))) (hs : PySem.W.findIn K (.ref C) "__eq__" = some (some (.ref f))) (hf : PySem.W.isFn K (.ref f) = true)
    (h : wpAny (model prog w) A.in1 (call (.ref f) [.ref x, b]) (fun v s' => ∃ c, v = .bool c ∧ Q (.bool (!c)) s') E s) : wpAny (model prog w) A (richCompare .NotEq (.ref x) b) Q E s := by
  have one : wpAny (model prog w) A (tryCompare (.ref x) "__ne__" b) (fun r s' => ∃ v, r = some v ∧ Q v s') E s := by
    unfold tryCompare
    refine wpAny_bind (ifBound_ne X I hne ?_)
    refine wpAny_call (codeAny_call_builtin F.cmp_object.ne.plain F.cmpEntry_ne (PySem.W.check_slot F.cmpKind_ne F.cmpSplit_ne (I.type.andThen (PySem.W.looks_mroIn X hm)) (F.cmpArgs_ne _ _) ?_))
    refine ne_entry hu1 X I hs hf (wpAny_mono h (fun v s' z => ?_) fun _ _ e => e)
    obtain ⟨c, rfl, q⟩ := z
    exact ⟨c, rfl, wpAny_pure ⟨_, rfl, q⟩⟩
  unfold richCompare
  simp only [oneThing_ref]
  refine wpAny_holding (wpAny_bind (wpAny_cRoomFor hu ?_))
  refine wpAny_bind (I.type.here (wpAny_bind (hb.here ?_)))
  split
  · rename_i q
    have e : PySem.W.subIn K tb (.ref C) = some false := by
      rcases Bool.or_eq_true_iff.mp hn with e | e
      · rw [beq_iff_eq.mp e] at q; simp at q
      · exact beq_iff_eq.mp e
    refine wpAny_bind ((PySem.W.looks_subIn X e).here ?_)
    simp only [Bool.false_eq_true, if_false]
    refine wpAny_bind (wpAny_mono one (fun r s' z => ?_) fun _ _ e => e)
    obtain ⟨v, rfl, hq⟩ := z
    exact wpAny_pure hq
  · refine wpAny_bind (wpAny_pure ?_)
    simp only [Bool.false_eq_true, if_false]
    refine wpAny_bind (wpAny_mono one (fun r s' z => ?_) fun _ _ e => e)
    obtain ⟨v, rfl, hq⟩ := z
    exact wpAny_pure hq
end
/-! ### the type of a value -/
/-- the class of x, as the comparison looks it up -/
inductive TyOf (H : Hp) : V → Value → Prop
  | non : TyOf H .non (.type "NoneType")
  | bl (b : Bool) : TyOf H (.bl b) (.type "bool")
  | int (i : Int) : TyOf H (.int i) (.type "int")
  | str (z : Str) : TyOf H (.str z) (.type "str")
  | ins {a C dx : Addr} {fs : List (Str × V)} (h : H a = some (.ins C dx fs)) : TyOf H (.ref a) (.ref C)
  | lst {a : Addr} {xs : List V} (h : H a = some (.lst xs)) : TyOf H (.ref a) (.type "list")
  | tup {a : Addr} {xs : List V} (h : H a = some (.tup xs)) : TyOf H (.ref a) (.type "tuple")
  | dK {a : Addr} {xs : List (Key × V)} (h : H a = some (.dK xs)) : TyOf H (.ref a) (.type "dict")
  | dT {a : Addr} {xs : List (List Key × V)} (h : H a = some (.dT xs)) : TyOf H (.ref a) (.type "dict")
section
variable {X : Cx} {CX : CXT} {pins : List (Addr × Obj)} {σ : L2.St} {H : Hp} {s : Shared} {a C dx g : Addr} {n : Nat} {sp : Sp} {E : XK}
theorem inst_at {fs : List (Str × V)} (I : Inv X pins σ H s) (h : H a = some (.ins C dx fs)) : ∃ ox od, PySem.W.InstAt s.heap a ox C (some od) ∧ ox.data = .plain := by
  obtain ⟨mA, J, _⟩ := ins_get I.hok h
  obtain ⟨od, J, _⟩ := J.look
  exact ⟨_, od, J, rfl⟩
theorem TyOf.looks {M : Model} {x : V} {u t : Value} (I : Inv X pins σ H s) (r : RelV x u) (h : TyOf H x t) : PySem.W.Looks M s.heap (typeOf u) t := by
  cases h with
  | non => cases r; exact PySem.W.Looks.of_pure rfl
  | bl b => cases r; exact PySem.W.Looks.of_pure rfl
  | int i => obtain ⟨t, rfl⟩ := r; exact PySem.W.Looks.of_pure rfl
  | str z => obtain ⟨t, rfl⟩ := r; exact PySem.W.Looks.of_pure rfl
  | ins h =>
    cases r
    obtain ⟨ox, od, J, _⟩ := inst_at I h
    exact J.type
  | lst h =>
    cases r
    obtain ⟨_, its, n, _, e⟩ := (show ObjOk _ _ _ _ _ _ from I.hok _ _ h)
    intro A Q E s k q
    exact wpAny_typeOf (s := s) ⟨_, k _ _ e, rfl⟩ q
  | tup h =>
    cases r
    obtain ⟨_, its, _, o, e, c, _⟩ := (show ObjOk _ _ _ _ _ _ from I.hok _ _ h)
    intro A Q E s k q
    exact wpAny_typeOf (s := s) ⟨_, k _ _ e, c⟩ q
  | dK h =>
    cases r
    obtain ⟨_, _, vs, _, o, es, ep, e, c, _⟩ := (show ObjOk _ _ _ _ _ _ from I.hok _ _ h)
    intro A Q E s k q
    exact wpAny_typeOf (s := s) ⟨_, k _ _ e, c.1⟩ q
  | dT h =>
    cases r
    obtain ⟨_, _, xs, _, o, es, ep, e, c, _⟩ := (show ObjOk _ _ _ _ _ _ from I.hok _ _ h)
    intro A Q E s k q
    exact wpAny_typeOf (s := s) ⟨_, k _ _ e, c.1⟩ q
/-- x op y by the own def for op of the class at C -/
def rOwnC (K : PySem.W.Frag) (C : Addr) (sp : Sp) (E : XK) : R2 := fun x y H Q => ∃ a dx fs t, x = .ref a ∧ H a = some (.ins C dx fs) ∧ TyOf H y t ∧ PySem.W.notFirst K C t = true ∧ sp [x, y] H Q E
theorem op_cmpC {op : CmpOp} (hop : ∀ a b, compareOp op a b = richCompare op a b) (hs : PySem.W.findIn X.K (.ref C) (cmpInfo op).2.1 = some (some (.ref g))) (hf : PySem.W.isFn X.K (.ref g) = true) (F : FnR X.prog X.w X.K X.mg X.base CX n g sp)
    (hr : Room n X.A) (hx : Passes CX X E) : OpR X (compareOp op) (rOwnC X.K C sp E) := by
  intro pins s σ H x y v u Q I rx ry h
  obtain ⟨a, dx, fs, t, rfl, ha, ht, hn, q⟩ := h
  cases (show v = Value.ref a from rx)
  obtain ⟨ox, od, J, _⟩ := inst_at I ha
  obtain ⟨m, hF⟩ := I.fr
  rw [hop]
  refine PySem.W.cmp_K (op := op) (tb := t) hr.units0 hF I.ok.mod.kin J (ht.looks I ry) hn hs hf ?_
  refine wpAny_mono (wpAny_call (run_fnR (us := [.ref a, u]) (vs := [.ref a, y]) F hr hx I (.cons rfl (.cons ry .nil)) q)) (fun w s' z => ?_) fun _ _ x => x
  obtain ⟨z', H', I', rz, qz⟩ := z
  exact SlX.cmpback rz ⟨z', H', I', rz, qz⟩
/-- x != y by the own == of the class at C -/
def rNeC (K : PySem.W.Frag) (C : Addr) (sp : Sp) (E : XK) : R2 := fun x y H Q => ∃ a dx fs t, x = .ref a ∧ H a = some (.ins C dx fs) ∧ TyOf H y t ∧ PySem.W.notFirst K C t = true ∧ sp [x, y] H (fun z H' => ∃ c, z = .bl c ∧ Q (.bl (!c)) H') E
theorem op_neC (hm : PySem.W.mroIn X.K C (.type "object") = some true) (hne : PySem.W.findIn X.K (.ref C) "__ne__" = some (some (.builtin "object.__ne__"))) (hs : PySem.W.findIn X.K (.ref C) "__eq__" = some (some (.ref g))) (hf : PySem.W.isFn X.K (.ref g) = true)
    (F : FnR X.prog X.w X.K X.mg X.base CX n g sp) (hr : Room (n + 1) X.A) (hx : Passes CX X E) : OpR X (compareOp .NotEq) (rNeC X.K C sp E) := by
  intro pins s σ H x y v u Q I rx ry h
  obtain ⟨a, dx, fs, t, rfl, ha, ht, hn, q⟩ := h
  cases (show v = Value.ref a from rx)
  obtain ⟨ox, od, J, _⟩ := inst_at I ha
  show wpAny _ _ (richCompare .NotEq _ _) _ _ _
  refine ne_K (tb := t) hr.units0 hr.in1.units0 I.kIn J (ht.looks I ry) hn hm hne hs hf ?_
  refine wpAny_mono (wpAny_call (SlX.run_at (us := [.ref a, u]) (ws := [.ref a, y]) F hr.in1 I.env0.in1 hx I (.cons rfl (.cons ry .nil)) q)) (fun w s' z => ?_) fun _ _ x => x
  obtain ⟨z', H', I', rz, c, ec, qz⟩ := z
  subst ec
  cases rz
  exact ⟨c, rfl, .bl (!c), H', I', rfl, qz⟩
/-- x op y (an operator), both instances of the class at C -/
def rBinC (C : Addr) (sp : Sp) (E : XK) : R2 := fun x y H Q => ∃ a dx fs b dy gs, x = .ref a ∧ y = .ref b ∧ H a = some (.ins C dx fs) ∧ H b = some (.ins C dy gs) ∧ sp [x, y] H Q E
theorem op_binC {op : Operator} (hc : PySem.W.selfFirst X.K C = true) (hs : PySem.W.findIn X.K (.ref C) (PySem.dunder op.info.2) = some (some (.ref g))) (hf : PySem.W.isFn X.K (.ref g) = true) (F : FnR X.prog X.w X.K X.mg X.base CX n g sp)
    (hr : Room n X.A) (hx : Passes CX X E) : OpR X (binaryOp op) (rBinC C sp E) := by
  intro pins s σ H x y v u Q I rx ry h
  obtain ⟨a, dx, fs, b, dy, gs, rfl, rfl, ha, hb, q⟩ := h
  cases (show v = Value.ref a from rx)
  cases (show u = Value.ref b from ry)
  obtain ⟨ox, od, J, _⟩ := inst_at I ha
  obtain ⟨ox', od', J', _⟩ := inst_at I hb
  obtain ⟨m, hF⟩ := I.fr
  refine PySem.W.binop_K hF I.ok.mod.kin J J'.type hc hs hf ?_
  refine wpAny_mono (wpAny_call (run_fnR (us := [.ref a, .ref b]) (vs := [.ref a, .ref b]) F hr hx I (.cons rfl (.cons rfl .nil)) q)) (fun w s' z => ?_) fun _ _ x => x
  obtain ⟨z', H', I', rz, qz⟩ := z
  exact SlX.cmpback rz ⟨z', H', I', rz, qz⟩
end
theorem notFirst_self {K : PySem.W.Frag} {C : Addr} : PySem.W.notFirst K C (.ref C) = true := by simp [PySem.W.notFirst]
/-- a method's promise as a raw one -/
theorem Met.raw {P : Program} {w : World} {K : PySem.W.Frag} {mg : Str → Option Value} {base : Heap} {k : Nat} {C : Addr} {m : Str} {sp : Sp} (h : Met P w K mg base k C m sp) :
    ∃ g, PySem.W.findIn K (.ref C) m = some (some (.ref g)) ∧ PySem.W.isFn K (.ref g) = true ∧ FnR P w K mg base (L2.CX P w) k g sp := by
  obtain ⟨f, fd, ps, c, me, F, b⟩ := h.ex
  refine ⟨f, me.1, me.2, ?_⟩
  have := F.raw b .nil
  intro A outer s H us vs Q E hr e0 r hs
  exact this A outer s H us vs Q E hr e0 r (by show sp (vs ++ []) H Q E; rw [List.append_nil]; exact hs)
end Rd
set_option maxHeartbeats 4000000
namespace Rd
open PySem PySem.Spec PyProof.Rows L2
/-! ### list(range(a, b, c)) -/
def rgC (a c : Int) (n : Nat) : List V := (List.range n).map fun i => V.int (a + (i : Nat) * c)
theorem rgC_length (a c : Int) (n : Nat) : (rgC a c n).length = n := by unfold rgC; rw [List.length_map, List.length_range]
theorem vals_rgC {a c : Int} {n : Nat} {acc : Array Value} (h : ItemsOf (fun i v => ∃ t, v = .int (a + i * c) t) acc n) : Vals (rgC a c n) acc.toList := by
  have e : acc.toList.length = n := by rw [Array.length_toList]; exact h.1
  unfold rgC
  rw [← e]
  refine vals_of_get acc.toList _ fun j u hj => ?_
  obtain ⟨t, rfl⟩ := h.2 j u (by rw [← hj, Array.getElem?_toList])
  exact ⟨t, rfl⟩
def tLstRg3 (ta tb tc : TE) : TE := fun σ H Q => ta σ H fun x H1 => tb σ H1 fun y H2 => tc σ H2 fun z H3 => ∃ (i j c : Int) (n : Nat), x = .int i ∧ y = .int j ∧ z = .int c ∧ RgC i j c n ∧ n ≤ 2 ^ 24 ∧ ∀ q, H3 q = none → Q (.ref q) (upd H3 q (.lst (rgC i c n)))
theorem pe_listRg3 {X : Cx} {a b c : Expr} {ta tb tc : TE} {p pos p' pos' : Pos} (hc : X.calm = true) (hg : Gl X "list") (hm : X.mg "list" = none) (hg' : Gl X "range") (hm' : X.mg "range" = none) (ha : PE X a ta) (hb : PE X b tb) (hcc : PE X c tc)
    (na : starEach [a, b, c] X.env = (false, eval a X.env) :: starEach [b, c] X.env := by rfl) (nb : starEach [b, c] X.env = (false, eval b X.env) :: starEach [c] X.env := by rfl) (nc : starEach [c] X.env = (false, eval c X.env) :: starEach [] X.env := by rfl)
    (hp : (backTo pos' (starEach [b, c] X.env)).any (·.1) = false := by rfl)
    (ne : starEach [.Call (.Name "range" p') [a, b, c] [] pos'] X.env = (false, eval (.Call (.Name "range" p') [a, b, c] [] pos') X.env) :: starEach [] X.env := by rfl) :
    PE X (.Call (.Name "list" p) [.Call (.Name "range" p') [a, b, c] [] pos'] [] pos) (tLstRg3 ta tb tc) := by
  refine ⟨fun pins s σ H Q I h => ?_⟩
  have hR : wpAny (model X.prog X.w) X.A (eval (.Call (.Name "range" p') [a, b, c] [] pos') X.env) (fun x s' => ∃ (r : Addr) (i j c : Int) (n : Nat) (t u v : Tok) (H' : Hp), x = .ref r ∧ IsRange s'.heap r i j c t u v ∧ Inv X pins σ H' s' ∧ RgC i j c n ∧ n ≤ 2 ^ 24 ∧ ∀ q, H' q = none → Q (.ref q) (upd H' q (.lst (rgC i c n)))) X.xe s := by
    refine Call_ (ld_blt I hg' hm' boot_range (PyProof.Rows.callWith_type1 (args_cons (thn (ha.run pins s σ H _ I h) fun v s1 ⟨x, H1, I1, r1, q1⟩ => args_cons (thn (hb.run pins s1 σ H1 _ I1 q1) fun v2 s2 ⟨y, H2, I2, r2, q2⟩ => one_arg hcc I2 q2 (fun u s3 z H3 I3 r3 q => ?_) nc) nb) na) na hp))
    obtain ⟨i, j, k, n, rfl, rfl, rfl, ok, hn, q⟩ := q
    obtain ⟨t, rfl⟩ := r1
    obtain ⟨t', rfl⟩ := r2
    obtain ⟨t'', rfl⟩ := r3
    exact call_range_3 ok.1 ⟨_, i, j, k, n, _, _, _, H3, rfl, IsRange.new _ _ _ _ _ _ _, I3.kept fun b u e => Heap.get?_push_of_some _ e, ok, hn, q⟩ (.inl (PyProof.noPylong_small ok.2.1))
  refine Call_ (ld_blt I hg hm boot_list (PyProof.Rows.callWith_type1 (args_cons (thn hR fun x s1 ⟨r, i, j, k, n, t, u, v, H1, ex, hr, I1, ok, hn, q⟩ => args_nil ?_) ne) ne))
  subst ex
  refine call_list_range (n := n) (I1.ok.hd hc) hr ok.2.2.1 ok.2.2.2 hn fun h' tk acc c' hk e' hi => ?_
  refine ⟨.ref s1.heap.objs.size, upd H1 s1.heap.objs.size (.lst (rgC i k n)), I1.laid hk (Nat.le_refl _) (show ObjOk X.prog X.w _ _ _ (.lst (rgC i k n)) from ⟨?_, acc.toList, c', vals_rgC hi, ?_⟩), rfl, q _ (I1.hok.fresh (Nat.le_refl _))⟩
  · rw [rgC_length, sizeLine_eq]; exact hn
  · rw [Array.toArray_toList]; exact e'
/-- how many: those below j -/
def rgN (i j c : Int) : Nat := if i < j then ((j - i - 1) / c + 1).toNat else 0
theorem rgC_ok {i j c : Int} (hc : 0 < c) (h1 : c < 1000000000) (h2 : -1000000000 ≤ i) (h3 : i < 1000000000000) (h4 : -1000000000 ≤ j) (h5 : j < 1000000000000) : RgC i j c (rgN i j c) := by
  refine ⟨by omega, by omega, ?_, ?_⟩
  · unfold Builtin.Range.small Builtin.Range.rangeSize
    have q1 : ∀ x : Int, 0 ≤ x → x / c * c ≤ x := fun x _ => Int.ediv_mul_le x (by omega)
    have q2 : ∀ x : Int, 0 ≤ x → 0 ≤ x / c := fun x h => Int.ediv_nonneg h (by omega)
    have q3 : ∀ x : Int, 0 ≤ x → x / c ≤ x := fun x h => Int.ediv_le_self c h
    simp only [Builtin.Range.rangeFitsLong, Bool.and_eq_true, Bool.or_eq_true, decide_eq_true_eq, beq_iff_eq, show c > 0 from hc, if_true]
    split
    · have a1 := q1 (j - i - 1) (by omega)
      have a2 := q2 (j - i - 1) (by omega)
      have a3 := q3 (j - i - 1) (by omega)
      have a4 : 0 ≤ (j - i - 1) / c * c := Int.mul_nonneg a2 (by omega)
      omega
    · omega
  · unfold Builtin.Range.rangeSize rgN
    rw [if_pos (show c > 0 from hc)]
    split
    · have := Int.ediv_nonneg (show 0 ≤ j - i - 1 by omega) (show 0 ≤ c by omega)
      omega
    · rfl
end Rd
namespace Rd
/-- the numbers least, least + modulus, .. -/
def Has (l m x : Int) : Prop := x = l ∨ (l < x ∧ 0 < m ∧ m ∣ x - l)
instance (l m x : Int) : Decidable (Has l m x) := by unfold Has; exact inferInstance

theorem has_pos {l m x : Int} (hm : 0 < m) : Has l m x ↔ l ≤ x ∧ m ∣ x - l := by
  unfold Has
  constructor
  · rintro (rfl | ⟨h, _, d⟩)
    · exact ⟨Int.le_refl _, by rw [Int.sub_self]; exact Int.dvd_zero m⟩
    · exact ⟨by omega, d⟩
  · rintro ⟨h, d⟩
    by_cases e : x = l
    · exact .inl e
    · exact .inr ⟨by omega, hm, d⟩
theorem has_zero {l x : Int} : Has l 0 x ↔ x = l := by
  unfold Has
  constructor
  · rintro (h | ⟨_, h, _⟩)
    · exact h
    · omega
  · exact .inl
theorem has_ge {l m x : Int} (h : Has l m x) : l ≤ x := by
  rcases h with h | ⟨h, _⟩ <;> omega
theorem has_self (l m : Int) : Has l m l := .inl rfl

/-- one set is given by one pair -/
theorem has_unique {l m l' m' : Int} (hm : 0 ≤ m) (hm' : 0 ≤ m') (h : ∀ x, Has l m x ↔ Has l' m' x) : l = l' ∧ m = m' := by
  have h1 : l' ≤ l := has_ge ((h l).1 (has_self l m))
  have h2 : l ≤ l' := has_ge ((h l').2 (has_self l' m'))
  have e : l = l' := by omega
  subst e
  refine ⟨rfl, ?_⟩
  by_cases hz : m = 0
  · subst hz
    by_cases hz' : m' = 0
    · exact hz'.symm
    · have hp : 0 < m' := by omega
      have q : Has l m' (l + m') := (has_pos hp).2 ⟨by omega, by rw [Int.add_comm, Int.add_sub_cancel]; exact Int.dvd_refl _⟩
      have q2 := has_zero.1 ((h _).2 q)
      omega
  · have hp : 0 < m := by omega
    have q : Has l m (l + m) := (has_pos hp).2 ⟨by omega, by rw [Int.add_comm, Int.add_sub_cancel]; exact Int.dvd_refl _⟩
    have q2 := (h _).1 q
    by_cases hz' : m' = 0
    · subst hz'
      have := has_zero.1 q2
      omega
    · have hp' : 0 < m' := by omega
      have d1 := ((has_pos hp').1 q2).2
      rw [Int.add_comm, Int.add_sub_cancel] at d1
      have q' : Has l m' (l + m') := (has_pos hp').2 ⟨by omega, by rw [Int.add_comm, Int.add_sub_cancel]; exact Int.dvd_refl _⟩
      have d2 := ((has_pos hp).1 ((h _).2 q')).2
      rw [Int.add_comm, Int.add_sub_cancel] at d2
      have := Int.le_of_dvd hp d1
      have := Int.le_of_dvd hp' d2
      omega

/-- what a and b together are: none, or one set -/
def AndR (a p b q : Int) : Option (Int × Int) → Prop
  | none => ∀ x, ¬ (Has a p x ∧ Has b q x)
  | some (n, m) => 0 ≤ m ∧ ∀ x, Has a p x ∧ Has b q x ↔ Has n m x
theorem andR_unique {a p b q : Int} : ∀ {r r' : Option (Int × Int)}, AndR a p b q r → AndR a p b q r' → r = r'
  | none, none, _, _ => rfl
  | none, some (n, m), h, h' => (h n ((h'.2 n).2 (has_self n m))).elim
  | some (n, m), none, h, h' => (h' n ((h.2 n).2 (has_self n m))).elim
  | some (n, m), some (n', m'), h, h' => by
    obtain ⟨e1, e2⟩ := has_unique h.1 h'.1 fun x => (h.2 x).symm.trans (h'.2 x)
    rw [e1, e2]
theorem andR_comm {a p b q : Int} : ∀ {r : Option (Int × Int)}, AndR a p b q r → AndR b q a p r
  | none, h => fun x z => h x ⟨z.2, z.1⟩
  | some (n, m), h => ⟨h.1, fun x => (and_comm.trans (h.2 x))⟩

/-- a single number and a set -/
theorem andR_one {s l m : Int} : AndR s 0 l m (if Has l m s then some (s, 0) else none) := by
  by_cases h : Has l m s
  · rw [if_pos h]
    refine ⟨Int.le_refl _, fun x => ⟨fun z => z.1, fun z => ⟨z, ?_⟩⟩⟩
    rw [has_zero.1 z]
    exact h
  · rw [if_neg h]
    rintro x ⟨z1, z2⟩
    rw [has_zero.1 z1] at z2
    exact h z2

/-- no common number: the gcd does not divide the gap -/
theorem andR_gap {a p b q g : Int} (hp : 0 < p) (hq : 0 < q) (gp : g ∣ p) (gq : g ∣ q) (h : ¬ g ∣ b - a) : AndR a p b q none := by
  rintro x ⟨z1, z2⟩
  have d1 := Int.dvd_trans gp ((has_pos hp).1 z1).2
  have d2 := Int.dvd_trans gq ((has_pos hq).1 z2).2
  apply h
  have e : b - a = (x - a) - (x - b) := by omega
  rw [e]
  exact Int.dvd_sub d1 d2

/-- the common numbers by one meeting -/
theorem andR_meet {a p b q m t : Int} (hp : 0 < p) (hq : 0 < q) (hm : 0 < m) (pm : p ∣ m) (qm : q ∣ m) (hl : ∀ z : Int, p ∣ z → q ∣ z → m ∣ z) (ht1 : p ∣ t - a) (ht2 : q ∣ t - b) :
    AndR a p b q (some ((if b > a then b else a) + (t - (if b > a then b else a)) % m, m)) := by
  generalize hlow : (if b > a then b else a) = low
  have hla : a ≤ low := by rw [← hlow]; split <;> omega
  have hlb : b ≤ low := by rw [← hlow]; split <;> omega
  have hlc : low = a ∨ low = b := by rw [← hlow]; split <;> simp
  have h0 := Int.emod_nonneg (t - low) (show m ≠ 0 by omega)
  have h1 := Int.emod_lt_of_pos (t - low) hm
  have hd : m ∣ t - (low + (t - low) % m) := by
    refine ⟨(t - low) / m, ?_⟩
    have := Int.mul_ediv_add_emod (t - low) m
    omega
  refine ⟨by omega, fun x => ?_⟩
  rw [has_pos hp, has_pos hq, has_pos hm]
  constructor
  · rintro ⟨⟨x1, d1⟩, x2, d2⟩
    have e1 : p ∣ x - (low + (t - low) % m) := by
      have e : x - (low + (t - low) % m) = (x - a) - (t - a) + (t - (low + (t - low) % m)) := by omega
      rw [e]
      exact Int.dvd_add (Int.dvd_sub d1 ht1) (Int.dvd_trans pm hd)
    have e2 : q ∣ x - (low + (t - low) % m) := by
      have e : x - (low + (t - low) % m) = (x - b) - (t - b) + (t - (low + (t - low) % m)) := by omega
      rw [e]
      exact Int.dvd_add (Int.dvd_sub d2 ht2) (Int.dvd_trans qm hd)
    have e3 := hl _ e1 e2
    refine ⟨?_, e3⟩
    obtain ⟨k, hk⟩ := e3
    have : low ≤ x := by rcases hlc with e | e <;> omega
    by_cases hk0 : 0 ≤ k
    · have : 0 ≤ m * k := Int.mul_nonneg (by omega) hk0
      omega
    · have : m * k ≤ m * (-1) := Int.mul_le_mul_of_nonneg_left (by omega) (by omega)
      omega
  · rintro ⟨x1, d⟩
    refine ⟨⟨by omega, ?_⟩, by omega, ?_⟩
    · have e : x - a = (x - (low + (t - low) % m)) - (t - (low + (t - low) % m)) + (t - a) := by omega
      rw [e]
      exact Int.dvd_add (Int.dvd_sub (Int.dvd_trans pm d) (Int.dvd_trans pm hd)) ht1
    · have e : x - b = (x - (low + (t - low) % m)) - (t - (low + (t - low) % m)) + (t - b) := by omega
      rw [e]
      exact Int.dvd_add (Int.dvd_sub (Int.dvd_trans qm d) (Int.dvd_trans qm hd)) ht2

/-- the meeting that an inverse gives -/
theorem crt_meet {a p b q g i : Int} (hg : 0 < g) (gp : g ∣ p) (gq : g ∣ q) (hq : 0 < q) (gd : g ∣ b - a) (hi : (q / g) ∣ i * (p / g) - 1) :
    p ∣ (a + ((b - a) / g * i) % (q / g) * p) - a ∧ q ∣ (a + ((b - a) / g * i) % (q / g) * p) - b := by
  obtain ⟨pp, rfl⟩ := gp
  obtain ⟨qq, rfl⟩ := gq
  obtain ⟨d, hd⟩ := gd
  have e1 : g * pp / g = pp := Int.mul_ediv_cancel_left _ (by omega)
  have e2 : g * qq / g = qq := Int.mul_ediv_cancel_left _ (by omega)
  have e3 : (b - a) / g = d := by rw [hd]; exact Int.mul_ediv_cancel_left _ (by omega)
  rw [e1, e2] at hi
  rw [e2, e3]
  constructor
  · refine ⟨d * i % qq, ?_⟩
    rw [Int.add_comm a, Int.add_sub_cancel, Int.mul_comm]
  · obtain ⟨k, hk⟩ := hi
    have hm := Int.mul_ediv_add_emod (d * i) qq
    refine ⟨d * k - (d * i / qq) * pp, ?_⟩
    have h1 : a + d * i % qq * (g * pp) - b = d * i % qq * (g * pp) - g * d := by omega
    rw [h1]
    have h2 : d * i % qq = d * i - qq * (d * i / qq) := by omega
    rw [h2]
    have h3 : i * pp = qq * k + 1 := by omega
    have : (d * i - qq * (d * i / qq)) * (g * pp) - g * d = g * (d * (i * pp) - qq * (d * i / qq) * pp - d) := by
      rw [Int.sub_mul, Int.mul_sub, Int.mul_sub]
      have a1 : d * i * (g * pp) = g * (d * (i * pp)) := by
        rw [Int.mul_left_comm (d * i) g pp, Int.mul_assoc d i pp]
      have a2 : qq * (d * i / qq) * (g * pp) = g * (qq * (d * i / qq) * pp) := by
        rw [Int.mul_left_comm]
      rw [a1, a2]
    rw [this, h3]
    have a4 : d * (qq * k + 1) - qq * (d * i / qq) * pp - d = qq * (d * k - d * i / qq * pp) := by
      rw [Int.mul_add, Int.mul_one, Int.mul_sub, Int.mul_left_comm d qq k, Int.mul_assoc qq]
      omega
    rw [a4, Int.mul_assoc]

/-! ### gcd, lcm -/
def gcdL (l : List Int) : Nat := l.foldl (fun g n => Nat.gcd g n.natAbs) 0
theorem gcd_int_pair (p q : Int) : gcdL [p, q] = Nat.gcd p.natAbs q.natAbs := by
  simp [gcdL]
theorem gcd_step {x y : Int} (hx : 0 ≤ x) (hy : 0 < y) : Nat.gcd y.natAbs (x % y).natAbs = Nat.gcd x.natAbs y.natAbs := by
  have h1 : (x % y).natAbs = x.natAbs % y.natAbs := by
    have : x % y = ((x.natAbs % y.natAbs : Nat) : Int) := by
      rw [Int.natCast_emod]
      rw [Int.natAbs_of_nonneg hx, Int.natAbs_of_nonneg (by omega)]
    rw [this, Int.natAbs_natCast]
  rw [h1, Nat.gcd_comm x.natAbs, Nat.gcd_comm, ← Nat.gcd_rec]

/-- the extended one: what stands between two turns -/
structure Inv (n m low high one other : Int) : Prop where
  l0 : 0 < low
  h0 : 0 ≤ high
  hl : high < low ∨ True
  d1 : m ∣ one * n - low
  d2 : m ∣ other * n - high
  g : Nat.gcd low.natAbs high.natAbs = 1
  sg : ∃ e : Int, (e = 1 ∨ e = -1) ∧ 0 ≤ e * one ∧ 0 ≤ - (e * other) ∧ low * (- (e * other)) + high * (e * one) = m
theorem inv_start {n m : Int} (hm : 0 < m) (hg : Nat.gcd n.natAbs m.natAbs = 1) : Inv n m m (n % m) 0 1 := by
  refine ⟨hm, Int.emod_nonneg _ (by omega), .inr trivial, ⟨-1, by omega⟩, ⟨n / m, ?_⟩, ?_, ⟨-1, .inr rfl, by omega, by omega, by omega⟩⟩
  · have := Int.mul_ediv_add_emod n m
    omega
  · have h : (n % m).natAbs = (n % m).toNat := by
      have := Int.emod_nonneg n (show m ≠ 0 by omega)
      omega
    have e1 : Int.gcd m (n % m) = Int.gcd m n := by
      have q : n % m = n + m * (-(n / m)) := by rw [Int.emod_def, Int.mul_neg]; omega
      rw [q, Int.gcd_comm, Int.gcd_comm m n]
      first
        | exact Int.gcd_add_mul_left_left n m (-(n / m))
        | simp
    show Int.gcd m (n % m) = 1
    rw [e1]
    show Nat.gcd m.natAbs n.natAbs = 1
    rw [Nat.gcd_comm, hg]
theorem inv_turn {n m low high one other : Int} (I : Inv n m low high one other) (h : 0 < high) : Inv n m high (low - low / high * high) other (one - low / high * other) := by
  obtain ⟨l0, h0, _, d1, d2, g, e, he, s1, s2, s3⟩ := I
  have hq : 0 ≤ low / high := Int.ediv_nonneg (by omega) (by omega)
  have er : low - low / high * high = low % high := by rw [Int.emod_def, Int.mul_comm]
  refine ⟨h, ?_, .inr trivial, d2, ?_, ?_, -e, by omega, ?_, ?_, ?_⟩
  · rw [er]; exact Int.emod_nonneg _ (by omega)
  · have q : (one - low / high * other) * n - (low - low / high * high) = (one * n - low) - (low / high) * (other * n - high) := by
      rw [Int.sub_mul, Int.mul_sub, Int.mul_assoc]; omega
    rw [q]
    exact Int.dvd_sub d1 (Int.dvd_mul_of_dvd_right d2)
  · rw [er, gcd_step (by omega) h]
    exact g
  · rw [Int.neg_mul]; exact s2
  · have q : - (-e * (one - low / high * other)) = e * one + low / high * (-(e * other)) := by
      rw [Int.neg_mul, Int.neg_neg, Int.mul_sub, Int.mul_neg, Int.mul_left_comm]; omega
    rw [q]
    exact Int.add_nonneg s1 (Int.mul_nonneg hq s2)
  · have q : - (-e * (one - low / high * other)) = e * one + low / high * (-(e * other)) := by
      rw [Int.neg_mul, Int.neg_neg, Int.mul_sub, Int.mul_neg, Int.mul_left_comm]; omega
    rw [q, Int.mul_add, Int.sub_mul, Int.neg_mul]
    have a1 : high * (low / high * -(e * other)) = low / high * high * -(e * other) := by
      rw [Int.mul_comm (low / high) high, Int.mul_assoc]
    rw [a1]
    have a2 : low / high * high * -(e * other) - 0 = low / high * high * -(e * other) := by omega
    omega
theorem inv_low {n m low high one other : Int} (I : Inv n m low high one other) : 0 ≤ m ∧ other.natAbs ≤ m.natAbs ∧ (0 < high → one.natAbs ≤ m.natAbs) := by
  obtain ⟨l0, h0, _, d1, d2, g, e, he, s1, s2, s3⟩ := I
  have a1 : 0 ≤ high * (e * one) := Int.mul_nonneg h0 s1
  have a2 : -(e * other) ≤ low * (-(e * other)) := by
    have := Int.mul_le_mul_of_nonneg_right (show 1 ≤ low by omega) s2
    omega
  have hm : 0 ≤ m := by omega
  refine ⟨hm, ?_, fun hp => ?_⟩
  · rcases he with rfl | rfl <;> omega
  · have a3 : e * one ≤ high * (e * one) := by
      have := Int.mul_le_mul_of_nonneg_right (show 1 ≤ high by omega) s1
      omega
    rcases he with rfl | rfl <;> omega
theorem inv_end {n m low one other : Int} (I : Inv n m low 0 one other) : m ∣ one % m * n - 1 := by
  obtain ⟨l0, h0, _, d1, d2, g, _⟩ := I
  have : low = 1 := by
    simp at g
    omega
  subst this
  have q : one % m * n - 1 = (one * n - 1) - m * (one / m * n) := by
    rw [Int.emod_def, Int.sub_mul, Int.mul_assoc]; omega
  rw [q]
  exact Int.dvd_sub d1 (Int.dvd_mul_right _ _)
theorem coprime_parts {p q : Int} (hp : 0 < p) : Nat.gcd (p / ((Nat.gcd p.natAbs q.natAbs : Nat) : Int)).natAbs (q / ((Nat.gcd p.natAbs q.natAbs : Nat) : Int)).natAbs = 1 := by
  have h : 0 < Nat.gcd p.natAbs q.natAbs := Nat.gcd_pos_of_pos_left _ (by omega)
  show Nat.gcd (p / ((Int.gcd p q : Nat) : Int)).natAbs (q / ((Int.gcd p q : Nat) : Int)).natAbs = 1
  rw [Int.natAbs_ediv_of_dvd (Int.gcd_dvd_left p q), Int.natAbs_ediv_of_dvd (Int.gcd_dvd_right p q)]
  show Nat.gcd (p.natAbs / Nat.gcd p.natAbs q.natAbs) (q.natAbs / Nat.gcd p.natAbs q.natAbs) = 1
  exact Nat.coprime_div_gcd_div_gcd h
/-! ### the list of common numbers -/
theorem sorted_two {l : List Int} {n m : Int} {L : Int} (hs : l.Pairwise (· < ·)) (hm : 0 < m) (hL : n + m ≤ L) (h : ∀ x, x ∈ l ↔ Has n m x ∧ x ≤ L) : ∃ r, l = n :: (n + m) :: r := by
  cases l with
  | nil =>
    have := (h n).2 ⟨has_self n m, by omega⟩
    simp at this
  | cons a r =>
    have hn := (h n).2 ⟨has_self n m, by omega⟩
    have ha := (h a).1 (List.mem_cons_self)
    have hge := has_ge ha.1
    have ea : a = n := by
      rcases List.mem_cons.1 hn with e | e
      · exact e.symm
      · have := (List.pairwise_cons.1 hs).1 n e
        omega
    subst ea
    cases r with
    | nil =>
      have := (h (a + m)).2 ⟨(has_pos hm).2 ⟨by omega, by rw [Int.add_comm, Int.add_sub_cancel]; exact Int.dvd_refl _⟩, hL⟩
      rcases List.mem_cons.1 this with e | e
      · omega
      · simp at e
    | cons b r =>
      have hb := (h b).1 (List.mem_cons_of_mem _ List.mem_cons_self)
      have hab := (List.pairwise_cons.1 hs).1 b List.mem_cons_self
      have hs2 := (List.pairwise_cons.1 hs).2
      have h2 := (h (a + m)).2 ⟨(has_pos hm).2 ⟨by omega, by rw [Int.add_comm, Int.add_sub_cancel]; exact Int.dvd_refl _⟩, hL⟩
      have hd := ((has_pos hm).1 hb.1).2
      have hle : m ≤ b - a := Int.le_of_dvd (by omega) hd
      have hb2 : b = a + m := by
        rcases List.mem_cons.1 h2 with e | e
        · omega
        · rcases List.mem_cons.1 e with e | e
          · exact e.symm
          · have := (List.pairwise_cons.1 hs2).1 _ e
            omega
      exact ⟨r, by rw [hb2]⟩
theorem sorted_one {l : List Int} {n : Int} {L : Int} (hs : l.Pairwise (· < ·)) (hL : n ≤ L) (h : ∀ x, x ∈ l ↔ Has n 0 x ∧ x ≤ L) : l = [n] := by
  have hn := (h n).2 ⟨has_self n 0, hL⟩
  cases l with
  | nil => simp at hn
  | cons a r =>
    have ha := has_zero.1 ((h a).1 List.mem_cons_self).1
    subst ha
    cases r with
    | nil => rfl
    | cons b r =>
      have hb := has_zero.1 ((h b).1 (List.mem_cons_of_mem _ List.mem_cons_self)).1
      have := (List.pairwise_cons.1 hs).1 b List.mem_cons_self
      omega
/-- how far the first two common numbers lie -/
theorem andR_near {a p b q n m : Int} (hp : 0 ≤ p) (hq : 0 ≤ q) (h : AndR a p b q (some (n, m))) :
    (m = 0 ∧ n ≤ max a b) ∨ (0 < m ∧ n + m ≤ max a b + 2 * (max 1 p * max 1 q)) := by
  obtain ⟨h0, hx⟩ := h
  have hn := (hx n).2 (has_self n m)
  by_cases hz : 0 < m
  · right
    refine ⟨hz, ?_⟩
    have hs : Has n m (n + m) := (has_pos hz).2 ⟨by omega, by rw [Int.add_comm, Int.add_sub_cancel]; exact Int.dvd_refl _⟩
    have h2 := (hx _).2 hs
    have pp : 0 < p := by
      by_cases e : 0 < p
      · exact e
      · have : p = 0 := by omega
        subst this
        have a1 := has_zero.1 hn.1
        have a2 := has_zero.1 h2.1
        omega
    have qq : 0 < q := by
      by_cases e : 0 < q
      · exact e
      · have : q = 0 := by omega
        subst this
        have a1 := has_zero.1 hn.2
        have a2 := has_zero.1 h2.2
        omega
    have hpq : 0 < p * q := Int.mul_pos pp qq
    have e1 : max 1 p = p := by omega
    have e2 : max 1 q = q := by omega
    rw [e1, e2]
    obtain ⟨a1, a2⟩ := (has_pos pp).1 hn.1
    obtain ⟨b1, b2⟩ := (has_pos qq).1 hn.2
    have m1 : m ≤ p * q := by
      have z := (hx (n + p * q)).1 ⟨(has_pos pp).2 ⟨by omega, ?_⟩, (has_pos qq).2 ⟨by omega, ?_⟩⟩
      · have := ((has_pos hz).1 z).2
        rw [Int.add_comm, Int.add_sub_cancel] at this
        exact Int.le_of_dvd hpq this
      · have e : n + p * q - a = (n - a) + p * q := by omega
        rw [e]
        exact Int.dvd_add a2 (Int.dvd_mul_right _ _)
      · have e : n + p * q - b = (n - b) + p * q := by omega
        rw [e]
        exact Int.dvd_add b2 (Int.dvd_mul_left _ _)
    have m2 : n < max a b + p * q := by
      by_cases hc : n < max a b + p * q
      · exact hc
      · exfalso
        have z := (hx (n - p * q)).1 ⟨(has_pos pp).2 ⟨by omega, ?_⟩, (has_pos qq).2 ⟨by omega, ?_⟩⟩
        · have := has_ge z
          omega
        · have e : n - p * q - a = (n - a) - p * q := by omega
          rw [e]
          exact Int.dvd_sub a2 (Int.dvd_mul_right _ _)
        · have e : n - p * q - b = (n - b) - p * q := by omega
          rw [e]
          exact Int.dvd_sub b2 (Int.dvd_mul_left _ _)
    omega
  · left
    have : m = 0 := by omega
    subst this
    refine ⟨rfl, ?_⟩
    by_cases pp : 0 < p
    · by_cases qq : 0 < q
      · exfalso
        have hpq : 0 < p * q := Int.mul_pos pp qq
        obtain ⟨a1, a2⟩ := (has_pos pp).1 hn.1
        obtain ⟨b1, b2⟩ := (has_pos qq).1 hn.2
        have z := (hx (n + p * q)).1 ⟨(has_pos pp).2 ⟨by omega, ?_⟩, (has_pos qq).2 ⟨by omega, ?_⟩⟩
        · have := has_zero.1 z
          omega
        · have e : n + p * q - a = (n - a) + p * q := by omega
          rw [e]
          exact Int.dvd_add a2 (Int.dvd_mul_right _ _)
        · have e : n + p * q - b = (n - b) + p * q := by omega
          rw [e]
          exact Int.dvd_add b2 (Int.dvd_mul_left _ _)
      · have : q = 0 := by omega
        subst this
        have := has_zero.1 hn.2
        omega
    · have : p = 0 := by omega
      subst this
      have := has_zero.1 hn.1
      omega
/-! ### the three great ones -/
theorem far_and {g y : Int} (hy : 0 < y) : AndR g (2 * y) (g + y * 4) (3 * y) (some (g + y * 4, 6 * y)) := by
  refine ⟨by omega, fun x => ?_⟩
  rw [has_pos (by omega), has_pos (by omega), has_pos (by omega)]
  constructor
  · rintro ⟨⟨_, d1⟩, x2, d2⟩
    refine ⟨x2, ?_⟩
    obtain ⟨s, hs⟩ := d1
    obtain ⟨t, ht⟩ := d2
    have e : y * (2 * s) = y * (3 * t + 4) := by
      have a1 : y * (2 * s) = 2 * y * s := by rw [Int.mul_left_comm, Int.mul_assoc]
      have a2 : y * (3 * t + 4) = 3 * y * t + y * 4 := by rw [Int.mul_add, Int.mul_left_comm, Int.mul_assoc]
      omega
    have e2 := Int.eq_of_mul_eq_mul_left (by omega) e
    obtain ⟨k, rfl⟩ : ∃ k, t = 2 * k := ⟨t / 2, by omega⟩
    refine ⟨k, ?_⟩
    rw [ht]
    have : 3 * y * (2 * k) = y * k * 6 := by
      rw [Int.mul_left_comm, Int.mul_assoc, ← Int.mul_assoc 2 3, Int.mul_comm _ (y * k)]; rfl
    have h6 : 6 * y * k = y * k * 6 := by rw [Int.mul_assoc, Int.mul_comm]
    omega
  · rintro ⟨x1, d⟩
    refine ⟨⟨by omega, ?_⟩, x1, Int.dvd_trans ⟨2, by omega⟩ d⟩
    have e : x - g = (x - (g + y * 4)) + 2 * y * 2 := by omega
    rw [e]
    exact Int.dvd_add (Int.dvd_trans ⟨3, by omega⟩ d) (Int.dvd_mul_right _ _)
theorem none_and {y : Int} (hy : 0 < y) : AndR 0 (2 * y) 1 (4 * y) none := by
  refine andR_gap (g := 2 * y) (by omega) (by omega) (Int.dvd_refl _) ⟨2, by omega⟩ ?_
  intro h
  have := Int.le_of_dvd (by omega) h
  omega
theorem next_and {y : Int} (hy : 0 < y) : AndR 5 y (5 + y * (y + 1)) (y + 1) (some (5 + y * (y + 1), y * (y + 1))) := by
  have hp : 0 < y * (y + 1) := Int.mul_pos hy (by omega)
  refine ⟨by omega, fun x => ?_⟩
  rw [has_pos (by omega), has_pos (by omega), has_pos hp]
  constructor
  · rintro ⟨⟨_, d1⟩, x2, d2⟩
    refine ⟨x2, ?_⟩
    obtain ⟨s, hs⟩ := d1
    obtain ⟨t, ht⟩ := d2
    refine ⟨s - t - (y + 1), ?_⟩
    generalize hz : x - (5 + y * (y + 1)) = z at *
    have hs' : z = y * (s - (y + 1)) := by rw [Int.mul_sub]; omega
    have a1 : z = (y + 1) * z - y * z := by rw [Int.add_mul]; omega
    have a2 : (y + 1) * z = y * (y + 1) * (s - (y + 1)) := by
      rw [hs', Int.mul_left_comm, Int.mul_assoc]
    have a3 : y * z = y * (y + 1) * t := by rw [ht, Int.mul_assoc]
    have a4 : y * (y + 1) * (s - t - (y + 1)) = y * (y + 1) * (s - (y + 1)) - y * (y + 1) * t := by
      rw [← Int.mul_sub]; congr 1; omega
    omega
  · rintro ⟨x1, d⟩
    refine ⟨⟨by omega, ?_⟩, x1, Int.dvd_trans (Int.dvd_mul_left _ _) d⟩
    have e : x - 5 = (x - (5 + y * (y + 1))) + y * (y + 1) := by omega
    rw [e]
    exact Int.dvd_add (Int.dvd_trans (Int.dvd_mul_right _ _) d) (Int.dvd_mul_right _ _)
end Rd
set_option maxHeartbeats 4000000
namespace Rd
open PySem PySem.Spec PyProof.Rows L2
def top (i : Nat) : Stmt := PySem.Challenge.pw_roomdials_k21_numbers_in_two_sets.main.body.getD i (.Pass ⟨0, 0, 0, 0⟩)
structure Txt (mg : Str → Option Value) : Prop where
  m_len : mg "len" = none
  m_int : mg "int" = none
  m_abs : mg "abs" = none
  m_max : mg "max" = none
  m_list : mg "list" = none
  m_range : mg "range" = none
  m_dict : mg "dict" = none
  m_isinstance : mg "isinstance" = none
abbrev s__law_begin : Stmt := top 14
theorem sc__law_begin : FnScope ["_law_script"] ["_law_script"] (defScope s__law_begin) := ⟨rfl, rfl, rfl, by decide +kernel, rfl, by decide +kernel, by decide +kernel⟩

abbrev s__law_draw : Stmt := top 15
theorem sc__law_draw : FnScope ["_law_tape", "_law_many", "_law_place", "_law_size", "_law_cell", "_law_found"] ["_law_tape", "_law_many"] (defScope s__law_draw) := ⟨rfl, rfl, rfl, by decide +kernel, rfl, by decide +kernel, by decide +kernel⟩

section
variable {P : Program} {w : World} {K : PySem.W.Frag} {mg : Str → Option Value} {base : Heap}
theorem cut63 (ns : List Int) : cutV (ns.map V.int) none (some 63) = (ns.take 63).map V.int := by
  unfold cutV HT.sIx
  simp
theorem ok_begin {f : Addr} {fd : FuncData} (F : FnP K "_law_begin" "_law_begin" s__law_begin f fd) : FnOk P w K mg base (L2.CX P w) 1 f fd ["_law_script"] (spBegin K) := by
  refine F.ok sc__law_begin (fun vs H Q E h => ?_) (fun cdv A outer s H vs Q E hr h => ?_)
  · obtain ⟨a, ns, rfl, _⟩ := h
    rfl
  · obtain ⟨a, ns, rfl, hS, k⟩ := h
    refine ⟨_, (pss_one (ps_ret (pe_disp (pps_cons pe_str (pe_orT (pe_slice sl_list (pv 0) po_none (po_some pe_int)) (pe_one (pe_lst (pa_cons pe_int pa_nil)))) (pps_cons pe_str pe_int (pps_cons pe_str pe_int pps_nil))) (by rfl) (by rfl) (fun z => by cases z) (by decide)))), ?_⟩
    intro t ht
    refine ⟨_, rfl, _, rfl, a, ns.map V.int, rfl, (same_new ht).seq hS, fun q hq => ?_⟩
    rw [cut63]
    have ntq : t ≠ q := ne_of_none upd_same hq
    have hq0 : H q = none := (same_new ht).free hq
    have fin : ∀ (c : Addr) (ms : List Int) (H2 : Hp), ms ≠ [] → ms.length ≤ 63 → H c = none → c ≠ t → Same H H2 → H2 c = some (.lst (ms.map V.int)) → H2 t = some (.dK []) →
        H2 t = some (HO.dK []) ∧ ∃ kvs : List (Key × V), [(V.str "cells", V.ref c), (V.str "place", V.int 0), (V.str "left", V.int 0)] = List.map (fun kv => (kV kv.fst, kv.snd)) kvs ∧ kvs.length ≤ 15 ∧ Q (V.ref t) (upd H2 t (HO.dK (mergeK [] kvs))) := by
      intro c ms H2 h1 h2 h3 h4 h5 h6 h7
      refine ⟨h7, tapeKv c 0 0, rfl, (by show 3 ≤ 15; decide), ?_⟩
      have e : mergeK [] (tapeKv c 0 0) = tapeKv c 0 0 := by kernel_rfl
      rw [e]
      refine k _ t (fun b o hb => ?_) ht ⟨c, ms, 0, 0, upd_same, (by rw [upd_ne h4]; exact h6), h1, h2, Int.le_refl _, by omega, Int.le_refl _⟩
      rw [upd_ne (ne_of_none hb ht)]
      exact h5 _ _ hb
    refine ⟨!((ns.take 63).map V.int).isEmpty, .inl ⟨_, SqL.of upd_same, rfl⟩, ?_⟩
    cases ns with
    | nil =>
      refine iteF ⟨(by show 1 ≤ sizeLine; decide), fun c hc => ?_⟩
      have hc1 : upd H t (HO.dK []) c = none := (same_new hq).free hc
      have ntc : t ≠ c := ne_of_none upd_same hc1
      exact fin c [0] _ (by simp) (by simp) ((same_new ht).free hc1) ntc.symm (same_new' (same_new' (same_new ht) hq) hc) upd_same (by rw [upd_ne ntc, upd_ne ntq, upd_same])
    | cons n r =>
      refine iteT ?_
      exact fin q ((n :: r).take 63) _ (by simp) (by rw [List.length_take]; omega) hq0 ntq.symm (same_new' (same_new ht) hq) upd_same (by rw [upd_ne ntq, upd_same])
theorem pow_ok : CPow 10 50 ∧ CPow 10 18 := by
  unfold CPow
  decide
theorem ok_draw {f : Addr} {fd : FuncData} (F : FnP K "_law_draw" "_law_draw" s__law_draw f fd) (T : Txt mg) : FnOk P w K mg base (L2.CX P w) 1 f fd ["_law_tape", "_law_many"] spDraw := by
  refine F.ok sc__law_draw (fun vs H Q E h => ?_) (fun cdv A outer s H vs Q E hr h => ?_)
  · obtain ⟨t, n, m, rfl, _⟩ := h
    rfl
  · obtain ⟨t, n, m, rfl, ⟨c, ns, pl, lf, h1, h2, h3, h4, h5, h6, h7⟩, hn, hm, hm9, k⟩ := h
    have hu := hu_of hr
    refine ⟨_, (C8.pss_cut (ps_if (pt_cmpR op_lt (pe_dget hu (pv 0) pe_str (fun _ _ => rfl)) (pv 1) (nomark _)) (pss_cons (ps_par (i := 2) (j := 3) (by rfl) sc__law_draw.nd rfl rfl (by decide) rfl rfl (pa_cons (pe_dget hu (pv 0) pe_str (fun _ _ => rfl)) (pa_cons (pe_callB call_len_seq (by rfl) T.m_len (by decide +kernel) (pa_cons (pe_dget hu (pv 0) pe_str (fun _ _ => rfl)) pa_nil)) pa_nil)) (by rfl))
      (pss_cons (ps_asg (pe_tup (pa_cons (pe_ix ix_list (pe_dget hu (pv 0) pe_str (fun _ _ => rfl)) (pe_op op_mod (pe_callTy call_int1 (by rfl) T.m_int (by decide +kernel) (pa_cons (pv 2) pa_nil)) (pv 3)) (fun _ _ => rfl)) (pa_cons (pe_op op_add (pv 2) pe_int) pa_nil))) (pg_tup rfl (pgs_cons (pg_name (i := 4) sc__law_draw.nd rfl (Or.inl rfl)) (pgs_cons (pg_sub (pv 0) pe_str (set_dict hu)) pgs_nil))))
      (pss_cons (ps_dput hu (pv 0) pe_str (pe_op op_mod (pe_callTy call_int1 (by rfl) T.m_int (by decide +kernel) (pa_cons (pe_op op_pow (pe_op op_add (pe_op op_add (pe_op op_mod (pe_callTy call_int1 (by rfl) T.m_int (by decide +kernel) (pa_cons (pv 4) pa_nil)) pe_int) (pe_op op_mulX pe_int (pv 2))) pe_int) pe_int) pa_nil)) (pe_op op_add (pe_op op_pow pe_int pe_int) pe_int)) rfl)
      (pss_one (ps_if (PW.pt (pw_and (pt_cmpR op_ge (pv 4) (pe_op op_pow pe_int pe_int) (nomark _)) (pw_and1 (pt_cmpR op_lt (pv 2) (pv 3) (nomark _))))) (pss_one (ps_dput hu (pv 0) pe_str (pe_op op_sub (pv 4) (pe_op op_pow pe_int pe_int)) rfl)) pss_nil))))) pss_nil)
      (pss_cons (ps_asg (pe_tup (pa_cons (pe_op op_mod (pe_callTy call_int1 (by rfl) T.m_int (by decide +kernel) (pa_cons (pe_dget hu (pv 0) pe_str (fun _ _ => rfl)) pa_nil)) (pv 1)) (pa_cons (pe_op op_fdivW (pe_dget hu (pv 0) pe_str (fun _ _ => rfl)) (pv 1)) pa_nil))) (pg_tup rfl (pgs_cons (pg_name (i := 5) sc__law_draw.nd rfl (Or.inl rfl)) (pgs_cons (pg_sub (pv 0) pe_str (set_dict hu)) pgs_nil))))
      (pss_one (ps_ret (pv 5))))), ?_⟩
    have gl : ∀ {H' : Hp} {pl lf : Int}, H' t = some (.dK (tapeKv c pl lf)) → DGet H' t (.str "left") (some (.int lf)) := fun h => by
      rw [← tape_left c]; exact DGet.k (k := Sum.inr "left") h
    have gp : ∀ {H' : Hp} {pl lf : Int}, H' t = some (.dK (tapeKv c pl lf)) → DGet H' t (.str "place") (some (.int pl)) := fun h => by
      rw [← tape_place c]; exact DGet.k (k := Sum.inr "place") h
    have gc : ∀ {H' : Hp} {pl lf : Int}, H' t = some (.dK (tapeKv c pl lf)) → DGet H' t (.str "cells") (some (.ref c)) := fun {H' pl lf} h => by
      rw [← tape_cells c pl lf]; exact DGet.k (k := Sum.inr "cells") h
    have ntc : t ≠ c := ne_of h1 h2 (by intro z; cases z)
    refine ⟨fun σ' H' => ∃ (x y z : Option V) (pl' lf' : Int), σ' = [some (.ref t), some (.int m), x, y, z, none] ∧ But t H H' ∧ H' t = some (.dK (tapeKv c pl' lf')) ∧ H' c = some (.lst (ns.map V.int)) ∧ 0 ≤ pl' ∧ pl' ≤ ((n + 1 : Nat) : Int) ∧ 0 ≤ lf', ?_, ?_⟩
    · refine ⟨_, rfl, t, _, rfl, gl h1, _, rfl, _, _, rfl, rfl, _, rfl, ?_⟩
      refine ite2 (fun _ => ?_) (fun _ => ?_)
      · refine ⟨_, rfl, t, _, rfl, gp h1, _, rfl, t, _, rfl, gc h1, c, _, rfl, .inl (SqL.of h2), _, _, rfl, ?_⟩
        have hl : 0 < ns.length := List.length_pos_iff.mpr h3
        have hl' : (0 : Int) < (((ns.map V.int).length : Nat) : Int) := by rw [List.length_map]; omega
        have hi0 := Int.emod_nonneg pl (show (((ns.map V.int).length : Nat) : Int) ≠ 0 by omega)
        have hi1 := Int.emod_lt_of_pos pl hl'
        obtain ⟨j, hj⟩ : ∃ j : Nat, pl % (((ns.map V.int).length : Nat) : Int) = (j : Int) := ⟨_, (Int.toNat_of_nonneg hi0).symm⟩
        have hjl : j < ns.length := by rw [List.length_map] at hj hi1; omega
        refine ⟨_, rfl, t, _, rfl, gc h1, _, rfl, .inl ⟨_, rfl, _, rfl, _, _, rfl, rfl, hl', c, _, _, .int ns[j], rfl, rfl, SqL.of h2, ?_, ?_⟩⟩
        · rw [hj]
          exact atI_nat (by rw [List.getElem?_map, List.getElem?_eq_getElem hjl]; rfl)
        · refine ⟨_, rfl, _, _, rfl, rfl, (by show 2 ≤ sizeLine; decide), fun p hp => ?_⟩
          have hpt : t ≠ p := ne_of_none h1 hp
          have hpc : c ≠ p := ne_of_none h2 hp
          have e1 : upd H p (HO.tup [V.int ns[j], V.int (pl + 1)]) t = some (.dK (tapeKv c pl lf)) := by rw [upd_ne hpt]; exact h1
          refine ⟨p, _, rfl, .inl (.inl upd_same), rfl, _, _, rfl, _, _, rfl, _, rfl, t, _, rfl, DPut.k (k := Sum.inr "place") e1 (by show 3 < sizeLine; decide), rfl, ?_⟩
          rw [tape_put_place]
          have e2 : upd (upd H p (HO.tup [V.int ns[j], V.int (pl + 1)])) t (HO.dK (tapeKv c (pl + 1) lf)) t = some (.dK (tapeKv c (pl + 1) lf)) := upd_same
          have hc0 := Int.emod_nonneg ns[j] (show (2147483647 : Int) ≠ 0 by decide)
          have hc1 := Int.emod_lt_of_pos ns[j] (show (0 : Int) < 2147483647 by decide)
          have pw : CPow (ns[j] % 2147483647 + 69621 * pl + 48271) 17 := ⟨by decide, by decide, by omega⟩
          have mx : CMulX 69621 pl := mulx_ok (a := 17) (b := 40) (by decide) (by omega) (by decide)
          have m0 : (0 : Int) < 10 ^ 50 + 151 := by decide
          refine ⟨_, rfl, .inl ⟨_, rfl, _, _, rfl, rfl, (by show (0 : Int) < 2147483647; decide), _, rfl, _, _, rfl, rfl, mx, _, _, rfl, rfl, _, _, rfl, rfl, _, _, rfl, rfl, pw, .inl ⟨_, rfl, _, _, rfl, rfl, pow_ok.1, _, _, rfl, rfl, _, _, rfl, rfl, m0, _, rfl, t, _, rfl, DPut.k (k := Sum.inr "left") e2 (by show 3 < sizeLine; decide), ?_⟩⟩⟩
          rw [tape_put_left, upd_upd]
          have n0 := Int.emod_nonneg ((ns[j] % 2147483647 + 69621 * pl + 48271) ^ 17) (show ((10 : Int) ^ 50 + 151) ≠ 0 by decide)
          have bu : ∀ o, But t H (upd (upd H p (HO.tup [V.int ns[j], V.int (pl + 1)])) t o) := fun o => (But.of_same (same_new hp)).upd
          have uc : ∀ o, upd (upd H p (HO.tup [V.int ns[j], V.int (pl + 1)])) t o c = some (.lst (ns.map V.int)) := fun o => by rw [upd_ne ntc.symm, upd_ne hpc]; exact h2
          refine ⟨_, rfl, _, _, rfl, rfl, pow_ok.2, _, _, rfl, rfl, _, rfl, ?_⟩
          refine ite2 (fun g1 => ?_) (fun _ => ?_)
          · refine ⟨_, rfl, _, rfl, _, _, rfl, rfl, _, rfl, ?_⟩
            refine ite2 (fun g2 => ?_) (fun _ => ?_)
            · refine ⟨_, rfl, _, _, rfl, rfl, pow_ok.2, _, _, rfl, rfl, _, rfl, t, _, rfl, DPut.k (k := Sum.inr "left") upd_same (by show 3 < sizeLine; decide), ?_⟩
              rw [tape_put_left, upd_upd]
              have g3 : (10 : Int) ^ 18 ≤ ns[j] := of_decide_eq_true g1
              exact ⟨_, _, _, _, _, rfl, bu _, upd_same, uc _, by omega, by omega, by show (0 : Int) ≤ ns[j] - 10 ^ 18; omega⟩
            · exact ⟨_, _, _, _, _, rfl, bu _, upd_same, uc _, by omega, by omega, n0⟩
          · exact ⟨_, _, _, _, _, rfl, bu _, upd_same, uc _, by omega, by omega, n0⟩
      · exact ⟨none, none, none, pl, lf, rfl, But.refl _ _, h1, h2, h5, by omega, h7⟩
    · rintro σ' H' ⟨x, y, z, pl', lf', rfl, b, e1, e2, e3, e4, e5⟩
      refine ⟨_, rfl, t, _, rfl, gl e1, .inl ⟨_, rfl, _, rfl, _, _, rfl, rfl, hm, _, rfl, t, _, rfl, gl e1, _, rfl, _, _, rfl, rfl, ⟨hm, hm9⟩, (by show 2 ≤ sizeLine; decide), fun p hp => ?_⟩⟩
      have hpt : t ≠ p := ne_of_none e1 hp
      have hpc : c ≠ p := ne_of_none e2 hp
      have e3' : upd H' p (HO.tup [V.int (lf' % m), V.int (lf' / m)]) t = some (.dK (tapeKv c pl' lf')) := by rw [upd_ne hpt]; exact e1
      refine ⟨p, _, rfl, .inl (.inl upd_same), rfl, _, _, rfl, _, _, rfl, _, rfl, t, _, rfl, DPut.k (k := Sum.inr "left") e3' (by show 3 < sizeLine; decide), rfl, _, rfl, ?_⟩
      rw [tape_put_left]
      refine k _ _ (Int.emod_nonneg _ (by omega)) (Int.emod_lt_of_pos _ hm) ((b.trans (But.of_same (same_new hp))).upd) ⟨c, ns, pl', _, upd_same, (by rw [upd_ne ntc.symm, upd_ne hpc]; exact e2), h3, h4, e3, e4, Int.ediv_nonneg e5 (by omega)⟩
end
end Rd
set_option maxHeartbeats 4000000
namespace Rd
open PySem PySem.Spec PyProof.Rows L2
abbrev s__law_pick : Stmt := top 16
theorem sc__law_pick : FnScope ["_law_tape", "_law_items"] ["_law_tape", "_law_items"] (defScope s__law_pick) := ⟨rfl, rfl, rfl, by decide +kernel, rfl, by decide +kernel, by decide +kernel⟩

abbrev s_gcd_of : Stmt := top 5
theorem sc_gcd_of : FnScope ["numbers", "found", "number", "one", "other"] ["numbers"] (defScope s_gcd_of) := ⟨rfl, rfl, rfl, by decide +kernel, rfl, by decide +kernel, by decide +kernel⟩

abbrev s_lcm_of : Stmt := top 6
theorem sc_lcm_of : FnScope ["one", "other"] ["one", "other"] (defScope s_lcm_of) := ⟨rfl, rfl, rfl, by decide +kernel, rfl, by decide +kernel, by decide +kernel⟩

abbrev s_inverse : Stmt := top 11
theorem sc_inverse : FnScope ["number", "modulus", "low", "high", "one", "other", "times"] ["number", "modulus"] (defScope s_inverse) := ⟨rfl, rfl, rfl, by decide +kernel, rfl, by decide +kernel, by decide +kernel⟩

def spPick : Sp := fun vs H Q _ => ∃ (t l : Addr) (n : Nat) (xs : List V), vs = [.ref t, .ref l] ∧ TapeAt H t n ∧ n ≤ 1000000000 ∧ H l = some (.lst xs) ∧ xs ≠ [] ∧ xs.length ≤ 1000 ∧ ∀ H' v, v ∈ xs → But t H H' → TapeAt H' t (n + 1) → Q v H'
def spGcd (K : PySem.W.Frag) : Sp := fun vs H Q _ => ∃ (a : Addr) (ns : List Int), vs = [.ref a] ∧ SqL K H a (ns.map V.int) ∧ Q (.int (gcdL ns)) H
def Sz (n : Nat) (i : Int) : Prop := i.natAbs < 2 ^ n
def spLcm : Sp := fun vs H Q _ => ∃ a b : Int, vs = [.int a, .int b] ∧ Sz 4000 a ∧ Sz 4000 b ∧ ∀ H', Same H H' → Q (.int (Nat.lcm a.natAbs b.natAbs : Nat)) H'
def spInverse : Sp := fun vs H Q _ => ∃ a m : Int, vs = [.int a, .int m] ∧ 0 < m ∧ Sz 4000 m ∧ Nat.gcd a.natAbs m.natAbs = 1 ∧ ∀ H' r, Same H H' → 0 ≤ r → r < m → m ∣ r * a - 1 → Q (.int r) H'
section
variable {P : Program} {w : World} {K : PySem.W.Frag} {mg : Str → Option Value} {base : Heap} {f : Addr} {fd : FuncData}
theorem ok_pick (F : FnP K "_law_pick" "_law_pick" s__law_pick f fd) (T : Txt mg) (C__law_draw : Cal P w K mg base 1 "_law_draw" spDraw) : FnOk P w K mg base (L2.CX P w) 2 f fd ["_law_tape", "_law_items"] spPick := by
  refine F.ok sc__law_pick (fun vs H Q E h => ?_) (fun cdv A outer s H vs Q E hr h => ?_)
  · obtain ⟨t, l, n, xs, rfl, _⟩ := h
    rfl
  · obtain ⟨t, l, n, xs, rfl, ht, hn, hl, h0, hz, k⟩ := h
    refine ⟨_, (pss_one (ps_ret (pe_ix ix_list (pv 1) (pe_c C__law_draw hr (by omega) rfl (pa_cons (pv 0) (pa_cons (pe_callB call_len_seq (by rfl) T.m_len (by decide +kernel) (pa_cons (pv 1) pa_nil)) pa_nil))) (fun _ _ => rfl)))), ?_⟩
    have hx : 0 < xs.length := List.length_pos_iff.mpr h0
    have ntl : l ≠ t := by
      obtain ⟨c, ns, pl, lf, h1, _⟩ := ht
      exact ne_of hl h1 (by intro z; cases z)
    refine ⟨_, rfl, _, rfl, _, rfl, l, _, rfl, .inl (SqL.of hl), t, n, _, rfl, ht, hn, by omega, ?_, fun H' r r0 r1 b t' => ?_⟩
    · have : xs.length.log2 ≤ xs.length := Nat.log2_le_self _
      show ((xs.length : Nat) : Int).natAbs.log2 < 9000
      rw [Int.natAbs_natCast]
      omega
    · obtain ⟨j, rfl⟩ : ∃ j : Nat, r = (j : Int) := ⟨_, (Int.toNat_of_nonneg r0).symm⟩
      have hj : j < xs.length := by omega
      exact ⟨l, _, _, xs[j], rfl, rfl, SqL.of (b _ _ ntl hl), atI_nat (List.getElem?_eq_getElem hj), k _ _ (List.getElem_mem hj) b t'⟩
theorem abs_if (i : Int) : (if i < 0 then -i else i) = (i.natAbs : Int) := by split <;> omega
theorem ok_gcd (F : FnP K "gcd_of" "gcd_of" s_gcd_of f fd) (T : Txt mg) : FnOk P w K mg base (L2.CX P w) 1 f fd ["numbers"] (spGcd K) := by
  refine F.ok sc_gcd_of (fun vs H Q E h => ?_) (fun cdv A outer s H vs Q E hr h => ?_)
  · obtain ⟨a, ns, rfl, _⟩ := h
    rfl
  · obtain ⟨a, ns, rfl, hS, k⟩ := h
    refine ⟨_, (pss_cons (ps_set (i := 1) sc_gcd_of.nd rfl (Or.inl rfl) pe_int)
      (pss_cons (ps_for (passes_of rfl) rfl (pi_list (pv 0)) (pg_name (i := 2) sc_gcd_of.nd rfl (Or.inl rfl)) (pss_cons (ps_par (i := 3) (j := 4) (by rfl) sc_gcd_of.nd rfl rfl (by decide) rfl rfl (pa_cons (pe_callB call_abs (by rfl) T.m_abs (by decide +kernel) (pa_cons (pv 1) pa_nil)) (pa_cons (pe_callB call_abs (by rfl) T.m_abs (by decide +kernel) (pa_cons (pv 2) pa_nil)) pa_nil)) (by rfl))
      (pss_cons (ps_while (passes_of rfl) (pt_cmpR op_ne (pv 4) pe_int (nomark _)) (pss_one (ps_par (i := 3) (j := 4) (by rfl) sc_gcd_of.nd rfl rfl (by decide) rfl rfl (pa_cons (pv 4) (pa_cons (pe_op op_mod (pv 3) (pv 4)) pa_nil)) (by rfl))))
      (pss_one (ps_set (i := 1) sc_gcd_of.nd rfl (Or.inl rfl) (pv 3))))))
      (pss_one (ps_ret (pv 1))))), ?_⟩
    refine ⟨_, rfl, a, rfl, ⟨_, hS⟩, for_list (K := K) (a := a) (xs := ns.map V.int) (fun i σ H' => ∃ x y z : Option V, σ = [some (.ref a), some (.int (gcdL (ns.take i))), x, y, z] ∧ H' = H) ⟨none, none, none, rfl, rfl⟩ (fun i σ H' _ ⟨_, _, _, _, e⟩ => by rw [e]; exact hS) ?_ ?_⟩
    · rintro i v σ H' hi ⟨x, y, z, rfl, rfl⟩
      rw [List.getElem?_map] at hi
      obtain ⟨n, hn, rfl⟩ := Option.map_eq_some_iff.mp hi
      have tk : gcdL (ns.take (i + 1)) = Nat.gcd (gcdL (ns.take i)) n.natAbs := by
        unfold gcdL
        rw [List.take_add_one, hn, List.foldl_append]
        rfl
      refine ⟨_, rfl, _, rfl, _, rfl, _, rfl, _, _, rfl, ?_⟩
      rw [abs_if, abs_if]
      refine while_by (fun σ H1 => ∃ p q : Int, σ = [some (.ref a), some (.int (gcdL (ns.take i))), some (.int n), some (.int p), some (.int q)] ∧ H1 = H' ∧ 0 ≤ p ∧ 0 ≤ q ∧ Nat.gcd p.natAbs q.natAbs = gcdL (ns.take (i + 1)))
        (fun σ _ => match σ with | [_, _, _, _, some (.int q)] => q.natAbs | _ => 0) ⟨_, _, rfl, rfl, by omega, by omega, ?_⟩ ?_ ?_
      · rw [tk]; simp
      · rintro σ H1 ⟨p, q, rfl, rfl, hp, hq, hg⟩
        refine ⟨_, rfl, rfl, _, rfl, ?_⟩
        refine ite2 (fun h => ?_) (fun h => ?_)
        · have hq0 : q ≠ 0 := fun z => by subst z; simp at h
          have hqp : 0 < q := by omega
          refine ⟨_, rfl, _, rfl, _, rfl, _, _, rfl, rfl, hqp, _, _, rfl, ⟨q, p % q, rfl, rfl, by omega, Int.emod_nonneg _ hq0, ?_⟩, ?_⟩
          · rw [gcd_step hp hqp, hg]
          · show (p % q).natAbs < q.natAbs
            have := Int.emod_nonneg p hq0
            have := Int.emod_lt_of_pos p hqp
            omega
        · have hq0 : q = 0 := by
            by_cases e : q = 0
            · exact e
            · exact absurd (by simp [e]) h
          subst hq0
          refine ⟨_, rfl, some (.int n), some (.int p), some (.int 0), ?_, rfl⟩
          have e : p = ((gcdL (ns.take (i + 1)) : Nat) : Int) := by
            simp at hg
            omega
          rw [← e]
          rfl
      · rintro σ H Q Q' hq ⟨v, h1, h2, k, h3, h4⟩
        exact ⟨v, h1, h2, k, h3, hq _ _ h4⟩
    · rintro σ H' ⟨x, y, z, rfl, rfl⟩
      rw [List.length_map, List.take_length]
      exact ⟨_, rfl, k⟩
theorem lcm_eq (a b : Int) : ((a * b).natAbs : Int) / ((gcdL [a, b] : Nat) : Int) = ((Nat.lcm a.natAbs b.natAbs : Nat) : Int) := by
  rw [gcd_int_pair, Int.natAbs_mul]
  unfold Nat.lcm
  rw [Int.natCast_ediv]
theorem sz_log {n : Nat} {i : Int} (h : Sz n i) (h0 : 0 < n) : i.natAbs.log2 < n := PySem.Flt.log2_lt_of h0 h
theorem sz_mul {a b : Int} {n m : Nat} (ha : Sz n a) (hb : Sz m b) (h : n + m ≤ 134217728) : CMulX a b := mulx_ok ha hb h
theorem gcd_le {a b : Int} {n : Nat} (ha : Sz n a) (h0 : a ≠ 0) : Sz n ((gcdL [a, b] : Nat) : Int) := by
  unfold Sz
  rw [gcd_int_pair, Int.natAbs_natCast]
  exact Nat.lt_of_le_of_lt (Nat.gcd_le_left _ (by omega)) ha
theorem ok_lcm (F : FnP K "lcm_of" "lcm_of" s_lcm_of f fd) (T : Txt mg) (C_gcd_of : Cal P w K mg base 1 "gcd_of" (spGcd K)) : FnOk P w K mg base (L2.CX P w) 2 f fd ["one", "other"] spLcm := by
  refine F.ok sc_lcm_of (fun vs H Q E h => ?_) (fun cdv A outer s H vs Q E hr h => ?_)
  · obtain ⟨a, b, rfl, _⟩ := h
    rfl
  · obtain ⟨a, b, rfl, ha, hb, k⟩ := h
    refine ⟨_, (pss_one (ps_ret (pe_ifExp (PW.pt (pw_or (pt_cmpR op_eq (pv 0) pe_int (nomark _)) (pw_or1 (pt_cmpR op_eq (pv 1) pe_int (nomark _))))) pe_int (pe_op op_fdivW (pe_callB call_abs (by rfl) T.m_abs (by decide +kernel) (pa_cons (pe_op op_mulX (pv 0) (pv 1)) pa_nil)) (pe_c C_gcd_of hr (by omega) rfl (pa_cons (pe_lst (pa_cons (pv 0) (pa_cons (pv 1) pa_nil))) pa_nil)))))), ?_⟩
    have fin : a ≠ 0 → b ≠ 0 → tOp (rI CDivW fun i j => V.int (i / j)) (tCB (fun xs H Q => ∃ i, xs = [V.int i] ∧ Q (V.int (if i < 0 then -i else i)) H) (tCons (tOp (rI CMulX fun i j => V.int (i * j)) (tVar 0) (tVar 1)) tNil)) (tCall (spGcd K) [] E0 (tCons (tLst (tCons (tVar 0) (tCons (tVar 1) tNil))) tNil)) (L2.start ["one", "other"] [V.int a, V.int b]) H Q := by
      intro a0 b0
      refine ⟨_, rfl, _, rfl, _, _, rfl, rfl, sz_mul ha hb (by decide), _, rfl, _, rfl, _, rfl, (by show 2 ≤ sizeLine; decide), fun p hp => ?_⟩
      refine ⟨p, [a, b], rfl, SqL.of upd_same, _, _, rfl, rfl, ⟨?_, ?_⟩, ?_⟩
      · have : 0 < Nat.gcd a.natAbs b.natAbs := Nat.gcd_pos_of_pos_left _ (by omega)
        rw [gcd_int_pair]
        omega
      · exact Nat.lt_of_lt_of_le (sz_log (gcd_le ha a0) (by decide)) (by decide)
      · rw [abs_if]
        show Q (V.int (((a * b).natAbs : Int) / ((gcdL [a, b] : Nat) : Int))) _
        rw [lcm_eq]
        exact k _ (same_new hp)
    have zero : a = 0 ∨ b = 0 → Q (.int 0) H := by
      intro z
      have e : ((Nat.lcm a.natAbs b.natAbs : Nat) : Int) = 0 := by
        rcases z with rfl | rfl
        · simp
        · simp
      have := k H (Same.refl H)
      rw [e] at this
      exact this
    refine ⟨_, rfl, rfl, _, rfl, ?_⟩
    by_cases a0 : a = 0
    · rw [decide_eq_true (by rw [a0])]
      exact iteT (iteT (zero (.inl a0)))
    · rw [decide_eq_false (by simpa using a0)]
      refine iteF ⟨_, rfl, rfl, _, rfl, ?_⟩
      by_cases b0 : b = 0
      · rw [decide_eq_true (by rw [b0])]
        exact iteT (zero (.inr b0))
      · rw [decide_eq_false (by simpa using b0)]
        exact iteF (fin a0 b0)
theorem sz_mono {i j : Int} {n : Nat} (h : Sz n j) (hij : i.natAbs ≤ j.natAbs) : Sz n i := Nat.lt_of_le_of_lt hij h
theorem ok_inverse (F : FnP K "inverse" "inverse" s_inverse f fd) (T : Txt mg) : FnOk P w K mg base (L2.CX P w) 1 f fd ["number", "modulus"] spInverse := by
  refine F.ok sc_inverse (fun vs H Q E h => ?_) (fun cdv A outer s H vs Q E hr h => ?_)
  · obtain ⟨a, m, rfl, _⟩ := h
    rfl
  · obtain ⟨a, m, rfl, hm, hz, hg, k⟩ := h
    refine ⟨_, (pss_cons (ps_asg (pe_tup (pa_cons (pv 1) (pa_cons (pe_op op_mod (pv 0) (pv 1)) (pa_cons pe_int (pa_cons pe_int pa_nil))))) (pg_tup rfl (pgs_cons (pg_name (i := 2) sc_inverse.nd rfl (Or.inl rfl)) (pgs_cons (pg_name (i := 3) sc_inverse.nd rfl (Or.inl rfl)) (pgs_cons (pg_name (i := 4) sc_inverse.nd rfl (Or.inl rfl)) (pgs_cons (pg_name (i := 5) sc_inverse.nd rfl (Or.inl rfl)) pgs_nil))))))
      (pss_cons (ps_while (passes_of rfl) (pt_cmpR op_gt (pv 3) pe_int (nomark _)) (pss_cons (ps_set (i := 6) sc_inverse.nd rfl (Or.inl rfl) (pe_op op_fdivW (pv 2) (pv 3)))
      (pss_one (ps_asg (pe_tup (pa_cons (pv 3) (pa_cons (pe_op op_sub (pv 2) (pe_op op_mulX (pv 6) (pv 3))) (pa_cons (pv 5) (pa_cons (pe_op op_sub (pv 4) (pe_op op_mulX (pv 6) (pv 5))) pa_nil))))) (pg_tup rfl (pgs_cons (pg_name (i := 2) sc_inverse.nd rfl (Or.inl rfl)) (pgs_cons (pg_name (i := 3) sc_inverse.nd rfl (Or.inl rfl)) (pgs_cons (pg_name (i := 4) sc_inverse.nd rfl (Or.inl rfl)) (pgs_cons (pg_name (i := 5) sc_inverse.nd rfl (Or.inl rfl)) pgs_nil)))))))))
      (pss_one (ps_ret (pe_op op_mod (pv 4) (pv 1)))))), ?_⟩
    refine ⟨_, rfl, _, rfl, _, rfl, _, _, rfl, rfl, hm, (by show 4 ≤ sizeLine; decide), fun p hp => ?_⟩
    refine ⟨p, _, rfl, .inl (.inl upd_same), rfl, _, _, rfl, _, _, rfl, _, _, rfl, _, _, rfl, rfl, ?_⟩
    refine while_by (fun σ H' => ∃ (low high one other : Int) (z : Option V), σ = [some (.int a), some (.int m), some (.int low), some (.int high), some (.int one), some (.int other), z] ∧ Same H H' ∧ Inv a m low high one other ∧ low.natAbs ≤ m.natAbs ∧ high.natAbs ≤ m.natAbs)
      (fun σ _ => match σ with | [_, _, _, some (.int high), _, _, _] => high.natAbs | _ => 0) ⟨_, _, _, _, none, rfl, same_new hp, inv_start hm hg, Nat.le_refl _, ?_⟩ ?_ ?_
    · have := Int.emod_nonneg a (show m ≠ 0 by omega)
      have := Int.emod_lt_of_pos a hm
      omega
    · rintro σ H' ⟨low, high, one, other, z, rfl, sm, I, hl, hh⟩
      refine ⟨_, rfl, _, _, rfl, rfl, _, rfl, ?_⟩
      obtain ⟨b1, b2, b3⟩ := inv_low I
      refine ite2 (fun h => ?_) (fun h => ?_)
      · have hp : 0 < high := of_decide_eq_true h
        have szl : Sz 4000 low := sz_mono hz hl
        have szh : Sz 4000 high := sz_mono hz hh
        have q0 : 0 ≤ low / high := Int.ediv_nonneg (Int.le_of_lt I.l0) (Int.le_of_lt hp)
        have q1 : low / high ≤ low := Int.ediv_le_self _ (Int.le_of_lt I.l0)
        have szq : Sz 4000 (low / high) := sz_mono szl (by have := I.l0; omega)
        refine ⟨_, rfl, _, rfl, _, _, rfl, rfl, ⟨hp, Nat.lt_trans (sz_log szh (by decide)) (by decide)⟩, ?_⟩
        refine ⟨_, rfl, _, rfl, _, rfl, _, rfl, _, _, rfl, rfl, sz_mul szq szh (by decide), _, _, rfl, rfl, _, rfl, _, rfl, _, rfl, _, rfl, _, _, rfl, rfl, sz_mul szq (sz_mono hz b2) (by decide), _, _, rfl, rfl, (by show 4 ≤ sizeLine; decide), fun q hq => ?_⟩
        refine ⟨q, _, rfl, .inl (.inl upd_same), rfl, _, _, rfl, _, _, rfl, _, _, rfl, _, _, rfl, rfl, ?_⟩
        have J := inv_turn I hp
        have er : low - low / high * high = low % high := by rw [Int.emod_def, Int.mul_comm]
        have e0 := Int.emod_nonneg low (show high ≠ 0 by omega)
        have e1 := Int.emod_lt_of_pos low hp
        refine ⟨⟨_, _, _, _, _, rfl, same_new' sm hq, J, hh, ?_⟩, ?_⟩
        · rw [er]; omega
        · show (low - low / high * high).natAbs < high.natAbs
          rw [er]; omega
      · have hp : high = 0 := by
          have h2 : ¬ 0 < high := fun z => h (decide_eq_true z)
          have := I.h0
          omega
        subst hp
        refine ⟨_, rfl, _, rfl, _, _, rfl, rfl, hm, ?_⟩
        exact k _ _ sm (Int.emod_nonneg _ (by omega)) (Int.emod_lt_of_pos _ hm) (inv_end I)
    · rintro σ H Q Q' hq ⟨v, h1, i, j, h2, h3, k, h4, h5⟩
      exact ⟨v, h1, i, j, h2, h3, k, h4, hq _ _ h5⟩
end
end Rd
set_option maxHeartbeats 4000000
namespace Rd
open PySem PySem.Spec PyProof.Rows L2
/-! ### Numbers -/
abbrev s_Numbers___init__ : Stmt := inClass (top 12) 0
theorem sc_Numbers___init__ : FnScope ["self", "least", "modulus"] ["self", "least", "modulus"] (defScope s_Numbers___init__) := ⟨rfl, rfl, rfl, by decide +kernel, rfl, by decide +kernel, by decide +kernel⟩

abbrev s_Numbers_has : Stmt := inClass (top 12) 3
theorem sc_Numbers_has : FnScope ["self", "number"] ["self", "number"] (defScope s_Numbers_has) := ⟨rfl, rfl, rfl, by decide +kernel, rfl, by decide +kernel, by decide +kernel⟩

abbrev s_Numbers___and__ : Stmt := inClass (top 12) 9
theorem sc_Numbers___and__ : FnScope ["self", "other", "single", "rest", "common", "gap", "modulus", "part", "times", "meeting", "low"] ["self", "other"] (defScope s_Numbers___and__) := ⟨rfl, rfl, rfl, by decide +kernel, rfl, by decide +kernel, by decide +kernel⟩

abbrev s_Numbers___eq__ : Stmt := inClass (top 12) 10
theorem sc_Numbers___eq__ : FnScope ["self", "other"] ["self", "other"] (defScope s_Numbers___eq__) := ⟨rfl, rfl, rfl, by decide +kernel, rfl, by decide +kernel, by decide +kernel⟩

def nf (l m : Int) : List (Str × V) := [("own_least", .int l), ("own_modulus", .int m)]
theorem nf_l (l m : Int) : (nf l m).lookup ("own_least" : Str) = some (.int l) := by kernel_rfl
theorem nf_m (l m : Int) : (nf l m).lookup ("own_modulus" : Str) = some (.int m) := by kernel_rfl
theorem nf_has (l m : Int) : (nf l m).lookup ("has" : Str) = none := by kernel_rfl
theorem nf_put1 (l : Int) : putF "own_least" (.int l) [] = ([("own_least", .int l)] : List (Str × V)) := by kernel_rfl
theorem nf_put2 (l m : Int) : putF "own_modulus" (.int m) ([("own_least", .int l)] : List (Str × V)) = nf l m := by kernel_rfl
/-- at p Numbers(l, m) -/
def NumAt (C : Addr) (H : Hp) (p : Addr) (l m : Int) : Prop := ∃ dx, H p = some (.ins C dx (nf l m))
theorem NumAt.same {C : Addr} {H H' : Hp} {p : Addr} {l m : Int} (h : NumAt C H p l m) (s : Same H H') : NumAt C H' p l m := by
  obtain ⟨dx, h⟩ := h
  exact ⟨dx, s _ _ h⟩
theorem NumAt.but {C t : Addr} {H H' : Hp} {p : Addr} {l m : Int} (h : NumAt C H p l m) (s : But t H H') (n : p ≠ t) : NumAt C H' p l m := by
  obtain ⟨dx, h⟩ := h
  exact ⟨dx, s _ _ n h⟩
def spNumInit (C : Addr) : Sp := fun vs H Q _ => ∃ (p dx : Addr) (l m : Int), vs = [.ref p, .int l, .int m] ∧ H p = some (.ins C dx []) ∧ Q .non (upd H p (.ins C dx (nf l m)))
def spHas (C : Addr) : Sp := fun vs H Q _ => ∃ (p : Addr) (l m x : Int), vs = [.ref p, .int x] ∧ NumAt C H p l m ∧ 0 ≤ m ∧ Q (.bl (decide (Has l m x))) H
def spAnd (C : Addr) : Sp := fun vs H Q _ => ∃ (p q : Addr) (l m l' m' : Int), vs = [.ref p, .ref q] ∧ NumAt C H p l m ∧ NumAt C H q l' m' ∧ 0 ≤ m ∧ 0 ≤ m' ∧ Sz 1000 l ∧ Sz 1000 m ∧ Sz 1000 l' ∧ Sz 1000 m' ∧
  ∀ (r : Option (Int × Int)) H', Same H H' → AndR l m l' m' r → (match r with | none => Q .non H' | some (n, k) => ∀ o, H o = none → NumAt C H' o n k → Q (.ref o) H')
def spNumEq (C : Addr) : Sp := fun vs H Q _ => ∃ (p q : Addr) (l m l' m' : Int), vs = [.ref p, .ref q] ∧ NumAt C H p l m ∧ NumAt C H q l' m' ∧ ∀ H', Same H H' → Q (.bl (decide (l = l' ∧ m = m'))) H'
/-- what the text says of the class Numbers at C -/
structure NumT (K : PySem.W.Frag) (mg : Str → Option Value) (C : Addr) : Prop where
  cl : Cls K C
  nL : NoAttr K C "own_least"
  nM : NoAttr K C "own_modulus"
  ca : PySem.W.findIn K (.ref C) "__class__" = some (some (.builtin "object.__class__"))
  cn : PySem.W.specialIn K (.builtin "object.__class__") "__get__" = some (some (.builtin "getset_descriptor.__get__"))
  ct : PySem.W.takesIn K (.builtin "object.__class__") = some true
  cm : PySem.W.mroIn K C (.type "object") = some true
  g : mg "Numbers" = some (.ref C)
  sf : PySem.W.selfFirst K C = true
  ne : PySem.W.findIn K (.ref C) "__ne__" = some (some (.builtin "object.__ne__"))
section
variable {P : Program} {w : World} {K : PySem.W.Frag} {mg : Str → Option Value} {base : Heap} {f C : Addr} {fd : FuncData}
theorem ok_nInit (F : FnP K "__init__" "Numbers.__init__" s_Numbers___init__ f fd) (N : NumT K mg C) : FnOk P w K mg base (L2.CX P w) 1 f fd ["self", "least", "modulus"] (spNumInit C) := by
  refine F.ok sc_Numbers___init__ (fun vs H Q E h => ?_) (fun cdv A outer s H vs Q E hr h => ?_)
  · obtain ⟨p, dx, l, m, rfl, _⟩ := h
    rfl
  · obtain ⟨p, dx, l, m, rfl, hp, k⟩ := h
    refine ⟨_, (pss_cons (ps_fld (pv 0) (pv 1) rfl)
      (pss_one (ps_fld (pv 0) (pv 2) rfl))), ?_⟩
    refine ⟨_, rfl, _, rfl, p, C, dx, _, rfl, hp, N.cl, N.nL, (by show 0 < 1000; decide), _, rfl, _, rfl, p, C, dx, _, rfl, upd_same, N.cl, N.nM, (by rw [nf_put1]; show 1 < 1000; decide), ?_⟩
    rw [nf_put1, nf_put2, upd_upd]
    exact k
theorem has_iff {l m x : Int} (hm : 0 ≤ m) : decide (Has l m x) = (if (decide (x ≤ l) || decide (m = 0)) = true then decide (x = l) else decide ((x - l) % m = 0)) := by
  by_cases h1 : x ≤ l
  · rw [decide_eq_true h1]
    show _ = decide (x = l)
    by_cases e : x = l
    · rw [decide_eq_true e, decide_eq_true (.inl e)]
    · rw [decide_eq_false e, decide_eq_false]
      rintro (z | ⟨z, _⟩) <;> omega
  · rw [decide_eq_false h1]
    by_cases h2 : m = 0
    · subst h2
      rw [decide_eq_true rfl]
      show _ = decide (x = l)
      by_cases e : x = l
      · rw [decide_eq_true e, decide_eq_true (.inl e)]
      · rw [decide_eq_false e, decide_eq_false (fun z => e (has_zero.1 z))]
    · rw [decide_eq_false h2]
      show _ = decide ((x - l) % m = 0)
      by_cases e : (x - l) % m = 0
      · rw [decide_eq_true e, decide_eq_true ((has_pos (by omega)).2 ⟨by omega, Int.dvd_of_emod_eq_zero e⟩)]
      · rw [decide_eq_false e, decide_eq_false (fun z => e (Int.emod_eq_zero_of_dvd ((has_pos (by omega)).1 z).2))]
theorem int_dec (i j : Int) : decide (V.int i = V.int j) = decide (i = j) := by
  by_cases e : i = j
  · subst e; simp
  · rw [decide_eq_false e, decide_eq_false (fun z => e (V.int.inj z))]
theorem ok_has (F : FnP K "has" "Numbers.has" s_Numbers_has f fd) (N : NumT K mg C) : FnOk P w K mg base (L2.CX P w) 1 f fd ["self", "number"] (spHas C) := by
  refine F.ok sc_Numbers_has (fun vs H Q E h => ?_) (fun cdv A outer s H vs Q E hr h => ?_)
  · obtain ⟨p, l, m, x, rfl, _⟩ := h
    rfl
  · obtain ⟨p, l, m, x, rfl, ⟨dx, hp⟩, hm, k⟩ := h
    refine ⟨_, (pss_cons (ps_if (PW.pt (pw_or (pt_cmpR op_le (pv 1) (pe_fld (pv 0) rfl) (nomark _)) (pw_or1 (pt_cmpR op_eq (pe_fld (pv 0) rfl) pe_int (nomark _))))) (pss_one (ps_ret (pe_cmpR op_eq (pv 1) (pe_fld (pv 0) rfl) (nomark _)))) pss_nil)
      (pss_one (ps_ret (pe_cmpR op_eq (pe_op op_mod (pe_op op_sub (pv 1) (pe_fld (pv 0) rfl)) (pe_fld (pv 0) rfl)) pe_int (nomark _))))), ?_⟩
    rw [has_iff hm] at k
    refine ⟨_, rfl, _, rfl, p, C, dx, _, _, rfl, hp, N.cl, N.nL, nf_l _ _, _, _, rfl, rfl, _, rfl, ?_⟩
    by_cases h1 : x ≤ l
    · rw [decide_eq_true h1]
      rw [decide_eq_true h1] at k
      refine iteT (iteT ⟨_, rfl, _, rfl, p, C, dx, _, _, rfl, hp, N.cl, N.nL, nf_l _ _, rfl, ?_⟩)
      show Q (.bl (decide (V.int x = V.int l))) H
      rw [int_dec]
      exact k
    · rw [decide_eq_false h1]
      rw [decide_eq_false h1] at k
      refine iteF ⟨_, rfl, p, C, dx, _, _, rfl, hp, N.cl, N.nM, nf_m _ _, rfl, _, rfl, ?_⟩
      by_cases h2 : m = 0
      · rw [decide_eq_true (by rw [h2])]
        rw [decide_eq_true h2] at k
        refine iteT ⟨_, rfl, _, rfl, p, C, dx, _, _, rfl, hp, N.cl, N.nL, nf_l _ _, rfl, ?_⟩
        show Q (.bl (decide (V.int x = V.int l))) H
        rw [int_dec]
        exact k
      · rw [decide_eq_false (by simpa using h2)]
        rw [decide_eq_false h2] at k
        refine iteF ⟨_, rfl, _, rfl, p, C, dx, _, _, rfl, hp, N.cl, N.nL, nf_l _ _, _, _, rfl, rfl, _, rfl, p, C, dx, _, _, rfl, hp, N.cl, N.nM, nf_m _ _, _, _, rfl, rfl, (by omega), rfl, ?_⟩
        show Q (.bl (decide (V.int ((x - l) % m) = V.int 0))) H
        rw [int_dec]
        exact k
theorem same_make {H : Hp} {x dx : Addr} {o1 o2 o3 : HO} (hx : H x = none) (hd : H dx = none) : Same H (upd (upd (upd H dx o1) x o2) x o3) := fun b o e => by
  rw [upd_ne (ne_of_none e hx), upd_ne (ne_of_none e hx), upd_ne (ne_of_none e hd)]
  exact e
theorem eqv_pair (a b c d : Int) : PyData.eqv (.tuple [.int a, .int b]) (.tuple [.int c, .int d]) = decide (a = c ∧ b = d) := by
  show (a == c && (b == d && true)) = _
  by_cases e1 : a = c
  · by_cases e2 : b = d
    · simp [e1, e2]
    · simp [e1, e2]
  · simp [e1]
theorem ok_nEq (F : FnP K "__eq__" "Numbers.__eq__" s_Numbers___eq__ f fd) (T : Txt mg) (N : NumT K mg C) : FnOk P w K mg base (L2.CX P w) 1 f fd ["self", "other"] (spNumEq C) := by
  refine F.ok sc_Numbers___eq__ (fun vs H Q E h => ?_) (fun cdv A outer s H vs Q E hr h => ?_)
  · obtain ⟨p, q, l, m, l', m', rfl, _⟩ := h
    rfl
  · obtain ⟨p, q, l, m, l', m', rfl, ⟨dx, hp⟩, ⟨dy, hq⟩, k⟩ := h
    refine ⟨_, (pss_cons (ps_if (pt_not (pt_val (pe_callB call_isi (by rfl) T.m_isinstance (by decide +kernel) (pa_cons (pv 1) (pa_cons (pe_glob (v := .ref C) rfl N.g rfl) pa_nil))))) (pss_one (ps_ret pe_bl)) pss_nil)
      (pss_one (ps_ret (pe_cmpR (op_eqD hr.units) (pe_tup (pa_cons (pe_fld (pv 0) rfl) (pa_cons (pe_fld (pv 0) rfl) pa_nil))) (pe_tup (pa_cons (pe_fld (pv 1) rfl) (pa_cons (pe_fld (pv 1) rfl) pa_nil))) (nomark _))))), ?_⟩
    refine ⟨_, rfl, _, _, _, _, true, rfl, .own C, .base (.ins hq N.cl N.ca N.cn N.ct N.cm), (by simp [PySem.W.kitOne]), true, rfl, iteF ?_⟩
    refine ⟨_, rfl, p, C, dx, _, _, rfl, hp, N.cl, N.nL, nf_l _ _, _, rfl, p, C, dx, _, _, rfl, hp, N.cl, N.nM, nf_m _ _, (by show 2 ≤ sizeLine; decide), fun t ht => ?_⟩
    have hq1 := same_new (o := HO.tup [V.int l, V.int m]) ht _ _ hq
    refine ⟨_, rfl, q, C, dy, _, _, rfl, hq1, N.cl, N.nL, nf_l _ _, _, rfl, q, C, dy, _, _, rfl, hq1, N.cl, N.nM, nf_m _ _, (by show 2 ≤ sizeLine; decide), fun u hu => ?_⟩
    refine ⟨_, _, .tup (.inl (.inl (same_new hu _ _ upd_same))) (.cons (.int _) (.cons (.int _) .nil)), .tup (.inl (.inl upd_same)) (.cons (.int _) (.cons (.int _) .nil)), rfl, rfl, ?_⟩
    rw [eqv_pair]
    exact k _ (same_new' (same_new ht) hu)
theorem sz_sub {i j : Int} {n : Nat} (hi : Sz n i) (hj : Sz n j) : Sz (n + 1) (i - j) := by
  unfold Sz at *
  have : (i - j).natAbs ≤ i.natAbs + j.natAbs := by omega
  rw [Nat.pow_succ]
  omega
theorem sz_le {i : Int} {n m : Nat} (hi : Sz n i) (h : n ≤ m) : Sz m i := Nat.lt_of_lt_of_le hi (Nat.pow_le_pow_right (by decide) h)
theorem sz_div {i j : Int} {n : Nat} (hi : Sz n i) (hj : 0 < j) : Sz n (i / j) := by
  unfold Sz at *
  have : (i / j).natAbs ≤ i.natAbs := Int.natAbs_ediv_le_natAbs i j
  omega
theorem ok_and (F : FnP K "__and__" "Numbers.__and__" s_Numbers___and__ f fd) (T : Txt mg) (N : NumT K mg C) (C_gcd_of : Cal P w K mg base 1 "gcd_of" (spGcd K)) (C_lcm_of : Cal P w K mg base 2 "lcm_of" spLcm) (C_inverse : Cal P w K mg base 1 "inverse" spInverse)
    (C_Numbers_has : Met P w K mg base 1 C "has" (spHas C)) (M_Numbers : Mak P w K mg base 1 "Numbers" C (spNumInit C)) : FnOk P w K mg base (L2.CX P w) 3 f fd ["self", "other"] (spAnd C) := by
  refine F.ok sc_Numbers___and__ (fun vs H Q E h => ?_) (fun cdv A outer s H vs Q E hr h => ?_)
  · obtain ⟨p, q, l, m, l', m', rfl, _⟩ := h
    rfl
  · obtain ⟨p, q, l, m, l', m', rfl, hp', hq', hm, hm', z1, z2, z3, z4, k⟩ := h
    obtain ⟨dx, hp⟩ := hp'
    obtain ⟨dy, hq⟩ := hq'
    refine ⟨_, (pss_cons (ps_if (PW.pt (pw_or (pt_cmpR op_eq (pe_fld (pv 0) rfl) pe_int (nomark _)) (pw_or1 (pt_cmpR op_eq (pe_fld (pv 1) rfl) pe_int (nomark _))))) (pss_cons (ps_asg (pe_ifExp (pt_cmpR op_eq (pe_fld (pv 0) rfl) pe_int (nomark _)) (pe_tup (pa_cons (pv 0) (pa_cons (pv 1) pa_nil))) (pe_tup (pa_cons (pv 1) (pa_cons (pv 0) pa_nil)))) (pg_tup rfl (pgs_cons (pg_name (i := 2) sc_Numbers___and__.nd rfl (Or.inl rfl)) (pgs_cons (pg_name (i := 3) sc_Numbers___and__.nd rfl (Or.inl rfl)) pgs_nil))))
      (pss_one (ps_ret (pe_ifExp (pt_val (pe_mt C_Numbers_has hr (by omega) (pv 3) (pa_cons (pe_fld (pv 2) rfl) pa_nil))) (pe_mk M_Numbers hr (by omega) rfl (pa_cons (pe_fld (pv 2) rfl) (pa_cons pe_int pa_nil))) pe_non)))) pss_nil)
      (pss_cons (ps_set (i := 4) sc_Numbers___and__.nd rfl (Or.inl rfl) (pe_c C_gcd_of hr (by omega) rfl (pa_cons (pe_lst (pa_cons (pe_fld (pv 0) rfl) (pa_cons (pe_fld (pv 1) rfl) pa_nil))) pa_nil)))
      (pss_cons (ps_set (i := 5) sc_Numbers___and__.nd rfl (Or.inl rfl) (pe_op op_sub (pe_fld (pv 1) rfl) (pe_fld (pv 0) rfl)))
      (pss_cons (ps_if (pt_cmpR op_ne (pe_op op_mod (pv 5) (pv 4)) pe_int (nomark _)) (pss_one (ps_ret pe_non)) pss_nil)
      (pss_cons (ps_set (i := 6) sc_Numbers___and__.nd rfl (Or.inl rfl) (pe_c C_lcm_of hr (by omega) rfl (pa_cons (pe_fld (pv 0) rfl) (pa_cons (pe_fld (pv 1) rfl) pa_nil))))
      (pss_cons (ps_set (i := 7) sc_Numbers___and__.nd rfl (Or.inl rfl) (pe_op op_fdivW (pe_fld (pv 1) rfl) (pv 4)))
      (pss_cons (ps_set (i := 8) sc_Numbers___and__.nd rfl (Or.inl rfl) (pe_op op_mod (pe_op op_mulX (pe_op op_fdivW (pv 5) (pv 4)) (pe_c C_inverse hr (by omega) rfl (pa_cons (pe_op op_fdivW (pe_fld (pv 0) rfl) (pv 4)) (pa_cons (pv 7) pa_nil)))) (pv 7)))
      (pss_cons (ps_par (i := 9) (j := 10) (by rfl) sc_Numbers___and__.nd rfl rfl (by decide) rfl rfl (pa_cons (pe_op op_add (pe_fld (pv 0) rfl) (pe_op op_mulX (pv 8) (pe_fld (pv 0) rfl))) (pa_cons (pe_callB (call_max2 rfl) (by rfl) T.m_max (by decide +kernel) (pa_cons (pe_fld (pv 0) rfl) (pa_cons (pe_fld (pv 1) rfl) pa_nil))) pa_nil)) (by rfl))
      (pss_one (ps_ret (pe_mk M_Numbers hr (by omega) rfl (pa_cons (pe_op op_add (pv 10) (pe_op op_mod (pe_op op_sub (pv 9) (pv 10)) (pv 6))) (pa_cons (pv 6) pa_nil))))))))))))), ?_⟩
    have made : ∀ {H1 : Hp} (n j : Int), Same H H1 → AndR l m l' m' (some (n, j)) → ∀ x dx : Addr, H1 x = none → H1 dx = none → dx ≠ x →
        spNumInit C [.ref x, .int n, .int j] (upd (upd H1 dx (.own x)) x (.ins C dx [])) (fun v H2 => v = .non ∧ Q (.ref x) H2) E0 := by
      intro H1 n j s1 r x dx hx hdx _
      refine ⟨x, dx, n, j, rfl, upd_same, rfl, ?_⟩
      exact k (some (n, j)) _ (s1.trans (same_make hx hdx)) r x (s1.free hx) ⟨dx, upd_same⟩
    have single : ∀ (σ : L2.St) (H1 : Hp) (a b da db : Addr) (s0 t0 t1 : Int), σ[2]? = some (some (.ref a)) → σ[3]? = some (some (.ref b)) → Same H H1 → H1 a = some (.ins C da (nf s0 0)) → H1 b = some (.ins C db (nf t0 t1)) → 0 ≤ t1 → (∀ r, AndR s0 0 t0 t1 r → AndR l m l' m' r) →
        tIf (tB (tMeth C "has" (spHas C) [] E0 (tVar 3) (tCons (tFld K (tVar 2) "own_least") tNil))) (tMake C (spNumInit C) [] E0 (tCons (tFld K (tVar 2) "own_least") (tCons (tC (V.int 0)) tNil))) (tC V.non) σ H1 Q := by
      intro σ H1 a b da db s0 t0 t1 e2 e3 s1 ha hb ht hr
      refine ⟨_, e3, b, db, _, rfl, hb, nf_has _ _, _, e2, a, C, da, _, _, rfl, ha, N.cl, N.nL, nf_l _ _, b, t0, t1, s0, rfl, ⟨db, hb⟩, ht, _, rfl, ?_⟩
      have r0 := hr _ (andR_one (s := s0) (l := t0) (m := t1))
      refine ite2 (fun h => ?_) (fun h => ?_)
      · rw [if_pos (of_decide_eq_true h)] at r0
        exact ⟨_, e2, a, C, da, _, _, rfl, ha, N.cl, N.nL, nf_l _ _, made _ _ s1 r0⟩
      · rw [if_neg (fun z => h (decide_eq_true z))] at r0
        exact k none _ s1 r0
    refine ⟨_, rfl, p, C, dx, _, _, rfl, hp, N.cl, N.nM, nf_m _ _, rfl, _, rfl, ?_⟩
    by_cases m0 : m = 0
    · subst m0
      rw [decide_eq_true rfl]
      refine iteT (iteT ⟨_, rfl, p, C, dx, _, _, rfl, hp, N.cl, N.nM, nf_m _ _, rfl, _, rfl, ?_⟩)
      rw [decide_eq_true rfl]
      refine iteT ⟨_, rfl, _, rfl, (by show 2 ≤ sizeLine; decide), fun t ht => ?_⟩
      refine ⟨t, _, rfl, .inl (.inl upd_same), rfl, _, _, rfl, _, _, rfl, rfl, ?_⟩
      exact single _ _ p q dx dy l l' m' rfl rfl (same_new ht) (same_new ht _ _ hp) (same_new ht _ _ hq) hm' fun r h => h
    · rw [decide_eq_false (by simpa using m0)]
      refine iteF ⟨_, rfl, q, C, dy, _, _, rfl, hq, N.cl, N.nM, nf_m _ _, rfl, _, rfl, ?_⟩
      by_cases m1 : m' = 0
      · subst m1
        rw [decide_eq_true rfl]
        refine iteT ⟨_, rfl, p, C, dx, _, _, rfl, hp, N.cl, N.nM, nf_m _ _, rfl, _, rfl, ?_⟩
        rw [decide_eq_false (by simpa using m0)]
        refine iteF ⟨_, rfl, _, rfl, (by show 2 ≤ sizeLine; decide), fun t ht => ?_⟩
        refine ⟨t, _, rfl, .inl (.inl upd_same), rfl, _, _, rfl, _, _, rfl, rfl, ?_⟩
        exact single _ _ q p dy dx l' l m rfl rfl (same_new ht) (same_new ht _ _ hq) (same_new ht _ _ hp) hm fun r h => andR_comm h
      · rw [decide_eq_false (by simpa using m1)]
        have mp : 0 < m := by omega
        have mp' : 0 < m' := by omega
        refine iteF ⟨_, rfl, p, C, dx, _, _, rfl, hp, N.cl, N.nM, nf_m _ _, _, rfl, q, C, dy, _, _, rfl, hq, N.cl, N.nM, nf_m _ _, (by show 2 ≤ sizeLine; decide), fun t ht => ?_⟩
        refine ⟨t, [m, m'], rfl, SqL.of upd_same, ?_⟩
        have s1 : Same H (upd H t (HO.lst [V.int m, V.int m'])) := same_new ht
        have hp1 := s1 _ _ hp
        have hq1 := s1 _ _ hq
        generalize hH1 : upd H t (HO.lst [V.int m, V.int m']) = H1 at s1 hp1 hq1
        have gpos : (0 : Int) < ((gcdL [m, m'] : Nat) : Int) := by
          rw [gcd_int_pair]
          have : 0 < Nat.gcd m.natAbs m'.natAbs := Nat.gcd_pos_of_pos_left _ (by omega)
          omega
        have gszL : Sz 1000 ((gcdL [m, m'] : Nat) : Int) := gcd_le z2 (by omega)
        have gd1 : ((gcdL [m, m'] : Nat) : Int) ∣ m := by rw [gcd_int_pair]; exact Int.ofNat_dvd_left.mpr (Nat.gcd_dvd_left _ _)
        have gd2 : ((gcdL [m, m'] : Nat) : Int) ∣ m' := by rw [gcd_int_pair]; exact Int.ofNat_dvd_left.mpr (Nat.gcd_dvd_right _ _)
        have cop : Nat.gcd (m / ((gcdL [m, m'] : Nat) : Int)).natAbs (m' / ((gcdL [m, m'] : Nat) : Int)).natAbs = 1 := by rw [gcd_int_pair]; exact coprime_parts mp
        generalize hg : ((gcdL [m, m'] : Nat) : Int) = g at gpos gszL gd1 gd2 cop
        have glog : g.natAbs.log2 < 9000 := Nat.lt_trans (sz_log gszL (by decide)) (by decide)
        refine ⟨_, rfl, q, C, dy, _, _, rfl, hq1, N.cl, N.nL, nf_l _ _, _, rfl, p, C, dx, _, _, rfl, hp1, N.cl, N.nL, nf_l _ _, _, _, rfl, rfl, ?_⟩
        refine ⟨_, rfl, _, rfl, _, _, rfl, rfl, gpos, rfl, _, rfl, ?_⟩
        by_cases gap : (l' - l) % g = 0
        ·
          have gd3 : g ∣ l' - l := Int.dvd_of_emod_eq_zero gap
          refine iteF' (by show (!decide (V.int ((l' - l) % g) = V.int 0)) = false; rw [gap]; rfl) ⟨_, rfl, p, C, dx, _, _, rfl, hp1, N.cl, N.nM, nf_m _ _, _, rfl, q, C, dy, _, _, rfl, hq1, N.cl, N.nM, nf_m _ _, m, m', rfl, sz_le z2 (by decide), sz_le z4 (by decide), fun H2 s2 => ?_⟩
          have s12 := s1.trans s2
          have hp2 := s2 _ _ hp1
          have hq2 := s2 _ _ hq1
          have ppos : 0 < m' / g := Int.ediv_pos_of_pos_of_dvd mp' (by omega) gd2
          have psz : Sz 1000 (m' / g) := sz_div z4 gpos
          refine ⟨_, rfl, q, C, dy, _, _, rfl, hq2, N.cl, N.nM, nf_m _ _, _, rfl, _, _, rfl, rfl, ⟨gpos, glog⟩, ?_⟩
          refine ⟨_, rfl, _, rfl, _, _, rfl, rfl, ⟨gpos, glog⟩, _, rfl, p, C, dx, _, _, rfl, hp2, N.cl, N.nM, nf_m _ _, _, rfl, _, _, rfl, rfl, ⟨gpos, glog⟩, _, rfl, _, _, rfl, ppos, sz_le psz (by decide), cop, fun H3 i s3 i0 i1 i2 => ?_⟩
          have s13 := s12.trans s3
          have hp3 := s3 _ _ hp2
          have hq3 := s3 _ _ hq2
          have isz : Sz 1000 i := sz_mono psz (by omega)
          refine ⟨_, _, rfl, rfl, sz_mul (sz_div (sz_sub z3 z1) gpos) isz (by decide), _, rfl, _, _, rfl, rfl, ppos, ?_⟩
          have t0 := Int.emod_nonneg ((l' - l) / g * i) (show m' / g ≠ 0 by omega)
          have t1 := Int.emod_lt_of_pos ((l' - l) / g * i) ppos
          obtain ⟨c1, c2⟩ := crt_meet (a := l) (b := l') (p := m) (q := m') gpos gd1 gd2 mp' gd3 i2
          have tsz : Sz 1000 ((l' - l) / g * i % (m' / g)) := sz_mono psz (by omega)
          refine ⟨_, rfl, p, C, dx, _, _, rfl, hp3, N.cl, N.nL, nf_l _ _, _, rfl, _, rfl, p, C, dx, _, _, rfl, hp3, N.cl, N.nM, nf_m _ _, _, _, rfl, rfl, sz_mul tsz z2 (by decide), _, _, rfl, rfl, _, rfl, p, C, dx, _, _, rfl, hp3, N.cl, N.nL, nf_l _ _, _, rfl, q, C, dy, _, _, rfl, hq3, N.cl, N.nL, nf_l _ _, _, _, rfl, _, _, rfl, ?_⟩
          have lpos : (0 : Int) < ((Nat.lcm m.natAbs m'.natAbs : Nat) : Int) := by
            have : 0 < Nat.lcm m.natAbs m'.natAbs := Nat.lcm_pos (by omega) (by omega)
            omega
          refine ⟨_, rfl, _, rfl, _, rfl, _, _, rfl, rfl, _, rfl, _, _, rfl, rfl, lpos, _, _, rfl, rfl, _, rfl, ?_⟩
          refine made _ _ s13 (andR_meet mp mp' lpos ?_ ?_ ?_ c1 c2)
          · exact Int.natAbs_dvd_natAbs.mp (by rw [Int.natAbs_natCast]; exact Nat.dvd_lcm_left _ _)
          · exact Int.natAbs_dvd_natAbs.mp (by rw [Int.natAbs_natCast]; exact Nat.dvd_lcm_right _ _)
          · intro z d1 d2
            exact Int.ofNat_dvd_left.mpr (Nat.lcm_dvd (Int.natAbs_dvd_natAbs.mpr d1) (Int.natAbs_dvd_natAbs.mpr d2))
        · refine iteT' (by show (!decide (V.int ((l' - l) % g) = V.int 0)) = true; rw [int_dec, decide_eq_false gap]; rfl) ?_
          exact k none _ s1 (andR_gap mp mp' gd1 gd2 fun d => gap (Int.emod_eq_zero_of_dvd d))
end
end Rd
set_option maxHeartbeats 4000000
namespace Rd
open PySem PySem.Spec PyProof.Rows L2
/-! ### the listed numbers -/
def listedL (b q L : Int) : List Int := if q = 0 then (if b ≤ L then [b] else []) else (List.range (rgN b (L + 1) q)).map fun i => b + (i : Nat) * q
theorem listedL_mem {b q L : Int} (hq : 0 ≤ q) (x : Int) : x ∈ listedL b q L ↔ Has b q x ∧ x ≤ L := by
  unfold listedL
  by_cases h0 : q = 0
  · subst h0
    rw [if_pos rfl, has_zero]
    by_cases hb : b ≤ L
    · rw [if_pos hb, List.mem_singleton]
      constructor
      · intro e; subst e; exact ⟨rfl, hb⟩
      · exact fun h => h.1
    · rw [if_neg hb]
      constructor
      · intro h; simp at h
      · rintro ⟨e, h⟩; omega
  · have hp : 0 < q := by omega
    rw [if_neg h0, has_pos hp, List.mem_map]
    unfold rgN
    constructor
    · rintro ⟨i, hi, rfl⟩
      rw [List.mem_range] at hi
      by_cases hb : b < L + 1
      · rw [if_pos hb] at hi
        have hd : 0 ≤ (L + 1 - b - 1) / q := Int.ediv_nonneg (by omega) (by omega)
        have h1 : ((i : Nat) : Int) ≤ (L + 1 - b - 1) / q := by omega
        have h2 : ((i : Nat) : Int) * q ≤ (L + 1 - b - 1) / q * q := Int.mul_le_mul_of_nonneg_right h1 hq
        have h3 := Int.ediv_mul_le (L + 1 - b - 1) (show q ≠ 0 by omega)
        have h4 : 0 ≤ ((i : Nat) : Int) * q := Int.mul_nonneg (by omega) hq
        refine ⟨⟨by omega, ?_⟩, by omega⟩
        rw [Int.add_comm, Int.add_sub_cancel]
        exact Int.dvd_mul_left _ _
      · rw [if_neg hb] at hi
        omega
    · rintro ⟨⟨h1, k, hk⟩, h2⟩
      have hk0 : 0 ≤ k := by
        by_cases hk0 : 0 ≤ k
        · exact hk0
        · have : q * k ≤ q * (-1) := Int.mul_le_mul_of_nonneg_left (by omega) hq
          omega
      refine ⟨k.toNat, ?_, ?_⟩
      · rw [List.mem_range, if_pos (by omega)]
        have : k ≤ (L + 1 - b - 1) / q := by
          rw [Int.le_ediv_iff_mul_le hp, Int.mul_comm]
          omega
        omega
      · rw [Int.toNat_of_nonneg hk0, Int.mul_comm]
        omega
theorem listedL_sorted {b q L : Int} (hq : 0 ≤ q) : (listedL b q L).Pairwise (· < ·) := by
  unfold listedL
  by_cases h0 : q = 0
  · rw [if_pos h0]
    split
    · exact List.pairwise_singleton _ _
    · exact List.Pairwise.nil
  · rw [if_neg h0, List.pairwise_map]
    refine List.Pairwise.imp (fun {x y} h => ?_) List.pairwise_lt_range
    have : ((x : Nat) : Int) * q < ((y : Nat) : Int) * q := Int.mul_lt_mul_of_pos_right (by omega) (by omega)
    omega
theorem listedL_len {b q L : Int} (hq : 0 ≤ q) (h : L + 1 - b ≤ 100000) : (listedL b q L).length ≤ 100001 := by
  unfold listedL
  split
  · split <;> simp
  · rw [List.length_map, List.length_range]
    unfold rgN
    split
    · have := Int.ediv_le_self q (show 0 ≤ L + 1 - b - 1 by omega)
      omega
    · omega
def dueL (a p b q L : Int) : List Int := (listedL a p L).filter fun x => decide (x ∈ listedL b q L)
theorem dueL_mem {a p b q L : Int} (hp : 0 ≤ p) (hq : 0 ≤ q) (x : Int) : x ∈ dueL a p b q L ↔ (Has a p x ∧ Has b q x) ∧ x ≤ L := by
  unfold dueL
  rw [List.mem_filter, decide_eq_true_eq, listedL_mem hp, listedL_mem hq]
  constructor
  · rintro ⟨⟨h1, h2⟩, h3, _⟩; exact ⟨⟨h1, h3⟩, h2⟩
  · rintro ⟨⟨h1, h3⟩, h2⟩; exact ⟨⟨h1, h2⟩, h3, h2⟩
theorem dueL_none {a p b q L : Int} (hp : 0 ≤ p) (hq : 0 ≤ q) (h : AndR a p b q none) : dueL a p b q L = [] := by
  rw [List.eq_nil_iff_forall_not_mem]
  intro x hx
  exact h x ((dueL_mem hp hq x).1 hx).1
theorem dueL_some {a p b q L n m : Int} (hp : 0 ≤ p) (hq : 0 ≤ q) (hL : L = max a b + 2 * (max 1 p * max 1 q)) (h : AndR a p b q (some (n, m))) : (m = 0 ∧ dueL a p b q L = [n]) ∨ (0 < m ∧ ∃ r, dueL a p b q L = n :: (n + m) :: r) := by
  have hs : (dueL a p b q L).Pairwise (· < ·) := (listedL_sorted hp).filter _
  have hm : ∀ x, x ∈ dueL a p b q L ↔ Has n m x ∧ x ≤ L := fun x => by rw [dueL_mem hp hq, h.2 x]
  have hpq : 0 < max 1 p * max 1 q := Int.mul_pos (by omega) (by omega)
  rcases andR_near hp hq h with ⟨e, h1⟩ | ⟨e, h1⟩
  · subst e
    exact .inl ⟨rfl, sorted_one hs (by omega) hm⟩
  · exact .inr ⟨e, sorted_two hs e (by omega) hm⟩
abbrev s__law_listed : Stmt := top 17
theorem sc__law_listed : FnScope ["_law_least", "_law_modulus", "_law_limit"] ["_law_least", "_law_modulus", "_law_limit"] (defScope s__law_listed) := ⟨rfl, rfl, rfl, by decide +kernel, rfl, by decide +kernel, by decide +kernel⟩

def spListed : Sp := fun vs H Q _ => ∃ (b q L : Int), vs = [.int b, .int q, .int L] ∧ 0 ≤ b ∧ b ≤ 1000000 ∧ 0 ≤ q ∧ q ≤ 1000 ∧ 0 ≤ L ∧ L ≤ 99999 ∧ ∀ p H', Same H H' → H p = none → H' p = some (.lst ((listedL b q L).map V.int)) → Q (.ref p) H'
section
variable {P : Program} {w : World} {K : PySem.W.Frag} {mg : Str → Option Value} {base : Heap} {f C : Addr} {fd : FuncData}
theorem ok_listed (F : FnP K "_law_listed" "_law_listed" s__law_listed f fd) (T : Txt mg) : FnOk P w K mg base (L2.CX P w) 1 f fd ["_law_least", "_law_modulus", "_law_limit"] spListed := by
  refine F.ok sc__law_listed (fun vs H Q E h => ?_) (fun cdv A outer s H vs Q E hr h => ?_)
  · obtain ⟨b, q, L, rfl, _⟩ := h
    rfl
  · obtain ⟨b, q, L, rfl, b0, b1, q0, q1, L0, L1, k⟩ := h
    refine ⟨_, (pss_one (ps_ret (pe_ifExp (PW.pt (pw_and (pt_cmpR op_eq (pv 1) pe_int (nomark _)) (pw_and1 (pt_cmpR op_le (pv 0) (pv 2) (nomark _))))) (pe_lst (pa_cons (pv 0) pa_nil)) (pe_ifExp (pt_cmpR op_eq (pv 1) pe_int (nomark _)) (pe_lst pa_nil) (pe_listRg3 rfl (by rfl) T.m_list (by rfl) T.m_range (pv 0) (pe_op op_add (pv 2) pe_int) (pv 1)))))), ?_⟩
    refine ⟨_, rfl, rfl, _, rfl, ?_⟩
    by_cases z : q = 0
    · subst z
      refine iteT' (by decide) ⟨_, rfl, _, rfl, _, _, rfl, rfl, _, rfl, ?_⟩
      by_cases hb : b ≤ L
      · refine iteT' (decide_eq_true hb) ⟨_, rfl, (by show 1 ≤ sizeLine; decide), fun p hp => ?_⟩
        refine k p _ (same_new hp) hp ?_
        rw [upd_same]
        unfold listedL
        rw [if_pos rfl, if_pos hb]
        rfl
      · refine iteF' (decide_eq_false hb) ⟨_, rfl, rfl, _, rfl, iteT' (by decide) ⟨Nat.zero_le _, fun p hp => ?_⟩⟩
        refine k p _ (same_new hp) hp ?_
        rw [upd_same]
        unfold listedL
        rw [if_pos rfl, if_neg hb]
        rfl
    · have zq : decide (V.int q = V.int 0) = false := by rw [int_dec]; exact decide_eq_false z
      refine iteF' zq (iteF ⟨_, rfl, rfl, _, rfl, iteF' zq ⟨_, rfl, _, rfl, _, _, rfl, rfl, _, rfl, _, _, _, rgN b (L + 1) q, rfl, rfl, rfl, rgC_ok (by omega) (by omega) (by omega) (by omega) (by omega) (by omega), ?_, fun p hp => ?_⟩⟩)
      · have := listedL_len (b := b) (L := L) q0 (by omega)
        unfold listedL at this
        rw [if_neg z, List.length_map, List.length_range] at this
        omega
      · refine k p _ (same_new hp) hp ?_
        rw [upd_same]
        unfold listedL rgC
        rw [if_neg z, List.map_map]
        rfl
end
end Rd
set_option maxHeartbeats 4000000
namespace Rd
open PySem PySem.Spec PyProof.Rows L2
abbrev s_law : Stmt := top 18
theorem sc_law : FnScope ["_law_script", "_law_tape", "_law_turn", "_law_a", "_law_b", "_law_p", "_law_q", "_law_limit", "_law_there", "_law_number", "_law_due", "_law_one", "_law_other", "_law_both", "_law_modulus", "_law_by", "_law_gap", "_law_far", "_law_meeting"] ["_law_script"] (defScope s_law) := ⟨rfl, rfl, rfl, by decide +kernel, rfl, by decide +kernel, by decide +kernel⟩

def spLaw (K : PySem.W.Frag) : Sp := fun vs H Q _ => ∃ (a : Addr) (ns : List Int), vs = [.ref a] ∧ SqL K H a (ns.map V.int) ∧ ∀ H', Q (.bl true) H'
section
variable {C : Addr} {K : PySem.W.Frag}
theorem mkNum {H : Hp} {Q : VK} {l m : Int} (h : ∀ x H', Same H H' → H x = none → NumAt C H' x l m → Q (.ref x) H') (x dx : Addr) (hx : H x = none) (hd : H dx = none) (_ : dx ≠ x) :
    spNumInit C [.ref x, .int l, .int m] (upd (upd H dx (.own x)) x (.ins C dx [])) (fun v H2 => v = .non ∧ Q (.ref x) H2) E0 :=
  ⟨x, dx, l, m, rfl, upd_same, rfl, h x _ (same_make hx hd) hx ⟨dx, upd_same⟩⟩
theorem mkNumV {σ : L2.St} {H : Hp} {Q : VK} {ta : TA} {l m : Int} (ha : ∀ Q : List V → Hp → Prop, Q [.int l, .int m] H → ta σ H Q) (k : ∀ x H', Same H H' → H x = none → NumAt C H' x l m → Q (.ref x) H') : tMake C (spNumInit C) [] E0 ta σ H Q := ha _ (mkNum k)
/-- what stands for r: None, or new Numbers -/
def IsR (C : Addr) (H : Hp) : Option (Int × Int) → V → Prop
  | none, v => v = .non
  | some (n, k), v => ∃ o, v = .ref o ∧ NumAt C H o n k
theorem IsR.same {H H' : Hp} {r : Option (Int × Int)} {v : V} (h : IsR C H r v) (s : Same H H') : IsR C H' r v := by
  cases r with
  | none => exact h
  | some p =>
    obtain ⟨o, e, h⟩ := h
    exact ⟨o, e, h.same s⟩
theorem andOp {H : Hp} {Q : VK} {p q : Addr} {l m l' m' : Int} (hp : NumAt C H p l m) (hq : NumAt C H q l' m') (hm : 0 ≤ m) (hm' : 0 ≤ m') (z1 : Sz 1000 l) (z2 : Sz 1000 m) (z3 : Sz 1000 l') (z4 : Sz 1000 m')
    (k : ∀ r v H', AndR l m l' m' r → Same H H' → IsR C H' r v → Q v H') : rBinC C (spAnd C) E0 (.ref p) (.ref q) H Q := by
  obtain ⟨dx, hp1⟩ := id hp
  obtain ⟨dy, hq1⟩ := id hq
  refine ⟨p, dx, _, q, dy, _, rfl, rfl, hp1, hq1, p, q, l, m, l', m', rfl, hp, hq, hm, hm', z1, z2, z3, z4, fun r' H' s h' => ?_⟩
  cases r' with
  | none => exact k none .non H' h' s rfl
  | some x =>
    obtain ⟨n, j⟩ := x
    exact fun o _ ho => k (some (n, j)) (.ref o) H' h' s ⟨o, rfl, ho⟩
theorem neOp {H : Hp} {Q : VK} {p q : Addr} {l m l' m' : Int} (hp : NumAt C H p l m) (hq : NumAt C H q l' m') (h1 : l = l') (h2 : m = m') (k : ∀ H', Same H H' → Q (.bl false) H') : rNeC K C (spNumEq C) E0 (.ref p) (.ref q) H Q := by
  obtain ⟨dx, hp1⟩ := id hp
  obtain ⟨dy, hq1⟩ := id hq
  refine ⟨p, dx, _, _, rfl, hp1, .ins hq1, notFirst_self, p, q, l, m, l', m', rfl, hp, hq, fun H' s => ⟨true, ?_, k H' s⟩⟩
  rw [decide_eq_true ⟨h1, h2⟩]
theorem eqOp {H : Hp} {Q : VK} {p q : Addr} {l m l' m' : Int} (hp : NumAt C H p l m) (hq : NumAt C H q l' m') (h1 : l = l') (h2 : m = m') (k : ∀ H', Same H H' → Q (.bl true) H') : rOwnC K C (spNumEq C) E0 (.ref p) (.ref q) H Q := by
  obtain ⟨dx, hp1⟩ := id hp
  obtain ⟨dy, hq1⟩ := id hq
  refine ⟨p, dx, _, _, rfl, hp1, .ins hq1, notFirst_self, p, q, l, m, l', m', rfl, hp, hq, fun H' s => ?_⟩
  rw [decide_eq_true ⟨h1, h2⟩]
  exact k H' s
theorem tail_ok {mg : Str → Option Value} (N : NumT K mg C) {D : Ends} {σ : L2.St} {H : Hp} {o D2 : Addr} {n m : Int} {r : List Int} (h13 : σ[13]? = some (some (.ref o))) (h10 : σ[10]? = some (some (.ref D2))) (h14 : σ[14]? = some (some (.int m)))
    (no : NumAt C H o n m) (hd : H D2 = some (.lst ((n :: r).map V.int))) (k : ∀ H', Same H H' → D.nx σ H') :
    tIfS (tOr (tTest (tOp (rNeC K C (spNumEq C) E0) (tVar 13) (tMake C (spNumInit C) [] E0 (tCons (tOp (rIxL K) (tVar 10) (tC (.int 0))) (tCons (tVar 14) tNil))))) (tNot (tB (tCB (rIsi K) (tCons (tVar 13) (tCons (tC (.ref C)) tNil)))))) (tRet (tC (.bl false))) tNext D σ H := by
  refine ⟨_, h13, _, h10, D2, _, 0, .int n, rfl, rfl, SqL.of hd, atI_nat (j := 0) rfl, _, h14, ?_⟩
  intro x dx hx hdx _
  refine ⟨x, dx, n, m, rfl, upd_same, rfl, ?_⟩
  have s' : Same H (upd (upd (upd H dx (.own x)) x (.ins C dx [])) x (.ins C dx (nf n m))) := same_make hx hdx
  have hx : NumAt C (upd (upd (upd H dx (.own x)) x (.ins C dx [])) x (.ins C dx (nf n m))) x n m := ⟨dx, upd_same⟩
  generalize upd (upd (upd H dx (.own x)) x (.ins C dx [])) x (.ins C dx (nf n m)) = H' at s' hx ⊢
  refine neOp (no.same s') hx rfl rfl fun H2 s2 => ⟨_, rfl, iteF ⟨_, h13, _, _, .ref C, .ref C, true, rfl, .own C, ?_, (by simp [PySem.W.kitOne]), true, rfl, iteF (k _ (s'.trans s2))⟩⟩
  obtain ⟨dx, ho⟩ := (no.same s').same s2
  exact .base (.ins ho N.cl N.ca N.cn N.ct N.cm)
theorem sz_small {i : Int} {n : Nat} (h : i.natAbs < 1000000) (hn : 20 ≤ n) : Sz n i := Nat.lt_of_lt_of_le h (Nat.le_trans (by decide : 1000000 ≤ 2 ^ 20) (Nat.pow_le_pow_right (by decide) hn))
end
theorem lay_ints : ∀ l : List Int, PyData.canLayAll0 (l.map PyData.int) = true ∧ PyData.depthAll (l.map PyData.int) = 0
  | [] => ⟨rfl, rfl⟩
  | n :: l => by
    obtain ⟨h1, h2⟩ := lay_ints l
    refine ⟨?_, ?_⟩
    · show (PyData.canLay0 (.int n) && PyData.canLayAll0 (l.map PyData.int)) = true
      rw [h1]; rfl
    · show max (PyData.depth (.int n)) (PyData.depthAll (l.map PyData.int)) = 0
      rw [h2]; rfl
theorem shaped_ints (l : List Int) : SeqAt.shaped (.list (l.map PyData.int)) = true := by
  show (PyData.canLayAll0 (l.map PyData.int) && decide (PyData.depthAll (l.map PyData.int) + 1 ≤ 64)) = true
  rw [(lay_ints l).1, (lay_ints l).2]; rfl
theorem dpAll_ints {K : PySem.W.Frag} {H : Hp} : ∀ l : List Int, DpAll K H (l.map V.int) (l.map PyData.int)
  | [] => .nil
  | n :: l => .cons (.int n) (dpAll_ints l)
theorem yes_ {σ : L2.St} {H : Hp} {A B : Hp → Prop} (h : A H) : tYes σ H (fun b H3 => if b = true then A H3 else B H3) := by
  show if true = true then A H else B H
  rw [if_pos rfl]
  exact h
theorem paired_snoc {α β : Type} {F : α → β → Prop} {a : α} {b : β} (h : F a b) : ∀ {l : List α} {m : List β}, Paired F l m → Paired F (l ++ [a]) (m ++ [b])
  | _, _, .nil => .cons h .nil
  | _, _, .cons r t => .cons r (paired_snoc h t)
theorem valV_put {kvs : List (Key × V)} {k x : Key} {v : V} : valV (putK kvs k v) x = if x = k then some v else valV kvs x := by
  unfold putK
  split
  · rename_i h
    induction kvs with
    | nil => simp at h
    | cons p r ih =>
      rw [List.map_cons]
      by_cases e : p.1 = k
      · rw [if_pos e]
        by_cases ex : x = k
        · rw [if_pos ex, valV_pos (by rw [ex]; exact e)]
        · rw [if_neg ex, valV_neg (by show ¬ p.1 = x; intro z; exact ex (z.symm.trans e)), valV_neg (by intro z; exact ex (z.symm.trans e))]
          clear ih h
          induction r with
          | nil => rfl
          | cons q r ih =>
            rw [List.map_cons]
            by_cases e2 : q.1 = k
            · rw [if_pos e2, valV_neg (by show ¬ q.1 = x; intro z; exact ex (z.symm.trans e2)), valV_neg (by intro z; exact ex (z.symm.trans e2)), ih]
            · rw [if_neg e2]
              by_cases e3 : q.1 = x
              · rw [valV_pos e3, valV_pos e3]
              · rw [valV_neg e3, valV_neg e3, ih]
      · rw [if_neg e]
        have h' : (r.any fun kv => decide (kv.1 = k)) = true := by
          rw [List.any_cons, decide_eq_false e, Bool.false_or] at h
          exact h
        by_cases e3 : p.1 = x
        · rw [valV_pos e3, valV_pos e3, if_neg (fun z => e (e3.trans z))]
        · rw [valV_neg e3, valV_neg e3, ih h']
  · rename_i h
    have h' : ∀ q ∈ kvs, ¬ q.1 = k := fun q hq z => h (List.any_eq_true.mpr ⟨q, hq, decide_eq_true z⟩)
    clear h
    induction kvs with
    | nil =>
      by_cases ex : x = k
      · rw [if_pos ex]; exact valV_pos (by rw [ex])
      · rw [if_neg ex]; exact valV_neg (fun z => ex z.symm)
    | cons p r ih =>
      rw [List.cons_append]
      by_cases e3 : p.1 = x
      · rw [valV_pos e3, valV_pos e3, if_neg (fun z => h' p List.mem_cons_self (e3.trans z))]
      · rw [valV_neg e3, valV_neg e3, ih fun q hq => h' q (List.mem_cons_of_mem _ hq)]
theorem valV_merge : ∀ (l : List Int) (kvs : List (Key × V)) (x : Int), valV (mergeK kvs (l.map fun n => ((Sum.inl n : Key), V.bl true))) (Sum.inl x) = if x ∈ l then some (.bl true) else valV kvs (Sum.inl x)
  | [], kvs, x => by simp [mergeK]
  | n :: l, kvs, x => by
    show valV (mergeK (putK kvs (Sum.inl n) (.bl true)) (l.map fun n => ((Sum.inl n : Key), V.bl true))) (Sum.inl x) = _
    rw [valV_merge l, valV_put]
    by_cases h1 : x ∈ l
    · rw [if_pos h1, if_pos (List.mem_cons_of_mem _ h1)]
    · rw [if_neg h1]
      by_cases h2 : x = n
      · rw [if_pos (by rw [h2]), if_pos (by rw [h2]; exact List.mem_cons_self)]
      · rw [if_neg (fun z => h2 (Sum.inl.inj z)), if_neg (fun z => by rcases List.mem_cons.mp z with e | e; exact h2 e; exact h1 e)]
section
variable {P : Program} {w : World} {K : PySem.W.Frag} {mg : Str → Option Value} {base : Heap} {f C : Addr} {fd : FuncData}
theorem ok_law (F : FnP K "law" "law" s_law f fd) (T : Txt mg) (N : NumT K mg C) (C__law_begin : Cal P w K mg base 1 "_law_begin" (spBegin K)) (C__law_draw : Cal P w K mg base 1 "_law_draw" spDraw) (C__law_pick : Cal P w K mg base 2 "_law_pick" spPick)
    (C__law_listed : Cal P w K mg base 1 "_law_listed" spListed) (M_Numbers : Mak P w K mg base 1 "Numbers" C (spNumInit C)) (C_and : Met P w K mg base 3 C "__and__" (spAnd C)) (C_eq : Met P w K mg base 1 C "__eq__" (spNumEq C)) :
    FnOk P w K mg base (L2.CX P w) 6 f fd ["_law_script"] (spLaw K) := by
  obtain ⟨gA, sA, fA, FA⟩ := C_and.raw
  obtain ⟨gE, sE, fE, FE⟩ := C_eq.raw
  refine F.ok sc_law (fun vs H Q E h => ?_) (fun cdv A outer s H vs Q E hr h => ?_)
  · obtain ⟨a, ns, rfl, _⟩ := h
    rfl
  · obtain ⟨a, ns, rfl, hS, k⟩ := h
    have hu := hu_of hr
    refine ⟨_, (pss_cons (ps_set (i := 1) sc_law.nd rfl (Or.inl rfl) (pe_c C__law_begin hr (by omega) rfl (pa_cons (pv 0) pa_nil)))
      (pss_cons (ps_for (passes_of rfl) rfl (pi_range1 rfl T.m_range (pa_cons pe_int pa_nil)) (pg_name (i := 2) sc_law.nd rfl (Or.inl rfl)) (pss_cons (ps_par (i := 3) (j := 4) (by rfl) sc_law.nd rfl rfl (by decide) rfl rfl (pa_cons (pe_c C__law_draw hr (by omega) rfl (pa_cons (pv 1) (pa_cons pe_int pa_nil))) (pa_cons (pe_c C__law_draw hr (by omega) rfl (pa_cons (pv 1) (pa_cons pe_int pa_nil))) pa_nil)) (by rfl))
      (pss_cons (ps_set (i := 5) sc_law.nd rfl (Or.inl rfl) (pe_c C__law_pick hr (by omega) rfl (pa_cons (pv 1) (pa_cons (pe_lst (pa_cons pe_int (pa_cons pe_int (pa_cons pe_int (pa_cons pe_int (pa_cons pe_int (pa_cons pe_int (pa_cons (pe_op op_add pe_int (pe_c C__law_draw hr (by omega) rfl (pa_cons (pv 1) (pa_cons pe_int pa_nil)))) pa_nil)))))))) pa_nil))))
      (pss_cons (ps_set (i := 6) sc_law.nd rfl (Or.inl rfl) (pe_c C__law_pick hr (by omega) rfl (pa_cons (pv 1) (pa_cons (pe_lst (pa_cons pe_int (pa_cons pe_int (pa_cons pe_int (pa_cons pe_int (pa_cons pe_int (pa_cons (pv 5) (pa_cons (pe_op op_add pe_int (pe_c C__law_draw hr (by omega) rfl (pa_cons (pv 1) (pa_cons pe_int pa_nil)))) pa_nil)))))))) pa_nil))))
      (pss_cons (ps_set (i := 7) sc_law.nd rfl (Or.inl rfl) (pe_op op_add (pe_callB (call_max2 rfl) (by rfl) T.m_max (by decide +kernel) (pa_cons (pv 3) (pa_cons (pv 4) pa_nil))) (pe_op op_mulX (pe_op op_mulX pe_int (pe_callB (call_max2 rfl) (by rfl) T.m_max (by decide +kernel) (pa_cons pe_int (pa_cons (pv 5) pa_nil)))) (pe_callB (call_max2 rfl) (by rfl) T.m_max (by decide +kernel) (pa_cons pe_int (pa_cons (pv 6) pa_nil))))))
      (pss_cons (ps_set (i := 8) sc_law.nd rfl (Or.inr rfl) (pe_callTy (call_dictP rfl) (by rfl) T.m_dict (by decide +kernel) (pa_cons (pe_lc (own := [("_law_number", 9)]) (g := (gName 9)) (tt := tYes) rfl sc_law.nd (pi_list (pe_c C__law_listed hr (by omega) rfl (pa_cons (pv 4) (pa_cons (pv 6) (pa_cons (pv 7) pa_nil))))) (blkOk_by (N := ["_law_script", "_law_tape", "_law_turn", "_law_a", "_law_b", "_law_p", "_law_q", "_law_limit", "_law_there", "_law_number", "_law_due", "_law_one", "_law_other", "_law_both", "_law_modulus", "_law_by", "_law_gap", "_law_far", "_law_meeting"]) (sc := defScope s_law) (by decide +kernel)) (fun _ _ _ _ _ => pg_name (i := 9) sc_law.nd rfl (Or.inl rfl)) (fun _ _ _ _ _ => pts_nil) (fun _ _ _ _ _ => (pe_tup (pa_cons (pv 9) (pa_cons pe_bl pa_nil))))) pa_nil)))
      (pss_cons (ps_setLc (i := 10) (own := [("_law_number", 9)]) (g := (gName 9)) (tt := _) rfl sc_law.nd rfl rfl (sw_true rfl rfl rfl (by decide +kernel)) (pi_list (pe_c C__law_listed hr (by omega) rfl (pa_cons (pv 3) (pa_cons (pv 5) (pa_cons (pv 7) pa_nil))))) (blkOk_by (N := ["_law_script", "_law_tape", "_law_turn", "_law_a", "_law_b", "_law_p", "_law_q", "_law_limit", "_law_there", "_law_number", "_law_due", "_law_one", "_law_other", "_law_both", "_law_modulus", "_law_by", "_law_gap", "_law_far", "_law_meeting"]) (sc := defScope s_law) (by decide +kernel)) (fun _ _ _ _ _ => pg_name (i := 9) sc_law.nd rfl (Or.inl rfl)) (fun _ _ _ _ _ => pts_one (pt_cmp (pc_din hu (pv 9) (pv 8)))) (fun _ _ _ _ _ => (pv 9)))
      (pss_cons (ps_par (i := 11) (j := 12) (by rfl) sc_law.nd rfl rfl (by decide) rfl rfl (pa_cons (pe_mk M_Numbers hr (by omega) rfl (pa_cons (pv 3) (pa_cons (pv 5) pa_nil))) (pa_cons (pe_mk M_Numbers hr (by omega) rfl (pa_cons (pv 4) (pa_cons (pv 6) pa_nil))) pa_nil)) (by rfl))
      (pss_cons (ps_for (passes_of rfl) rfl (pi_tup (pe_tup (pa_cons (pe_op (op_binC (op := .BitAnd) N.sf sA fA FA (hr.mono (by decide)) passL) (pv 11) (pv 12)) (pa_cons (pe_op (op_binC (op := .BitAnd) N.sf sA fA FA (hr.mono (by decide)) passL) (pv 12) (pv 11)) pa_nil)))) (pg_name (i := 13) sc_law.nd rfl (Or.inl rfl)) (pss_one (ps_if (pt_cmpR (op_eqD hr.units) (pv 10) (pe_lst pa_nil) (nomark _)) (pss_one (ps_if (pt_cmpR op_notN (pv 13) pe_non (nomark _)) (pss_one (ps_ret pe_bl)) pss_nil)) (pss_cons (ps_set (i := 14) sc_law.nd rfl (Or.inl rfl) (pe_ifExp (pt_cmpR op_gt (pe_callB call_len_seq (by rfl) T.m_len (by decide +kernel) (pa_cons (pv 10) pa_nil)) pe_int (nomark _)) (pe_op op_sub (pe_ix ix_list (pv 10) pe_int (fun _ _ => rfl)) (pe_ix ix_list (pv 10) pe_int (fun _ _ => rfl))) pe_int))
      (pss_one (ps_if (PW.pt (pw_or (pt_cmpR (op_neC N.cm N.ne sE fE FE (hr.mono (by decide)) passL) (pv 13) (pe_mk M_Numbers hr (by omega) rfl (pa_cons (pe_ix ix_list (pv 10) pe_int (fun _ _ => rfl)) (pa_cons (pv 14) pa_nil))) (nomark _)) (pw_or1 (pt_not (pt_val (pe_callB call_isi (by rfl) T.m_isinstance (by decide +kernel) (pa_cons (pv 13) (pa_cons (pe_glob (v := .ref C) rfl N.g rfl) pa_nil)))))))) (pss_one (ps_ret pe_bl)) pss_nil))))))
      (pss_one (ps_if (PW.pt (pw_or (pt_cmpR (op_neC N.cm N.ne sE fE FE (hr.mono (by decide)) passL) (pv 11) (pe_mk M_Numbers hr (by omega) rfl (pa_cons (pv 3) (pa_cons (pv 5) pa_nil))) (nomark _)) (pw_or (pt_cmpR (op_neC N.cm N.ne sE fE FE (hr.mono (by decide)) passL) (pv 12) (pe_mk M_Numbers hr (by omega) rfl (pa_cons (pv 4) (pa_cons (pv 6) pa_nil))) (nomark _)) (pw_or1 (pt_cmpR (op_neC N.cm N.ne sE fE FE (hr.mono (by decide)) passL) (pe_op (op_binC (op := .BitAnd) N.sf sA fA FA (hr.mono (by decide)) passL) (pv 11) (pv 11)) (pv 11) (nomark _)))))) (pss_one (ps_ret pe_bl)) pss_nil)))))))))))
      (pss_cons (ps_par (i := 15) (j := 16) (by rfl) sc_law.nd rfl rfl (by decide) rfl rfl (pa_cons (pe_op op_add (pe_op op_pow pe_int pe_int) (pe_c C__law_draw hr (by omega) rfl (pa_cons (pv 1) (pa_cons (pe_op op_pow pe_int pe_int) pa_nil)))) (pa_cons (pe_c C__law_draw hr (by omega) rfl (pa_cons (pv 1) (pa_cons (pe_op op_pow pe_int pe_int) pa_nil))) pa_nil)) (by rfl))
      (pss_cons (ps_set (i := 17) sc_law.nd rfl (Or.inl rfl) (pe_op (op_binC (op := .BitAnd) N.sf sA fA FA (hr.mono (by decide)) passL) (pe_mk M_Numbers hr (by omega) rfl (pa_cons (pv 16) (pa_cons (pe_op op_mulX pe_int (pv 15)) pa_nil))) (pe_mk M_Numbers hr (by omega) rfl (pa_cons (pe_op op_add (pv 16) (pe_op op_mulX (pv 15) pe_int)) (pa_cons (pe_op op_mulX pe_int (pv 15)) pa_nil)))))
      (pss_cons (ps_if (PW.pt (pw_or (pt_cmpR (op_neC N.cm N.ne sE fE FE (hr.mono (by decide)) passL) (pv 17) (pe_mk M_Numbers hr (by omega) rfl (pa_cons (pe_op op_add (pv 16) (pe_op op_mulX (pv 15) pe_int)) (pa_cons (pe_op op_mulX pe_int (pv 15)) pa_nil))) (nomark _)) (pw_or1 (pt_cmpR op_notN (pe_op (op_binC (op := .BitAnd) N.sf sA fA FA (hr.mono (by decide)) passL) (pe_mk M_Numbers hr (by omega) rfl (pa_cons pe_int (pa_cons (pe_op op_mulX pe_int (pv 15)) pa_nil))) (pe_mk M_Numbers hr (by omega) rfl (pa_cons pe_int (pa_cons (pe_op op_mulX pe_int (pv 15)) pa_nil)))) pe_non (nomark _))))) (pss_one (ps_ret pe_bl)) pss_nil)
      (pss_cons (ps_set (i := 18) sc_law.nd rfl (Or.inl rfl) (pe_op (op_binC (op := .BitAnd) N.sf sA fA FA (hr.mono (by decide)) passL) (pe_mk M_Numbers hr (by omega) rfl (pa_cons pe_int (pa_cons (pv 15) pa_nil))) (pe_mk M_Numbers hr (by omega) rfl (pa_cons (pe_op op_add pe_int (pe_op op_mulX (pv 15) (pe_op op_add (pv 15) pe_int))) (pa_cons (pe_op op_add (pv 15) pe_int) pa_nil)))))
      (pss_one (ps_ret (pe_cmpR (op_cmpC (op := .Eq) (fun _ _ => rfl) sE fE FE (hr.mono (by decide)) passL) (pv 18) (pe_mk M_Numbers hr (by omega) rfl (pa_cons (pe_op op_add pe_int (pe_op op_mulX (pv 15) (pe_op op_add (pv 15) pe_int))) (pa_cons (pe_op op_mulX (pv 15) (pe_op op_add (pv 15) pe_int)) pa_nil))) (nomark _)))))))))), ?_⟩
    refine ⟨_, rfl, a, ns, rfl, hS, fun H1 t s1 ht hT => ?_⟩
    refine ⟨8, rfl, by decide, by decide, for_range (n := 8) (fun i σ H' => ∃ x2 x3 x4 x5 x6 x7 x8 x9 x10 x11 x12 x13 x14 x15 x16 x17 x18 : Option V, σ = [some (.ref a), some (.ref t), x2, x3, x4, x5, x6, x7, x8, x9, x10, x11, x12, x13, x14, x15, x16, x17, x18] ∧ TapeAt H' t (6 * i)) ⟨_, _, _, _, _, _, _, _, _, _, _, _, _, _, _, _, _, rfl, hT⟩ ?_ ?_⟩
    · rintro i σ H2 hi ⟨x2, x3, x4, x5, x6, x7, x8, x9, x10, x11, x12, x13, x14, x15, x16, x17, x18, rfl, hT⟩
      refine ⟨_, rfl, t, 6 * i, 130, rfl, hT, by omega, by decide, by decide, fun H3 va a0 a1 b3 hT3 => ?_⟩
      refine ⟨_, rfl, t, _, 130, rfl, hT3, by omega, by decide, by decide, fun H4 vb b0 b1 b4 hT4 => ?_⟩
      refine ⟨_, _, rfl, ?_⟩
      -- p
      refine ⟨_, rfl, _, rfl, t, _, 60, rfl, hT4, by omega, by decide, by decide, fun H5 r r0 r1 b5 hT5 => ?_⟩
      refine ⟨_, _, rfl, rfl, (by show 7 ≤ sizeLine; decide), fun lp hlp => ?_⟩
      refine ⟨t, lp, _, _, rfl, hT5.same (same_new hlp), by omega, upd_same, by simp, by simp, fun H6 v hv b6 hT6 => ?_⟩
      obtain ⟨vp, rfl, p0, p1⟩ : ∃ vp : Int, v = .int vp ∧ 0 ≤ vp ∧ vp ≤ 60 := by
        simp only [List.mem_cons, List.not_mem_nil, or_false] at hv
        rcases hv with h | h | h | h | h | h | h <;> exact ⟨_, h, by omega, by omega⟩
      -- q
      refine ⟨_, rfl, _, rfl, _, rfl, t, _, 60, rfl, hT6, by omega, by decide, by decide, fun H7 r' r0' r1' b7 hT7 => ?_⟩
      refine ⟨_, _, rfl, rfl, (by show 7 ≤ sizeLine; decide), fun lq hlq => ?_⟩
      refine ⟨t, lq, _, _, rfl, hT7.same (same_new hlq), by omega, upd_same, by simp, by simp, fun H8 v hv b8 hT8 => ?_⟩
      obtain ⟨vq, rfl, q0, q1⟩ : ∃ vq : Int, v = .int vq ∧ 0 ≤ vq ∧ vq ≤ 60 := by
        simp only [List.mem_cons, List.not_mem_nil, or_false] at hv
        rcases hv with h | h | h | h | h | h | h <;> exact ⟨_, h, by omega, by omega⟩
      clear b3 b4 b5 b6 b7 b8 hT3 hT4 hT5 hT6 hT7
      -- limit
      have emax : ∀ x y : Int, (if y > x then y else x) = max x y := fun x y => by split <;> omega
      have szm : ∀ x : Int, x ≤ 60 → 0 ≤ x → (max 1 x).natAbs < 1000000 ∧ (2 * max 1 x).natAbs < 1000000 := fun x h1 h2 => by omega
      have mx1 : CMulX 2 (if vp > 1 then vp else 1) := by rw [emax]; exact sz_mul (n := 20) (m := 20) (sz_small (by decide) (by decide)) (sz_small (szm vp p1 p0).1 (by decide)) (by decide)
      have mx2 : CMulX (2 * (if vp > 1 then vp else 1)) (if vq > 1 then vq else 1) := by rw [emax, emax]; exact sz_mul (n := 20) (m := 20) (sz_small (szm vp p1 p0).2 (by decide)) (sz_small (szm vq q1 q0).1 (by decide)) (by decide)
      refine ⟨_, rfl, _, rfl, _, _, rfl, _, rfl, _, _, rfl, _, _, rfl, rfl, mx1, _, rfl, _, _, rfl, _, _, rfl, rfl, mx2, _, _, rfl, rfl, ?_⟩
      have hL : (if vb > va then vb else va) + 2 * (if vp > 1 then vp else 1) * (if vq > 1 then vq else 1) = max va vb + 2 * (max 1 vp * max 1 vq) := by
        rw [emax, emax, emax, Int.mul_assoc]
      have hLb : 0 ≤ max va vb + 2 * (max 1 vp * max 1 vq) ∧ max va vb + 2 * (max 1 vp * max 1 vq) ≤ 8000 := by
        have h1 : 0 ≤ max 1 vp * max 1 vq := Int.mul_nonneg (by omega) (by omega)
        have h2 : max 1 vp * max 1 vq ≤ 60 * 60 := Int.mul_le_mul (by omega) (by omega) (by omega) (by decide)
        omega
      rw [← hL] at hLb
      -- there
      refine ⟨_, rfl, _, rfl, _, rfl, vb, vq, _, rfl, b0, by omega, q0, by omega, hLb.1, Int.le_trans hLb.2 (by decide), fun pl H9 s9 np hl9 => ⟨pl, rfl, ⟨_, SqL.of hl9⟩, fun D hD => ?_⟩⟩
      rw [hL] at hl9
      have hL0 := hL
      generalize max va vb + 2 * (max 1 vp * max 1 vq) = Lim at hL hLb hl9
      refine lc_list (K := K) (a := pl) (xs := (listedL vb vq Lim).map V.int) (fun i H' => ∃ ps : List Addr, H' D = some (.lst (ps.map V.ref)) ∧ Paired (fun p (n : Int) => H' p = some (.tup [.int n, .bl true])) ps ((listedL vb vq Lim).take i) ∧ Same H9 H') ⟨[], upd_same, .nil, same_new hD⟩ (fun i H' _ ⟨ps, _, _, e⟩ => SqL.of (e _ _ hl9)) ?_ ?_
      · rintro j v H' hj ⟨ps, e1, e2, e3⟩
        rw [List.getElem?_map] at hj
        obtain ⟨n, hn, rfl⟩ := Option.map_eq_some_iff.mp hj
        have hjl : j < (listedL vb vq Lim).length := (List.getElem?_eq_some_iff.mp hn).1
        have hlen := listedL_len (b := vb) (L := Lim) q0 (by omega)
        have hps : ps.length = j := by rw [e2.length, List.length_take]; omega
        refine ⟨rfl, ?_⟩
        refine yes_ ?_
        refine ⟨_, rfl, (by show 2 ≤ sizeLine; decide), fun tp htp => ⟨_, same_new htp _ _ e1, ?_, ps ++ [tp], ?_, ?_, ?_⟩⟩
        · rw [List.length_map, hps]
          exact Nat.lt_of_le_of_lt (Nat.le_of_lt (Nat.lt_of_lt_of_le hjl hlen)) (by decide)
        · rw [upd_same, List.map_append]
          rfl
        · rw [List.take_add_one, hn]
          have nD : D ≠ tp := ne_of_none e1 htp
          refine paired_snoc (by rw [upd_ne nD.symm, upd_same]) (Paired.mapP e2 fun p n hp => ?_)
          rw [upd_ne (ne_of hp e1 (by intro z; cases z)), upd_ne (ne_of_none hp htp)]
          exact hp
        · exact fun b o hb => by
            rw [upd_ne (ne_of_none hb hD), upd_ne (ne_of_none (e3 _ _ hb) htp)]
            exact e3 _ _ hb
      · rintro H10 ⟨ps, e1, e2, e3⟩
        rw [List.length_map, List.take_length] at e2
        refine ⟨D, ps, (listedL vb vq Lim).map fun n => (Sum.inl n, V.bl true), rfl, SqL.of e1, ?_, fun dt hdt => ?_⟩
        · clear e1
          generalize listedL vb vq Lim = l at e2
          induction e2 with
          | nil => exact .nil
          | cons h _ ih => exact .cons (.inl (.inl h)) ih
        have T11 : TapeAt (upd H10 dt (HO.dK (mergeK [] ((listedL vb vq Lim).map fun n => (Sum.inl n, V.bl true))))) t (6 * i + 1 + 1 + 1 + 1 + 1 + 1) := (hT8.same (s9.trans e3)).same (same_new hdt)
        have hdt1 : upd H10 dt (HO.dK (mergeK [] ((listedL vb vq Lim).map fun n => (Sum.inl n, V.bl true)))) dt = some (HO.dK (mergeK [] ((listedL vb vq Lim).map fun n => (Sum.inl n, V.bl true)))) := upd_same
        generalize upd H10 dt (HO.dK (mergeK [] ((listedL vb vq Lim).map fun n => (Sum.inl n, V.bl true)))) = H11 at T11 hdt1
        -- due
        have hLb2 : 0 ≤ Lim ∧ Lim ≤ 8000 := by rw [← hL]; exact hLb
        refine ⟨_, rfl, _, rfl, _, rfl, va, vp, _, rfl, a0, by omega, p0, by omega, hLb.1, Int.le_trans hLb.2 (by decide), fun pl2 H12 s12 np2 hl12 => ⟨pl2, rfl, ⟨_, SqL.of hl12⟩, fun D2 hD2 => ?_⟩⟩
        rw [hL] at hl12
        have hdt2 := s12 _ _ hdt1
        refine lc_list (K := K) (a := pl2) (xs := (listedL va vp Lim).map V.int) (fun i H' => H' D2 = some (.lst ((((listedL va vp Lim).take i).filter fun x => decide (x ∈ listedL vb vq Lim)).map V.int)) ∧ Same H12 H') ⟨upd_same, same_new hD2⟩ (fun i H' _ ⟨_, e⟩ => SqL.of (e _ _ hl12)) ?_ ?_
        · rintro j v H' hj ⟨f1, f2⟩
          rw [List.getElem?_map] at hj
          obtain ⟨n, hn, rfl⟩ := Option.map_eq_some_iff.mp hj
          have hjl : j < (listedL va vp Lim).length := (List.getElem?_eq_some_iff.mp hn).1
          have hlen := listedL_len (b := va) (L := Lim) p0 (by omega)
          refine ⟨rfl, ?_⟩
          refine ⟨_, rfl, _, rfl, dt, _, rfl, DGet.k (k := Sum.inl n) (f2 _ _ hdt2), _, rfl, ?_⟩
          rw [valV_merge]
          have tk : (((listedL va vp Lim).take (j + 1)).filter fun x => decide (x ∈ listedL vb vq Lim)) = (((listedL va vp Lim).take j).filter fun x => decide (x ∈ listedL vb vq Lim)) ++ (if n ∈ listedL vb vq Lim then [n] else []) := by
            rw [List.take_add_one, hn, List.filter_append]
            congr 1
            show List.filter _ [n] = _
            by_cases e : n ∈ listedL vb vq Lim
            · rw [if_pos e]; simp [List.filter, e]
            · rw [if_neg e]; simp [List.filter, e]
          by_cases e : n ∈ listedL vb vq Lim
          · rw [if_pos e]
            rw [if_pos e] at tk
            refine iteT ⟨_, rfl, _, f1, ?_, ?_, ?_⟩
            · rw [List.length_map]
              refine Nat.lt_of_le_of_lt (Nat.le_trans (List.length_filter_le _ _) ?_) (show 100001 < sizeLine by decide)
              rw [List.length_take]
              omega
            · rw [upd_same, tk, List.map_append]
              rfl
            · exact fun b o hb => by
                rw [upd_ne (ne_of_none hb hD2)]
                exact f2 _ _ hb
          · rw [if_neg e]
            rw [if_neg e, List.append_nil] at tk
            exact iteF ⟨by rw [tk]; exact f1, f2⟩
        · rintro H13 ⟨f1, f2⟩
          rw [List.length_map, List.take_length] at f1
          have hdue : H13 D2 = some (.lst ((dueL va vp vb vq Lim).map V.int)) := f1
          have T13 := T11.same (s12.trans f2)
          clear f1 f2 e1 e2 e3 hdt1 hdt2 s12 hl12 np2 hD2
          have za : Sz 1000 va := sz_small (by omega) (by decide)
          have zb : Sz 1000 vb := sz_small (by omega) (by decide)
          have zp : Sz 1000 vp := sz_small (by omega) (by decide)
          have zq : Sz 1000 vq := sz_small (by omega) (by decide)
          refine ⟨_, rfl, _, rfl, fun o1 dx1 ho1 hd1 _ => ⟨o1, dx1, va, vp, rfl, upd_same, rfl, ?_⟩⟩
          have s14 : Same H13 (upd (upd (upd H13 dx1 (.own o1)) o1 (.ins C dx1 [])) o1 (.ins C dx1 (nf va vp))) := same_make ho1 hd1
          have n1 : NumAt C (upd (upd (upd H13 dx1 (.own o1)) o1 (.ins C dx1 [])) o1 (.ins C dx1 (nf va vp))) o1 va vp := ⟨dx1, upd_same⟩
          generalize upd (upd (upd H13 dx1 (.own o1)) o1 (.ins C dx1 [])) o1 (.ins C dx1 (nf va vp)) = H14 at s14 n1 ⊢
          refine ⟨_, rfl, _, rfl, fun o2 dx2 ho2 hd2 _ => ⟨o2, dx2, vb, vq, rfl, upd_same, rfl, ?_⟩⟩
          have s15 : Same H14 (upd (upd (upd H14 dx2 (.own o2)) o2 (.ins C dx2 [])) o2 (.ins C dx2 (nf vb vq))) := same_make ho2 hd2
          have n2 : NumAt C (upd (upd (upd H14 dx2 (.own o2)) o2 (.ins C dx2 [])) o2 (.ins C dx2 (nf vb vq))) o2 vb vq := ⟨dx2, upd_same⟩
          generalize upd (upd (upd H14 dx2 (.own o2)) o2 (.ins C dx2 [])) o2 (.ins C dx2 (nf vb vq)) = H15 at s15 n2 ⊢
          refine ⟨_, _, rfl, ?_⟩
          have n1' := n1.same s15
          -- both
          refine ⟨_, rfl, _, rfl, andOp n1' n2 p0 q0 za zp zb zq fun r v1 H16 hr1 s16 i1 => ⟨_, rfl, _, rfl, andOp (n2.same s16) (n1'.same s16) q0 p0 zb zq za zp fun r2 v2 H17 hr2 s17 i2 => ⟨(by show 2 ≤ sizeLine; decide), fun tt htt => ?_⟩⟩⟩
          have er := andR_unique (andR_comm hr2) hr1
          subst er
          have s18 : Same H17 (upd H17 tt (HO.tup [v1, v2])) := same_new htt
          have n1'' := ((n1'.same s16).same s17).same s18
          have n2'' := ((n2.same s16).same s17).same s18
          have j1 := (i1.same s17).same s18
          have j2 := i2.same s18
          have d18 : (upd H17 tt (HO.tup [v1, v2])) D2 = some (.lst ((dueL va vp vb vq Lim).map V.int)) := s18 _ _ (s17 _ _ (s16 _ _ (s15 _ _ (s14 _ _ hdue))))
          have T18 : TapeAt (upd H17 tt (HO.tup [v1, v2])) t (6 * (i + 1)) := ((((T13.same s14).same s15).same s16).same s17).same s18 |>.mono (by omega)
          have tt18 : (upd H17 tt (HO.tup [v1, v2])) tt = some (HO.tup [v1, v2]) := upd_same
          generalize upd H17 tt (HO.tup [v1, v2]) = H18 at n1'' n2'' j1 j2 d18 T18 tt18
          refine ⟨tt, rfl, ⟨_, .inl (.inl tt18)⟩, for_tup (K := K) (a := tt) (xs := [v1, v2]) (fun j σ H' => ∃ y13 y14 : Option V, σ = [some (.ref a), some (.ref t), some (.int (0 + (i : Nat))), some (.int va), some (.int vb), some (.int vp), some (.int vq), some (.int ((if vb > va then vb else va) + 2 * (if vp > 1 then vp else 1) * (if vq > 1 then vq else 1))), some (.ref dt), x9, some (.ref D2), some (.ref o1), some (.ref o2), y13, y14, x15, x16, x17, x18] ∧ Same H18 H') ⟨_, _, rfl, Same.refl _⟩ (fun j σ H' _ ⟨_, _, _, e⟩ => .inl (.inl (e _ _ tt18))) ?_ ?_⟩
          · rintro j v σ H' hj ⟨y13, y14, rfl, sj⟩
            have iv : IsR C H' r2 v := by
              match j, hj with
              | 0, hj => cases hj; exact j1.same sj
              | 1, hj => cases hj; exact j2.same sj
              | (n + 2), hj => simp at hj
            have dH' := sj _ _ d18
            refine ⟨_, rfl, Nat.zero_le _, fun el hel => ⟨_, _, .lst (SqL.of (same_new hel _ _ dH')) (dpAll_ints _), .lst (SqL.of upd_same) .nil, shaped_ints _, rfl, _, rfl, ?_⟩⟩
            have se := same_new (o := HO.lst []) hel
            have dH'' := se _ _ dH'
            have iv' := iv.same se
            have sj' := sj.trans se
            clear iv sj dH' se
            generalize upd H' el (HO.lst []) = H19 at dH'' iv' sj' ⊢
            cases r2 with
            | none =>
              cases iv'
              rw [dueL_none p0 q0 hr1]
              exact iteT ⟨_, rfl, rfl, _, rfl, iteF ⟨_, _, rfl, sj'⟩⟩
            | some x =>
              obtain ⟨n, m⟩ := x
              obtain ⟨o, rfl, no⟩ := iv'
              rcases dueL_some p0 q0 (hL.symm.trans hL0) hr1 with ⟨em, e⟩ | ⟨em, r, e⟩
              · subst em
                rw [e] at dH''
                rw [e]
                refine iteF ⟨_, rfl, D2, _, rfl, .inl (SqL.of dH''), _, _, rfl, rfl, _, rfl, iteF ?_⟩
                exact tail_ok N rfl rfl rfl no dH'' fun H' s' => ⟨_, _, rfl, sj'.trans s'⟩
              · rw [e] at dH''
                rw [e]
                refine iteF ⟨_, rfl, D2, _, rfl, .inl (SqL.of dH''), _, _, rfl, rfl, _, rfl, iteT' (decide_eq_true ?_) ⟨_, rfl, D2, _, 1, .int (n + m), rfl, rfl, SqL.of dH'', atI_nat (j := 1) rfl, _, rfl, D2, _, 0, .int n, rfl, rfl, SqL.of dH'', atI_nat (j := 0) rfl, _, _, rfl, rfl, ?_⟩⟩
                · rw [List.length_map, List.length_cons, List.length_cons]; omega
                · refine tail_ok N rfl rfl (show _ = some (some (V.int m)) from ?_) no dH'' fun H' s' => ⟨_, _, rfl, sj'.trans s'⟩
                  show some (some (V.int (n + m - n))) = some (some (V.int m))
                  rw [show n + m - n = m by omega]
          · rintro σ H' ⟨y13, y14, rfl, sj⟩
            have m1 := n1''.same sj
            have m2 := n2''.same sj
            have T20 := T18.same sj
            clear n1'' n2'' j1 j2 d18 T18 tt18 sj
            refine ⟨_, rfl, _, rfl, _, rfl, ?_⟩
            intro y1 dy1 hy1 hdy1 _
            refine ⟨y1, dy1, va, vp, rfl, upd_same, rfl, ?_⟩
            have s20 : Same H' (upd (upd (upd H' dy1 (.own y1)) y1 (.ins C dy1 [])) y1 (.ins C dy1 (nf va vp))) := same_make hy1 hdy1
            have k1 : NumAt C (upd (upd (upd H' dy1 (.own y1)) y1 (.ins C dy1 [])) y1 (.ins C dy1 (nf va vp))) y1 va vp := ⟨dy1, upd_same⟩
            generalize upd (upd (upd H' dy1 (.own y1)) y1 (.ins C dy1 [])) y1 (.ins C dy1 (nf va vp)) = H20 at s20 k1 ⊢
            refine neOp (m1.same s20) k1 rfl rfl fun H21 s21 => ⟨_, rfl, iteF ⟨_, rfl, _, rfl, _, rfl, ?_⟩⟩
            intro y2 dy2 hy2 hdy2 _
            refine ⟨y2, dy2, vb, vq, rfl, upd_same, rfl, ?_⟩
            have s22 : Same H21 (upd (upd (upd H21 dy2 (.own y2)) y2 (.ins C dy2 [])) y2 (.ins C dy2 (nf vb vq))) := same_make hy2 hdy2
            have k2 : NumAt C (upd (upd (upd H21 dy2 (.own y2)) y2 (.ins C dy2 [])) y2 (.ins C dy2 (nf vb vq))) y2 vb vq := ⟨dy2, upd_same⟩
            generalize upd (upd (upd H21 dy2 (.own y2)) y2 (.ins C dy2 [])) y2 (.ins C dy2 (nf vb vq)) = H22 at s22 k2 ⊢
            have s0 := (s20.trans s21).trans s22
            refine neOp (m2.same s0) k2 rfl rfl fun H23 s23 => ⟨_, rfl, iteF ⟨_, rfl, _, rfl, andOp (m1.same (s0.trans s23)) (m1.same (s0.trans s23)) p0 p0 za zp za zp fun r v H24 hr s24 iv => ⟨_, rfl, ?_⟩⟩⟩
            have er : r = some (va, vp) := andR_unique hr ⟨p0, fun x => ⟨fun h => h.1, fun h => ⟨h, h⟩⟩⟩
            subst er
            obtain ⟨o, rfl, no⟩ := iv
            have s1 := (s0.trans s23).trans s24
            refine neOp no (m1.same s1) rfl rfl fun H25 s25 => ⟨_, rfl, iteF ?_⟩
            exact ⟨_, _, _, _, _, _, _, _, _, _, _, _, _, _, _, _, _, rfl, T20.same (s1.trans s25)⟩
    · rintro σ H2 ⟨x2, x3, x4, x5, x6, x7, x8, x9, x10, x11, x12, x13, x14, x15, x16, x17, x18, rfl, hT⟩
      have pw30 : CPow 10 30 := by unfold CPow; decide
      have pw9 : CPow 10 9 := by unfold CPow; decide
      refine ⟨_, _, rfl, rfl, pw30, _, rfl, _, _, rfl, rfl, pw9, t, _, _, rfl, hT, by decide, by decide, by decide, fun H3 r r0 r1 b3 hT3 => ?_⟩
      refine ⟨_, _, rfl, rfl, _, rfl, _, _, rfl, rfl, pw9, t, _, _, rfl, hT3, by decide, by decide, by decide, fun H4 g g0 g1 b4 hT4 => ?_⟩
      obtain ⟨B, hB⟩ : ∃ B : Int, B = 10 ^ 30 + r := ⟨_, rfl⟩
      have r2 : r < 10 ^ 9 := r1
      have g2 : g < 10 ^ 9 := g1
      have hB0 : 0 < B := by omega
      have hB1 : B < 2 ^ 120 := by omega
      refine ⟨.int B, .int g, by rw [hB]; rfl, ?_⟩
      clear hT hT3 hT4 b3 b4
      have szB : Sz 120 B := by unfold Sz; omega
      have szg : Sz 120 g := by unfold Sz; omega
      have szB1 : Sz 121 (B + 1) := by unfold Sz; omega
      have szBB : Sz 241 (B * (B + 1)) := wide_lt szB szB1
      have le : ∀ {n : Nat} {i : Int}, Sz n i → n ≤ 1000 → Sz 1000 i := fun h hn => sz_le h hn
      have sz2 : Sz 130 (2 * B) := by unfold Sz; omega
      have sz3 : Sz 130 (3 * B) := by unfold Sz; omega
      have sz4 : Sz 130 (4 * B) := by unfold Sz; omega
      have sz6 : Sz 130 (6 * B) := by unfold Sz; omega
      have szg4 : Sz 130 (g + B * 4) := by unfold Sz; omega
      have szn : Sz 250 (5 + B * (B + 1)) := by
        unfold Sz at *
        have : (5 + B * (B + 1)).natAbs ≤ 5 + (B * (B + 1)).natAbs := by omega
        have : (2 : Nat) ^ 250 = 2 ^ 241 * 2 ^ 9 := by rw [← Nat.pow_add]
        have : 0 < (2 : Nat) ^ 241 := Nat.pow_pos (by decide)
        omega
      have c2 : ∀ k : Int, k.natAbs < 100 → CMulX k B := fun k hk => sz_mul (n := 20) (sz_small (by omega) (by decide)) szB (by decide)
      have c3 : ∀ k : Int, k.natAbs < 100 → CMulX B k := fun k hk => sz_mul (m := 20) szB (sz_small (by omega) (by decide)) (by decide)
      have c4 : CMulX B (B + 1) := sz_mul szB szB1 (by decide)
      have BB0 : 0 ≤ B * (B + 1) := Int.mul_nonneg (by omega) (by omega)
      -- far
      refine ⟨_, rfl, _, rfl, _, _, rfl, rfl, c2 2 (by decide), ?_⟩
      intro y1 dy1 hy1 hdy1 _
      refine ⟨y1, dy1, g, (2 * B), rfl, upd_same, rfl, ?_⟩
      have s5 : Same H4 (upd (upd (upd H4 dy1 (.own y1)) y1 (.ins C dy1 [])) y1 (.ins C dy1 (nf g (2 * B)))) := same_make hy1 hdy1
      have k1 : NumAt C (upd (upd (upd H4 dy1 (.own y1)) y1 (.ins C dy1 [])) y1 (.ins C dy1 (nf g (2 * B)))) y1 g (2 * B) := ⟨dy1, upd_same⟩
      generalize upd (upd (upd H4 dy1 (.own y1)) y1 (.ins C dy1 [])) y1 (.ins C dy1 (nf g (2 * B))) = H5 at s5 k1 ⊢
      refine ⟨_, rfl, _, rfl, _, _, rfl, rfl, c3 4 (by decide), _, _, rfl, rfl, _, rfl, _, _, rfl, rfl, c2 3 (by decide), ?_⟩
      intro y2 dy2 hy2 hdy2 _
      refine ⟨y2, dy2, (g + B * 4), (3 * B), rfl, upd_same, rfl, ?_⟩
      have s6 : Same H5 (upd (upd (upd H5 dy2 (.own y2)) y2 (.ins C dy2 [])) y2 (.ins C dy2 (nf (g + B * 4) (3 * B)))) := same_make hy2 hdy2
      have k2 : NumAt C (upd (upd (upd H5 dy2 (.own y2)) y2 (.ins C dy2 [])) y2 (.ins C dy2 (nf (g + B * 4) (3 * B)))) y2 (g + B * 4) (3 * B) := ⟨dy2, upd_same⟩
      generalize upd (upd (upd H5 dy2 (.own y2)) y2 (.ins C dy2 [])) y2 (.ins C dy2 (nf (g + B * 4) (3 * B))) = H6 at s6 k2 ⊢
      refine andOp (k1.same s6) k2 (by omega) (by omega) (le szg (by decide)) (le sz2 (by decide)) (le szg4 (by decide)) (le sz3 (by decide)) fun rr v H7 hr1 s7 iv => ?_
      have er := andR_unique hr1 (far_and hB0)
      subst er
      obtain ⟨o1, rfl, n1⟩ := iv
      refine ⟨_, rfl, _, rfl, _, rfl, _, _, rfl, rfl, c3 4 (by decide), _, _, rfl, rfl, _, rfl, _, _, rfl, rfl, c2 6 (by decide), ?_⟩
      intro y3 dy3 hy3 hdy3 _
      refine ⟨y3, dy3, (g + B * 4), (6 * B), rfl, upd_same, rfl, ?_⟩
      have s8 : Same H7 (upd (upd (upd H7 dy3 (.own y3)) y3 (.ins C dy3 [])) y3 (.ins C dy3 (nf (g + B * 4) (6 * B)))) := same_make hy3 hdy3
      have k3 : NumAt C (upd (upd (upd H7 dy3 (.own y3)) y3 (.ins C dy3 [])) y3 (.ins C dy3 (nf (g + B * 4) (6 * B)))) y3 (g + B * 4) (6 * B) := ⟨dy3, upd_same⟩
      generalize upd (upd (upd H7 dy3 (.own y3)) y3 (.ins C dy3 [])) y3 (.ins C dy3 (nf (g + B * 4) (6 * B))) = H8 at s8 k3 ⊢
      refine neOp (n1.same s8) k3 rfl rfl fun H9 s9 => ⟨_, rfl, iteF ?_⟩
      refine ⟨_, rfl, _, _, rfl, rfl, c2 2 (by decide), ?_⟩
      intro y4 dy4 hy4 hdy4 _
      refine ⟨y4, dy4, 0, (2 * B), rfl, upd_same, rfl, ?_⟩
      have s10 : Same H9 (upd (upd (upd H9 dy4 (.own y4)) y4 (.ins C dy4 [])) y4 (.ins C dy4 (nf 0 (2 * B)))) := same_make hy4 hdy4
      have k4 : NumAt C (upd (upd (upd H9 dy4 (.own y4)) y4 (.ins C dy4 [])) y4 (.ins C dy4 (nf 0 (2 * B)))) y4 0 (2 * B) := ⟨dy4, upd_same⟩
      generalize upd (upd (upd H9 dy4 (.own y4)) y4 (.ins C dy4 [])) y4 (.ins C dy4 (nf 0 (2 * B))) = H10 at s10 k4 ⊢
      refine ⟨_, rfl, _, _, rfl, rfl, c2 4 (by decide), ?_⟩
      intro y5 dy5 hy5 hdy5 _
      refine ⟨y5, dy5, 1, (4 * B), rfl, upd_same, rfl, ?_⟩
      have s11 : Same H10 (upd (upd (upd H10 dy5 (.own y5)) y5 (.ins C dy5 [])) y5 (.ins C dy5 (nf 1 (4 * B)))) := same_make hy5 hdy5
      have k5 : NumAt C (upd (upd (upd H10 dy5 (.own y5)) y5 (.ins C dy5 [])) y5 (.ins C dy5 (nf 1 (4 * B)))) y5 1 (4 * B) := ⟨dy5, upd_same⟩
      generalize upd (upd (upd H10 dy5 (.own y5)) y5 (.ins C dy5 [])) y5 (.ins C dy5 (nf 1 (4 * B))) = H11 at s11 k5 ⊢
      refine andOp (k4.same s11) k5 (by omega) (by omega) (sz_small (by decide) (by decide)) (le sz2 (by decide)) (sz_small (by decide) (by decide)) (le sz4 (by decide)) fun rr v H12 hr1 s12 iv => ?_
      have er := andR_unique hr1 (none_and hB0)
      subst er
      cases iv
      refine ⟨rfl, _, rfl, iteF ?_⟩
      -- the meeting
      refine ⟨_, rfl, ?_⟩
      intro y6 dy6 hy6 hdy6 _
      refine ⟨y6, dy6, 5, B, rfl, upd_same, rfl, ?_⟩
      have s13 : Same H12 (upd (upd (upd H12 dy6 (.own y6)) y6 (.ins C dy6 [])) y6 (.ins C dy6 (nf 5 B))) := same_make hy6 hdy6
      have k6 : NumAt C (upd (upd (upd H12 dy6 (.own y6)) y6 (.ins C dy6 [])) y6 (.ins C dy6 (nf 5 B))) y6 5 B := ⟨dy6, upd_same⟩
      generalize upd (upd (upd H12 dy6 (.own y6)) y6 (.ins C dy6 [])) y6 (.ins C dy6 (nf 5 B)) = H13 at s13 k6 ⊢
      refine ⟨_, rfl, _, rfl, _, _, rfl, rfl, _, _, rfl, rfl, c4, _, _, rfl, rfl, _, rfl, _, _, rfl, rfl, ?_⟩
      intro y7 dy7 hy7 hdy7 _
      refine ⟨y7, dy7, (5 + B * (B + 1)), (B + 1), rfl, upd_same, rfl, ?_⟩
      have s14 : Same H13 (upd (upd (upd H13 dy7 (.own y7)) y7 (.ins C dy7 [])) y7 (.ins C dy7 (nf (5 + B * (B + 1)) (B + 1)))) := same_make hy7 hdy7
      have k7 : NumAt C (upd (upd (upd H13 dy7 (.own y7)) y7 (.ins C dy7 [])) y7 (.ins C dy7 (nf (5 + B * (B + 1)) (B + 1)))) y7 (5 + B * (B + 1)) (B + 1) := ⟨dy7, upd_same⟩
      generalize upd (upd (upd H13 dy7 (.own y7)) y7 (.ins C dy7 [])) y7 (.ins C dy7 (nf (5 + B * (B + 1)) (B + 1))) = H14 at s14 k7 ⊢
      refine andOp (k6.same s14) k7 (by omega) (by omega) (sz_small (by decide) (by decide)) (le szB (by decide)) (le szn (by decide)) (le szB1 (by decide)) fun rr v H15 hr1 s15 iv => ?_
      have er := andR_unique hr1 (next_and hB0)
      subst er
      obtain ⟨o2, rfl, n2⟩ := iv
      refine ⟨_, rfl, _, rfl, _, rfl, _, _, rfl, rfl, _, _, rfl, rfl, c4, _, _, rfl, rfl, _, rfl, _, rfl, _, _, rfl, rfl, _, _, rfl, rfl, c4, ?_⟩
      intro y8 dy8 hy8 hdy8 _
      refine ⟨y8, dy8, (5 + B * (B + 1)), (B * (B + 1)), rfl, upd_same, rfl, ?_⟩
      have s16 : Same H15 (upd (upd (upd H15 dy8 (.own y8)) y8 (.ins C dy8 [])) y8 (.ins C dy8 (nf (5 + B * (B + 1)) (B * (B + 1))))) := same_make hy8 hdy8
      have k8 : NumAt C (upd (upd (upd H15 dy8 (.own y8)) y8 (.ins C dy8 [])) y8 (.ins C dy8 (nf (5 + B * (B + 1)) (B * (B + 1))))) y8 (5 + B * (B + 1)) (B * (B + 1)) := ⟨dy8, upd_same⟩
      generalize upd (upd (upd H15 dy8 (.own y8)) y8 (.ins C dy8 [])) y8 (.ins C dy8 (nf (5 + B * (B + 1)) (B * (B + 1)))) = H16 at s16 k8 ⊢
      exact eqOp (n2.same s16) k8 rfl rfl fun H17 _ => k _
end
end Rd
set_option maxHeartbeats 4000000
namespace Rd
open PySem PySem.Spec PyProof.Rows L2
/-! ### what the head tells of a class -/
def ownB (K : PySem.W.Frag) (C : Addr) : Bool := He.eqO (PySem.W.findIn K (.ref C) "__class__") (some (some (.builtin "object.__class__"))) && (He.eqO (PySem.W.specialIn K (.builtin "object.__class__") "__get__") (some (some (.builtin "getset_descriptor.__get__"))) &&
  (decide (PySem.W.takesIn K (.builtin "object.__class__") = some true) && (decide (PySem.W.mroIn K C (.type "object") = some true) && (PySem.W.selfFirst K C && He.eqO (PySem.W.findIn K (.ref C) "__ne__") (some (some (.builtin "object.__ne__")))))))
structure OwnF (K : PySem.W.Frag) (C : Addr) : Prop where
  ca : PySem.W.findIn K (.ref C) "__class__" = some (some (.builtin "object.__class__"))
  cn : PySem.W.specialIn K (.builtin "object.__class__") "__get__" = some (some (.builtin "getset_descriptor.__get__"))
  ct : PySem.W.takesIn K (.builtin "object.__class__") = some true
  cm : PySem.W.mroIn K C (.type "object") = some true
  sf : PySem.W.selfFirst K C = true
  ne : PySem.W.findIn K (.ref C) "__ne__" = some (some (.builtin "object.__ne__"))
theorem ownB_ok {K : PySem.W.Frag} {C : Addr} (h : ownB K C = true) : OwnF K C := by
  obtain ⟨h1, h⟩ := He.ba h
  obtain ⟨h2, h⟩ := He.ba h
  obtain ⟨h3, h⟩ := He.ba h
  obtain ⟨h4, h⟩ := He.ba h
  obtain ⟨h5, h6⟩ := He.ba h
  exact ⟨He.eqO_ok h1, He.eqO_ok h2, of_decide_eq_true h3, of_decide_eq_true h4, h5, He.eqO_ok h6⟩
/-- a def's datum -/
abbrev dd (p : Str × Option Str) (x q : Str) (st : Stmt) : He.DefD := ⟨p, x, q, defArgs st, defBody st, defScope st, [], []⟩
section
variable {P : Program} {w : World} {K : PySem.W.Frag} {mg : Str → Option Value} {base h : Heap}
theorem cal_of {k : Nat} {x : Str} {sp : Sp} {f : Addr} {fd : FuncData} {ps : List Str} {st : Stmt} (F : FnP K x x st f fd) (ok : FnOk P w K mg base (L2.CX P w) k f fd ps sp) (m : mg x = some (.ref f)) (b : Binds K fd ps []) : Cal P w K mg base k x sp := ⟨f, fd, ps, ok, m, F.kp, b⟩
theorem met_of {k : Nat} {C f : Addr} {m : Str} {sp : Sp} {fd : FuncData} {ps : List Str} (c : Cls K C) (me : Meth K C m f) (ok : FnOk P w K mg base (L2.CX P w) k f fd ps sp) (b : Binds K fd ps []) : Met P w K mg base k C m sp := ⟨f, fd, ps, c, me, ok, b⟩
theorem mak_of {k : Nat} {C f : Addr} {x : Str} {sp : Sp} {fd : FuncData} {ps : List Str} (M : Mk K C f) (m : mg x = some (.ref C)) (ok : FnOk P w K mg base (L2.CX P w) k f fd ps sp) (b : Binds K fd ps []) : Mak P w K mg base k x C sp := ⟨f, fd, ps, M, ok, m, b⟩
end
/-- the end of a law over a head by facts, where errors are let out by the world's own CX -/
theorem walk_w {l : PySem.W.OpenLaw} {n k : Nat} {q : Program} {loose : List Str} {XP : (Str → Option Value) → Heap → Prop} {YP : World → Heap → Prop} {d : DefRec} {x : Str} (hn : l.most = some n) (hn2 : n ≤ sizeLine) (hdf : d.params.defaults = []) (hr : Room k callerA)
    (F : ∀ (w : World) (mg : Str → Option Value) (fa : Addr) (h : Heap), YP w h → h.Ns mainGlobals mg → mg d.name = some (.ref fa) → ∃ (K : PySem.W.Frag) (fd : FuncData) (sp : Sp), K.In h ∧ (∀ (s : Shared) (u : Value), BindsTo s fd ⟨[u], []⟩ [(x, u)]) ∧
      (∀ (H : Hp) (a : Addr) (ns : List Int), ns.length ≤ n → SqL K H a (ns.map V.int) → sp [.ref a] H (fun v _ => v = .bl true) fun _ _ _ => False) ∧ ∀ base : Heap, K.In base → base.Ns mainGlobals mg → FnOk l.prog w K mg base (L2.CX l.prog w) k fa fd [x] sp) :
    PySem.W.WalkO q loose XP YP l.row.toRowW d [] (fun f vs => PySem.call f vs) := by
  refine Att.attach_call hn hdf fun w s₀ s₁ mg mb fa o pm cd doc a vs ns G Y ho hd hcd hmg hobj hints hlen hg => ?_
  obtain ⟨K, fd, sp, KX, hb, hsp, hF⟩ := F w mg fa _ Y G.T.g hmg
  refine law_call KX G.T.g G.T.b G.T.builtins G.T.nolimit hg hobj hints (Nat.le_trans hlen hn2) hr hF hb (fun H _ hS => hsp H a ns hlen hS) fun H e s' h => ?_
  obtain ⟨_, _, _, _, _, _, _, _, _, _, _, _, z⟩ := h
  exact z
theorem cx_false {P : Program} {w : World} (H : Hp) (s : Shared) (e : Value) (s' : Shared) (h : L2.CX P w [] H s (fun _ _ _ => False) e s') : False := by
  obtain ⟨_, _, _, _, _, _, _, _, _, _, _, _, z⟩ := h
  exact z
end Rd
set_option maxHeartbeats 0
namespace Rd
open PySem PySem.Spec PyProof.Rows L2
def fn : List He.DefD := [dd ("gcd_of", none) "gcd_of" "gcd_of" s_gcd_of, dd ("lcm_of", none) "lcm_of" "lcm_of" s_lcm_of, dd ("inverse", none) "inverse" "inverse" s_inverse,
  dd ("Numbers", some "__init__") "__init__" "Numbers.__init__" s_Numbers___init__, dd ("Numbers", some "has") "has" "Numbers.has" s_Numbers_has, dd ("Numbers", some "__and__") "__and__" "Numbers.__and__" s_Numbers___and__, dd ("Numbers", some "__eq__") "__eq__" "Numbers.__eq__" s_Numbers___eq__,
  dd ("_law_begin", none) "_law_begin" "_law_begin" s__law_begin, dd ("_law_draw", none) "_law_draw" "_law_draw" s__law_draw, dd ("_law_pick", none) "_law_pick" "_law_pick" s__law_pick, dd ("_law_listed", none) "_law_listed" "_law_listed" s__law_listed, dd ("law", none) "law" "law" s_law]
def fa : List He.Fa := [.glo "gcd_of", .glo "lcm_of", .glo "inverse", .glo "Numbers", .glo "_law_begin", .glo "_law_draw", .glo "_law_pick", .glo "_law_listed", .glo "law",
  .free "len", .free "int", .free "abs", .free "max", .free "list", .free "range", .free "dict", .free "isinstance",
  .cls "Numbers", .noat "Numbers" "own_least", .noat "Numbers" "own_modulus", .meth "Numbers" "has", .meth "Numbers" "__and__", .meth "Numbers" "__eq__", .mkr "Numbers"]
def ex (K : PySem.W.Frag) : Bool := ownB K (He.ga K "Numbers")
abbrev R : PySem.W.OpenRow := PySem.W.OpenLaw.row PySem.Challenge.rw_roomdials_k21_numbers_in_two_sets
abbrev hk : PySem.W.Hook := He.hookX 4 fa fn [] [] ex
def ob (s : PySem.W.SharedT) : He.AlX := He.obsX 4 fa fn [] [] ex (HandSHeadRun.getT s)
theorem ob_eq (s : PySem.W.SharedT) : ob s = hk.obs s.abs := He.obsX_eq (HandSHeadRun.getT_eq s)
def loose : List Str := ["RoomdialsError", "TooMany", "OutOfRange", "gcd_of", "lcm_of", "is_integer", "MOST_LISTED", "inverse", "Numbers", "_law_begin", "_law_draw", "_law_pick", "_law_listed"]
theorem run (w : World) : HandSHeadRun.RunEq R (PySem.W.view R.prog [18]) hk ob 4000 loose w := by
  intro os
  kernel_rfl
end Rd
set_option maxHeartbeats 0
namespace Rd
open PySem PySem.Spec PyProof.Rows L2
theorem facts {P : Program} {w : World} {K : PySem.W.Frag} {h : Heap} {mg : Str → Option Value} {f : Addr} (X : K.In h) (G : h.Ns mainGlobals mg) (hfa : mg ("law" : Str) = some (.ref f)) (c : He.SaysD fa fn K) (cx : ex K = true) :
    ∃ fd : FuncData, (∀ (s : Shared) (v : Value), BindsTo s fd ⟨[v], []⟩ [("_law_script", v)]) ∧ ∀ base : Heap, K.In base → base.Ns mainGlobals mg → FnOk P w K mg base (L2.CX P w) 6 f fd ["_law_script"] (spLaw K) := by
  obtain ⟨f0, F0⟩ := c.def_ 0 (d := dd ("gcd_of", none) "gcd_of" "gcd_of" s_gcd_of) rfl
  obtain ⟨f1, F1⟩ := c.def_ 1 (d := dd ("lcm_of", none) "lcm_of" "lcm_of" s_lcm_of) rfl
  obtain ⟨f2, F2⟩ := c.def_ 2 (d := dd ("inverse", none) "inverse" "inverse" s_inverse) rfl
  obtain ⟨f3, F3⟩ := c.def_ 3 (d := dd ("Numbers", some "__init__") "__init__" "Numbers.__init__" s_Numbers___init__) rfl
  obtain ⟨f4, F4⟩ := c.def_ 4 (d := dd ("Numbers", some "has") "has" "Numbers.has" s_Numbers_has) rfl
  obtain ⟨f5, F5⟩ := c.def_ 5 (d := dd ("Numbers", some "__and__") "__and__" "Numbers.__and__" s_Numbers___and__) rfl
  obtain ⟨f6, F6⟩ := c.def_ 6 (d := dd ("Numbers", some "__eq__") "__eq__" "Numbers.__eq__" s_Numbers___eq__) rfl
  obtain ⟨f7, F7⟩ := c.def_ 7 (d := dd ("_law_begin", none) "_law_begin" "_law_begin" s__law_begin) rfl
  obtain ⟨f8, F8⟩ := c.def_ 8 (d := dd ("_law_draw", none) "_law_draw" "_law_draw" s__law_draw) rfl
  obtain ⟨f9, F9⟩ := c.def_ 9 (d := dd ("_law_pick", none) "_law_pick" "_law_pick" s__law_pick) rfl
  obtain ⟨f10, F10⟩ := c.def_ 10 (d := dd ("_law_listed", none) "_law_listed" "_law_listed" s__law_listed) rfl
  obtain ⟨f11, F11⟩ := c.def_ 11 (d := dd ("law", none) "law" "law" s_law) rfl
  have gl : ∀ (i : Nat) (x : Str), fa[i]? = some (.glo x) → mg x = some (.ref (He.ga K x)) := fun i x hi => He.glo_ok X G (c.fact i hi)
  have fr : ∀ (i : Nat) (x : Str), fa[i]? = some (.free x) → mg x = none := fun i x hi => He.free_ok X G (c.fact i hi)
  have e := hfa.symm.trans (gl 8 "law" rfl)
  cases e
  have T : Txt mg := ⟨fr 9 _ rfl, fr 10 _ rfl, fr 11 _ rfl, fr 12 _ rfl, fr 13 _ rfl, fr 14 _ rfl, fr 15 _ rfl, fr 16 _ rfl⟩
  have O := ownB_ok (show ownB K (He.ga K "Numbers") = true from cx)
  have N : NumT K mg (He.ga K "Numbers") := ⟨He.cls_ok (c.fact 17 (f := .cls "Numbers") rfl), He.noat_ok (c.fact 18 (f := .noat "Numbers" "own_least") rfl), He.noat_ok (c.fact 19 (f := .noat "Numbers" "own_modulus") rfl), O.ca, O.cn, O.ct, O.cm, gl 3 _ rfl, O.sf, O.ne⟩
  have mH := He.meth_ok (c.fact 20 (f := .meth "Numbers" "has") rfl)
  have mA := He.meth_ok (c.fact 21 (f := .meth "Numbers" "__and__") rfl)
  have mE := He.meth_ok (c.fact 22 (f := .meth "Numbers" "__eq__") rfl)
  have mI := He.mkr_ok (c.fact 23 (f := .mkr "Numbers") rfl)
  have b1 : ∀ {x q : Str} {st : Stmt} {f : Addr} {fd : FuncData} {p : Str} (F : FnP K x q st f fd), (∀ (kV doc pm : Value) (an : Option Addr) (cdv ct : Value) (us : List Value), us.length = [p].length → bindArgs (PySem.W.fnOf x q (defArgs st) (defBody st) (defScope st) .none kV doc pm an cdv ct) ⟨us, []⟩ = pure ([p].zip us)) → Binds K fd [p] [] := fun F h => F.bindsN h
  have B0 : Binds K f0 ["numbers"] [] := FunD.bindsN F0 fun _ _ _ _ _ _ us hl => match us, hl with | [_], _ => rfl
  have B1 : Binds K f1 ["one", "other"] [] := FunD.bindsN F1 fun _ _ _ _ _ _ us hl => match us, hl with | [_, _], _ => rfl
  have B2 : Binds K f2 ["number", "modulus"] [] := FunD.bindsN F2 fun _ _ _ _ _ _ us hl => match us, hl with | [_, _], _ => rfl
  have B3 : Binds K f3 ["self", "least", "modulus"] [] := FunD.bindsN F3 fun _ _ _ _ _ _ us hl => match us, hl with | [_, _, _], _ => rfl
  have B4 : Binds K f4 ["self", "number"] [] := FunD.bindsN F4 fun _ _ _ _ _ _ us hl => match us, hl with | [_, _], _ => rfl
  have B5 : Binds K f5 ["self", "other"] [] := FunD.bindsN F5 fun _ _ _ _ _ _ us hl => match us, hl with | [_, _], _ => rfl
  have B6 : Binds K f6 ["self", "other"] [] := FunD.bindsN F6 fun _ _ _ _ _ _ us hl => match us, hl with | [_, _], _ => rfl
  have B7 : Binds K f7 ["_law_script"] [] := FunD.bindsN F7 fun _ _ _ _ _ _ us hl => match us, hl with | [_], _ => rfl
  have B8 : Binds K f8 ["_law_tape", "_law_many"] [] := FunD.bindsN F8 fun _ _ _ _ _ _ us hl => match us, hl with | [_, _], _ => rfl
  have B9 : Binds K f9 ["_law_tape", "_law_items"] [] := FunD.bindsN F9 fun _ _ _ _ _ _ us hl => match us, hl with | [_, _], _ => rfl
  have B10 : Binds K f10 ["_law_least", "_law_modulus", "_law_limit"] [] := FunD.bindsN F10 fun _ _ _ _ _ _ us hl => match us, hl with | [_, _, _], _ => rfl
  have BL := FunD.bindsA (ps := ["_law_script"]) F11 fun _ _ _ _ _ _ us hl => match us, hl with | [_], _ => rfl
  refine ⟨f11, fun s v => BL s [v] rfl, fun base _ _ => ?_⟩
  have C0 : Cal P w K mg base 1 "gcd_of" (spGcd K) := cal_of (st := s_gcd_of) F0 (ok_gcd F0 T) (gl 0 _ rfl) B0
  have C1 : Cal P w K mg base 2 "lcm_of" spLcm := cal_of (st := s_lcm_of) F1 (ok_lcm F1 T C0) (gl 1 _ rfl) B1
  have C2 : Cal P w K mg base 1 "inverse" spInverse := cal_of (st := s_inverse) F2 (ok_inverse F2 T) (gl 2 _ rfl) B2
  have M : Mak P w K mg base 1 "Numbers" (He.ga K "Numbers") (spNumInit (He.ga K "Numbers")) := mak_of mI (gl 3 _ rfl) (ok_nInit F3 N) B3
  have C4 : Met P w K mg base 1 (He.ga K "Numbers") "has" (spHas (He.ga K "Numbers")) := met_of N.cl mH (ok_has F4 N) B4
  have C5 : Met P w K mg base 3 (He.ga K "Numbers") "__and__" (spAnd (He.ga K "Numbers")) := met_of N.cl mA (ok_and F5 T N C0 C1 C2 C4 M) B5
  have C6 : Met P w K mg base 1 (He.ga K "Numbers") "__eq__" (spNumEq (He.ga K "Numbers")) := met_of N.cl mE (ok_nEq F6 T N) B6
  have C7 : Cal P w K mg base 1 "_law_begin" (spBegin K) := cal_of (st := s__law_begin) F7 (ok_begin F7) (gl 4 _ rfl) B7
  have C8 : Cal P w K mg base 1 "_law_draw" spDraw := cal_of (st := s__law_draw) F8 (ok_draw F8 T) (gl 5 _ rfl) B8
  have C9 : Cal P w K mg base 2 "_law_pick" spPick := cal_of (st := s__law_pick) F9 (ok_pick F9 T C8) (gl 6 _ rfl) B9
  have C10 : Cal P w K mg base 1 "_law_listed" spListed := cal_of (st := s__law_listed) F10 (ok_listed F10 T) (gl 7 _ rfl) B10
  exact ok_law F11 T N C7 C8 C9 C10 M C5 C6
end Rd
open PySem PySem.W PySem.Calls PyProof.Rows
theorem PySem.Challenge.cw_roomdials_k21_numbers_in_two_sets_holds : PySem.Challenge.rw_roomdials_k21_numbers_in_two_sets.Holds := by
  w_on; o_law
  refine HandSHeadRun.head_any (r := OpenLaw.row PySem.Challenge.rw_roomdials_k21_numbers_in_two_sets) (q := view (OpenLaw.row PySem.Challenge.rw_roomdials_k21_numbers_in_two_sets).prog [18]) (H := Rd.hk) (ob := Rd.ob) (M := 4000) (loose := Rd.loose) (d := HandSHeadRun.topDef (OpenLaw.row PySem.Challenge.rw_roomdials_k21_numbers_in_two_sets).prog 18) (kwd := []) Rd.ob_eq
    (by kernel_rfl) (fun s => by kernel_rfl) Rd.run (by kernel_rfl) (by kernel_rfl) (by kernel_rfl) (by rfl) (by first | assumption | decide +kernel) (by decide +kernel) ⟨rfl, rfl, rfl, rfl, rfl, by decide +kernel⟩ ?hw ?hc
  case hw => w_witness2
  case hc =>
    refine Rd.walk_w (l := PySem.Challenge.rw_roomdials_k21_numbers_in_two_sets) (n := 63) (k := 6) (x := "_law_script") rfl (by decide) (by kernel_rfl) ⟨rfl, by decide, by decide⟩ ?F
    intro w mg fa h Y G hmg0
    obtain ⟨K, KX, c⟩ := Y
    have hmg : mg ("law" : PySem.Str) = some (.ref fa) := by
      have e : (HandSHeadRun.topDef (OpenLaw.row PySem.Challenge.rw_roomdials_k21_numbers_in_two_sets).prog 18).name = ("law" : PySem.Str) := by kernel_rfl
      rw [← e]
      exact hmg0
    obtain ⟨fd, hb, hF⟩ := Rd.facts (P := (PySem.Challenge.rw_roomdials_k21_numbers_in_two_sets).prog) (w := w) KX G hmg c.t.d c.more
    exact ⟨K, fd, Rd.spLaw K, KX, hb, fun H a ns _ hS => ⟨a, ns, rfl, hS, fun _ => rfl⟩, hF⟩
