import PyProof.Rows.All
import Wide.All
import OpenK.AllK
import Wide.FinOn
import PyProof.EqAt
import PyProof.EqKinds
import PyProof.TupleCall
import Open.SpecLaws
import KE.OsGo
import HandS.ForSpec
import HandS.TryMany
import HandS.Comp
import HandS.Dict
import HandS.Iter
import HandS.Zip
import HandS.Walk
import HandS.Conv
import HandS.NoneIn
import HandS.Sort
import HandS.SortRule
import HandS.CallSlots
import HandS.CallLocal
import HandS.ExcCtx
import HandS.Hot
import HandS.HotCalls
import HandS.SuiteRaise
import HandS.ExcSuper
import HandS.WordsDict
import HandS.Codes
import HandS.ExcInit
import HandS.ExcInitHot
import HandS.RaiseFrom
import KE.KAsSuite
import HandS.Small
import HandS.Style
import PySem.Challenge.RW_sharedstore_s01_answers
set_option Elab.async false
set_option linter.all false
set_option maxRecDepth 100000
set_option maxHeartbeats 2000000
/-! R1: defs by their promises in one bundle; calls, methods, makings by such bundles. -/
namespace Sh
open PySem PySem.Spec PyProof.Rows L2
/-- the exceptions of all defs here: as behind a call where nothing is handled -/
abbrev CXN (P : Program) (w : World) : CXT := L2N.CX P w
section
variable (P : Program) (w : World) (K : PySem.W.Frag) (mg : Str → Option Value) (base : Heap)
/-- the name x is a def that keeps sp; CX: how its exceptions lie -/
structure OkX (CX : CXT) (k : Nat) (x : Str) (ps : List Str) (sp : Sp) : Prop where
  ex : ∃ f fd, FnOk P w K mg base CX k f fd ps sp ∧ mg x = some (.ref f) ∧ PySem.W.keepIn K (.ref f) = true ∧ Binds K fd ps []
abbrev Ok (k : Nat) (x : Str) (ps : List Str) (sp : Sp) : Prop := OkX P w K mg base (L2N.CX P w) k x ps sp
/-- the method m of the class at C keeps sp -/
structure OkM (k : Nat) (C : Addr) (m : Str) (ps : List Str) (sp : Sp) : Prop where
  ex : ∃ f fd, FnOk P w K mg base (L2N.CX P w) k f fd ps sp ∧ Meth K C m f ∧ Binds K fd ps []
/-- the class named x, at C, is made by an __init__ that keeps sp -/
structure OkI (k : Nat) (x : Str) (C : Addr) (ps : List Str) (sp : Sp) : Prop where
  ex : ∃ f fd, FnOk P w K mg base (L2N.CX P w) k f fd ps sp ∧ Mk K C f ∧ mg x = some (.ref C) ∧ Binds K fd ps []
end
/-- f(e, ..): what it raises is wished for at the slots as they stand -/
def tCl (sp : Sp) (W : WX) (t : TA) : TE := fun σ H Q => t σ H fun vs H1 => sp vs H1 Q fun cls d H2 => W cls d σ H2
section
variable {X : Cx} {j k : Nat} {x m : Str} {ps : List Str} {sp : Sp} {W : WX} {C : Addr} {e o : Expr} {es : List Expr} {ta : TE} {t : TA} {p pos apos : Pos}
theorem pe_c (G : Ok X.prog X.w X.K X.mg X.base j x ps sp) (hr : Room k X.A) (tk : L2N.Takes X W) (ha : PA X (e :: es) t) (hj : j ≤ k := by decide) (hg : Gl X x := by rfl)
    (hdb : (x == ("__debug__" : Str)) = false := by decide) (he : starEach (e :: es) X.env = (false, eval e X.env) :: starEach es X.env := by rfl) (hpl : (backTo pos (starEach es X.env)).any (·.1) = false := by rfl) :
    PE X (.Call (.Name x p) (e :: es) [] pos) (tCl sp W t) := by
  obtain ⟨f, fd, F, hm, hk, hb⟩ := G.ex
  have z := pe_callSD (p := p) (pos := pos) (dvs := []) F (hr.mono hj) hg hm hk hb .nil (fun σ => L2N.passAt tk σ) ha hdb he hpl
  refine ⟨fun pins s σ H Q I h => z.run pins s σ H Q I ?_⟩
  have e0 : (fun (vs : List V) (H1 : Hp) => sp (vs ++ []) H1 Q (WE W σ)) = fun vs H1 => sp vs H1 Q (fun cls d H2 => W cls d σ H2) := by
    funext vs H1
    rw [List.append_nil]
  show t σ H (fun vs H1 => sp (vs ++ []) H1 Q (WE W σ))
  rw [e0]
  exact h
/-- f() -/
theorem pe_c0 (G : Ok X.prog X.w X.K X.mg X.base j x ps sp) (hr : Room k X.A) (tk : L2N.Takes X W) (hj : j ≤ k := by decide) (hg : Gl X x := by rfl) (hdb : (x == ("__debug__" : Str)) = false := by decide) :
    PE X (.Call (.Name x p) [] [] pos) (tCl sp W tNil) := by
  obtain ⟨f, fd, F, hm, hk, hb⟩ := G.ex
  refine ⟨fun pins s σ H Q I h => ?_⟩
  refine wpAny_Call_Name_kw (ld_glob I hg hm ?_ hdb)
  exact PySem.W.callWith_K0 I.kIn hk (run_fnS (us := []) (vs := []) F (hr.mono hj) hb (L2N.passAt tk σ) I .nil h)
/-- o.m(e, ..) -/
def tMt (C : Addr) (m : Str) (sp : Sp) (W : WX) (ta : TE) (t : TA) : TE := fun σ H Q => ta σ H fun x H1 => ∃ a dx fs, x = .ref a ∧ H1 a = some (.ins C dx fs) ∧ fs.lookup m = none ∧
  t σ H1 fun vs H2 => sp (x :: vs) H2 Q fun cls d H3 => W cls d σ H3
theorem pe_m {pl : Sem Bool} (he : PE X o ta) (c : Cls X.K C) (G : OkM X.prog X.w X.K X.mg X.base j C m ps sp) (hr : Room k X.A) (tk : L2N.Takes X W) (ha : PA X (e :: es) t) (hj : j ≤ k := by decide)
    (hst : starEach (e :: es) X.env = (false, eval e X.env) :: starEach es X.env := by rfl) (hpl : (backTo pos (starEach es X.env)).any (·.1) = false := by rfl)
    (ht : eval (.Call (.Attribute o m apos) (e :: es) [] pos) X.env = (do
      let ov ← eval o X.env
      standAt apos.atName
      let (f, first) ← holding [ov] (getMethod ov m pl)
      callWith pos f first (backTo pos (starEach (e :: es) X.env)) (backToKw pos (keywordEach [] X.env))) := by rfl) :
    PE X (.Call (.Attribute o m apos) (e :: es) [] pos) (tMt C m sp W ta t) := by
  obtain ⟨f, fd, F, hm, hb⟩ := G.ex
  refine ⟨fun pins s σ H Q I h => ?_⟩
  refine PySem.W.methodCall_KW (pl := pl) (thn (he.run pins s σ H _ I h) fun u s1 hh => ?_) ht
  obtain ⟨x, H1, I1, rx, a, dx, fs, ex, ea, l, q⟩ := hh
  subst ex
  obtain rfl : u = Value.ref a := rx
  refine getmeth_ok I1 ea c hm l ?_
  refine PySem.W.callWith_K (first := [.ref a]) (h₀ := X.base) I.ok.mod.kin hm.kp (thn (ha.run pos pins s1 σ H1 _ I1 q) fun us s2 hh2 => ?_) hst hpl
  obtain ⟨vs, H2, I2, r, q2⟩ := hh2
  exact ⟨I2.kIn, run_fnS (us := .ref a :: us) (vs := .ref a :: vs) F (hr.mono hj) hb (L2N.passAt tk σ) I2 (.cons rfl r) q2⟩
/-- o.m() -/
theorem pe_m0 {pl : Sem Bool} (he : PE X o ta) (c : Cls X.K C) (G : OkM X.prog X.w X.K X.mg X.base j C m ps sp) (hr : Room k X.A) (tk : L2N.Takes X W) (hj : j ≤ k := by decide)
    (ht : eval (.Call (.Attribute o m apos) [] [] pos) X.env = (do
      let ov ← eval o X.env
      standAt apos.atName
      let (f, first) ← holding [ov] (getMethod ov m pl)
      callWith pos f first (backTo pos (starEach [] X.env)) (backToKw pos (keywordEach [] X.env))) := by rfl) :
    PE X (.Call (.Attribute o m apos) [] [] pos) (tMt C m sp W ta tNil) := by
  obtain ⟨f, fd, F, hm, hb⟩ := G.ex
  refine ⟨fun pins s σ H Q I h => ?_⟩
  refine PySem.W.methodCall_KW (pl := pl) (thn (he.run pins s σ H _ I h) fun u s1 hh => ?_) ht
  obtain ⟨x, H1, I1, rx, a, dx, fs, ex, ea, l, q⟩ := hh
  subst ex
  obtain rfl : u = Value.ref a := rx
  refine getmeth_ok I1 ea c hm l ?_
  exact PySem.W.callWith_K0 (first := [.ref a]) I1.kIn hm.kp (run_fnS (us := [.ref a]) (vs := [.ref a]) F (hr.mono hj) hb (L2N.passAt tk σ) I1 (.cons rfl .nil) q)
/-- C(e, ..): an __init__ that raises nothing -/
def tNw (C : Addr) (sp : Sp) (t : TA) : TE := fun σ H Q => t σ H fun vs H1 => ∀ x dx, H1 x = none → H1 dx = none → dx ≠ x →
  sp (.ref x :: vs) (upd (upd H1 dx (.own x)) x (.ins C dx [])) (fun v H2 => v = .non ∧ Q (.ref x) H2) fun _ _ _ => False
theorem pass_none : Passes (L2N.CX X.prog X.w) X fun _ _ _ => False := fun _ _ _ _ _ _ _ h => by
  obtain ⟨a, B, H', cls, d, r⟩ := h
  exact r.2.2.2.2.2.2.2.elim
theorem pe_i (G : OkI X.prog X.w X.K X.mg X.base j x C ps sp) (hr : Room (k + 1) X.A) (ha : PA X (e :: es) t) (hj : j ≤ k := by decide) (hg : Gl X x := by rfl)
    (hdb : (x == ("__debug__" : Str)) = false := by decide) (he : starEach (e :: es) X.env = (false, eval e X.env) :: starEach es X.env := by rfl) (hpl : (backTo pos (starEach es X.env)).any (·.1) = false := by rfl) :
    PE X (.Call (.Name x p) (e :: es) [] pos) (tNw C sp t) := by
  obtain ⟨f, fd, F, M, hm, hb⟩ := G.ex
  have z := pe_make (p := p) (pos := pos) (dvs := []) M (F.mono hj) hr hg hm hb .nil pass_none ha hdb he hpl
  refine ⟨fun pins s σ H Q I h => z.run pins s σ H Q I ?_⟩
  have e0 : ∀ (vs : List V), vs ++ [] = vs := fun vs => List.append_nil vs
  show t σ H (fun vs H1 => ∀ x dx, H1 x = none → H1 dx = none → dx ≠ x → sp (.ref x :: (vs ++ [])) _ _ _)
  simp only [e0]
  exact h
theorem pe_i0 (G : OkI X.prog X.w X.K X.mg X.base j x C ps sp) (hr : Room (k + 1) X.A) (hj : j ≤ k := by decide) (hg : Gl X x := by rfl) (hdb : (x == ("__debug__" : Str)) = false := by decide) :
    PE X (.Call (.Name x p) [] [] pos) (tNw C sp tNil) := by
  obtain ⟨f, fd, F, M, hm, hb⟩ := G.ex
  exact pe_make0 (p := p) (pos := pos) (dvs := []) M (F.mono hj) hr hg hm hb .nil pass_none hdb
end
section
variable {P : Program} {w : World} {K : PySem.W.Frag} {mg : Str → Option Value} {base : Heap}
/-- a def of the text -/
structure Df (K : PySem.W.Frag) (mg : Str → Option Value) (x : Str) (st : Stmt) (ps : List Str) : Prop where
  ex : ∃ f fd, mg x = some (.ref f) ∧ Fun K x x st f fd ∧ Binds K fd ps []
/-- a method of the text -/
structure Dm (K : PySem.W.Frag) (C : Addr) (m qual : Str) (st : Stmt) (ps : List Str) : Prop where
  ex : ∃ f fd, Meth K C m f ∧ Fun K m qual st f fd ∧ Binds K fd ps []
/-- an __init__ of the text -/
structure Di (K : PySem.W.Frag) (mg : Str → Option Value) (x : Str) (C : Addr) (qual : Str) (st : Stmt) (ps : List Str) : Prop where
  ex : ∃ f fd, Mk K C f ∧ mg x = some (.ref C) ∧ Fun K "__init__" qual st f fd ∧ Binds K fd ps []
/-- a body's reading where the exceptions' context is None -/
theorem fun_okN {x qual : Str} {st : Stmt} {f : Addr} {fd : FuncData} {N ps : List Str} {k : Nat} {sp : Sp} (F : Fun K x qual st f fd) (S : FnScope N ps (defScope st)) (len : ∀ vs H Q E, sp vs H Q E → vs.length = ps.length)
    (hbody : ∀ (cdv : Value) (A : Around) (outer : List Env) (s : Shared) (H : Hp) (vs : List V) (Q : VK) (E : XK), Room k (A.deeper (envOfC qual (defScope st) s.heap.objs.size f cdv)) → sp vs H Q E →
      ∃ t, PSs (cxOf (L2N.CX P w) P w K mg base N qual (defScope st) f cdv A outer s H E) (defBody st) t ∧ t { nx := fun _ H' => Q .non H', rt := Q } (start N vs) H) : FnOk P w K mg base (L2N.CX P w) (k + 1) f fd ps sp := by
  obtain ⟨oc, od, kV, doc, pm, an, cdv, ct, osl, rfl, lk, hcd⟩ := F.ex
  exact fn_of lk hcd S len fun A outer s H vs Q E hr hsp => hbody cdv A outer s H vs Q E hr hsp
theorem Df.ok {x : Str} {st : Stmt} {N ps : List Str} {k : Nat} {sp : Sp} (D : Df K mg x st ps) (S : FnScope N ps (defScope st)) (len : ∀ vs H Q E, sp vs H Q E → vs.length = ps.length)
    (hbody : ∀ (f : Addr) (cdv : Value) (A : Around) (outer : List Env) (s : Shared) (H : Hp) (vs : List V) (Q : VK) (E : XK), Room k (A.deeper (envOfC x (defScope st) s.heap.objs.size f cdv)) → sp vs H Q E →
      ∃ t, PSs (cxOf (L2N.CX P w) P w K mg base N x (defScope st) f cdv A outer s H E) (defBody st) t ∧ t { nx := fun _ H' => Q .non H', rt := Q } (start N vs) H) : Ok P w K mg base (k + 1) x ps sp := by
  obtain ⟨f, fd, hm, F, hb⟩ := D.ex
  exact ⟨f, fd, fun_okN F S len fun cdv A outer s H vs Q E hr h => hbody f cdv A outer s H vs Q E hr h, hm, F.kp, hb⟩
theorem Dm.ok {C : Addr} {m qual : Str} {st : Stmt} {N ps : List Str} {k : Nat} {sp : Sp} (D : Dm K C m qual st ps) (S : FnScope N ps (defScope st)) (len : ∀ vs H Q E, sp vs H Q E → vs.length = ps.length)
    (hbody : ∀ (f : Addr) (cdv : Value) (A : Around) (outer : List Env) (s : Shared) (H : Hp) (vs : List V) (Q : VK) (E : XK), Room k (A.deeper (envOfC qual (defScope st) s.heap.objs.size f cdv)) → sp vs H Q E →
      ∃ t, PSs (cxOf (L2N.CX P w) P w K mg base N qual (defScope st) f cdv A outer s H E) (defBody st) t ∧ t { nx := fun _ H' => Q .non H', rt := Q } (start N vs) H) : OkM P w K mg base (k + 1) C m ps sp := by
  obtain ⟨f, fd, hm, F, hb⟩ := D.ex
  exact ⟨f, fd, fun_okN F S len fun cdv A outer s H vs Q E hr h => hbody f cdv A outer s H vs Q E hr h, hm, hb⟩
theorem Di.ok {x : Str} {C : Addr} {qual : Str} {st : Stmt} {N ps : List Str} {k : Nat} {sp : Sp} (D : Di K mg x C qual st ps) (S : FnScope N ps (defScope st)) (len : ∀ vs H Q E, sp vs H Q E → vs.length = ps.length)
    (hbody : ∀ (f : Addr) (cdv : Value) (A : Around) (outer : List Env) (s : Shared) (H : Hp) (vs : List V) (Q : VK) (E : XK), Room k (A.deeper (envOfC qual (defScope st) s.heap.objs.size f cdv)) → sp vs H Q E →
      ∃ t, PSs (cxOf (L2N.CX P w) P w K mg base N qual (defScope st) f cdv A outer s H E) (defBody st) t ∧ t { nx := fun _ H' => Q .non H', rt := Q } (start N vs) H) : OkI P w K mg base (k + 1) x C ps sp := by
  obtain ⟨f, fd, hm, hx, F, hb⟩ := D.ex
  exact ⟨f, fd, fun_okN F S len fun cdv A outer s H vs Q E hr h => hbody f cdv A outer s H vs Q E hr h, hm, hx, hb⟩
end
end Sh

set_option maxHeartbeats 4000000
/-! R2: own exception classes over Exception, whose __init__ calls Exception.__init__ and stores one field. -/
namespace Sh
open PySem PySem.Spec PyProof.Rows L2
abbrev ebm : List Value := [.type "Exception", .type "BaseException", .type "object"]
/-- what the top has left of the class x, at C: its __init__ at fI, its one field f -/
structure EC (K : PySem.W.Frag) (mg : Str → Option Value) (x f : Str) (C fI : Addr) : Prop where
  gC : mg x = some (.ref C)
  cls : ∃ nm q N bs sn sub ab col dd k0 k1 k2 k3 k5, K.lookup C = some (excClassObj nm q C N bs ebm true sn sub ab col dd k0 k1 k2 k3 k5 "Exception.__new__")
  sa : PySem.W.findIn K (.ref C) "__setattr__" = some (some (.builtin "object.__setattr__"))
  ga : PySem.W.findIn K (.ref C) "__getattribute__" = some (some (.builtin "BaseException.__getattribute__"))
  gg : PySem.W.findIn K (.ref C) "__getattr__" = some none
  no : PySem.W.findIn K (.ref C) f = some none
  iC : PySem.W.findIn K (.ref C) "__init__" = some (some (.ref fI))
  tC : PySem.W.typeIn K (.ref fI) = some (.type "function")
  kC : PySem.W.keepIn K (.ref C) = true
  exC : PySem.W.subIn K (.ref C) (.type "BaseException") = some true
  tyC : PySem.W.typeIn K (.ref C) = some (.type "type")
  hdC : PySem.W.hasDictIn K C = true
  te : PySem.W.exmOne K (.ref C) (.ref C) = some true
theorem typ_Exc : typeOf (.type "Exception") = pure (.type "type") := by kernel_rfl
theorem upd_id {H : Hp} {a : Addr} {o : HO} (e : H a = some o) : upd H a o = H := by
  funext b
  by_cases z : b = a
  · rw [z, upd_same, e]
  · exact upd_ne z
section
variable {X : Cx} {pins : List (Addr × Obj)} {σ : L2.St} {H : Hp} {s : Shared} {x f : Str} {a C fI : Addr} {y : V} {u : Value} {Q : Unit → Shared → Prop} {E : Value → Shared → Prop} {A : Around}
theorem EC.data (T : EC X.K X.mg x f C fI) : ∃ cd, PySem.W.clsIn X.K C = some cd ∧ cd.mro = .ref C :: PySem.ESX.exTail ∧ cd.hasDict = true := by
  obtain ⟨nm, q, N, bs, sn, sub, ab, col, dd, k0, k1, k2, k3, k5, e⟩ := T.cls
  refine ⟨{ name := nm, bases := bs, mro := .ref C :: ebm, ns := N, qualname := q, hasDict := true, slotNames := sn, subclasses := sub, abstract := ab, collection := col, hasDel := false }, ?_, rfl, rfl⟩
  unfold PySem.W.clsIn
  rw [e] <;> rfl
/-- self.f = y of an exception that is being made -/
theorem est_ok (T : EC X.K X.mg x f C fI) (I : Inv X pins σ H s) (e : H a = some (exo a C none)) (r : RelV y u)
    (k : ∀ dx s', H dx = none → dx ≠ a → Inv X pins σ (upd (upd H dx (exd dx [(f, y)])) a (exo a C (some dx))) s' → Q () s') : wpAny (model X.prog X.w) A (setAttr (.ref a) f u) Q E s := by
  obtain ⟨cd, hcd, hm, hh⟩ := T.data
  obtain ⟨t1, ho⟩ := exo_at I.hok e
  obtain ⟨hp, gs, dr, tk, os⟩ := s
  refine PySem.W.set_plain I.kIn (ox := { cls := .ref C, dict := none, data := .fields #[.ref t1, .none, .none, .none, .bool false, .none] }) (od := none) ⟨ho, rfl, rfl, trivial⟩ T.sa ?_
  refine PySem.ESX.osa_new I.kIn ho hcd hm hh T.no fun h2 tk2 dx kp dn dne hx hn => ?_
  have fr : H dx = none := I.hok.fresh dn
  have old : ∀ {b : Addr} {o : Obj}, hp.get? b = some o → b ≠ dx := fun z => Nat.ne_of_lt (Nat.lt_of_lt_of_le (Heap.lt_size z) dn)
  have nota : ∀ {b : Addr}, H b = none → b ≠ a := fun n z => by
    rw [z, e] at n
    cases n
  have U : Un X.fs [] H (upd (upd H dx (exd dx [(f, y)])) a (exo a C (some dx))) hp h2 := {
    keep := fun b o z n _ _ => kp b o (nota n) z
    slot := fun b o z n _ _ => ⟨o.slots, kp b o (nota n) z⟩
    free := fun b o z n _ => (upd_ne (nota n)).trans ((upd_ne (old z)).trans n)
    there := fun b o z _ => by
      by_cases hb : b = a
      · exact ⟨_, hb ▸ hx⟩
      · exact ⟨o, kp b o hb z⟩
    tups := fun b xs z => (upd_ne (at_ne e z exo_tup)).trans ((upd_ne (ne_of_none z fr)).trans z)
    frzs := fun b o v z => (upd_ne (at_ne e z exo_frz)).trans ((upd_ne (ne_of_none z fr)).trans z)
    tbls := fun b ps z => ⟨#[], by rw [upd_ne (at_ne e z exo_tbl), upd_ne (ne_of_none z fr), z]; simp⟩ }
  refine k dx _ fr dne (I.un (t' := tk2) U fun b o z => ?_)
  by_cases hb : b = a
  · subst hb
    obtain rfl := Option.some.inj (upd_same.symm.trans z)
    exact exo_ok hx
  by_cases hd : b = dx
  · subst hd
    obtain rfl := Option.some.inj (upd_same.symm.trans ((upd_ne hb).symm.trans z))
    exact exd_ok hn (relO_put (fs := []) r fun g => True.intro)
  · have z0 : H b = some o := (upd_ne hd).symm.trans ((upd_ne hb).symm.trans z)
    refine (I.hok b o z0).stay (fun c v hc w => kp c v ?_ w) (fun c hc => ?_) fun c xs hc => ?_
    · rcases hc with hc | hc
      · exact hc ▸ hb
      · exact at_ne e hc exo_own
    · exact (upd_ne (at_ne e hc exo_own)).trans ((upd_ne (ne_of_none hc fr)).trans hc)
    · exact (upd_ne (at_ne e hc exo_tup)).trans ((upd_ne (ne_of_none hc fr)).trans hc)
/-- Exception.__init__(self, ..): what it lays is not told -/
theorem einit_ok {us : List Value} {R : Value → Shared → Prop} (T : EC X.K X.mg x f C fI) (I : Inv X pins σ H s) (e : H a = some (exo a C none)) (hl : us.length ≤ sizeLine) (k : ∀ s', Inv X pins σ H s' → R .none s') :
    wpAny (model X.prog X.w) A (call (.builtin "Exception.__init__") (.ref a :: us)) R E s := by
  obtain ⟨nm, q, N, bs, sn, sub, ab, col, dd, k0, k1, k2, k3, k5, hC⟩ := T.cls
  obtain ⟨t1, ho⟩ := exo_at I.hok e
  obtain ⟨hp, gs, dr, tk, os⟩ := s
  refine wpAny_call (PySem.HandSPX.init_base F.excBase_Exception (fun _ => rfl) (I.kIn _ _ hC) ho hl fun h2 t2 kp hx => ?_)
  have J := I.write (t' := tk) (x := a) (e := a) (o := exo a C none) (by rw [e]; exact True.intro) (.inl rfl) kp ⟨_, hx⟩ (exo_ok hx)
  rw [upd_id e] at J
  exact k _ J
end
/-! ### readings and rules -/
/-- Exception.__init__(self, ..) -/
def tEi (K : PySem.W.Frag) (mg : Str → Option Value) (ta : TA) : TE := fun σ H Q => ta σ H fun vs H1 => ∃ (x f : Str) (a C fI : Addr) (ws : List V), vs = .ref a :: ws ∧ ws.length ≤ 1000 ∧ EC K mg x f C fI ∧ H1 a = some (exo a C none) ∧ Q .non H1
/-- self.f = e, the first store -/
def tEst (K : PySem.W.Frag) (mg : Str → Option Value) (f : Str) (to te : TE) : TS := fun D σ H => te σ H fun y H1 => to σ H1 fun v H2 => ∃ (x : Str) (a C fI : Addr), v = .ref a ∧ EC K mg x f C fI ∧ H2 a = some (exo a C none) ∧
  ∀ dx, H2 dx = none → dx ≠ a → D.nx σ (upd (upd H2 dx (exd dx [(f, y)])) a (exo a C (some dx)))
/-- C(e, ..), C's own __init__ keeping sp -/
def tEmk (C : Addr) (sp : Sp) (ta : TA) : L2.St → Hp → XK → Prop := fun σ H Q => ta σ H fun vs H1 => vs.length ≤ 1000 ∧ ∀ a, H1 a = none → sp (.ref a :: vs) (upd H1 a (exo a C none))
  (fun v H2 => v = .non ∧ ∃ (d : Addr) (fs : List (Str × V)), H2 a = some (exo a C (some d)) ∧ H2 d = some (exd d fs) ∧ H1 d = none ∧ Q (.ref C) (some d) (upd (del H2 a) d (.xd fs))) (fun _ _ _ => False)
section
variable {X : Cx} {o e : Expr} {es : List Expr} {to te : TE} {ta : TA} {f : Str} {p p' p1 p2 pos : Pos}
theorem pe_ei {pl : Sem Bool} (hm : X.mg "Exception" = none) (vE : PySem.W.findCls X.K (.type "Exception") (.type "type") "__init__" = some (.val (.builtin "Exception.__init__"))) (ha : PA X (e :: es) ta) (hg : Gl X "Exception" := by rfl)
    (hc : eval (.Call (.Attribute (.Name "Exception" p1) "__init__" p2) (e :: es) [] pos) X.env = (do
      let ov ← eval (.Name "Exception" p1) X.env
      standAt p2.atName
      let (f, first) ← holding [ov] (getMethod ov "__init__" pl)
      callWith pos f first (backTo pos (starEach (e :: es) X.env)) (backToKw pos (keywordEach [] X.env))) := by rfl)
    (he : starEach (e :: es) X.env = (false, eval e X.env) :: starEach es X.env := by rfl) (hpl : (backTo pos (starEach es X.env)).any (·.1) = false := by rfl) :
    PE X (.Call (.Attribute (.Name "Exception" p1) "__init__" p2) (e :: es) [] pos) (tEi X.K X.mg ta) := by
  refine ⟨fun pins s σ H Q I h => ?_⟩
  refine PySem.W.methodCall_KW (ld_blt I hg hm PyProof.Rows.Boot.«Exception» ?_ (by decide) (by decide)) hc
  obtain ⟨m, fr⟩ := I.fr
  refine PySem.W.method_type fr I.ok.mod.kin typ_Exc (by decide +kernel) vE (by decide +kernel) ?_
  show wpAny _ _ (callWith pos (Value.builtin "Exception.__init__") [] (backTo pos (starEach (e :: es) X.env)) []) _ _ _
  refine PyProof.Rows.callWith_method1 (thn (ha.run pos pins _ σ H _ (I.tok _) h) fun us s1 hh => ?_) he hpl
  obtain ⟨vs, H1, I1, r1, x, f, a, C, fI, ws, rfl, hl, T, ea, q⟩ := hh
  cases r1 with
  | @cons _ u0 _ ur ra rw' =>
    obtain rfl : u0 = Value.ref a := ra
    have hlen : ur.length ≤ sizeLine := by
      rw [← Paired.length rw', sizeLine_eq]
      omega
    exact einit_ok T I1 ea hlen fun s' J => ⟨.non, H1, J, rfl, q⟩
theorem ps_est (ho : PE X o to) (he : PE X e te) (hs : swapsWith e (some (.Attribute o f p')) pos.line X.env = pure false := by rfl) : PS X (.Assign [.Attribute o f p'] e pos) (tEst X.K X.mg f to te) := by
  refine ⟨fun pins s σ H D I h => ?_⟩
  refine plainObj_wpAny_Assign_Attribute (thn (he.run pins s σ H _ I h) fun v s1 hh => ?_) hs
  obtain ⟨y, H1, I1, r1, q1⟩ := hh
  refine thn (ho.run pins s1 σ H1 _ I1 q1) fun u s2 hh => ?_
  obtain ⟨v2, H2, I2, r2, x, a, C, fI, rfl, T, ea, q⟩ := hh
  obtain rfl : u = Value.ref a := r2
  exact est_ok T I2 ea r1 fun dx s' n ne J => ⟨σ, _, J, q dx n ne⟩
/-- the making, from the run of its __init__ -/
theorem emk_core {pins : List (Addr × Obj)} {σ : L2.St} {H : Hp} {s : Shared} {Q : XK} {x g : Str} {C fI : Addr} {us : List Value} {vs : List V} {sp : Sp} {CX : CXT} (T : EC X.K X.mg x g C fI) (I : Inv X pins σ H s) (r : Vals vs us)
    (hx : Passes CX X (fun _ _ _ => False)) (hz : vs.length ≤ 1000)
    (run : ∀ (a : Addr) (s2 : Shared) (Q2 : VK), Inv X pins σ (upd H a (exo a C none)) s2 → sp (.ref a :: vs) (upd H a (exo a C none)) Q2 (fun _ _ _ => False) →
      codeAny (model X.prog X.w) (X.A.under (.builtin "type.__call__" ⟨.ref C :: us, []⟩)) (.call (.ref fI) ⟨.ref a :: us, []⟩) (CR CX X.stack X.prog X.w (upd H a (exo a C none)) s2 Q2 (fun _ _ _ => False)) s2)
    (q : ∀ a, H a = none → sp (.ref a :: vs) (upd H a (exo a C none)) (fun v H2 => v = .non ∧ ∃ (d : Addr) (fs : List (Str × V)), H2 a = some (exo a C (some d)) ∧ H2 d = some (exd d fs) ∧ H d = none ∧ Q (.ref C) (some d) (upd (del H2 a) d (.xd fs))) (fun _ _ _ => False)) :
    wpAny (model X.prog X.w) X.A (call (.ref C) us) (fun u s' => L2N.MkP X pins σ Q u s' ∧ L2H.Six u s') X.xe s := by
  obtain ⟨nm, q0, N, bs, sn, sub, ab, col, dd, k0, k1, k2, k3, k5, hC⟩ := T.cls
  obtain ⟨hp, gs, dr, tk, os⟩ := s
  have up1 : hp.objs.size ≤ hp.objs.size + 1 := Nat.le_add_right _ 1
  have fr : H (hp.objs.size + 1) = none := I.hok.fresh up1
  have kk : ∀ b o, hp.get? b = some o → ((hp.push (PySem.W.kdv_tup us)).push (PySem.HandSPX.excO C hp.objs.size)).get? b = some o := fun b o z => Heap.get?_push_of_some _ (Heap.get?_push_of_some _ z)
  have at1 : ((hp.push (PySem.W.kdv_tup us)).push (PySem.HandSPX.excO C hp.objs.size)).get? (hp.objs.size + 1) = some (PySem.HandSPX.excO C hp.objs.size) := by heap_get
  have I2 : Inv X pins σ (upd H (hp.objs.size + 1) (exo (hp.objs.size + 1) C none)) ⟨(hp.push (PySem.W.kdv_tup us)).push (PySem.HandSPX.excO C hp.objs.size), gs, dr, tk, os⟩ :=
    I.laid (a := hp.objs.size + 1) (t' := tk) (h' := (hp.push (PySem.W.kdv_tup us)).push (PySem.HandSPX.excO C hp.objs.size)) (o := exo (hp.objs.size + 1) C none) kk up1 (exo_ok at1)
  have hus : us.length ≤ sizeLine := by
    rw [← Paired.length r, sizeLine_eq]
    omega
  refine wpAny_call (PySem.HandSPX.call_own F.excBase_Exception (fun _ => rfl) (I.kIn _ _ hC) (PySem.W.looks_findIn I.kIn T.iC) (fun self => PySem.W.bind_fn I.kIn self T.tC) hus
    (codeAny_mono (run _ _ _ I2 (q _ fr)) fun res s' z => ?_))
  cases res with
  | error er => exact hx pins σ _ _ er s' I2 z
  | ok fl =>
    cases fl with
    | next => exact z.elim
    | brk => exact z.elim
    | cont => exact z.elim
    | ret u =>
      obtain ⟨v, H2, os2, bare2, un2, hok2, rv, rfl, d, fs, ea, ed, hd1, q2⟩ := z
      obtain ⟨h2, g2, d2, t2, os'⟩ := s'
      obtain ⟨t0, G, J, kG, ge, hoe, na⟩ := mk_end0 (d2 := d2) (t2 := t2) I up1 kk un2 hok2 os2 bare2 ea ed hd1
      refine ⟨rv, ⟨hp.objs.size + 1, _, _, ⟨G, g2, d2, t2, os'⟩, _, .ref C, some d, rfl, J, kG, ge, hoe, ⟨rfl, rfl, fun vs hv => ?_⟩, rfl, rfl, na, rfl, bare2, raises_own T.exC T.tyC, q2⟩, fun a oe vs ea2 hg2 hd2 => ?_⟩
      · cases hv
        rfl
      · cases ea2
        have z2 := hoe.symm.trans hg2
        cases z2
        cases hd2
        show (4 : Nat) < 6
        decide
variable {x g : Str} {C fI : Addr} {CX : CXT} {k : Nat} {fd : FuncData} {ps : List Str} {sp : Sp}
/-- C(e, ..) where nothing is handled -/
theorem pmk_e (T : EC X.K X.mg x g C fI) (F1 : FnOk X.prog X.w X.K X.mg X.base CX k fI fd ps sp) (hr : Room (k + 1) X.A) (hb : Binds X.K fd ps []) (hx : Passes CX X (fun _ _ _ => False)) (ha : PA X (e :: es) ta) (hg : Gl X x := by rfl)
    (hdb : (x == ("__debug__" : Str)) = false := by decide) (he : starEach (e :: es) X.env = (false, eval e X.env) :: starEach es X.env := by rfl) (hpl : (backTo pos (starEach es X.env)).any (·.1) = false := by rfl) :
    L2N.PMk X (.Call (.Name x p) (e :: es) [] pos) (tEmk C sp ta) := by
  intro pins s σ H Q I h
  refine wpAny_Call_Name_kw (ld_glob I hg T.gC ?_ hdb)
  refine PySem.W.callWith_K (h₀ := X.base) I.ok.mod.kin T.kC (thn (ha.run pos pins s σ H _ I h) fun us s1 hh => ?_) he hpl
  obtain ⟨vs, H1, I1, r1, hz, q1⟩ := hh
  refine ⟨I1.kIn, ?_⟩
  show wpAny _ _ (call (.ref C) us) _ _ _
  refine thn (emk_core T I1 r1 hx hz (fun a s2 Q2 I2 hq => ?_) q1) fun _ _ z => z.1
  have r2 : Vals (V.ref a :: vs) (Value.ref a :: us) := .cons rfl r1
  have hl : (Value.ref a :: us ++ []).length = ps.length := by
    have z := r2.length
    rw [F1.len _ _ _ _ hq] at z
    rw [List.append_nil]
    exact z.symm
  have b2 := hb _ (Value.ref a :: us) I2.kIn hl
  rw [List.append_nil] at b2
  exact F1.run _ X.stack _ _ ⟨Value.ref a :: us, []⟩ (Value.ref a :: us) _ _ _ (hr.make C us []) (I2.env0.make C us []) b2 r2 hq
/-- C(e, ..) in an except suite -/
theorem pmk_eH (T : EC X.K X.mg x g C fI) (F1 : L2H.FnH X.prog X.w X.K X.mg X.base CX k fI fd ps sp) (hr : L2H.RoomH (k + 1) X.A) (hot : L2H.HotC X) (hb : Binds X.K fd ps []) (hx : Passes CX X (fun _ _ _ => False)) (ha : PA X (e :: es) ta) (hg : Gl X x := by rfl)
    (hdb : (x == ("__debug__" : Str)) = false := by decide) (he : starEach (e :: es) X.env = (false, eval e X.env) :: starEach es X.env := by rfl) (hpl : (backTo pos (starEach es X.env)).any (·.1) = false := by rfl) :
    L2N.PMk X (.Call (.Name x p) (e :: es) [] pos) (tEmk C sp ta) := by
  intro pins s σ H Q I h
  obtain ⟨pn, h1, hpn⟩ := hot
  refine wpAny_Call_Name_kw (ld_glob I hg T.gC ?_ hdb)
  refine PySem.W.callWith_K (h₀ := X.base) I.ok.mod.kin T.kC (thn (ha.run pos pins s σ H _ I h) fun us s1 hh => ?_) he hpl
  obtain ⟨vs, H1, I1, r1, hz, q1⟩ := hh
  refine ⟨I1.kIn, ?_⟩
  show wpAny _ _ (call (.ref C) us) _ _ _
  refine thn (emk_core T I1 r1 hx hz (fun a s2 Q2 I2 hq => ?_) q1) fun _ _ z => z.1
  have r2 : Vals (V.ref a :: vs) (Value.ref a :: us) := .cons rfl r1
  have hl : (Value.ref a :: us ++ []).length = ps.length := by
    have z := r2.length
    rw [F1.len _ _ _ _ hq] at z
    rw [List.append_nil]
    exact z.symm
  have b2 := hb _ (Value.ref a :: us) I2.kIn hl
  rw [List.append_nil] at b2
  obtain ⟨P1, P2, P3, P4, P5⟩ := I2.pin pn (List.mem_append_left _ hpn)
  have hpin : L2H.PinOk X.stack (upd H1 a (exo a C none)) s2 pn := ⟨P1, P2, fun hm => (List.mem_cons.mp (I2.stkSub pn.1 hm)).elim P3 P4, P5⟩
  exact F1.run _ X.stack _ _ ⟨Value.ref a :: us, []⟩ (Value.ref a :: us) _ _ _ pn (L2H.RoomH.make hr C us []) ⟨h1.1, h1.2⟩ hpin (I2.env0.make C us []) b2 r2 hq
end
/-- x.f in the suite that holds the exception at a -/
def tErd (C : Addr) (f : Str) (a : Addr) (cls : Value) (d : Option Addr) (te : TE) : TE := fun σ H Q => te σ H fun x H1 => x = .ref a ∧ cls = .ref C ∧ ∃ (dd : Addr) (fs : List (Str × V)) (v : V), d = some dd ∧ H1 dd = some (.xd fs) ∧ fs.lookup f = some v ∧ Q v H1
theorem pe_erd {X : Cx} {x f : Str} {C fI a : Addr} {oe : Obj} {cls : Value} {d : Option Addr} {e : Expr} {te : TE} {pos : Pos} (T : EC X.K X.mg x f C fI) (hp : (a, oe) ∈ X.pn) (hz : Zc cls d oe) (hf : ∃ vs, oe.data = .fields vs) (he : PE X e te)
    (hb : attributeBase e f X.env (eval e X.env) = eval e X.env := by rfl) : PE X (.Attribute e f pos) (tErd C f a cls d te) := by
  refine ⟨fun pins s σ H Q I h => ?_⟩
  refine attr_of hb (thn (he.run pins s σ H _ I h) fun u s1 hh => ?_)
  obtain ⟨y, H1, I1, ry, rfl, rfl, dd, fs, v, rfl, ed, l, q⟩ := hh
  obtain rfl : u = Value.ref a := ry
  obtain ⟨ha, _⟩ := I1.pin (a, oe) (List.mem_append_left _ hp)
  obtain ⟨vs, hd⟩ := hf
  have hx : ObjOk X.prog X.w H1 s1.heap dd (.xd fs) := I1.hok dd _ ed
  obtain ⟨mA, hns, hr⟩ := hx
  obtain ⟨od, ho, hl⟩ := lookIn_ns hns
  obtain ⟨w, hw, rw'⟩ := RelO.some_of (v := v) (o := mA f) (by rw [← l]; exact hr f)
  have J : PySem.W.InstAt s1.heap a oe C (some od) := ⟨ha, hz.1, by unfold PySem.W.notCls; rw [hd] <;> rfl, by rw [hz.2]; exact ho⟩
  exact PySem.HandSPX.exc_get I1.kIn J T.ga T.gg T.exC (PySem.W.findObj_own T.hdC T.no rfl (by rw [hl, hw])) (handed_of rw') ⟨v, H1, I1.tok _, rw', q⟩
end Sh

set_option maxHeartbeats 4000000
/-! R3: try: body, except X as n: a suite that raises out of the try. -/
namespace Sh
open PySem PySem.Spec PyProof.Rows L2
section
variable {X : Cx} {pins : List (Addr × Obj)} {σ : L2.St} {H : Hp} {sI s3 : Shared} {B : Heap}
/-- the handler's name goes while an exception is in the air: the state without it has lost the name, too -/
theorem gone_air {M : Model} {A : Around} {E : Value → Shared → Prop} {i : Nat} {n : Str} {pos : Pos} {Q : Unit → Shared → Prop} (I : Inv X pins σ H sI)
    (nb : ∀ b o, sI.heap.get? b = some o → b ∉ frs X.stack → B.get? b = some o) (st : B.StaysIn s3.heap) (ff : s3.heap.FunFrames B X.stack) (up : sI.heap.UpToSlots s3.heap) (os : s3.os = sI.os) (ag : AllBare s3.gens)
    (hs : X.stack = X.env :: X.outer) (hf : X.env.frame = some X.env.locals) (hN : X.N.Nodup) (hi : X.N[i]? = some n) (hl : X.env.kindOf n = some .local)
    (h : ∀ (s4 : Shared) (G : Heap) (m : Str → Option Value), s4.os = s3.os → s4.gens = s3.gens → Heap.SameBut X.env.locals s3.heap s4.heap → s4.heap.Ns X.env.locals m →
      Inv X pins (σ.set i none) H { s4 with heap := G } → (∀ b o, G.get? b = some o → s4.heap.get? b = some o) → (∀ b o, G.get? b = some o → b ∉ frs X.stack → B.get? b = some o) → Q () s4) :
    wpAny M A (do bindName X.env n .none; unbindBehindTheSuite X.env n pos) Q E s3 := by
  have J := I.landed nb st up os ag
  obtain ⟨m, hn, hlk⟩ := id J.loc
  have hk : (X.env.scope.kind == .class || (X.env.scope.kind == .module && X.env.locals != X.env.globals)) = false := by rw [I.ok.kind]; rfl
  refine wpAny_nameGoes_keeps hl hn hk fun h4 v hn4 sb => ?_
  have inS : X.env.locals ∈ frs X.stack := by
    rw [hs]
    exact List.mem_filterMap.mpr ⟨X.env, List.mem_cons_self, hf⟩
  obtain ⟨G, g1, g2⟩ := restrict h4 fun b => (B.get? b).isSome || decide (b ∈ frs X.stack)
  have dom : ∀ {b : Addr} {o : Obj}, sI.heap.get? b = some o → G.get? b = h4.get? b := fun {b o} z => by
    refine g1 b ?_
    by_cases hb : b ∈ frs X.stack
    · simp [hb]
    · simp [nb b o z hb]
  have gsub : ∀ b o, G.get? b = some o → h4.get? b = some o := fun b o z => by
    cases q : ((B.get? b).isSome || decide (b ∈ frs X.stack)) with
    | true => exact (g1 b q).symm.trans z
    | false =>
      rw [g2 b q] at z
      cases z
  have neB : ∀ {b : Addr} {o : Obj}, B.get? b = some o → b ≠ X.env.locals := fun {b o} z y => by
    rw [y, (ff.mem inS).1] at z
    cases z
  have stB : ∀ b o, B.get? b = some o → h4.get? b = some o := fun b o z => (sb.2 b (neB z)).trans (st b o z)
  have gB : ∀ b o, B.get? b = some o → G.get? b = some o := fun b o z => (g1 b (by simp [z])).trans (stB b o z)
  have back : ∀ b o, G.get? b = some o → b ∉ frs X.stack → B.get? b = some o := fun b o z hb => by
    cases q : B.get? b with
    | some o2 =>
      have z2 := gB b o2 q
      rw [z] at z2
      rw [z2]
    | none =>
      rw [g2 b (by simp [q, hb])] at z
      cases z
  -- what stood at the entry stands in what is left
  have s0 : ∀ {b : Addr} {o : Obj}, X.s_0.heap.get? b = some o → b ∉ X.ex → ∃ o2, sI.heap.get? b = some o2 := fun {b o} z hx => I.base.there b o z hx
  have neL : ∀ {b : Addr} {o : Obj}, X.s_0.heap.get? b = some o → b ≠ X.env.locals := fun z => Nat.ne_of_lt (Nat.lt_of_lt_of_le (Heap.lt_size z) I.ok.above)
  have same : ∀ {b : Addr} {o : Obj}, X.s_0.heap.get? b = some o → b ∉ X.ex → G.get? b = s3.heap.get? b := fun {b o} z hx => by
    obtain ⟨o2, z2⟩ := s0 z hx
    exact (dom z2).trans (sb.2 b (neL z))
  refine h _ G _ rfl rfl sb hn4 ?_ gsub back
  refine ⟨J.ok, J.os, J.bare, ⟨fun b o z nz hb hx => ?_, fun b o z nz hb hx => ?_, J.base.free, fun b o z hx => ?_, J.base.tups, J.base.frzs, J.base.tbls⟩,
    ⟨fun x => if x = n then v else m x, ?_, fun j y w e1 e2 e3 => ?_⟩, fun y c e => ?_, J.free, J.freeC, fun p hp => ?_, (I.inGround nb).kept gB, by simpa using J.len⟩
  · exact (same z hx).trans (J.base.keep b o z nz hb hx)
  · obtain ⟨sl, q⟩ := J.base.slot b o z nz hb hx
    exact ⟨sl, (same z hx).trans q⟩
  · obtain ⟨o2, q⟩ := J.base.there b o z hx
    exact ⟨o2, (same z hx).trans q⟩
  · exact hn4.at fun o z => by
      have d : G.get? X.env.locals = h4.get? X.env.locals := g1 _ (by simp [inS])
      exact d.trans z
  · by_cases hj : j = i
    · subst hj
      rw [List.getElem?_set] at e2
      simp at e2
    · rw [List.getElem?_set_ne (Ne.symm hj)] at e2
      obtain ⟨u, ru, q⟩ := hlk j y w e1 e2 e3
      refine ⟨u, ru, ?_⟩
      rcases q with ⟨k, e⟩ | ⟨k, c, e, oc, z, zd⟩
      · exact .inl ⟨k, (if_neg fun (x : y = n) => hj (nodup_ix hN e1 (x ▸ hi))).trans e⟩
      · obtain ⟨v2, o2, z2, _⟩ := I.cell y c e
        exact .inr ⟨k, c, e, oc, ((dom z2).trans (sb.2 c (I.cne y c e))).trans z, zd⟩
  · obtain ⟨v2, o2, z2, _⟩ := I.cell y c e
    obtain ⟨v3, o3, z3, d3⟩ := J.cell y c e
    exact ⟨v3, o3, ((dom z2).trans (sb.2 c (I.cne y c e))).trans z3, d3⟩
  · obtain ⟨e, n1, n2, n3, n4⟩ := J.pin p hp
    have e0 := (I.pin p hp).1
    exact ⟨((dom e0).trans (sb.2 p.1 n2)).trans e, n1, n2, n3, n4⟩
/-- the context of an except suite that may raise, with a wish of its own -/
abbrev suiteE (X : Cx) (a : Addr) (pn : List (Addr × Obj)) (xe : Value → Shared → Prop) : Cx := { X with A := X.A.mark (some (.ref a)), calm := false, pn := pn, xe := xe }
theorem note_any {M : Model} {A : Around} {E₁ : Value → Shared → Prop} {env : Env} {outer : List Env} {L a : Addr} {Z : Obj → Prop} {Q : Unit → Shared → Prop} {s : Shared} (hZ : HandSPX.Steady Z) (hfr : A.frames = some (env :: outer)) (hf : env.frame = some L)
    (x : Sky B (env :: outer) a Z L s.heap) (k : ∀ h2, HandSPX.HeldZ B (env :: outer) a Z L h2 → s.heap.UpToSlots h2 → Q () { s with heap := h2 }) : wpAny M A (noteFrame (.ref a) env) Q E₁ s := by
  rcases x with ⟨c1, c2, c3, oe, vs, c4, c5, c6, c7⟩ | fl | hh
  · exact HandSPX.look_newZ hZ hfr c3 hf c4 c1 c2 c6 c7 c5 k
  · exact HandSPX.looks_onZ hZ hfr hf fl k
  · exact HandSPX.againZ hf hh.2.2.2 (k s.heap hh (Heap.UpToSlots.refl _))
end
section
variable {X : Cx} {x n : Str} {c : Value} {i : Nat} {body suite : List Stmt} {b₀ : Stmt} {np pos pos' : Pos} {tb : WX → TS} {ts : Addr → Value → Option Addr → TS} {Wout : WX}
/-- try: body, except x as n: suite, where the suite may raise; the body's exceptions have no context -/
theorem ps_try_asX (hs : X.stack = X.env :: X.outer) (hf : X.env.frame = some X.env.locals) (hN : X.N.Nodup) (hi : X.N[i]? = some n) (hln : X.env.kindOf n = some .local) (hc : Names X x c)
    (hpa : ∀ hd : Option Value, PassesOwnAt (model X.prog X.w) (X.A.mark hd) X.A X.env X.xe) (tk : L2.Takes X Wout)
    (hb : ∀ (W : WX) (pn : List (Addr × Obj)) (xe : Value → Shared → Prop), L2N.Takes (X.tr pn xe) W → PassesOwn (model X.prog X.w) X.A X.env xe → PSs (X.tr pn xe) body (tb W))
    (hsu : ∀ (a : Addr) (oe : Obj) (cls : Value) (d : Option Addr) (pn : List (Addr × Obj)) (xe : Value → Shared → Prop), L2N.Zn cls d oe → (∃ vs, oe.data = .fields vs) →
      L2.Takes (suiteE X a ((a, oe) :: pn) xe) (fun cls d σ H => Wout cls d (σ.set i none) H) → L2H.HotC (suiteE X a ((a, oe) :: pn) xe) → PSs (suiteE X a ((a, oe) :: pn) xe) (b₀ :: suite) (ts a cls d)) :
    PS X (.Try body [.ExceptHandler (some (.Name x np)) (some n) (b₀ :: suite) pos'] [] [] pos) (fun D σ H => tb (wAs X.K c i ts Wout D) D σ H) := by
  refine ⟨fun pins s σ H D I h => ?_⟩
  have ok := I.ok
  have hfr : X.A.frames = some (X.env :: X.outer) := by rw [ok.frames, hs]
  have hloc : Loc X.env.scope n := .inl hln
  refine wpAny_Try_except ?_
  refine wpAny_mono ((hb (wAs X.K c i ts Wout D) (X.pn ++ pins) (fun e t1 => wpAny (model X.prog X.w) X.A (noteFrame e X.env) (fun _ t2 => wpAny (model X.prog X.w) X.A (setFlight e none) (fun _ t3 =>
    wpAny (model X.prog X.w) X.A (handleBy e X.env [.ExceptHandler (some (.Name x np)) (some n) (b₀ :: suite) pos']) (SP X pins D) X.xe t3) X.xe t2) X.xe t1) (fun u s' xx => ?_) PassesOwn.looking).run [] s σ H D (I.toTry _) h) (fun f s1 hsp => ?_) (fun e s1 he => he)
  · obtain ⟨a, B, sI, pins', σ', H', cls, d, rfl, J', nb, up, sky, na, os, ag, b, hb1, hyes, hno⟩ := xx
    have J : Inv X pins σ' H' sI := J'.ofTry ok
    have sky' : Sky B (X.env :: X.outer) a (L2N.Zn cls d) X.env.locals s'.heap := hs ▸ sky
    show wpAny (model X.prog X.w) X.A (noteFrame (.ref a) X.env) _ _ _
    refine L2N.Sky.land L2N.Zn.steady hfr hf sky' fun h3 fl3 up3 => ?_
    have J3 : Inv X pins σ' H' { s' with heap := h3 } := J.landed nb fl3.1 (up.trans up3) os ag
    obtain ⟨oe3, vs3, he3, hz3, hd3⟩ := fl3.there
    have nfr : a ∉ frs (X.env :: X.outer) := fun hm => by
      obtain ⟨_, o9, e9, hnf⟩ := fl3.2.2.1.mem hm
      have z9 := he3.symm.trans e9
      cases z9
      exact hnf _ hd3
    have nL : a ≠ X.env.locals := fun z => nfr (List.mem_filterMap.mpr ⟨X.env, List.mem_cons_self, by rw [hf, z]⟩)
    have nF : a ∉ X.fs := fun hm => by
      obtain ⟨e9, m9, q9⟩ := List.mem_filterMap.mp hm
      exact nfr (List.mem_filterMap.mpr ⟨e9, List.mem_cons_of_mem _ m9, q9⟩)
    have S3 := J3.suite he3 hd3 na nL nF
    refine wpAny_handleBy_cons (codeAny_handlers_test ?_) (by intro q; cases q)
    have LT : PySem.W.Looks (model X.prog X.w) h3 (typeOf (.ref a)) cls := fun A Q E s k q => wpAny_typeOf_ref (k _ _ he3) (by rw [hz3.1]; exact q)
    have LM := PySem.W.exm_one (M := model X.prog X.w) (J3.kIn) LT hb1
    have test : ∀ {Q : Value → Shared → Prop} {E : Value → Shared → Prop}, Q c { s' with heap := h3 } → wpAny (model X.prog X.w) (X.A.mark (some (.ref a))) (eval (.Name x np) X.env) Q E { s' with heap := h3 } := fun {Q E} q => by
      obtain ⟨hg, hdbg, hm | ⟨hm, hv, hnn⟩⟩ := hc
      · exact ld_glob (X := X.suite a ((a, oe3) :: (X.pn ++ pins))) S3 hg hm q hdbg
      · exact ld_blt (X := X.suite a ((a, oe3) :: (X.pn ++ pins))) S3 hg hm hv q hnn hdbg
    refine test (LM.here ?_)
    cases b with
    | false =>
      show wpAny _ X.A (handleBy (.ref a) X.env []) _ _ _
      refine wpAny_handleBy_nil ?_
      obtain ⟨k1, k2, k3, oe, vs, T, oT, ts', he, hz, hd, h1, hr⟩ := id fl3
      unfold PySem.passOn
      refine wpAny_bind (wpAny_field he hd h1 ?_)
      rw [if_neg (show ¬ ((Value.ref T == Value.none) = true) from by simp)]
      have fin : wpAny (model X.prog X.w) X.A (setFlight (.ref a) X.env.frame) (fun _ t4 => wpAny (model X.prog X.w) X.A (throw (.ref a) : Sem Flow) (SP X pins D) X.xe t4) X.xe { s' with heap := h3 } := by
        rw [hf]
        refine HandSPX.setFlight_upZ (L2H.flyingZ_imp (fun o z => z.zc) fl3) fun h4 hh4 up4 => wpAny_throw (tk _ _ ?_)
        exact ⟨a, B, sI, pins, σ', H', cls, d, rfl, J, nb, (up.trans up3).trans up4, .inr (.inr (by rw [hs]; exact hh4)), na, os, ag, hno rfl⟩
      first
        | exact wpAny_bind (wpAny_pure (wpAny_bind fin))
        | exact wpAny_bind fin
    | true =>
      refine codeAny_handlers_suite_as ?_
      refine HandSPX.lands_againZ fl3 fun h4 fl4 up4 => ?_
      have J4 : Inv X pins σ' H' { s' with heap := h4 } := J.landed nb fl4.1 ((up.trans up3).trans up4) os ag
      obtain ⟨oe4, vs4, he4, hz4, hd4⟩ := fl4.there
      have S4 := J4.suite he4 hd4 na nL nF
      refine store_ok (X := X.suite a ((a, oe4) :: (X.pn ++ pins))) (v := .ref a) S4 hN hi hloc rfl (fun s5 S5 => ?_) (.inr hln)
      -- the suite's own wish: the frame noted, the name gone, on it flies
      obtain ⟨xs, hxs⟩ : ∃ xs : Value → Shared → Prop, xs = fun e t => wpAny (model X.prog X.w) (X.A.mark (some (.ref a))) (noteFrame e X.env) (fun _ t2 =>
          wpAny (model X.prog X.w) (X.A.mark (some (.ref a))) (do bindName X.env n .none; unbindBehindTheSuite X.env n pos')
            (fun _ t3 => wpAny (model X.prog X.w) (X.A.mark (some (.ref a))) (passOn "try.except-as" e X.env : Sem Flow) (fun _ _ => False) (notedBy (model X.prog X.w) (X.A.mark (some (.ref a))) X.env fun e2 t4 => cameBackBy (model X.prog X.w) X.A X.env X.xe e2 t4) t3)
            (fun y t3 => wpAny (model X.prog X.w) (X.A.mark (some (.ref a))) (setFlight e none) (fun _ t4 => (notedBy (model X.prog X.w) (X.A.mark (some (.ref a))) X.env fun e2 t5 => cameBackBy (model X.prog X.w) X.A X.env X.xe e2 t5) y t4) (notedBy (model X.prog X.w) (X.A.mark (some (.ref a))) X.env fun e2 t4 => cameBackBy (model X.prog X.w) X.A X.env X.xe e2 t4) t3) t2)
          (notedBy (model X.prog X.w) (X.A.mark (some (.ref a))) X.env fun e2 t4 => cameBackBy (model X.prog X.w) X.A X.env X.xe e2 t4) t := ⟨_, rfl⟩
      have hfrS : (X.A.mark (some (.ref a))).frames = some (X.env :: X.outer) := hfr
      have tkS : L2.Takes (suiteE X a ((a, oe4) :: (X.pn ++ pins)) xs) (fun cls d σ H => Wout cls d (σ.set i none) H) := fun u2 t x2 => by
        obtain ⟨a2, B2, sI2, pn2, σ2, H2, cls2, d2, rfl, I2, nb2, up2, sky2, na2, os2, ag2, w2⟩ := x2
        have IX : Inv X pins σ2 H2 sI2 := (show Inv (X.suite a ((a, oe4) :: (X.pn ++ pins))) pn2 σ2 H2 sI2 from I2.wish fun _ _ => False).unsuite ok
        have sk2 : Sky B2 (X.env :: X.outer) a2 (Zc cls2 d2) X.env.locals t.heap := hs ▸ sky2
        show xs (.ref a2) t
        rw [hxs]
        refine note_any Zc.steady hfrS hf sk2 fun h6 hh6 up6 => ?_
        have ff6 : h6.FunFrames B2 X.stack := hs ▸ hh6.2.2.1
        refine gone_air (s3 := { t with heap := h6 }) IX nb2 hh6.1 ff6 (up2.trans up6) os2 ag2 hs hf hN hi hln fun s7 G7 m7 o7 a7 sb7 hn7 IG gsub7 back7 => ?_
        have inS : X.env.locals ∈ frs (X.env :: X.outer) := List.mem_filterMap.mpr ⟨X.env, List.mem_cons_self, hf⟩
        obtain ⟨q1, q2, q3, oe, vs, T, oT, tt, r1, r2, r3, r4, r5, r6, r7, r8, r9⟩ := hh6
        obtain ⟨_, oL, eL, hnL⟩ := q3.mem inS
        have ne1 : a2 ≠ X.env.locals := fun z => by
          have z9 := (z ▸ r1).symm.trans eL
          cases z9
          exact hnL _ r3
        have ne2 : T ≠ X.env.locals := fun z => by
          have z9 := (z ▸ r7).symm.trans eL
          cases z9
          exact hnL _ r8
        have neB : ∀ b o, B2.get? b = some o → b ≠ X.env.locals := fun b o z y => by
          rw [y, (q3.mem inS).1] at z
          cases z
        have hh7 : HandSPX.HeldZ B2 (X.env :: X.outer) a2 (Zc cls2 d2) X.env.locals s7.heap :=
          ⟨fun b o z => (sb7.2 b (neB b o z)).trans (q1 b o z), q2, Heap.FunFrames.sameBut sb7 hn7 q3, oe, vs, T, oT, tt, (sb7.2 a2 ne1).trans r1, r2, r3, r4, r5, r6, (sb7.2 T ne2).trans r7, r8, r9⟩
        unfold PySem.passOn
        refine wpAny_bind (wpAny_field ((sb7.2 a2 ne1).trans r1) r3 r4 ?_)
        rw [if_neg (show ¬ ((Value.ref T == Value.none) = true) from by simp)]
        have fin : wpAny (model X.prog X.w) (X.A.mark (some (.ref a))) (setFlight (.ref a2) X.env.frame) (fun _ t4 => wpAny (model X.prog X.w) (X.A.mark (some (.ref a))) (throw (.ref a2) : Sem Flow) (fun _ _ => False) (notedBy (model X.prog X.w) (X.A.mark (some (.ref a))) X.env fun e2 t5 => cameBackBy (model X.prog X.w) X.A X.env X.xe e2 t5) t4)
            (notedBy (model X.prog X.w) (X.A.mark (some (.ref a))) X.env fun e2 t5 => cameBackBy (model X.prog X.w) X.A X.env X.xe e2 t5) s7 := by
          rw [hf]
          refine HandSPX.setFlight_onZ hh7 fun h8 hh8 up8 => wpAny_throw (hpa (some (.ref a)) (.ref a2) _ (tk _ _ ?_))
          exact ⟨a2, B2, { s7 with heap := G7 }, pins, σ2.set i none, H2, cls2, d2, rfl, IG, back7, (Heap.UpToSlots.of_keeps gsub7).trans up8, .inr (.inr (by rw [hs]; exact hh8)), na2, rfl, by rw [show s7.gens = t.gens from a7]; exact ag2, w2⟩
        first
          | exact wpAny_bind (wpAny_pure (wpAny_bind fin))
          | exact wpAny_bind fin
      have hot : L2H.HotC (suiteE X a ((a, oe4) :: (X.pn ++ pins)) xs) := ⟨(a, oe4), ⟨rfl, vs4, hd4, hz4.2.2 vs4 hd4⟩, List.mem_cons_self⟩
      have S5' : Inv (suiteE X a ((a, oe4) :: (X.pn ++ pins)) xs) [] (σ'.set i (some (.ref a))) H' s5 := Inv.unwish (X := suiteE X a ((a, oe4) :: (X.pn ++ pins)) xs) (E := fun _ _ => False) S5
      refine wpAny_mono ((hsu a oe4 cls d (X.pn ++ pins) xs hz4 ⟨_, hd4⟩ tkS hot).run [] s5 _ H' _ S5' (hyes rfl a na)) (fun f s6 hsp => ?_) (fun e6 s6 z => by have z2 : xs e6 s6 := z; rw [hxs] at z2; exact z2)
      have toX : ∀ {σ6 : L2.St} {H6 : Hp} {pn6 : List (Addr × Obj)}, Inv (suiteE X a ((a, oe4) :: (X.pn ++ pins)) xs) pn6 σ6 H6 s6 → Inv X pins σ6 H6 s6 := fun S6 =>
        (show Inv (X.suite a ((a, oe4) :: (X.pn ++ pins))) _ _ _ s6 from S6.wish fun _ _ => False).unsuite ok
      cases f with
      | next =>
        obtain ⟨σ6, H6, S6, q6⟩ := hsp
        exact gone_ok (toX S6) hN hi hln fun s7 J7 => ⟨_, _, J7, q6⟩
      | brk =>
        obtain ⟨σ6, H6, S6, q6⟩ := hsp
        exact gone_ok (toX S6) hN hi hln fun s7 J7 => ⟨_, _, J7, q6⟩
      | cont =>
        obtain ⟨σ6, H6, S6, q6⟩ := hsp
        exact gone_ok (toX S6) hN hi hln fun s7 J7 => ⟨_, _, J7, q6⟩
      | ret u =>
        obtain ⟨v6, σ6, H6, S6, r6, q6⟩ := hsp
        exact gone_ok (toX S6) hN hi hln fun s7 J7 => ⟨_, _, _, J7, r6, q6⟩
  · cases f with
    | next =>
      obtain ⟨σ1, H1, J1, q⟩ := hsp
      exact wpAny_execs_nil ⟨σ1, H1, J1.ofTry ok, q⟩
    | brk =>
      obtain ⟨σ1, H1, J1, q⟩ := hsp
      exact ⟨σ1, H1, J1.ofTry ok, q⟩
    | cont =>
      obtain ⟨σ1, H1, J1, q⟩ := hsp
      exact ⟨σ1, H1, J1.ofTry ok, q⟩
    | ret u =>
      obtain ⟨v, σ1, H1, J1, r, q⟩ := hsp
      exact ⟨v, σ1, H1, J1.ofTry ok, r, q⟩
end
end Sh

set_option maxHeartbeats 4000000
/-! R4: a list comprehension whose element may raise out of it. -/
namespace Sh
open PySem PySem.Spec PyProof.Rows L2
theorem noteFrame_as {e : Value} {env env2 : Env} (h : env2.frame = env.frame) : noteFrame e env2 = noteFrame e env := by
  unfold noteFrame PySem.frameOf
  rw [h]
/-- what is wanted behind a comprehension's run; its block's frame is cenv -/
def cpost (M : Model) (A : Around) (E : Value → Shared → Prop) (Qf : Value → Shared → Prop) (acc : Value) (cenv : Env) (r : Result) (s1 : Shared) : Prop :=
  match r with
  | .ok _ => ∃ m, s1.heap.Ns cenv.locals m ∧ ∀ h1, Heap.SameBut cenv.locals s1.heap h1 → Qf acc { s1 with heap := h1 }
  | .error x => ∃ m, s1.heap.Ns cenv.locals m ∧ ∀ h1, Heap.SameBut cenv.locals s1.heap h1 → wpAny M A (passOn "comprehension.variables-let-go" x cenv : Sem Value) (fun _ _ => False) E { s1 with heap := h1 }
section
variable {M : Model} {A : Around} {E : Value → Shared → Prop} {s : Shared} {env : Env}
theorem comp_run {e : Expr} {scope : Scope} {pos : Pos} {newAcc first : Sem Value} {g : Comprehension} {gs : List Comprehension} {cl : List (Str × Addr)} {Qf : Value → Shared → Prop}
    (hcl : clausesOf e = g :: gs) (hs : ∀ x, foldedSetIterable g.iter env x = pure x) (hclos : closureFor scope env = pure cl) (hkind : scope.kind = .function) (hnames : ∀ x ∈ scope.names, x.2 = .local → scope.names.lookup x.1 = some .local)
    (h : wpAny M A first (fun x s1 => wpAny M A (pyIter x) (fun it s2 => wpAny M A newAcc (fun acc s3 => wpAny M A (newFunctionEnv scope env.globals cl [] env.qual none .none (some env)) (fun cenv s4 =>
        codeAny M A (.compStart e 0 it acc { cenv with scope := relabel scope env }) (cpost M A E Qf acc { cenv with scope := relabel scope env }) s4) E s3) E s2) E s1) E s) :
    wpAny M A (comprehension e scope env pos newAcc false first none) Qf E s := by
  unfold comprehension
  rw [hclos, hcl]
  refine wpAny_bind (wpAny_mono h (fun x s1 h1 => ?_) fun _ _ z => z)
  refine wpAny_bind (wpAny_standAt (wpAny_bind (wpAny_of_eq (hs x) ?_)))
  refine wpAny_bind (wpAny_holding (wpAny_mono h1 (fun it s2 h2 => ?_) fun _ _ z => z))
  refine wpAny_standIf (wpAny_bind (wpAny_mono h2 (fun acc s3 h3 => ?_) fun _ _ z => z))
  refine wpAny_bind (wpAny_pure (wpAny_bind (wpAny_mono h3 (fun cenv s4 h4 => ?_) fun _ _ z => z)))
  dsimp only
  have hv : ∀ x ∈ (scope.names.filter fun x => (x.2 == .local || x.2 == .cell) && x.1 != (".0" : Str)).reverse, x.2 = .local → Env.kindOf { cenv with scope := relabel scope env } x.1 = some .local :=
    fun x hx hl => lookup_relabel_local (hnames x (List.mem_filter.mp (List.mem_reverse.mp hx)).1 hl)
  refine wpAny_holding (wpAny_bind (wpAny_attempt (wpAny_holding (wpAny_run (codeAny_mono h4 fun r t hr => ?_)))))
  cases r with
  | ok f =>
    obtain ⟨m, hn, hr⟩ := hr
    exact wpAny_bind (wpAny_holding (wpAny_comp_letGo (cenv := { cenv with scope := relabel scope env }) hkind _ t m hv hn fun h1 m1 _ sb => wpAny_pure (hr h1 sb)))
  | error x =>
    obtain ⟨m, hn, hr⟩ := hr
    exact wpAny_bind (wpAny_holding (wpAny_comp_letGo (cenv := { cenv with scope := relabel scope env }) hkind _ t m hv hn fun h1 m1 _ sb => wpAny_mono (hr h1 sb) (fun _ _ z => z.elim) fun _ _ z => z))
end
theorem note_anyN {B : Heap} {M : Model} {A : Around} {E₁ : Value → Shared → Prop} {env : Env} {outer : List Env} {L a : Addr} {Z : Obj → Prop} {Q : Unit → Shared → Prop} {s : Shared} (hZ : PXN.Steady1 Z) (hfr : A.frames = some (env :: outer)) (hf : env.frame = some L)
    (x : Sky B (env :: outer) a Z L s.heap) (k : ∀ h2, HandSPX.HeldZ B (env :: outer) a Z L h2 → s.heap.UpToSlots h2 → Q () { s with heap := h2 }) : wpAny M A (noteFrame (.ref a) env) Q E₁ s := by
  rcases x with ⟨c1, c2, c3, oe, vs, c4, c5, c6, c7⟩ | fl | hh
  · exact PXN.look_newZ hZ hfr c3 hf c4 c1 c2 c6 c7 c5 k
  · exact PXN.looks_onZ hZ hfr hf fl k
  · exact HandSPX.againZ hf hh.2.2.2 (k s.heap hh (Heap.UpToSlots.refl _))
section
variable {X : Cx}
theorem pe_lcX {elt tg iter : Expr} {scope : Scope} {own : List (Str × Nat)} {pos : Pos} {wi : TI} {g : TG} {te : TE} {Ex : XK} (hc : X.calm = true) (hs : X.stack = X.env :: X.outer) (hf : X.env.frame = some X.env.locals) (hN : X.N.Nodup)
    (tk : L2N.Takes X fun cls d _ H => Ex cls d H) (hi : PI X tg iter wi) (ok : BlkOk X.N X.env.scope scope own)
    (hg : ∀ (s : Shared) (H : Hp) (C : Addr) (cl : List (Str × Addr)) (fp : List Addr) (xb : Value → Shared → Prop), PG ((X.blk s H scope (compEnvC scope cl C X.env) fp).wish xb) tg g)
    (he : ∀ (s : Shared) (H : Hp) (C : Addr) (cl : List (Str × Addr)) (fp : List Addr) (xb : Value → Shared → Prop), (∀ σ, PassesAt (L2N.CX X.prog X.w) ((X.blk s H scope (compEnvC scope cl C X.env) fp).wish xb) σ Ex) → PE ((X.blk s H scope (compEnvC scope cl C X.env) fp).wish xb) elt te)
    (hfs : ∀ x, foldedSetIterable iter X.env x = pure x := by intro _; rfl) :
    PE X (.ListComp elt [⟨tg, iter, [], 0⟩] scope pos) (tLc wi g tYes te (own.map (·.2))) := by
  refine ⟨fun pins s σ H Q I h => ?_⟩
  rw [eval_ListComp]
  have hfree : ∀ y ∈ scope.names, y.2 = .free → ∃ c, X.env.cells.lookup y.1 = some c := fun y hy e => (ok.free y hy e).elim (fun k => I.ok.has _ (.inl k)) fun k => I.ok.has _ (.inr k)
  refine comp_run (g := ⟨tg, iter, [], 0⟩) (gs := []) rfl hfs (closure_ok hfree) ok.kind (fun y hy e => by rw [ok.uniq y hy, e]) ?_
  show wpAny _ _ (eval iter X.env) _ _ _
  refine thn (hi.run pins s σ H _ I h) fun xv s1 hx => thn hx fun itv s2 h2 => ?_
  obtain ⟨it, fp, tn, J, H2, rfl, I2, T, st2, f2, q⟩ := h2
  refine wpAny_newObj_type (newEnv_comp ?_) (by show 0 ≤ sizeLine; decide)
  generalize hD : s2.heap.objs.size = D
  have hDn : H2 D = none := I2.hok.fresh (Nat.le_of_eq hD)
  obtain ⟨W, ⟨m0, w0⟩, turn⟩ := q D hDn
  generalize hs3 : ({ s2 with heap := s2.heap.push { cls := .type "list", data := .seq ([] : List Value).toArray } } : Shared) = s3
  have h3 : s3.heap = s2.heap.push { cls := .type "list", data := .seq ([] : List Value).toArray } := by rw [← hs3]
  have I3 : Inv X pins σ (upd H2 D (.lst [])) s3 := by
    rw [← hs3]
    refine I2.laid (t' := s2.toks) (fun b o e => Heap.get?_push_of_some _ e) (Nat.le_of_eq hD) ⟨Nat.zero_le _, [], 0, .nil, ?_⟩
    exact hD ▸ Heap.get?_push_size _ rfl
  have sz : ∀ b ∈ fp, b < s2.heap.objs.size := fun b hb => let ⟨_, e, _⟩ := T.obj _ _ st2 b hb; Heap.lt_size e
  have f3 : ∀ b ∈ fp, FpOk X pins (upd H2 D (.lst [])) b ∧ b < s3.heap.objs.size := fun b hb =>
    ⟨⟨(upd_ne (by rw [← hD]; exact Nat.ne_of_lt (sz b hb))).trans (f2 b hb).1, (f2 b hb).2⟩, by rw [h3, Heap.size_push]; exact Nat.lt_succ_of_lt (sz b hb)⟩
  have st3 : tn 0 s3.heap := T.keep _ _ _ st2 fun b _ o e => by rw [h3]; exact Heap.get?_push_of_some _ e
  have I4 := block_start I3 ok hN f3
  have pg := hg s3 (upd H2 D (.lst [])) s3.heap.objs.size (cellsFrom (s3.heap.objs.size + 1) scope.names (cloFrom X.env.cells scope.names [])) fp
  have pe := he s3 (upd H2 D (.lst [])) s3.heap.objs.size (cellsFrom (s3.heap.objs.size + 1) scope.names (cloFrom X.env.cells scope.names [])) fp
  show codeAny _ _ (.compStart (.ListComp elt [⟨tg, iter, [], 0⟩] scope pos) 0 (.ref it) (.ref D) (compEnvC scope (cellsFrom (s3.heap.objs.size + 1) scope.names (cloFrom X.env.cells scope.names [])) s3.heap.objs.size X.env))
    (cpost (model X.prog X.w) X.A X.xe (EP X pins σ Q) (.ref D) (compEnvC scope (cellsFrom (s3.heap.objs.size + 1) scope.names (cloFrom X.env.cells scope.names [])) s3.heap.objs.size X.env))
    { s3 with heap := pushCells (s3.heap.push { cls := .type "dict", data := .dict #[] }) scope.names }
  have nfp : ∀ b ∈ fp, (upd H2 D (.lst [])) b = none := fun b hb => (f3 b hb).1.1
  generalize hce : compEnvC scope (cellsFrom (s3.heap.objs.size + 1) scope.names (cloFrom X.env.cells scope.names [])) s3.heap.objs.size X.env = ce at I4 pg pe ⊢
  have cL : ce.locals = s3.heap.objs.size := by rw [← hce] <;> rfl
  have cF : ce.frame = X.env.frame := by rw [← hce] <;> rfl
  generalize hH3 : upd H2 D (.lst []) = H3 at I3 I4 pg pe w0 nfp f3
  generalize hs4 : ({ s3 with heap := pushCells (s3.heap.push { cls := .type "dict", data := .dict #[] }) scope.names } : Shared) = s4 at I4 ⊢
  have st4 : tn 0 s4.heap := T.keep _ _ _ st3 fun b _ o e => by rw [← hs4]; exact pushCells_keeps _ _ _ _ (Heap.get?_push_of_some _ e)
  have toX : ∀ {pl : List (Addr × Obj)} {σ5 : L2.St} {H5 : Hp} {s5 : Shared}, Inv (X.blk s3 H3 scope ce fp) pl σ5 H5 s5 → Inv X pins σ H5 s5 := fun I6 =>
    I3.call' (ch := fp) I6.os I6.base I6.hok I6.bare fun b hb => ⟨(f3 b hb).1.2.2.2.1, (f3 b hb).1.2.1, (f3 b hb).1.2.2.2.2.1, (f3 b hb).1.2.2.2.2.2⟩
  have young : ∀ {H5 : Hp}, H5 ce.locals = none → FpOk X pins H5 ce.locals := fun {H5} n => I3.fpOk (by rw [cL]; exact Nat.le_refl _) n
  -- an exception of the block, all the way out
  obtain ⟨xb, hxb⟩ : ∃ xb : Value → Shared → Prop, xb = notedBy (model X.prog X.w) X.A ce fun e t => cpost (model X.prog X.w) X.A X.xe (EP X pins σ Q) (.ref D) ce (.error e) t := ⟨_, rfl⟩
  have hfr : X.A.frames = some (X.env :: X.outer) := by rw [I.ok.frames, hs]
  have pass : ∀ σ5, PassesAt (L2N.CX X.prog X.w) ((X.blk s3 H3 scope ce fp).wish xb) σ5 Ex := fun σ5 pl H5 s5 e s6 I5 c => by
    have I5b : Inv (X.blk s3 H3 scope ce fp) pl σ5 H5 s5 := I5.unwish
    have c0 : L2N.CX X.prog X.w X.stack H5 s5 Ex e s6 := c
    obtain ⟨m5, hn5, _⟩ := id I5b.loc
    obtain ⟨oC, esC, epC, eC, dC, rC⟩ := id hn5
    have nC : H5 ce.locals = none := I5b.free
    have nCf : ce.locals ∉ frs X.stack := fun z => by
      rcases List.mem_cons.mp (I3.stkSub _ z) with y | y
      · exact (young nC).2.1 y
      · exact (young nC).2.2.1 y
    have c1 : L2N.CX X.prog X.w X.stack H5 s5 (fun cls d H => Ex cls d H ∧ H ce.locals = none) e s6 := by
      obtain ⟨a, B, H', cls, d, ea, fl, hok, ub, na, os, ag, hE⟩ := c0
      exact ⟨a, B, H', cls, d, ea, fl, hok, ub, na, os, ag, hE, ub.free _ _ eC nC⟩
    have x0 := L2N.XE.of_call (W := fun cls d _ H => Ex cls d H ∧ H ce.locals = none) (toX I5b) (fun _ _ _ z => z) c1
    have eC6 : s6.heap.get? ce.locals = some oC := by
      obtain ⟨a, B, H', cls, d, _, fl, hok, ub, _⟩ := c0
      exact fl.1 _ _ (ub.keep ce.locals oC eC nC nCf)
    obtain ⟨a, B, sI, pn1, σ1, H1, cls, d, rfl, J1, nb, up, sky, na, os, ag, w, n1⟩ := x0
    have sky' : Sky B (X.env :: X.outer) a (L2N.Zn cls d) X.env.locals s6.heap := hs ▸ sky
    show xb (.ref a) s6
    rw [hxb]
    show wpAny _ _ (noteFrame (.ref a) ce) _ _ _
    rw [noteFrame_as cF]
    refine note_anyN L2N.Zn.steady hfr hf sky' fun h7 hh7 up7 => ?_
    obtain ⟨sl, eC7⟩ := up7 _ _ eC6 fun vs z => by rw [dC] at z; cases z
    refine ⟨m5, ⟨_, esC, epC, eC7, dC, rC⟩, fun h8 sb8 => ?_⟩
    obtain ⟨k1, k2, k3, oe, vs, Tb, oT, ts, k4, k5, k6, k7, k8, k9, l1, l2, l3⟩ := hh7
    have ne1 : a ≠ ce.locals := fun z => by
      have z2 := (z ▸ k4).symm.trans eC7
      cases z2
      rw [dC] at k6
      cases k6
    have ne2 : Tb ≠ ce.locals := fun z => by
      have z2 := (z ▸ l1).symm.trans eC7
      cases z2
      rw [dC] at l2
      cases l2
    obtain ⟨B2, b1, b2⟩ := restrict B fun b => decide (b ≠ ce.locals)
    have bB : ∀ {b : Addr} {o : Obj}, B2.get? b = some o → b ≠ ce.locals ∧ B.get? b = some o := fun {b o} z => by
      by_cases y : b = ce.locals
      · rw [b2 b (by simp [y])] at z
        cases z
      · exact ⟨y, (b1 b (by simp [y])).symm.trans z⟩
    have bN : ∀ {b : Addr}, B.get? b = none → B2.get? b = none := fun {b} z => by
      cases y : B2.get? b with
      | none => rfl
      | some o =>
        rw [(bB y).2] at z
        cases z
    have ffs : ∀ {l : List Env}, h7.FunFrames B l → (∀ L ∈ frs l, L ≠ ce.locals) → h8.FunFrames B2 l := by
      intro l
      induction l with
      | nil => intro _ _; trivial
      | cons env r ih =>
        intro z y
        obtain ⟨hk, ⟨L, oL, hfL, hnL, hoL, hdL⟩, hr⟩ := z
        have hL : L ≠ ce.locals := y L (List.mem_filterMap.mpr ⟨env, List.mem_cons_self, hfL⟩)
        exact ⟨hk, ⟨L, oL, hfL, bN hnL, (sb8.2 L hL).trans hoL, hdL⟩, ih hr fun L2 m2 => by
          obtain ⟨e2, q2, q3⟩ := List.mem_filterMap.mp m2
          exact y L2 (List.mem_filterMap.mpr ⟨e2, List.mem_cons_of_mem _ q2, q3⟩)⟩
    have hh8 : HandSPX.HeldZ B2 (X.env :: X.outer) a (L2N.Zn cls d) X.env.locals h8 :=
      ⟨fun b o z => (sb8.2 b (bB z).1).trans (k1 b o (bB z).2), bN k2, ffs k3 fun L m z => nCf (z ▸ hs ▸ m), oe, vs, Tb, oT, ts, (sb8.2 a ne1).trans k4, k5, k6, k7, bN k8, k9, (sb8.2 Tb ne2).trans l1, l2, l3⟩
    unfold PySem.passOn
    refine wpAny_bind (wpAny_field ((sb8.2 a ne1).trans k4) k6 k7 ?_)
    rw [if_neg (show ¬ ((Value.ref Tb == Value.none) = true) from by simp)]
    obtain ⟨G, g1, g2⟩ := restrict sI.heap fun b => decide (b ≠ ce.locals)
    have gB : ∀ {b : Addr} {o : Obj}, G.get? b = some o → b ≠ ce.locals ∧ sI.heap.get? b = some o := fun {b o} z => by
      by_cases y : b = ce.locals
      · rw [g2 b (by simp [y])] at z
        cases z
      · exact ⟨y, (g1 b (by simp [y])).symm.trans z⟩
    have fin : wpAny (model X.prog X.w) X.A (setFlight (.ref a) ce.frame) (fun _ t => wpAny (model X.prog X.w) X.A (throw (.ref a) : Sem Value) (fun _ _ => False) X.xe t) X.xe { s6 with heap := h8 } := by
      rw [cF, hf]
      refine HandSPX.setFlight_onZ hh8 fun h9 hh9 up9 => wpAny_throw (tk _ _ ?_)
      have yg := young n1
      have J2 : Inv X [] σ1 H1 { sI with heap := G } := (J1.pins_of (pins' := []) fun p hp => nomatch hp).turned (t' := sI.toks) (it := ce.locals) (fun b o y z => (g1 b (by simp [y])).trans z) n1 yg.2.1 yg.2.2.2.1 yg.2.2.2.2.1 fun p hp => yg.2.2.2.2.2 p (by
        rw [List.append_nil] at hp
        exact List.mem_append_left _ hp)
      refine ⟨a, B2, { sI with heap := G }, [], σ1, H1, cls, d, rfl, J2, fun b o z hb => (b1 b (by simp [(gB z).1])).trans (nb b o (gB z).2 hb), fun b o z hd => ?_, .inr (.inr (by rw [hs]; exact hh9)), na, os, ag, w⟩
      obtain ⟨sl1, q1⟩ := up b o (gB z).2 hd
      obtain ⟨sl2, q2⟩ := up7 b _ q1 hd
      obtain ⟨sl3, q3⟩ := up9 b _ ((sb8.2 b (gB z).1).trans q2) hd
      exact ⟨sl3, q3⟩
    first
      | exact wpAny_bind (wpAny_pure (wpAny_bind fin))
      | exact wpAny_bind fin
  have stat : ∀ {pl : List (Addr × Obj)} {σ5 : L2.St} {H5 : Hp} {s5 : Shared}, Inv ((X.blk s3 H3 scope ce fp).wish xb) pl σ5 H5 s5 → (∀ b ∈ fp, H5 b = none) → ∀ b ∈ fp, FpOk ((X.blk s3 H3 scope ce fp).wish xb) [] H5 b := fun I6 n6 b hb =>
    ⟨n6 b hb, (I6.ok.exf b hb).1, I6.ok.exfs b hb, .inl hb, fun x c e => (I6.ok.exf b hb).2 x c e, fun p hp => nomatch (show p ∈ ([] : List (Addr × Obj)) from hp)⟩
  have pg := pg xb
  have pe := pe xb pass
  have eN : notedBy (model X.prog X.w) X.A ce (fun e t => cpost (model X.prog X.w) X.A X.xe (EP X pins σ Q) (.ref D) ce (.error e) t) = xb := hxb.symm
  have loop : codeAny (model X.prog X.w) X.A (.compLoop (.ListComp elt [⟨tg, iter, [], 0⟩] scope pos) 0 (.ref it) (.ref D) ce) (cpost (model X.prog X.w) X.A X.xe (EP X pins σ Q) (.ref D) ce) s4 := by
    refine compLoop_any (fun n t => ∃ i H', Inv ((X.blk s3 H3 scope ce fp).wish xb) [] (wipe σ (own.map (·.2))) H' t ∧ tn i t.heap ∧ (∀ b ∈ fp, H' b = none) ∧ W i n H') ?_ m0 ⟨0, H3, I4.wish xb, st4, nfp, w0⟩
    rintro n s5 ⟨i, H5, I5, st5, n5, w5⟩
    rw [eN]
    rcases turn i n H5 w5 with ⟨stop, qq⟩ | ⟨go, Nx, hNx, step⟩
    · refine thnF (T.done ((X.blk s3 H3 scope ce fp).wish xb) rfl rfl rfl hc i [] s5 _ H5 (fun _ _ => False) I5 (stat I5 n5) st5 stop) fun r s6 hh => ?_
      obtain ⟨rfl, I6⟩ := hh
      have I7 := toX (I6.unwish)
      have nC : H5 ce.locals = none := I6.free
      obtain ⟨m, hn, _⟩ := I6.loc
      obtain ⟨y0, y1, y2, y3, y4, y5⟩ := young nC
      exact ⟨m, hn, fun h7 sb => ⟨.ref D, H5, I7.turned (t' := s6.toks) (fun b o hb e => (sb.2 b hb).trans e) y0 y1 y3 y4 y5, rfl, qq⟩⟩
    · refine thnF (T.item ((X.blk s3 H3 scope ce fp).wish xb) rfl rfl rfl hc i [] s5 _ H5 (fun _ _ => False) I5 (stat I5 n5) st5 go) fun r s6 hh => ?_
      obtain ⟨u, rfl, h6⟩ := hh
      refine thnF h6 fun _ s7 hh7 => ?_
      obtain ⟨x, H7, I7, r7, y7, st7, n7⟩ := hh7
      have I7p := I7.pinned (stat I7 n7) (T.obj _ _ st7)
      refine thn (pg.run _ s7 _ H7 x u _ I7p r7 (step x H7 y7)) fun _ s8 hh8 => ?_
      obtain ⟨σ8, H8, I8, hw8, q8⟩ := hh8
      refine thn ((pts_nil (X := (X.blk s3 H3 scope ce fp).wish xb)).run _ s8 σ8 H8 _ I8 q8) fun b s9 hh9 => ?_
      obtain ⟨H9, I9, q9⟩ := hh9
      have fin : ∀ {t : Shared} {H' : Hp}, Inv ((X.blk s3 H3 scope ce fp).wish xb) ([] ++ pinsAt fp s7.heap) σ8 H' t → Nx H' → ∃ m, m < n ∧ ∃ i H', Inv ((X.blk s3 H3 scope ce fp).wish xb) [] (wipe σ (own.map (·.2))) H' t ∧ tn i t.heap ∧ (∀ b ∈ fp, H' b = none) ∧ W i m H' := fun {t H'} I' nx => by
        obtain ⟨m', hm, w'⟩ := hNx H' nx
        have kept : ∀ b ∈ fp, ∀ o, s7.heap.get? b = some o → t.heap.get? b = some o ∧ H' b = none := fun b hb o e =>
          let z := I'.pin (b, o) (List.mem_append_right _ (List.mem_append_right _ (mem_pinsAt hb e)))
          ⟨z.1, z.2.1⟩
        refine ⟨m', hm, i + 1, H', (I'.unpinned (pins := [])).weak (by rw [← hw8, wipe_length]) (fun j v e => ?_), T.keep _ _ _ st7 fun b hb o e => (kept b hb o e).1, fun b hb => ?_, w'⟩
        · rw [← hw8] at e
          exact (wipe_some e).1
        · obtain ⟨o, e, _⟩ := T.obj _ _ st7 b hb
          exact (kept b hb o e).2
      cases b with
      | false =>
        rw [if_neg Bool.false_ne_true] at q9 ⊢
        exact fin I9 q9
      | true =>
        rw [if_pos rfl] at q9 ⊢
        refine thn (pe.run _ s9 σ8 H9 _ I9 q9) fun z s10 hh10 => ?_
        obtain ⟨yv, H10, I10, r10, acc, hD10, hz10, nx⟩ := hh10
        exact app_ok (X := (X.blk s3 H3 scope ce fp).wish xb) I10 hD10 hz10 r10 fun s11 I11 => fin I11 nx
  exact codeAny_compStart_list loop (T.self X.A 0 _ _ _ st4 loop)
end
end Sh

set_option maxHeartbeats 4000000
/-! R5: smaller rules: X() of an own error class, methods called in a block, a def held by a name, a promise over a wider wish. -/
namespace Sh
open PySem PySem.Spec PyProof.Rows L2
section
variable {X : Cx} {j k : Nat} {x m : Str} {ps : List Str} {sp : Sp} {C : Addr} {e o : Expr} {es : List Expr} {ta : TE} {t : TA} {p pos apos : Pos}
/-- X(), X an own exception class without an __init__ -/
theorem pmk_own0 {bmB : List Value} {B newId initId : String} (F : ExcBaseFacts B newId initId bmB) (q : PySem.W.excIn X.K C bmB newId = true) (gC : X.mg x = some (.ref C)) (kC : PySem.W.keepIn X.K (.ref C) = true) (r : Raises X (.ref C)) (hg : Gl X x := by rfl)
    (hdb : (x == ("__debug__" : Str)) = false := by decide) : L2N.PMk X (.Call (.Name x p) [] [] pos) (fun _ H Q => Q (.ref C) none H) := by
  intro pins s σ H Q I h
  refine wpAny_Call_Name_kw (ld_glob I hg gC ?_ hdb)
  refine PySem.W.callWith_K0 I.kIn kC ?_
  show wpAny _ _ (call (.ref C) []) _ _ _
  obtain ⟨bm, N, nm, qn, bs, hdct, sn, sub, ab, col, dd, k0, k1, k2, k3, k5, mN, hC, hN, hni, T⟩ := exc_obj I.kIn q
  exact wpAny_call_exc_subT F T hC hN hni (fun h' e hm => L2N.mk_of I hm r h (I.hok.gone hm.new)) (Nat.zero_le _)
/-- o.m(), what it raises by PassesAt (in a comprehension's block) -/
def tMtE (C : Addr) (m : Str) (sp : Sp) (E : XK) (ta : TE) (t : TA) : TE := fun σ H Q => ta σ H fun x H1 => ∃ a dx fs, x = .ref a ∧ H1 a = some (.ins C dx fs) ∧ fs.lookup m = none ∧ t σ H1 fun vs H2 => sp (x :: vs) H2 Q E
theorem pe_m0E {pl : Sem Bool} {E : XK} (he : PE X o ta) (c : Cls X.K C) (D : OkM X.prog X.w X.K X.mg X.base j C m ps sp) (hr : Room k X.A) (hx : ∀ σ, PassesAt (L2N.CX X.prog X.w) X σ E) (hj : j ≤ k := by decide)
    (ht : eval (.Call (.Attribute o m apos) [] [] pos) X.env = (do
      let ov ← eval o X.env
      standAt apos.atName
      let (f, first) ← holding [ov] (getMethod ov m pl)
      callWith pos f first (backTo pos (starEach [] X.env)) (backToKw pos (keywordEach [] X.env))) := by rfl) :
    PE X (.Call (.Attribute o m apos) [] [] pos) (tMtE C m sp E ta tNil) := by
  obtain ⟨f, fd, F, hm, hb⟩ := D.ex
  refine ⟨fun pins s σ H Q I h => ?_⟩
  refine PySem.W.methodCall_KW (pl := pl) (thn (he.run pins s σ H _ I h) fun u s1 hh => ?_) ht
  obtain ⟨x, H1, I1, rx, a, dx, fs, ex, ea, l, q⟩ := hh
  subst ex
  obtain rfl : u = Value.ref a := rx
  refine getmeth_ok I1 ea c hm l ?_
  exact PySem.W.callWith_K0 (first := [.ref a]) I1.kIn hm.kp (run_fnS (E := fun _ => E) (us := [.ref a]) (vs := [.ref a]) F (hr.mono hj) hb (hx σ) I1 (.cons rfl .nil) q)
/-- what a def lets out by L2N.CX it lets out by L2.CX -/
theorem cx_wide {P : Program} {w : World} {outer : List Env} {H : Hp} {s : Shared} {E : XK} {u : Value} {s' : Shared} (h : L2N.CX P w outer H s E u s') : L2.CX P w outer H s E u s' := by
  obtain ⟨a, B, H', cls, d, e, fl, r⟩ := h
  exact ⟨a, B, H', cls, d, e, L2H.flyingZ_imp (fun o z => L2N.Zn.zc z) fl, r⟩
theorem fnOk_wide {P : Program} {w : World} {K : PySem.W.Frag} {mg : Str → Option Value} {base : Heap} {k : Nat} {f : Addr} {fd : FuncData} (F : FnOk P w K mg base (L2N.CX P w) k f fd ps sp) : FnOk P w K mg base (L2.CX P w) k f fd ps sp :=
  ⟨F.len, fun A outer s H args us vs Q E hr e0 hb r h => codeAny_mono (F.run A outer s H args us vs Q E hr e0 hb r h) fun res s' z => by
    cases res with
    | ok fl => cases fl <;> exact z
    | error er => exact cx_wide z⟩
/-- the def at f keeps sp, whatever its exceptions' context -/
structure HeldW (P : Program) (w : World) (K : PySem.W.Frag) (mg : Str → Option Value) (base : Heap) (k : Nat) (f : Addr) (n : Nat) (sp : Sp) : Prop where
  ex : ∃ (fd : FuncData) (ps : List Str), FnOk P w K mg base (L2.CX P w) k f fd ps sp ∧ PySem.W.keepIn K (.ref f) = true ∧ Binds K fd ps []
/-- v(e, ..), v a name of the def in whose slot i a def stands -/
def tLc1 (i : Nat) (S : Addr → Option Sp) (W : WX) (t : TA) : TE := fun σ H Q => ∃ f sp, σ[i]? = some (some (.ref f)) ∧ S f = some sp ∧ t σ H fun vs H1 => sp vs H1 Q fun cls d H2 => W cls d σ H2
theorem pe_cl {i : Nat} {S : Addr → Option Sp} {W : WX} (A : ∀ f sp, S f = some sp → ∃ n, HeldW X.prog X.w X.K X.mg X.base k f n sp) (hr : Room k X.A) (tk : L2.Takes X W) (ha : PA X (e :: es) t) (hN : X.N[i]? = some x := by rfl)
    (hv : Vis X.env.scope x := by first | exact Or.inl rfl | exact Or.inr (Or.inl rfl)) (hdb : (x == ("__debug__" : Str)) = false := by decide) (hcd : (x == ("__classdict__" : Str)) = false := by decide)
    (he : starEach (e :: es) X.env = (false, eval e X.env) :: starEach es X.env := by rfl) (hpl : (backTo pos (starEach es X.env)).any (·.1) = false := by rfl) :
    PE X (.Call (.Name x p) (e :: es) [] pos) (tLc1 i S W t) := by
  refine ⟨fun pins s σ H Q I h => ?_⟩
  obtain ⟨f, sp, hs, hS, ht⟩ := h
  obtain ⟨n, ⟨fd, ps, F, hk, hb⟩⟩ := A f sp hS
  refine wpAny_Call_Name_kw (thn ((pe_var (pos := p) hN hv hdb hcd).run pins s σ H (fun v H1 => v = .ref f ∧ H1 = H) I ⟨.ref f, hs, rfl, rfl⟩) fun u s1 hh => ?_)
  obtain ⟨v, H1, I1, r1, rfl, rfl⟩ := hh
  cases r1
  refine PySem.W.callWith_K (h₀ := X.base) I.ok.mod.kin hk (thn (ha.run pos pins s1 σ _ _ I1 ht) fun us s2 hh => ?_) he hpl
  obtain ⟨vs, H2, I2, r, q⟩ := hh
  exact ⟨I2.kIn, run_fnS (us := us) (vs := vs) F hr hb (L2.passAt tk σ) I2 r q⟩
end
end Sh

set_option maxHeartbeats 2000000
/-! S1: the defs of the linked text by their places; their scopes; printed by gentext.py. -/
namespace Sh
open PySem PySem.Spec PyProof.Rows L2
def top (i : Nat) : Stmt := PySem.Challenge.pw_sharedstore_s01_answers.main.body.getD i (.Pass ⟨0, 0, 0, 0⟩)
abbrev s_Client_init : Stmt := inClass (top 6) 0
theorem c_Client_init : FnScope ["self"] ["self"] (defScope s_Client_init) := ⟨rfl, rfl, rfl, by decide +kernel, rfl, by decide +kernel, by decide +kernel⟩
abbrev s_Store_init : Stmt := inClass (top 7) 0
theorem c_Store_init : FnScope ["self", "many", "number"] ["self", "many"] (defScope s_Store_init) := ⟨rfl, rfl, rfl, by decide +kernel, rfl, by decide +kernel, by decide +kernel⟩
abbrev s_Store_make : Stmt := inClass (top 7) 1
theorem c_Store_make : FnScope ["self", "many"] ["self", "many"] (defScope s_Store_make) := ⟨rfl, rfl, rfl, by decide +kernel, rfl, by decide +kernel, by decide +kernel⟩
abbrev s_Store_duplicate : Stmt := inClass (top 7) 2
theorem c_Store_duplicate : FnScope ["self", "found", "client", "other", "name", "message"] ["self"] (defScope s_Store_duplicate) := ⟨rfl, rfl, rfl, by decide +kernel, rfl, by decide +kernel, by decide +kernel⟩
abbrev s_root_rows : Stmt := top 8
theorem c_root_rows : FnScope ["client", "number", "found", "at", "message", "own"] ["client"] (defScope s_root_rows) := ⟨rfl, rfl, rfl, by decide +kernel, rfl, by decide +kernel, by decide +kernel⟩
abbrev s_root_values : Stmt := top 9
theorem c_root_values : FnScope ["client", "index", "own"] ["client"] (defScope s_root_values) := ⟨rfl, rfl, rfl, by decide +kernel, rfl, by decide +kernel, by decide +kernel⟩
abbrev s_all_values : Stmt := top 10
theorem c_all_values : FnScope ["store", "found", "client"] ["store"] (defScope s_all_values) := ⟨rfl, rfl, rfl, by decide +kernel, rfl, by decide +kernel, by decide +kernel⟩
abbrev s_walk : Stmt := top 11
theorem c_walk : FnScope ["store", "row", "known", "found", "waiting", "at", "kind", "name"] ["store", "row"] (defScope s_walk) := ⟨rfl, rfl, rfl, by decide +kernel, rfl, by decide +kernel, by decide +kernel⟩
abbrev s_client_walk : Stmt := top 12
theorem c_client_walk : FnScope ["store", "number"] ["store", "number"] (defScope s_client_walk) := ⟨rfl, rfl, rfl, by decide +kernel, rfl, by decide +kernel, by decide +kernel⟩
abbrev s_store_walk : Stmt := top 13
theorem c_store_walk : FnScope ["store"] ["store"] (defScope s_store_walk) := ⟨rfl, rfl, rfl, by decide +kernel, rfl, by decide +kernel, by decide +kernel⟩
abbrev s_unreached : Stmt := top 14
theorem c_unreached : FnScope ["store", "reached", "name"] ["store"] (defScope s_unreached) := ⟨rfl, rfl, rfl, by decide +kernel, rfl, by decide +kernel, by decide +kernel⟩
abbrev s_root_at : Stmt := top 15
theorem c_root_at : FnScope ["client", "index", "at", "number"] ["client", "index"] (defScope s_root_at) := ⟨rfl, rfl, rfl, by decide +kernel, rfl, by decide +kernel, by decide +kernel⟩
abbrev s_field_at : Stmt := top 16
theorem c_field_at : FnScope ["store", "own", "field"] ["store", "own", "field"] (defScope s_field_at) := ⟨rfl, rfl, rfl, by decide +kernel, rfl, by decide +kernel, by decide +kernel⟩
abbrev s_value_at : Stmt := top 17
theorem c_value_at : FnScope ["store", "number", "path", "found", "field"] ["store", "number", "path"] (defScope s_value_at) := ⟨rfl, rfl, rfl, by decide +kernel, rfl, by decide +kernel, by decide +kernel⟩
abbrev s_value_at_place : Stmt := top 18
theorem c_value_at_place : FnScope ["store", "place"] ["store", "place"] (defScope s_value_at_place) := ⟨rfl, rfl, rfl, by decide +kernel, rfl, by decide +kernel, by decide +kernel⟩
abbrev s_detail : Stmt := top 19
theorem c_detail : FnScope ["store", "own"] ["store", "own"] (defScope s_detail) := ⟨rfl, rfl, rfl, by decide +kernel, rfl, by decide +kernel, by decide +kernel⟩
abbrev s_paths_of : Stmt := top 20
theorem c_paths_of : FnScope ["store", "number", "found", "own", "waiting", "at", "path", "field", "behind", "index"] ["store", "number"] (defScope s_paths_of) := ⟨rfl, rfl, rfl, by decide +kernel, rfl, by decide +kernel, by decide +kernel⟩
abbrev s_references_of : Stmt := top 23
theorem c_references_of : FnScope ["store", "number", "names", "numbers", "found", "at", "name", "index", "own", "field"] ["store", "number"] (defScope s_references_of) := ⟨rfl, rfl, rfl, by decide +kernel, rfl, by decide +kernel, by decide +kernel⟩
abbrev s_steps_from : Stmt := top 24
theorem c_steps_from : FnScope ["references", "used", "point", "found", "place", "begin", "end", "label"] ["references", "used", "point"] (defScope s_steps_from) := ⟨rfl, rfl, rfl, by decide +kernel, rfl, by decide +kernel, by decide +kernel⟩
abbrev s_spread : Stmt := top 25
theorem c_spread : FnScope ["references", "used", "found", "waiting", "at", "point", "other", "place"] ["references", "used"] (defScope s_spread) := ⟨rfl, rfl, rfl, by decide +kernel, rfl, by decide +kernel, by decide +kernel⟩
abbrev s_lead_more : Stmt := top 26
theorem c_lead_more : FnScope ["used", "reached", "target", "point", "place"] ["used", "reached", "target"] (defScope s_lead_more) := ⟨rfl, rfl, rfl, by decide +kernel, rfl, by decide +kernel, by decide +kernel⟩
abbrev s_cut_of : Stmt := top 27
theorem c_cut_of : FnScope ["store", "number", "name", "references", "target", "used", "reached", "label", "labels", "found", "begin", "end"] ["store", "number", "name"] (defScope s_cut_of) := ⟨rfl, rfl, rfl, by decide +kernel, rfl, by decide +kernel, by decide +kernel⟩
abbrev s_Side_init : Stmt := inClass (top 30) 0
theorem c_Side_init : FnScope ["self", "store", "numbers"] ["self", "store", "numbers"] (defScope s_Side_init) := ⟨rfl, rfl, rfl, by decide +kernel, rfl, by decide +kernel, by decide +kernel⟩
abbrev s_found_at : Stmt := top 31
theorem c_found_at : FnScope ["store", "number", "path", "found"] ["store", "number", "path"] (defScope s_found_at) := ⟨rfl, rfl, rfl, by decide +kernel, rfl, by decide +kernel, by decide +kernel⟩
abbrev s_message_size : Stmt := top 32
theorem c_message_size : FnScope ["store", "number", "message", "inbox"] ["store", "number", "message"] (defScope s_message_size) := ⟨rfl, rfl, rfl, by decide +kernel, rfl, by decide +kernel, by decide +kernel⟩
abbrev s_size_result : Stmt := top 33
theorem c_size_result : FnScope ["store", "number", "rest", "own"] ["store", "number", "rest"] (defScope s_size_result) := ⟨rfl, rfl, rfl, by decide +kernel, rfl, by decide +kernel, by decide +kernel⟩
abbrev s_same_result : Stmt := top 34
theorem c_same_result : FnScope ["store", "number", "rest", "end", "one", "other"] ["store", "number", "rest"] (defScope s_same_result) := ⟨rfl, rfl, rfl, by decide +kernel, rfl, by decide +kernel, by decide +kernel⟩
abbrev s_result_of : Stmt := top 35
theorem c_result_of : FnScope ["store", "number", "test"] ["store", "number", "test"] (defScope s_result_of) := ⟨rfl, rfl, rfl, by decide +kernel, rfl, by decide +kernel, by decide +kernel⟩
abbrev s_heads : Stmt := top 36
theorem c_heads : FnScope ["side", "is_store", "number"] ["side", "is_store"] (defScope s_heads) := ⟨rfl, rfl, rfl, by decide +kernel, rfl, by decide +kernel, by decide +kernel⟩
abbrev s_size_difference : Stmt := top 37
theorem c_size_difference : FnScope ["left", "right", "is_store", "number", "other", "message"] ["left", "right", "is_store"] (defScope s_size_difference) := ⟨rfl, rfl, rfl, by decide +kernel, rfl, by decide +kernel, by decide +kernel⟩
abbrev s_begun_queue : Stmt := top 38
theorem c_begun_queue : FnScope ["left", "right", "is_store", "found", "head", "one", "same", "other", "index", "mine", "there", "theirs"] ["left", "right", "is_store"] (defScope s_begun_queue) := ⟨rfl, rfl, rfl, by decide +kernel, rfl, by decide +kernel, by decide +kernel⟩
abbrev s_met_with : Stmt := top 39
theorem c_met_with : FnScope ["pairs", "one", "other", "path", "mine", "theirs"] ["pairs", "one", "other"] (defScope s_met_with) := ⟨rfl, rfl, rfl, by decide +kernel, rfl, by decide +kernel, by decide +kernel⟩
abbrev s_are_paired : Stmt := top 40
theorem c_are_paired : FnScope ["pairs", "one", "other", "path", "mine", "theirs"] ["pairs", "one", "other"] (defScope s_are_paired) := ⟨rfl, rfl, rfl, by decide +kernel, rfl, by decide +kernel, by decide +kernel⟩
abbrev s_difference : Stmt := top 41
theorem c_difference : FnScope ["left", "right", "is_store", "queue", "pairs", "at", "path", "mine", "theirs", "one", "other", "elder", "field", "behind"] ["left", "right", "is_store"] (defScope s_difference) := ⟨rfl, rfl, rfl, by decide +kernel, rfl, by decide +kernel, by decide +kernel⟩
abbrev s_clients_difference : Stmt := top 42
theorem c_clients_difference : FnScope ["store", "number", "other", "left", "right", "found"] ["store", "number", "other"] (defScope s_clients_difference) := ⟨rfl, rfl, rfl, by decide +kernel, rfl, by decide +kernel, by decide +kernel⟩
abbrev s_stores_difference : Stmt := top 43
theorem c_stores_difference : FnScope ["store", "other", "numbers", "left", "right", "found"] ["store", "other"] (defScope s_stores_difference) := ⟨rfl, rfl, rfl, by decide +kernel, rfl, by decide +kernel, by decide +kernel⟩
abbrev s_Unread_init : Stmt := inClass (top 50) 0
theorem c_Unread_init : FnScope ["self", "index"] ["self", "index"] (defScope s_Unread_init) := ⟨rfl, rfl, rfl, by decide +kernel, rfl, by decide +kernel, by decide +kernel⟩
abbrev s_numbered : Stmt := top 51
theorem c_numbered : FnScope ["names", "found", "at", "name"] ["names"] (defScope s_numbered) := ⟨rfl, rfl, rfl, by decide +kernel, rfl, by decide +kernel, by decide +kernel⟩
abbrev s_written : Stmt := top 52
theorem c_written : FnScope ["own", "numbers"] ["own", "numbers"] (defScope s_written) := ⟨rfl, rfl, rfl, by decide +kernel, rfl, by decide +kernel, by decide +kernel⟩
abbrev s_row_written : Stmt := top 53
theorem c_row_written : FnScope ["row", "numbers", "found", "own"] ["row", "numbers"] (defScope s_row_written) := ⟨rfl, rfl, rfl, by decide +kernel, rfl, by decide +kernel, by decide +kernel⟩
abbrev s_client_text : Stmt := top 54
theorem c_client_text : FnScope ["client", "numbers", "found", "message"] ["client", "numbers"] (defScope s_client_text) := ⟨rfl, rfl, rfl, by decide +kernel, rfl, by decide +kernel, by decide +kernel⟩
abbrev s_things_text : Stmt := top 55
theorem c_things_text : FnScope ["store", "names", "numbers", "found", "name"] ["store", "names", "numbers"] (defScope s_things_text) := ⟨rfl, rfl, rfl, by decide +kernel, rfl, by decide +kernel, by decide +kernel⟩
abbrev s_client_view : Stmt := top 56
theorem c_client_view : FnScope ["store", "number", "names", "numbers"] ["store", "number"] (defScope s_client_view) := ⟨rfl, rfl, rfl, by decide +kernel, rfl, by decide +kernel, by decide +kernel⟩
abbrev s_store_view : Stmt := top 57
theorem c_store_view : FnScope ["store", "names", "numbers", "found", "client"] ["store"] (defScope s_store_view) := ⟨rfl, rfl, rfl, by decide +kernel, rfl, by decide +kernel, by decide +kernel⟩
abbrev s_Reader_init : Stmt := inClass (top 58) 0
theorem c_Reader_init : FnScope ["self", "text"] ["self", "text"] (defScope s_Reader_init) := ⟨rfl, rfl, rfl, by decide +kernel, rfl, by decide +kernel, by decide +kernel⟩
abbrev s_Reader_number : Stmt := inClass (top 58) 1
theorem c_Reader_number : FnScope ["self", "low", "high"] ["self", "low", "high"] (defScope s_Reader_number) := ⟨rfl, rfl, rfl, by decide +kernel, rfl, by decide +kernel, by decide +kernel⟩
abbrev s_Reader_value : Stmt := inClass (top 58) 2
theorem c_Reader_value : FnScope ["self", "kind", "name"] ["self"] (defScope s_Reader_value) := ⟨rfl, rfl, rfl, by decide +kernel, rfl, by decide +kernel, by decide +kernel⟩
abbrev s_Reader_row : Stmt := inClass (top 58) 3
theorem c_Reader_row : FnScope ["self", "many", "number"] ["self", "many"] (defScope s_Reader_row) := ⟨rfl, rfl, rfl, by decide +kernel, rfl, by decide +kernel, by decide +kernel⟩
abbrev s_Reader_client : Stmt := inClass (top 58) 4
theorem c_Reader_client : FnScope ["self", "found", "number"] ["self"] (defScope s_Reader_client) := ⟨rfl, rfl, rfl, by decide +kernel, rfl, by decide +kernel, by decide +kernel⟩
abbrev s_Reader_thing : Stmt := inClass (top 58) 5
theorem c_Reader_thing : FnScope ["self", "name"] ["self", "name"] (defScope s_Reader_thing) := ⟨rfl, rfl, rfl, by decide +kernel, rfl, by decide +kernel, by decide +kernel⟩
abbrev s_read_store : Stmt := top 59
theorem c_read_store : FnScope ["text", "reader", "store", "number", "many", "name"] ["text"] (defScope s_read_store) := ⟨rfl, rfl, rfl, by decide +kernel, rfl, by decide +kernel, by decide +kernel⟩
abbrev s_Refused_init : Stmt := inClass (top 68) 0
theorem c_Refused_init : FnScope ["self", "code"] ["self", "code"] (defScope s_Refused_init) := ⟨rfl, rfl, rfl, by decide +kernel, rfl, by decide +kernel, by decide +kernel⟩
abbrev s_Desk_init : Stmt := inClass (top 69) 0
theorem c_Desk_init : FnScope ["self"] ["self"] (defScope s_Desk_init) := ⟨rfl, rfl, rfl, by decide +kernel, rfl, by decide +kernel, by decide +kernel⟩
abbrev s_refuse_unless : Stmt := top 70
theorem c_refuse_unless : FnScope ["is_right", "code"] ["is_right", "code"] (defScope s_refuse_unless) := ⟨rfl, rfl, rfl, by decide +kernel, rfl, by decide +kernel, by decide +kernel⟩
abbrev s_need : Stmt := top 71
theorem c_need : FnScope ["number", "low", "high"] ["number", "low", "high"] (defScope s_need) := ⟨rfl, rfl, rfl, by decide +kernel, rfl, by decide +kernel, by decide +kernel⟩
abbrev s_need_slot : Stmt := top 72
theorem c_need_slot : FnScope ["number"] ["number"] (defScope s_need_slot) := ⟨rfl, rfl, rfl, by decide +kernel, rfl, by decide +kernel, by decide +kernel⟩
abbrev s_need_row : Stmt := top 73
theorem c_need_row : FnScope ["row", "least", "most", "high", "element"] ["row", "least", "most", "high"] (defScope s_need_row) := ⟨rfl, rfl, rfl, by decide +kernel, rfl, by decide +kernel, by decide +kernel⟩
abbrev s_opened : Stmt := top 74
theorem c_opened : FnScope ["desk"] ["desk"] (defScope s_opened) := ⟨rfl, rfl, rfl, by decide +kernel, rfl, by decide +kernel, by decide +kernel⟩
abbrev s_need_client : Stmt := top 75
theorem c_need_client : FnScope ["store", "number"] ["store", "number"] (defScope s_need_client) := ⟨rfl, rfl, rfl, by decide +kernel, rfl, by decide +kernel, by decide +kernel⟩
abbrev s_client_of : Stmt := top 76
theorem c_client_of : FnScope ["desk", "number", "store"] ["desk", "number"] (defScope s_client_of) := ⟨rfl, rfl, rfl, by decide +kernel, rfl, by decide +kernel, by decide +kernel⟩
abbrev s_counted : Stmt := top 77
theorem c_counted : FnScope ["row"] ["row"] (defScope s_counted) := ⟨rfl, rfl, rfl, by decide +kernel, rfl, by decide +kernel, by decide +kernel⟩
abbrev s_open_store : Stmt := top 78
theorem c_open_store : FnScope ["desk", "given", "row"] ["desk", "given", "row"] (defScope s_open_store) := ⟨rfl, rfl, rfl, by decide +kernel, rfl, by decide +kernel, by decide +kernel⟩
abbrev s_make : Stmt := top 79
theorem c_make : FnScope ["desk", "given", "row", "number", "slot", "many", "client"] ["desk", "given", "row"] (defScope s_make) := ⟨rfl, rfl, rfl, by decide +kernel, rfl, by decide +kernel, by decide +kernel⟩
abbrev s_set_number : Stmt := top 80
theorem c_set_number : FnScope ["desk", "given", "row", "number", "slot", "own"] ["desk", "given", "row"] (defScope s_set_number) := ⟨rfl, rfl, rfl, by decide +kernel, rfl, by decide +kernel, by decide +kernel⟩
abbrev s_clear_slot : Stmt := top 81
theorem c_clear_slot : FnScope ["desk", "given", "row", "number", "slot"] ["desk", "given", "row"] (defScope s_clear_slot) := ⟨rfl, rfl, rfl, by decide +kernel, rfl, by decide +kernel, by decide +kernel⟩
abbrev s_copy_slot : Stmt := top 82
theorem c_copy_slot : FnScope ["desk", "given", "row", "number", "source", "target", "client"] ["desk", "given", "row"] (defScope s_copy_slot) := ⟨rfl, rfl, rfl, by decide +kernel, rfl, by decide +kernel, by decide +kernel⟩
abbrev s_need_field : Stmt := top 83
theorem c_need_field : FnScope ["store", "own", "field"] ["store", "own", "field"] (defScope s_need_field) := ⟨rfl, rfl, rfl, by decide +kernel, rfl, by decide +kernel, by decide +kernel⟩
abbrev s_read_field : Stmt := top 84
theorem c_read_field : FnScope ["desk", "given", "row", "number", "source", "field", "target", "client"] ["desk", "given", "row"] (defScope s_read_field) := ⟨rfl, rfl, rfl, by decide +kernel, rfl, by decide +kernel, by decide +kernel⟩
abbrev s_write_field : Stmt := top 85
theorem c_write_field : FnScope ["desk", "given", "row", "number", "slot", "field", "source", "client"] ["desk", "given", "row"] (defScope s_write_field) := ⟨rfl, rfl, rfl, by decide +kernel, rfl, by decide +kernel, by decide +kernel⟩
abbrev s_inspect : Stmt := top 86
theorem c_inspect : FnScope ["desk", "given", "row", "number", "slot", "client"] ["desk", "given", "row"] (defScope s_inspect) := ⟨rfl, rfl, rfl, by decide +kernel, rfl, by decide +kernel, by decide +kernel⟩
abbrev s_same : Stmt := top 87
theorem c_same : FnScope ["desk", "given", "row", "number", "slot", "other", "client"] ["desk", "given", "row"] (defScope s_same) := ⟨rfl, rfl, rfl, by decide +kernel, rfl, by decide +kernel, by decide +kernel⟩
abbrev s_send : Stmt := top 88
theorem c_send : FnScope ["desk", "given", "row", "number", "receiver", "client", "inbox", "slot"] ["desk", "given", "row"] (defScope s_send) := ⟨rfl, rfl, rfl, by decide +kernel, rfl, by decide +kernel, by decide +kernel⟩
abbrev s_receive : Stmt := top 89
theorem c_receive : FnScope ["desk", "given", "row", "number", "slot", "client", "message", "at", "own"] ["desk", "given", "row"] (defScope s_receive) := ⟨rfl, rfl, rfl, by decide +kernel, rfl, by decide +kernel, by decide +kernel⟩
abbrev s_waiting : Stmt := top 90
theorem c_waiting : FnScope ["desk", "given", "row", "message"] ["desk", "given", "row"] (defScope s_waiting) := ⟨rfl, rfl, rfl, by decide +kernel, rfl, by decide +kernel, by decide +kernel⟩
abbrev s_view : Stmt := top 91
theorem c_view : FnScope ["desk", "given", "row"] ["desk", "given", "row"] (defScope s_view) := ⟨rfl, rfl, rfl, by decide +kernel, rfl, by decide +kernel, by decide +kernel⟩
abbrev s_view_all : Stmt := top 92
theorem c_view_all : FnScope ["desk", "given", "row"] ["desk", "given", "row"] (defScope s_view_all) := ⟨rfl, rfl, rfl, by decide +kernel, rfl, by decide +kernel, by decide +kernel⟩
abbrev s_load : Stmt := top 93
theorem c_load : FnScope ["desk", "given", "row", "store", "error"] ["desk", "given", "row"] (defScope s_load) := ⟨rfl, rfl, rfl, by decide +kernel, rfl, by decide +kernel, by decide +kernel⟩
abbrev s_told : Stmt := top 94
theorem c_told : FnScope ["found"] ["found"] (defScope s_told) := ⟨rfl, rfl, rfl, by decide +kernel, rfl, by decide +kernel, by decide +kernel⟩
abbrev s_compare_clients : Stmt := top 95
theorem c_compare_clients : FnScope ["desk", "given", "row", "number", "other"] ["desk", "given", "row"] (defScope s_compare_clients) := ⟨rfl, rfl, rfl, by decide +kernel, rfl, by decide +kernel, by decide +kernel⟩
abbrev s_mark : Stmt := top 96
theorem c_mark : FnScope ["desk", "given", "row"] ["desk", "given", "row"] (defScope s_mark) := ⟨rfl, rfl, rfl, by decide +kernel, rfl, by decide +kernel, by decide +kernel⟩
abbrev s_compare_mark : Stmt := top 97
theorem c_compare_mark : FnScope ["desk", "given", "row", "store"] ["desk", "given", "row"] (defScope s_compare_mark) := ⟨rfl, rfl, rfl, by decide +kernel, rfl, by decide +kernel, by decide +kernel⟩
abbrev s_run_test : Stmt := top 98
theorem c_run_test : FnScope ["desk", "given", "row", "store"] ["desk", "given", "row"] (defScope s_run_test) := ⟨rfl, rfl, rfl, by decide +kernel, rfl, by decide +kernel, by decide +kernel⟩
abbrev s_thing_at : Stmt := top 99
theorem c_thing_at : FnScope ["store", "place", "own"] ["store", "place"] (defScope s_thing_at) := ⟨rfl, rfl, rfl, by decide +kernel, rfl, by decide +kernel, by decide +kernel⟩
abbrev s_find_path : Stmt := top 100
theorem c_find_path : FnScope ["desk", "given", "row", "name", "path"] ["desk", "given", "row"] (defScope s_find_path) := ⟨rfl, rfl, rfl, by decide +kernel, rfl, by decide +kernel, by decide +kernel⟩
abbrev s_holders : Stmt := top 101
theorem c_holders : FnScope ["desk", "given", "row", "store", "name", "numbers", "number"] ["desk", "given", "row"] (defScope s_holders) := ⟨rfl, rfl, rfl, by decide +kernel, rfl, by decide +kernel, by decide +kernel⟩
abbrev s_range_of : Stmt := top 102
theorem c_range_of : FnScope ["store"] ["store"] (defScope s_range_of) := ⟨rfl, rfl, rfl, by decide +kernel, rfl, by decide +kernel, by decide +kernel⟩
abbrev s_retained : Stmt := top 103
theorem c_retained : FnScope ["desk", "given", "row", "number", "slot", "other"] ["desk", "given", "row"] (defScope s_retained) := ⟨rfl, rfl, rfl, by decide +kernel, rfl, by decide +kernel, by decide +kernel⟩
abbrev s_cut : Stmt := top 104
theorem c_cut : FnScope ["desk", "given", "row", "name"] ["desk", "given", "row"] (defScope s_cut) := ⟨rfl, rfl, rfl, by decide +kernel, rfl, by decide +kernel, by decide +kernel⟩
abbrev s_garbage : Stmt := top 105
theorem c_garbage : FnScope ["desk", "given", "row"] ["desk", "given", "row"] (defScope s_garbage) := ⟨rfl, rfl, rfl, by decide +kernel, rfl, by decide +kernel, by decide +kernel⟩
abbrev s_sweep : Stmt := top 106
theorem c_sweep : FnScope ["desk", "given", "row", "flag", "store", "names", "name", "gone", "kept"] ["desk", "given", "row"] (defScope s_sweep) := ⟨rfl, rfl, rfl, by decide +kernel, rfl, by decide +kernel, by decide +kernel⟩
abbrev s_counts : Stmt := top 107
theorem c_counts : FnScope ["desk", "given", "row", "store", "client"] ["desk", "given", "row"] (defScope s_counts) := ⟨rfl, rfl, rfl, by decide +kernel, rfl, by decide +kernel, by decide +kernel⟩
abbrev s_answered : Stmt := top 109
theorem c_answered : FnScope ["desk", "number", "given", "row", "operation", "error"] ["desk", "number", "given", "row"] (defScope s_answered) := ⟨rfl, rfl, rfl, by decide +kernel, rfl, by decide +kernel, by decide +kernel⟩
abbrev s_answers : Stmt := top 110
theorem c_answers : FnScope ["calls", "desk", "found", "at", "number", "behind", "given", "row"] ["calls"] (defScope s_answers) := ⟨rfl, rfl, rfl, by decide +kernel, rfl, by decide +kernel, by decide +kernel⟩
end Sh

set_option maxHeartbeats 2000000
/-! S2: what the top has left: constants, classes, built-ins. -/
namespace Sh
open PySem PySem.Spec PyProof.Rows L2
/-- the places of classes and constants -/
structure Ad where
  client : Addr
  store : Addr
  side : Addr
  reader : Addr
  desk : Addr
  failed : Addr
  unread : Addr
  refused : Addr
  unreadI : Addr
  refusedI : Addr
  nothing : Addr
  integers : Addr
  listed : Addr
  operations : Addr
/-- the module's name x is the int i -/
def Ci (mg : Str → Option Value) (x : Str) (i : Int) : Prop := ∃ t, mg x = some (.int i t)
theorem pe_ci {X : Cx} {x : Str} {i : Int} {pos : Pos} (c : Ci X.mg x i) (hg : Gl X x := by rfl) (hd : (x == ("__debug__" : Str)) = false := by decide) : PE X (.Name x pos) (L2.tC (.int i)) := by
  obtain ⟨t, e⟩ := c
  exact pe_glob hg e ⟨t, rfl⟩ hd
structure Tx (K : PySem.W.Frag) (mg : Str → Option Value) (ad : Ad) : Prop where
  g_NOTHING : mg "NOTHING" = some (.ref ad.nothing)
  nothing : ∀ H, SqT K H ad.nothing [.int 0, .int 0]
  g_INTEGERS : mg "INTEGERS" = some (.ref ad.integers)
  integers : ∀ H, SqT K H ad.integers (([1, 3, 3, 2, 3, 4, 4, 2, 3, 2, 2, 1, 1, 0, 0, 2, 0, 0, 1, 1, 0, 2, 1, 0, 0, 0] : List Int).map V.int)
  g_LISTED : mg "LISTED" = some (.ref ad.listed)
  listed : ∀ H, SqT K H ad.listed (([9, 14, 18, 19, 20, 22, 24] : List Int).map V.int)
  g_OPERATIONS : mg "OPERATIONS" = some (.ref ad.operations)
  c_NUMBER : Ci mg "NUMBER" 1
  c_REFERENCE : Ci mg "REFERENCE" 2
  c_SLOTS : Ci mg "SLOTS" 6
  c_MOST_IN_MESSAGE : Ci mg "MOST_IN_MESSAGE" 3
  c_SOURCE : Ci mg "SOURCE" 0
  c_MOST_CREATED : Ci mg "MOST_CREATED" 48
  c_MOST_CLIENTS : Ci mg "MOST_CLIENTS" 4
  c_MOST_MESSAGES : Ci mg "MOST_MESSAGES" 4
  c_MOST_IN : Ci mg "MOST_IN" 3
  c_MOST_FIELDS : Ci mg "MOST_FIELDS" 4
  c_MOST_CLIENT : Ci mg "MOST_CLIENT" 4
  c_MOST_SLOT : Ci mg "MOST_SLOT" 5
  c_MOST_FIELD : Ci mg "MOST_FIELD" 3
  c_MOST_PATH : Ci mg "MOST_PATH" 120
  c_MOST_ELEMENT : Ci mg "MOST_ELEMENT" 100
  k_client : Cls K ad.client
  n_slots : NoAttr K ad.client "slots"
  n_inbox : NoAttr K ad.client "inbox"
  k_store : Cls K ad.store
  n_clients : NoAttr K ad.store "clients"
  n_things : NoAttr K ad.store "things"
  n_created : NoAttr K ad.store "created"
  n_last : NoAttr K ad.store "last"
  k_side : Cls K ad.side
  n_store : NoAttr K ad.side "store"
  n_numbers : NoAttr K ad.side "numbers"
  k_reader : Cls K ad.reader
  n_text : NoAttr K ad.reader "text"
  n_at : NoAttr K ad.reader "at"
  r_created : NoAttr K ad.reader "created"
  n_most : NoAttr K ad.reader "most"
  n_met : NoAttr K ad.reader "met"
  k_desk : Cls K ad.desk
  d_store : NoAttr K ad.desk "store"
  n_marked : NoAttr K ad.desk "marked"
  unread : EC K mg "Unread" "index" ad.unread ad.unreadI
  refused : EC K mg "Refused" "code" ad.refused ad.refusedI
  g_Failed : mg "Failed" = some (.ref ad.failed)
  x_Failed : PySem.W.excIn K ad.failed ebm "Exception.__new__" = true
  kp_Failed : PySem.W.keepIn K (.ref ad.failed) = true
  s_Failed : PySem.W.subIn K (.ref ad.failed) (.type "BaseException") = some true
  t_Failed : PySem.W.typeIn K (.ref ad.failed) = some (.type "type")
  e_Failed : PySem.W.exmOne K (.ref ad.failed) (.ref ad.failed) = some true
  v_Exception : PySem.W.findCls K (.type "Exception") (.type "type") "__init__" = some (.val (.builtin "Exception.__init__"))
  b_len : mg "len" = none
  b_list : mg "list" = none
  b_range : mg "range" = none
  b_enumerate : mg "enumerate" = none
  b_zip : mg "zip" = none
  b_divmod : mg "divmod" = none
  b_sorted : mg "sorted" = none
  b_min : mg "min" = none
  b_max : mg "max" = none
  b_int : mg "int" = none
  b_sum : mg "sum" = none
  b_Exception : mg "Exception" = none
theorem Tx.raises_Failed {X : Cx} {ad : Ad} (T : Tx X.K X.mg ad) : Raises X (.ref ad.failed) := raises_own T.s_Failed T.t_Failed
end Sh

set_option maxHeartbeats 2000000
/-! S3: how a store of the specification lies in the heap. -/
namespace Sh
open PySem PySem.Spec PyProof.Rows L2
abbrev VV := Vbxlaa.Value
abbrev VC := Vbxlaa.Client
abbrev VO := Vbxlaa.Object
abbrev VSt := Vbxlaa.Store
/-! ### pairs of lists -/
theorem pair_get {α β : Type} {F : α → β → Prop} : ∀ {xs : List α} {us : List β} {i : Nat} {u : β}, Paired F xs us → us[i]? = some u → ∃ x, xs[i]? = some x ∧ F x u
  | _, _, _, _, .nil, e => by simp at e
  | _, _, 0, _, .cons r _, e => by simp at e; subst e; exact ⟨_, rfl, r⟩
  | _, _, i + 1, u, .cons _ t, e => by
    obtain ⟨x, h1, h2⟩ := pair_get (i := i) (u := u) t (by simpa using e)
    exact ⟨x, by simpa using h1, h2⟩
theorem pair_get' {α β : Type} {F : α → β → Prop} : ∀ {xs : List α} {us : List β} {i : Nat} {x : α}, Paired F xs us → xs[i]? = some x → ∃ u, us[i]? = some u ∧ F x u
  | _, _, _, _, .nil, e => by simp at e
  | _, _, 0, _, .cons r _, e => by simp at e; subst e; exact ⟨_, rfl, r⟩
  | _, _, i + 1, x, .cons _ t, e => by
    obtain ⟨u, h1, h2⟩ := pair_get' (i := i) (x := x) t (by simpa using e)
    exact ⟨u, by simpa using h1, h2⟩
theorem pair_set {α β : Type} {F : α → β → Prop} {x : α} {u : β} (r : F x u) : ∀ {xs : List α} {us : List β} (i : Nat), Paired F xs us → Paired F (xs.set i x) (us.set i u)
  | _, _, _, .nil => .nil
  | _, _, 0, .cons _ t => .cons r t
  | _, _, i + 1, .cons q t => .cons q (pair_set r i t)
theorem pair_app {α β : Type} {F : α → β → Prop} : ∀ {xs ys : List α} {us ws : List β}, Paired F xs us → Paired F ys ws → Paired F (xs ++ ys) (us ++ ws)
  | _, _, _, _, .nil, s => s
  | _, _, _, _, .cons r t, s => .cons r (pair_app t s)
theorem pair_snoc {α β : Type} {F : α → β → Prop} {xs : List α} {us : List β} {x : α} {u : β} (p : Paired F xs us) (r : F x u) : Paired F (xs ++ [x]) (us ++ [u]) := pair_app p (.cons r .nil)
theorem pair_drop {α β : Type} {F : α → β → Prop} : ∀ {xs : List α} {us : List β} (n : Nat), Paired F xs us → Paired F (xs.drop n) (us.drop n)
  | _, _, 0, r => r
  | _, _, _ + 1, .nil => .nil
  | _, _, n + 1, .cons _ t => pair_drop n t
theorem pair_take {α β : Type} {F : α → β → Prop} : ∀ {xs : List α} {us : List β} (n : Nat), Paired F xs us → Paired F (xs.take n) (us.take n)
  | _, _, 0, _ => .nil
  | _, _, _ + 1, .nil => .nil
  | _, _, n + 1, .cons r t => .cons r (pair_take n t)
theorem pair_of_get {α β : Type} {F : α → β → Prop} : ∀ {xs : List α} {us : List β}, xs.length = us.length → (∀ (i : Nat) (x : α) (u : β), xs[i]? = some x → us[i]? = some u → F x u) → Paired F xs us
  | [], [], _, _ => .nil
  | [], _ :: _, h, _ => by simp at h
  | _ :: _, [], h, _ => by simp at h
  | x :: xs, u :: us, h, f => .cons (f 0 x u rfl rfl) (pair_of_get (by simpa using h) fun i y v h1 h2 => f (i + 1) y v (by simpa using h1) (by simpa using h2))
theorem pair_map {α β γ : Type} {F : α → β → Prop} (f : γ → α) (g : γ → β) : ∀ (l : List γ), (∀ c ∈ l, F (f c) (g c)) → Paired F (l.map f) (l.map g)
  | [], _ => .nil
  | c :: l, h => .cons (h c List.mem_cons_self) (pair_map f g l fun d m => h d (List.mem_cons_of_mem _ m))
/-! ### values -/
def vk : VV → Int
  | .nothing => 0
  | .number _ => 1
  | .object _ => 2
def vp (nm : Nat → Int) : VV → Int
  | .nothing => 0
  | .number n => n
  | .object i => nm i
/-- what is only read of the heap: tuples are kept -/
def Tups (H H' : Hp) : Prop := ∀ b xs, H b = some (.tup xs) → H' b = some (.tup xs)
theorem Same.tups {H H' : Hp} (s : Same H H') : Tups H H' := fun b xs e => s b _ e
theorem Tups.refl {H : Hp} : Tups H H := fun _ _ e => e
theorem Tups.trans {H H1 H2 : Hp} (a : Tups H H1) (b : Tups H1 H2) : Tups H H2 := fun c xs e => b c xs (a c xs e)
theorem Tups.write {H : Hp} {a : Addr} {o u : HO} (e : H a = some u) (d : ∀ xs, u ≠ .tup xs) : Tups H (upd H a o) := fun b xs h => by
  rw [upd_ne (fun z => by rw [z, e] at h; exact d xs (Option.some.inj h))]
  exact h
theorem Tups.new {H : Hp} {a : Addr} {o : HO} (e : H a = none) : Tups H (upd H a o) := fun b xs h => by
  rw [upd_ne (fun z => by rw [z, e] at h; cases h)]
  exact h
theorem Same.new {H : Hp} {a : Addr} {o : HO} (e : H a = none) : Same H (upd H a o) := fun b u h => by
  rw [upd_ne (fun z => by rw [z, e] at h; cases h)]
  exact h
/-- a tuple that stands: tracked, or of the top -/
def TupAt (K : PySem.W.Frag) (H : Hp) (a : Addr) (xs : List V) : Prop := H a = some (.tup xs) ∨ ∀ H', SqT K H' a xs
theorem TupAt.sq {K : PySem.W.Frag} {H : Hp} {a : Addr} {xs : List V} (h : TupAt K H a xs) : SqT K H a xs := h.elim SqT.of fun z => z H
theorem TupAt.keep {K : PySem.W.Frag} {H H' : Hp} {a : Addr} {xs : List V} (h : TupAt K H a xs) (k : Tups H H') : TupAt K H' a xs := h.elim (fun z => .inl (k _ _ z)) .inr
/-- v is the tuple of the value x -/
def IsV (K : PySem.W.Frag) (nm : Nat → Int) (H : Hp) (v : V) (x : VV) : Prop := ∃ t, v = V.ref t ∧ TupAt K H t [.int (vk x), .int (vp nm x)]
theorem IsV.keep {K : PySem.W.Frag} {nm : Nat → Int} {H H' : Hp} {v : V} {x : VV} (h : IsV K nm H v x) (k : Tups H H') : IsV K nm H' v x := let ⟨t, e, z⟩ := h; ⟨t, e, z.keep k⟩
abbrev Row (K : PySem.W.Frag) (nm : Nat → Int) (H : Hp) : List V → List VV → Prop := Paired (IsV K nm H)
theorem Row.keep {K : PySem.W.Frag} {nm : Nat → Int} {H H' : Hp} {vs : List V} {xs : List VV} (h : Row K nm H vs xs) (k : Tups H H') : Row K nm H' vs xs := Paired.mapP h fun _ _ z => z.keep k
/-! ### a store -/
inductive Ro where
  | desk | store (b : Bool) | cls (b : Bool) | client (b : Bool) (i : Nat) | slots (b : Bool) (i : Nat) | inbox (b : Bool) (i : Nat) | imm | things (b : Bool) | thing (b : Bool) (i : Nat)
  deriving DecidableEq
/-- the roles of the store b -/
def Ro.own (b : Bool) : Ro → Bool
  | .desk => false
  | .store c => c == b
  | .cls c => c == b
  | .client c _ => c == b
  | .slots c _ => c == b
  | .inbox c _ => c == b
  | .imm => true
  | .things c => c == b
  | .thing c _ => c == b
abbrev Rm := Addr → Option Ro
section
variable (K : PySem.W.Frag) (ad : Ad) (nm : Nat → Int) (ro : Rm) (H : Hp) (b : Bool)
def MsgAt (v : V) (m : List VV) : Prop := ∃ ma mvs, v = V.ref ma ∧ H ma = some (.lst mvs) ∧ ro ma = some .imm ∧ Row K nm H mvs m
def ClientAt (i : Nat) (ca : Addr) (c : VC) : Prop := ∃ (dx sl ib : Addr) (svs ims : List V), H ca = some (.ins ad.client dx [("slots", .ref sl), ("inbox", .ref ib)]) ∧ ro ca = some (.client b i) ∧
  H sl = some (.lst svs) ∧ ro sl = some (.slots b i) ∧ Row K nm H svs c.slots ∧ H ib = some (.lst ims) ∧ ro ib = some (.inbox b i) ∧ Paired (MsgAt K nm ro H) ims c.inbox
def ThingAt (kv : Key × V) (o : VO) : Prop := kv.1 = .inl (nm o.id) ∧ ∃ (ta : Addr) (tvs : List V), kv.2 = .ref ta ∧ H ta = some (.lst tvs) ∧ ro ta = some (.thing b o.id) ∧ Row K nm H tvs o.fields
/-- names: no two objects share one; those to come follow the last -/
structure NmOk (made : Nat) (last : Int) : Prop where
  inj : ∀ i j, nm i = nm j → i = j
  next : ∀ i, made ≤ i → nm i = last + 1 + ((i - made : Nat) : Int)
structure StoreAt (sa : Addr) (S : VSt) : Prop where
  ex : ∃ (dx cl td : Addr) (cvs : List V) (kvs : List (Key × V)) (last : Int),
    H sa = some (.ins ad.store dx [("clients", .ref cl), ("things", .ref td), ("created", .int S.made), ("last", .int last)]) ∧ ro sa = some (.store b) ∧
    H cl = some (.lst cvs) ∧ ro cl = some (.cls b) ∧ cvs.length = S.clients.length ∧ (∀ (i : Nat) (c : VC), S.clients[i]? = some c → ∃ ca, cvs[i]? = some (.ref ca) ∧ ClientAt K ad nm ro H b i ca c) ∧
    H td = some (.dK kvs) ∧ ro td = some (.things b) ∧ Paired (ThingAt K nm ro H b) kvs S.objects ∧ NmOk nm S.made last
end
section
variable {K : PySem.W.Frag} {ad : Ad} {nm : Nat → Int} {ro ro' : Rm} {H H' : Hp} {b : Bool}
/-- what a store stands on is kept -/
def Kept (ro ro' : Rm) (H H' : Hp) (b : Bool) : Prop := Tups H H' ∧ ∀ a o r, H a = some o → ro a = some r → r.own b = true → H' a = some o ∧ ro' a = some r
theorem Kept.same (s : Same H H') : Kept ro ro H H' b := ⟨Same.tups s, fun a o r e q _ => ⟨s a o e, q⟩⟩
theorem MsgAt.keep {v : V} {m : List VV} (h : MsgAt K nm ro H v m) (k : Kept ro ro' H H' b) : MsgAt K nm ro' H' v m := by
  obtain ⟨ma, mvs, e, h1, h2, h3⟩ := h
  obtain ⟨k1, k2⟩ := k.2 _ _ _ h1 h2 rfl
  exact ⟨ma, mvs, e, k1, k2, h3.keep k.1⟩
theorem ClientAt.keep {i : Nat} {ca : Addr} {c : VC} (h : ClientAt K ad nm ro H b i ca c) (k : Kept ro ro' H H' b) : ClientAt K ad nm ro' H' b i ca c := by
  obtain ⟨dx, sl, ib, svs, ims, h1, h2, h3, h4, h5, h6, h7, h8⟩ := h
  obtain ⟨a1, a2⟩ := k.2 _ _ _ h1 h2 (by simp [Ro.own])
  obtain ⟨b1, b2⟩ := k.2 _ _ _ h3 h4 (by simp [Ro.own])
  obtain ⟨c1, c2⟩ := k.2 _ _ _ h6 h7 (by simp [Ro.own])
  exact ⟨dx, sl, ib, svs, ims, a1, a2, b1, b2, h5.keep k.1, c1, c2, Paired.mapP h8 fun _ _ z => z.keep k⟩
theorem ThingAt.keep {kv : Key × V} {o : VO} (h : ThingAt K nm ro H b kv o) (k : Kept ro ro' H H' b) : ThingAt K nm ro' H' b kv o := by
  obtain ⟨e, ta, tvs, h1, h2, h3, h4⟩ := h
  obtain ⟨a1, a2⟩ := k.2 _ _ _ h2 h3 (by simp [Ro.own])
  exact ⟨e, ta, tvs, h1, a1, a2, h4.keep k.1⟩
theorem StoreAt.keep {sa : Addr} {S : VSt} (h : StoreAt K ad nm ro H b sa S) (k : Kept ro ro' H H' b) : StoreAt K ad nm ro' H' b sa S := by
  obtain ⟨dx, cl, td, cvs, kvs, last, h1, h2, h3, h4, h5, h6, h7, h8, h9, h10⟩ := h
  obtain ⟨a1, a2⟩ := k.2 _ _ _ h1 h2 (by simp [Ro.own])
  obtain ⟨b1, b2⟩ := k.2 _ _ _ h3 h4 (by simp [Ro.own])
  obtain ⟨c1, c2⟩ := k.2 _ _ _ h7 h8 (by simp [Ro.own])
  exact ⟨dx, cl, td, cvs, kvs, last, a1, a2, b1, b2, h5, fun i c e => let ⟨ca, q1, q2⟩ := h6 i c e; ⟨ca, q1, q2.keep k⟩, c1, c2, Paired.mapP h9 fun _ _ z => z.keep k, h10⟩
theorem StoreAt.same {sa : Addr} {S : VSt} (h : StoreAt K ad nm ro H b sa S) (s : Same H H') : StoreAt K ad nm ro H' b sa S := h.keep (Kept.same s)
theorem ClientAt.same {i : Nat} {ca : Addr} {c : VC} (h : ClientAt K ad nm ro H b i ca c) (s : Same H H') : ClientAt K ad nm ro H' b i ca c := h.keep (Kept.same s)
end
/-! ### a store that is whole -/
def Lv (R : Nat → Prop) (v : VV) : Prop := ∀ i, v = .object i → R i
structure Wf (S : VSt) (R : Nat → Prop) : Prop where
  c1 : 1 ≤ S.clients.length
  c4 : S.clients.length ≤ 4
  sl : ∀ c ∈ S.clients, c.slots.length = 6
  ib : ∀ c ∈ S.clients, c.inbox.length ≤ 4
  ms : ∀ c ∈ S.clients, ∀ m ∈ c.inbox, 1 ≤ m.length ∧ m.length ≤ 3
  fl : ∀ o ∈ S.objects, o.fields.length ≤ 4
  nd : (S.objects.map fun o => o.id).Nodup
  lt : ∀ o ∈ S.objects, o.id < S.made
  ol : S.objects.length ≤ S.made
  mx : S.made ≤ 48
  ls : ∀ c ∈ S.clients, ∀ v ∈ c.slots, Lv R v
  lm : ∀ c ∈ S.clients, ∀ m ∈ c.inbox, ∀ v ∈ m, Lv R v
  st : ∀ i, R i → ∃ o ∈ S.objects, o.id = i
  lf : ∀ o ∈ S.objects, R o.id → ∀ v ∈ o.fields, Lv R v
/-- the objects by their ids -/
theorem find_id : ∀ {l : List VO} {o : VO}, (l.map fun o => o.id).Nodup → o ∈ l → l.find? (fun p => p.id == o.id) = some o
  | [], _, _, h => by cases h
  | p :: l, o, nd, h => by
    rw [List.map_cons, List.nodup_cons] at nd
    rcases List.mem_cons.mp h with rfl | h
    · simp [List.find?]
    · have ne : (p.id == o.id) = false := by
        refine beq_eq_false_iff_ne.mpr fun e => nd.1 ?_
        rw [e]
        exact List.mem_map.mpr ⟨o, h, rfl⟩
      rw [List.find?_cons, ne]
      exact find_id nd.2 h
theorem fieldsOf_mem {S : VSt} {o : VO} (nd : (S.objects.map fun o => o.id).Nodup) (h : o ∈ S.objects) : Vbxlaa.fieldsOf S o.id = o.fields := by
  unfold Vbxlaa.fieldsOf
  rw [find_id nd h]
  rfl
theorem Wf.fields {S : VSt} {R : Nat → Prop} (w : Wf S R) {i : Nat} (h : R i) : (Vbxlaa.fieldsOf S i).length ≤ 4 ∧ ∀ v ∈ Vbxlaa.fieldsOf S i, Lv R v := by
  obtain ⟨o, m, rfl⟩ := w.st i h
  rw [fieldsOf_mem w.nd m]
  exact ⟨w.fl o m, w.lf o m h⟩
section
variable {K : PySem.W.Frag} {ad : Ad} {nm : Nat → Int} {ro : Rm} {H : Hp} {b : Bool}
theorem valV_thing : ∀ {kvs : List (Key × V)} {l : List VO} {o : VO}, Paired (ThingAt K nm ro H b) kvs l → (∀ i j, nm i = nm j → i = j) → (l.map fun o => o.id).Nodup → o ∈ l →
    ∃ (ta : Addr) (tvs : List V), valV kvs (.inl (nm o.id)) = some (.ref ta) ∧ H ta = some (.lst tvs) ∧ ro ta = some (.thing b o.id) ∧ Row K nm H tvs o.fields
  | _, _, _, .nil, _, _, h => by cases h
  | (k, v) :: kvs, p :: l, o, .cons r t, inj, nd, h => by
    rw [List.map_cons, List.nodup_cons] at nd
    obtain ⟨e, ta, tvs, h1, h2, h3, h4⟩ := r
    dsimp only at e h1
    rcases List.mem_cons.mp h with rfl | h
    · refine ⟨ta, tvs, ?_, h2, h3, h4⟩
      unfold valV
      rw [List.find?_cons, e, decide_eq_true rfl, h1]
      rfl
    · obtain ⟨ta2, tvs2, q1, q⟩ := valV_thing t inj nd.2 h
      refine ⟨ta2, tvs2, ?_, q⟩
      have ne : ¬ k = Sum.inl (nm o.id) := fun z => by
        rw [e] at z
        refine nd.1 ?_
        rw [inj _ _ (Sum.inl.inj z)]
        exact List.mem_map.mpr ⟨o, h, rfl⟩
      unfold valV at q1 ⊢
      rw [List.find?_cons, decide_eq_false ne]
      exact q1
end
end Sh

/-! R6: rules whose written part is named (for a comprehension's block). -/
namespace Sh
open PySem PySem.Spec PyProof.Rows L2
section
variable {X : Cx} {K : PySem.W.Frag}
theorem ix_listK (e : X.K = K := by rfl) : IxR X (rIxL K) := e ▸ ix_list
theorem ix_tupK (e : X.K = K := by rfl) : IxR X (rIxT K) := e ▸ ix_tup
theorem op_in_seqK (e : X.K = K := by rfl) : OpR X (compareOp .In) (rIn K false) := e ▸ op_in_seq
theorem op_notIn_seqK (e : X.K = K := by rfl) : OpR X (compareOp .NotIn) (rIn K true) := e ▸ op_notIn_seq
theorem call_len_seqK (e : X.K = K := by rfl) : CallR X (.builtin "len") (fun xs H Q => ∃ p ys, xs = [.ref p] ∧ (SqL K H p ys ∨ SqT K H p ys) ∧ Q (.int ys.length) H) := by
  subst e
  exact call_len_seq
theorem call_list_ofK (e : X.K = K := by rfl) : CallR X (.type "list") (fun xs H Q => ∃ p ys, xs = [.ref p] ∧ (SqL K H p ys ∨ SqT K H p ys) ∧ ∀ l, H l = none → Q (.ref l) (upd H l (.lst ys))) := by
  subst e
  exact call_list_of
theorem pe_fldK {e : Expr} {f : Str} {pos : Pos} {ta : TE} (he : PE X e ta) (hb : attributeBase e f X.env (eval e X.env) = eval e X.env) (ek : X.K = K := by rfl) : PE X (.Attribute e f pos) (tFld K ta f) := by
  subst ek
  exact pe_fld he hb
theorem takes_none : L2N.Takes X (fun _ _ _ _ => False) := fun u s' h => by
  obtain ⟨a, B, sI, pins, σ, H, cls, d, r⟩ := h
  exact r.2.2.2.2.2.2.2.2.elim
end
end Sh

/-! M1: the walks of the specification. -/
namespace Sh
open Vbxlaa (meet walkFrom fieldsOf)
theorem nodup_le {α : Type} [DecidableEq α] : ∀ {l m : List α}, l.Nodup → (∀ x ∈ l, x ∈ m) → l.length ≤ m.length
  | [], _, _, _ => Nat.zero_le _
  | x :: l, m, nd, h => by
    rw [List.nodup_cons] at nd
    have hx := h x List.mem_cons_self
    have h2 : ∀ y ∈ l, y ∈ m.erase x := fun y hy => by
      have ne : y ≠ x := fun e => nd.1 (e ▸ hy)
      exact (List.mem_erase_of_ne ne).mpr (h y (List.mem_cons_of_mem _ hy))
    have ih := nodup_le nd.2 h2
    rw [List.length_erase_of_mem hx] at ih
    have pos : 0 < m.length := List.length_pos_of_mem hx
    rw [List.length_cons]
    omega
theorem meet_app : ∀ (a : List VV) (met : List Nat) (b : List VV), meet met (a ++ b) = meet (meet met a) b
  | [], _, _ => rfl
  | .nothing :: a, met, b => meet_app a met b
  | .number _ :: a, met, b => meet_app a met b
  | .object i :: a, met, b => by
    show (if met.contains i = true then meet met (a ++ b) else meet (met ++ [i]) (a ++ b)) = meet (if met.contains i = true then meet met a else meet (met ++ [i]) a) b
    by_cases h : met.contains i = true
    · rw [if_pos h, if_pos h]
      exact meet_app a met b
    · rw [if_neg h, if_neg h]
      exact meet_app a _ b
theorem meet_pre : ∀ (l : List VV) (met : List Nat), ∃ more, meet met l = met ++ more
  | [], met => ⟨[], (List.append_nil _).symm⟩
  | .nothing :: l, met => meet_pre l met
  | .number _ :: l, met => meet_pre l met
  | .object i :: l, met => by
    show ∃ more, (if met.contains i = true then meet met l else meet (met ++ [i]) l) = met ++ more
    by_cases h : met.contains i = true
    · rw [if_pos h]
      exact meet_pre l met
    · rw [if_neg h]
      obtain ⟨m, e⟩ := meet_pre l (met ++ [i])
      exact ⟨i :: m, by rw [e, List.append_assoc]; rfl⟩
theorem meet_mem : ∀ (l : List VV) (met : List Nat) (j : Nat), j ∈ meet met l ↔ j ∈ met ∨ Vbxlaa.Value.object j ∈ l
  | [], met, j => by show j ∈ met ↔ _; simp
  | .nothing :: l, met, j => by show j ∈ meet met l ↔ _; rw [meet_mem l met j]; simp
  | .number _ :: l, met, j => by show j ∈ meet met l ↔ _; rw [meet_mem l met j]; simp
  | .object i :: l, met, j => by
    show j ∈ (if met.contains i = true then meet met l else meet (met ++ [i]) l) ↔ _
    by_cases h : met.contains i = true
    · rw [if_pos h, meet_mem l met j]
      have hm : i ∈ met := by simpa using h
      constructor
      · rintro (a | a)
        · exact .inl a
        · exact .inr (List.mem_cons_of_mem _ a)
      · rintro (a | a)
        · exact .inl a
        · rcases List.mem_cons.mp a with e | e
          · cases e
            exact .inl hm
          · exact .inr e
    · rw [if_neg h, meet_mem l _ j]
      rw [List.mem_append, List.mem_singleton, List.mem_cons]
      constructor
      · rintro ((a | rfl) | a)
        · exact .inl a
        · exact .inr (.inl rfl)
        · exact .inr (.inr a)
      · rintro (a | a | a)
        · exact .inl (.inl a)
        · cases a
          exact .inl (.inr rfl)
        · exact .inr a
theorem meet_nodup : ∀ (l : List VV) (met : List Nat), met.Nodup → (meet met l).Nodup
  | [], _, h => h
  | .nothing :: l, met, h => meet_nodup l met h
  | .number _ :: l, met, h => meet_nodup l met h
  | .object i :: l, met, h => by
    show (if met.contains i = true then meet met l else meet (met ++ [i]) l).Nodup
    by_cases c : met.contains i = true
    · rw [if_pos c]
      exact meet_nodup l met h
    · rw [if_neg c]
      refine meet_nodup l _ ?_
      have hn : i ∉ met := by simpa using c
      rw [List.nodup_append]
      exact ⟨h, by simp, fun a ha b hb e => by
        rw [List.mem_singleton] at hb
        exact hn (by rw [← hb, ← e]; exact ha)⟩
theorem meet_live {R : Nat → Prop} {l : List VV} {met : List Nat} (h : ∀ i ∈ met, R i) (hl : ∀ v ∈ l, Lv R v) : ∀ i ∈ meet met l, R i := fun i hi =>
  ((meet_mem l met i).mp hi).elim (h i) fun m => hl _ m i rfl
theorem walkFrom_nil {S : VSt} {met : List Nat} : ∀ n, walkFrom S n [] met = met
  | 0 => rfl
  | _ + 1 => rfl
/-- how far a walk is: of the met ones q are through -/
structure At (S : VSt) (R : Nat → Prop) (F met : List Nat) (q : Nat) : Prop where
  eq : walkFrom S (S.objects.length - q) (met.drop q) met = F
  le : q ≤ met.length
  nd : met.Nodup
  lv : ∀ i ∈ met, R i
theorem live_len {S : VSt} {R : Nat → Prop} (w : Wf S R) {met : List Nat} (nd : met.Nodup) (lv : ∀ i ∈ met, R i) : met.length ≤ S.objects.length := by
  have h := nodup_le (m := S.objects.map fun o => o.id) nd fun i hi => by
    obtain ⟨o, m, e⟩ := w.st i (lv i hi)
    exact List.mem_map.mpr ⟨o, m, e⟩
  rwa [List.length_map] at h
theorem At.start {S : VSt} {R : Nat → Prop} {xs : List VV} (hl : ∀ v ∈ xs, Lv R v) : At S R (Vbxlaa.walk S xs) (meet [] xs) 0 :=
  ⟨rfl, Nat.zero_le _, meet_nodup xs [] List.nodup_nil, meet_live (fun _ h => by cases h) hl⟩
theorem At.done {S : VSt} {R : Nat → Prop} {F met : List Nat} {q : Nat} (a : At S R F met q) (h : met.length ≤ q) : met = F := by
  have e := a.eq
  rw [List.drop_eq_nil_of_le h, walkFrom_nil] at e
  exact e
theorem At.step {S : VSt} {R : Nat → Prop} (w : Wf S R) {F met : List Nat} {q i : Nat} (a : At S R F met q) (h : met[q]? = some i) : At S R F (meet met (fieldsOf S i)) (q + 1) := by
  have hq : q < met.length := (List.getElem?_eq_some_iff.mp h).1
  have hi : i ∈ met := List.mem_of_getElem? h
  have hL := live_len w a.nd a.lv
  obtain ⟨more, em⟩ := meet_pre (fieldsOf S i) met
  have lvn : ∀ j ∈ meet met (fieldsOf S i), R j := meet_live a.lv (w.fields (a.lv i hi)).2
  refine ⟨?_, ?_, meet_nodup _ _ a.nd, lvn⟩
  · have e := a.eq
    have ed : met.drop q = i :: met.drop (q + 1) := by
      rw [List.drop_eq_getElem_cons hq]
      congr 1
      exact Option.some.inj ((List.getElem?_eq_getElem hq).symm.trans h)
    have en : S.objects.length - q = (S.objects.length - (q + 1)) + 1 := by omega
    rw [ed, en] at e
    have e2 : walkFrom S (S.objects.length - (q + 1)) (met.drop (q + 1) ++ (meet met (fieldsOf S i)).drop met.length) (meet met (fieldsOf S i)) = F := e
    rw [← e2]
    congr 1
    rw [em, List.drop_append_of_le_length hq, List.drop_append_of_le_length (Nat.le_refl _), List.drop_length, List.nil_append]
  · rw [em, List.length_append]
    omega
/-- one value more -/
theorem meet_take {l : List VV} {met : List Nat} {j : Nat} {v : VV} (h : l[j]? = some v) : meet met (l.take (j + 1)) = meet (meet met (l.take j)) [v] := by
  have e : l.take (j + 1) = l.take j ++ [v] := by
    obtain ⟨hj, e⟩ := List.getElem?_eq_some_iff.mp h
    rw [List.take_succ_eq_append_getElem hj, e]
  rw [e, meet_app]
theorem meet_obj {met : List Nat} {i : Nat} : meet met [.object i] = if i ∈ met then met else met ++ [i] := by
  show (if met.contains i = true then met else met ++ [i]) = _
  by_cases h : i ∈ met
  · rw [if_pos h, if_pos (by simpa using h)]
  · rw [if_neg h, if_neg (by simpa using h)]
end Sh

set_option maxHeartbeats 2000000
namespace Sh
open PySem PySem.Spec PyProof.Rows L2
/-! ### dicts of names -/
theorem valV_names {nm : Nat → Int} (inj : ∀ i j, nm i = nm j → i = j) {f : Nat → V} : ∀ (l : List Nat) (i : Nat), valV (l.map fun j => ((Sum.inl (nm j) : Key), f j)) (.inl (nm i)) = if i ∈ l then some (f i) else none
  | [], i => rfl
  | j :: l, i => by
    rw [List.map_cons]
    by_cases e : j = i
    · subst e
      rw [valV_pos rfl, if_pos List.mem_cons_self]
    · rw [valV_neg (fun z => e (inj _ _ (Sum.inl.inj z))), valV_names inj (f := f) l i]
      by_cases h : i ∈ l
      · rw [if_pos h, if_pos (List.mem_cons_of_mem _ h)]
      · rw [if_neg h, if_neg (fun z => (List.mem_cons.mp z).elim (fun y => e y.symm) h)]
theorem putK_new {kvs : List (Key × V)} {k : Key} {v : V} (h : valV kvs k = none) : putK kvs k v = kvs ++ [(k, v)] := by
  unfold putK
  rw [valV_any, h]
  rfl
/-- a value that is read -/
theorem isV_ref {K : PySem.W.Frag} {nm : Nat → Int} {H : Hp} {v : V} {x : VV} (h : IsV K nm H v x) : ∃ t, v = V.ref t ∧ SqT K H t [.int (vk x), .int (vp nm x)] := let ⟨t, e, z⟩ := h; ⟨t, e, z.sq⟩
theorem small48 {n : Nat} (h : n ≤ 1000) : n < sizeLine := small1000 h
theorem leLine {n : Nat} (h : n ≤ 1000) : n ≤ sizeLine := Nat.le_of_lt (small1000 h)
/-! ### walk -/
structure Wk (K : PySem.W.Frag) (nm : Nat → Int) (S : VSt) (H0 : Hp) (kd fl wl l0 : Addr) (rvs : List V) (met : List Nat) (wvs : List V) (H : Hp) : Prop where
  sm : Same H0 H
  hk : H kd = some (.dK (met.map fun i => (Sum.inl (nm i), V.bl true)))
  hf : H fl = some (.lst (met.map fun i => V.int (nm i)))
  hw : H wl = some (.lst wvs)
  wn : wvs.length = met.length + 1
  w0 : wvs[0]? = some (.ref l0)
  h0 : H l0 = some (.lst rvs)
  wt : ∀ (q i : Nat), met[q]? = some i → ∃ (ta : Addr) (tvs : List V), wvs[q + 1]? = some (.ref ta) ∧ H0 ta = some (.lst tvs) ∧ Row K nm H0 tvs (Vbxlaa.fieldsOf S i)
theorem Wk.add {K : PySem.W.Frag} {nm : Nat → Int} {S : VSt} {H0 : Hp} {kd fl wl l0 ta : Addr} {rvs : List V} {met : List Nat} {wvs tvs : List V} {H : Hp} {i : Nat} (inj : ∀ i j, nm i = nm j → i = j) (a : Wk K nm S H0 kd fl wl l0 rvs met wvs H)
    (k0 : H0 kd = none) (f0 : H0 fl = none) (w0 : H0 wl = none) (hfw : fl ≠ wl) (hfl : fl ≠ l0) (hwl : wl ≠ l0) (hi : i ∉ met) (h1 : H0 ta = some (.lst tvs)) (h2 : Row K nm H0 tvs (Vbxlaa.fieldsOf S i)) :
    Wk K nm S H0 kd fl wl l0 rvs (met ++ [i]) (wvs ++ [.ref ta]) (upd (upd (upd H kd (.dK (putK (met.map fun i => (Sum.inl (nm i), V.bl true)) (.inl (nm i)) (.bl true)))) fl (.lst ((met.map fun i => V.int (nm i)) ++ [.int (nm i)]))) wl (.lst (wvs ++ [.ref ta]))) := by
  have nkf : kd ≠ fl := ne_of a.hk a.hf (by intro z; cases z)
  have nkw : kd ≠ wl := ne_of a.hk a.hw (by intro z; cases z)
  have nkl : kd ≠ l0 := ne_of a.hk a.h0 (by intro z; cases z)
  have pk : putK (met.map fun i => ((Sum.inl (nm i) : Key), V.bl true)) (.inl (nm i)) (.bl true) = (met ++ [i]).map fun i => ((Sum.inl (nm i) : Key), V.bl true) := by
    rw [putK_new (by rw [valV_names inj (f := fun _ => V.bl true), if_neg hi]), List.map_append]
    rfl
  refine ⟨fun b o e => ?_, ?_, ?_, upd_same, by rw [List.length_append, List.length_append, a.wn]; rfl, ?_, ?_, fun q j hj => ?_⟩
  · rw [upd_ne (ne_of_none e w0), upd_ne (ne_of_none e f0), upd_ne (ne_of_none e k0)]
    exact a.sm b o e
  · rw [upd_ne nkw, upd_ne nkf, upd_same, pk]
  · rw [upd_ne hfw, upd_same, List.map_append]
    rfl
  · rw [List.getElem?_append_left (by rw [a.wn]; omega)]
    exact a.w0
  · rw [upd_ne (Ne.symm hwl), upd_ne (Ne.symm hfl), upd_ne (Ne.symm nkl)]
    exact a.h0
  · by_cases c : q < met.length
    · rw [List.getElem?_append_left c] at hj
      obtain ⟨ta2, tvs2, e1, e2, e3⟩ := a.wt q j hj
      exact ⟨ta2, tvs2, by rw [List.getElem?_append_left (by rw [a.wn]; omega)]; exact e1, e2, e3⟩
    · rw [List.getElem?_append_right (by omega)] at hj
      have eq : q = met.length := by
        have z := (List.getElem?_eq_some_iff.mp hj).1
        simp at z
        omega
      subst eq
      simp at hj
      subst hj
      refine ⟨ta, tvs, ?_, h1, h2⟩
      rw [List.getElem?_append_right (by rw [a.wn]; omega), a.wn]
      simp
section
variable {P : Program} {w : World} {K : PySem.W.Frag} {mg : Str → Option Value} {base : Heap} {ad : Ad}
def spWalk (K : PySem.W.Frag) (ad : Ad) : Sp := fun vs H Q _ => ∃ (sa ra : Addr) (nm : Nat → Int) (ro : Rm) (b : Bool) (S : VSt) (R : Nat → Prop) (rvs : List V) (xs : List VV),
  vs = [.ref sa, .ref ra] ∧ StoreAt K ad nm ro H b sa S ∧ Wf S R ∧ SqL K H ra rvs ∧ Row K nm H rvs xs ∧ (∀ v ∈ xs, Lv R v) ∧
  ∀ H' p, Same H H' → H p = none → H' p = some (.lst ((Vbxlaa.walk S xs).map fun i => V.int (nm i))) → Q (.ref p) H'
/-- the objects of a store that a value leads to -/
theorem StoreAt.thing {nm : Nat → Int} {ro : Rm} {H : Hp} {b : Bool} {sa : Addr} {S : VSt} {R : Nat → Prop} (hS : StoreAt K ad nm ro H b sa S) (wf : Wf S R) : ∃ (dx cl td : Addr) (last : Int) (kvs : List (Key × V)),
    H sa = some (.ins ad.store dx [("clients", .ref cl), ("things", .ref td), ("created", .int S.made), ("last", .int last)]) ∧ H td = some (.dK kvs) ∧ (∀ i j, nm i = nm j → i = j) ∧
    ∀ i, R i → ∃ (ta : Addr) (tvs : List V), valV kvs (.inl (nm i)) = some (.ref ta) ∧ H ta = some (.lst tvs) ∧ ro ta = some (.thing b i) ∧ Row K nm H tvs (Vbxlaa.fieldsOf S i) := by
  obtain ⟨dx, cl, td, cvs, kvs, last, h1, h2, h3, h4, h5, h6, h7, h8, h9, h10⟩ := hS
  refine ⟨dx, cl, td, last, kvs, h1, h7, h10.inj, fun i hi => ?_⟩
  obtain ⟨o, m, rfl⟩ := wf.st i hi
  rw [fieldsOf_mem wf.nd m]
  exact valV_thing h9 h10.inj wf.nd m
theorem ok_walk (T : Tx K mg ad) (D : Df K mg "walk" s_walk ["store", "row"]) : Ok P w K mg base 1 "walk" ["store", "row"] (spWalk K ad) := by
  refine D.ok c_walk (fun vs H Q E h => ?_) (fun f cdv A outer s H vs Q E hr h => ?_)
  · obtain ⟨sa, ra, nm, ro, b, S, R, rvs, xs, rfl, _⟩ := h
    rfl
  · refine ⟨_,
      (pss_cons (ps_par (i := 2) (j := 3) rfl c_walk.nd rfl rfl (by decide) rfl rfl (pa_cons pe_dnewK (pa_cons (pe_lst pa_nil) pa_nil)) (by rfl))
        (pss_cons (ps_set (i := 4) c_walk.nd rfl (Or.inl rfl) (pe_lst (pa_cons (pe_callTy call_list_of (by rfl) T.b_list (by decide +kernel) (pa_cons (pv 1) pa_nil)) pa_nil)))
        (pss_cons (ps_set (i := 5) c_walk.nd rfl (Or.inl rfl) pe_int)
        (pss_cons (ps_while (passes_of rfl) (pt_cmpR op_lt (pv 5) (pe_callB call_len_seq (by rfl) T.b_len (by decide +kernel) (pa_cons (pv 4) pa_nil)) (nomark _))
          (pss_cons (ps_for (passes_of rfl) rfl (pi_list (pe_ix ix_list (pv 4) (pv 5) (fun _ _ => rfl))) (pg_tup rfl (pgs_cons (pg_name (i := 6) c_walk.nd rfl (Or.inl rfl)) (pgs_cons (pg_name (i := 7) c_walk.nd rfl (Or.inl rfl)) pgs_nil)))
            (pss_one (ps_if (PW.pt (pw_and (pt_cmpR op_eq (pv 6) (pe_ci T.c_REFERENCE) (nomark _)) (pw_and1 (pt_cmp (pc_dnotin (hu_of hr) (pv 7) (pv 2)))))) (pss_cons (ps_asg pe_bl (pg_sub (pv 2) (pv 7) (set_dict (hu_of hr))))
              (pss_cons (ps_expr (pe_bm PySem.F.plainAttrs_list PySem.F.slot_list_append PySem.F.type_list_append mt_append (pv 3) (pa_cons (pv 7) pa_nil)))
              (pss_one (ps_expr (pe_bm PySem.F.plainAttrs_list PySem.F.slot_list_append PySem.F.type_list_append mt_append (pv 4) (pa_cons (pe_dget (hu_of hr) (pe_fld (pv 0) rfl) (pv 7) (fun _ _ => rfl)) pa_nil)))))) pss_nil)))
          (pss_one (ps_set (i := 5) c_walk.nd rfl (Or.inl rfl) (pe_op op_add (pv 5) pe_int)))))
        (pss_one (ps_ret (pv 3)))))))
      , ?_⟩
    obtain ⟨sa, ra, nm, ro, b, S, R, rvs, xs, rfl, hS, wf, hra, hrow, lvx, k⟩ := h
    obtain ⟨dx, cl, td, last, kvs, hsa, htd, inj, hth⟩ := hS.thing wf
    -- known, found = {}, []
    intro kd nk
    refine ⟨leLine (by decide), fun fl nf => ⟨_, _, rfl, ?_⟩⟩
    have s2 : Same H (upd (upd H kd (.dK [])) fl (.lst [])) := (Same.new nk).trans (Same.new nf)
    -- waiting = [list(row)]
    refine ⟨_, rfl, ra, rvs, rfl, .inl (s2.seq hra), fun l0 n0 => ⟨leLine (by show 1 ≤ 1000; decide), fun wl nw => ?_⟩⟩
    have s3 := s2.trans (Same.new (o := .lst rvs) n0)
    have s4 := s3.trans (Same.new (o := .lst [.ref l0]) nw)
    have f0 : H fl = none := (Same.new nk).free nf
    have nfl : fl ≠ l0 := ne_of_none upd_same n0
    have nwl : wl ≠ l0 := Ne.symm (ne_of_none upd_same nw)
    have nfw : fl ≠ wl := ne_of_none ((upd_ne nfl).trans upd_same) nw
    have nkf : kd ≠ fl := ne_of_none upd_same nf
    have nkl : kd ≠ l0 := ne_of_none ((upd_ne nkf).trans upd_same) n0
    have nkw : kd ≠ wl := ne_of_none ((upd_ne nkl).trans ((upd_ne nkf).trans upd_same)) nw
    have w00 : H wl = none := s3.free nw
    have st0 : Wk K nm S H kd fl wl l0 rvs [] [.ref l0] (upd (upd (upd (upd H kd (.dK [])) fl (.lst [])) l0 (.lst rvs)) wl (.lst [.ref l0])) :=
      ⟨s4, by rw [upd_ne nkw, upd_ne nkl, upd_ne nkf, upd_same]; rfl, by rw [upd_ne nfw, upd_ne nfl, upd_same]; rfl, upd_same, rfl, rfl, by rw [upd_ne (Ne.symm nwl), upd_same], fun q i h => by simp at h⟩
    -- while at < len(waiting)
    refine ⟨fun m σ H1 => ∃ (n : Nat) (v6 v7 : Option V) (met : List Nat) (wvs : List V), m + n = S.objects.length + 2 ∧ σ = [some (.ref sa), some (.ref ra), some (.ref kd), some (.ref fl), some (.ref wl), some (.int n), v6, v7] ∧
      Wk K nm S H kd fl wl l0 rvs met wvs H1 ∧ ((n = 0 ∧ met = []) ∨ ∃ q, n = q + 1 ∧ At S R (Vbxlaa.walk S xs) met q), ⟨_, 0, none, none, [], _, Nat.add_zero _, rfl, st0, .inl ⟨rfl, rfl⟩⟩, ?_⟩
    rintro m σ H1 ⟨n, v6, v7, met, wvs, hm, rfl, hW, hA⟩
    refine ⟨_, rfl, _, rfl, wl, wvs, rfl, .inl (SqL.of hW.hw), _, _, rfl, rfl, _, rfl, ?_⟩
    have hml : met.length ≤ S.objects.length := by
      rcases hA with ⟨_, rfl⟩ | ⟨q, _, a⟩
      · exact Nat.zero_le _
      · exact live_len wf a.nd a.lv
    refine ite2 (fun c => ?_) fun c => ?_
    · have c : n < wvs.length := by simpa using c
      refine ⟨_, fun σ' H' h => h, ?_⟩
      -- the list that is walked now: its values
      obtain ⟨cur, cvs, cxs, ec, hc, hrc, lvc, stepA⟩ : ∃ (cur : Addr) (cvs : List V) (cxs : List VV), wvs[n]? = some (.ref cur) ∧ (∀ H2 met2 wvs2, Wk K nm S H kd fl wl l0 rvs met2 wvs2 H2 → H2 cur = some (.lst cvs)) ∧ Row K nm H cvs cxs ∧ (∀ v ∈ cxs, Lv R v) ∧ At S R (Vbxlaa.walk S xs) (Vbxlaa.meet met cxs) n := by
        rcases hA with ⟨rfl, rfl⟩ | ⟨q, rfl, a⟩
        · exact ⟨l0, rvs, xs, hW.w0, fun H2 _ _ h => h.h0, hrow, lvx, At.start lvx⟩
        · have hq : q < met.length := by have := hW.wn; omega
          obtain ⟨i, hi⟩ : ∃ i, met[q]? = some i := ⟨_, List.getElem?_eq_getElem hq⟩
          obtain ⟨ta, tvs, e1, e2, e3⟩ := hW.wt q i hi
          exact ⟨ta, tvs, _, e1, fun H2 _ _ h => h.sm _ _ e2, e3, (wf.fields (a.lv i (List.mem_of_getElem? hi))).2, a.step wf hi⟩
      refine ⟨_, rfl, _, rfl, wl, wvs, _, _, rfl, rfl, SqL.of hW.hw, atI_nat ec, cur, rfl, ⟨_, SqL.of (hc _ _ _ hW)⟩, ?_⟩
      refine for_list (K := K) (a := cur) (xs := cvs) (fun j σ H2 => ∃ (v6 v7 : Option V) (wvs2 : List V), σ = [some (.ref sa), some (.ref ra), some (.ref kd), some (.ref fl), some (.ref wl), some (.int n), v6, v7] ∧ Wk K nm S H kd fl wl l0 rvs (Vbxlaa.meet met (cxs.take j)) wvs2 H2)
        ⟨v6, v7, wvs, rfl, hW⟩ (fun j σ H2 _ ⟨_, _, _, _, h⟩ => SqL.of (hc _ _ _ h)) ?_ ?_
      · rintro j x σ H2 hj ⟨v6, v7, wvs2, rfl, hW2⟩
        obtain ⟨cx, hcx, hx⟩ := pair_get' hrc hj
        obtain ⟨t, rfl, ht⟩ := isV_ref (hx.keep (Same.tups hW2.sm))
        have stp := meet_take (met := met) hcx
        have lvi := lvc cx (List.mem_of_getElem? hcx)
        refine ⟨t, _, rfl, ht, rfl, _, _, rfl, _, _, rfl, rfl, ?_⟩
        refine ⟨_, rfl, rfl, _, rfl, ?_⟩
        have lv2 : ∀ i ∈ Vbxlaa.meet met (cxs.take j), R i := meet_live (by
          rcases hA with ⟨_, rfl⟩ | ⟨q, _, a⟩
          · exact fun _ h => by cases h
          · exact a.lv) fun v hv => lvc v (List.mem_of_mem_take hv)
        have nd2 : (Vbxlaa.meet met (cxs.take j)).Nodup := meet_nodup _ _ (by
          rcases hA with ⟨_, rfl⟩ | ⟨q, _, a⟩
          · exact List.nodup_nil
          · exact a.nd)
        have hl2 := live_len wf nd2 lv2
        have hl3 := wf.ol
        have hl4 := wf.mx
        cases cx with
        | nothing =>
          refine iteF (iteF ?_)
          exact ⟨_, _, wvs2, rfl, by rw [stp]; exact hW2⟩
        | number z =>
          refine iteF (iteF ?_)
          exact ⟨_, _, wvs2, rfl, by rw [stp]; exact hW2⟩
        | object i =>
          refine iteT ⟨_, rfl, _, rfl, kd, _, rfl, DGet.k (k := Sum.inl (nm i)) hW2.hk, _, rfl, ?_⟩
          rw [valV_names inj (f := fun _ => V.bl true)]
          rw [meet_obj] at stp
          by_cases hi : i ∈ Vbxlaa.meet met (cxs.take j)
          · rw [if_pos hi] at stp ⊢
            refine iteF ?_
            exact ⟨_, _, wvs2, rfl, by rw [stp]; exact hW2⟩
          · rw [if_neg hi] at stp ⊢
            obtain ⟨ta, tvs, q1, q2, q3, q4⟩ := hth i (lvi i rfl)
            refine iteT ⟨_, rfl, _, rfl, kd, _, rfl, DPut.k (k := Sum.inl (nm i)) hW2.hk (small1000 (by rw [List.length_map]; omega)), ?_⟩
            have nkf2 : fl ≠ kd := Ne.symm (ne_of hW2.hk hW2.hf (by intro z; cases z))
            have nkw2 : wl ≠ kd := Ne.symm (ne_of hW2.hk hW2.hw (by intro z; cases z))
            refine ⟨_, rfl, .inl ⟨rfl, _, SqL.of ((upd_ne nkf2).trans hW2.hf)⟩, _, rfl, fl, _, _, rfl, rfl, (upd_ne nkf2).trans hW2.hf, small1000 (by rw [List.length_map]; omega), ?_⟩
            have hw3 : (upd (upd H2 kd (.dK (putK ((Vbxlaa.meet met (cxs.take j)).map fun i => (Sum.inl (nm i), V.bl true)) (.inl (nm i)) (.bl true)))) fl (.lst (((Vbxlaa.meet met (cxs.take j)).map fun i => V.int (nm i)) ++ [.int (nm i)]))) wl = some (.lst wvs2) := by
              rw [upd_ne (Ne.symm nfw), upd_ne nkw2]
              exact hW2.hw
            have hsa3 : (upd (upd H2 kd (.dK (putK ((Vbxlaa.meet met (cxs.take j)).map fun i => (Sum.inl (nm i), V.bl true)) (.inl (nm i)) (.bl true)))) fl (.lst (((Vbxlaa.meet met (cxs.take j)).map fun i => V.int (nm i)) ++ [.int (nm i)]))) sa = some (.ins ad.store dx [("clients", .ref cl), ("things", .ref td), ("created", .int S.made), ("last", .int last)]) := by
              rw [upd_ne (ne_of_none hsa f0), upd_ne (ne_of_none hsa nk)]
              exact hW2.sm _ _ hsa
            have htd3 : (upd (upd H2 kd (.dK (putK ((Vbxlaa.meet met (cxs.take j)).map fun i => (Sum.inl (nm i), V.bl true)) (.inl (nm i)) (.bl true)))) fl (.lst (((Vbxlaa.meet met (cxs.take j)).map fun i => V.int (nm i)) ++ [.int (nm i)]))) td = some (.dK kvs) := by
              rw [upd_ne (ne_of_none htd f0), upd_ne (ne_of_none htd nk)]
              exact hW2.sm _ _ htd
            refine ⟨_, rfl, .inl ⟨rfl, _, SqL.of hw3⟩, _, rfl, sa, _, _, _, _, rfl, hsa3, T.k_store, T.n_things, rfl, _, rfl, td, .ref ta, rfl, q1 ▸ DGet.k (k := Sum.inl (nm i)) htd3, wl, _, _, rfl, rfl, hw3, small1000 (by rw [hW2.wn]; omega), ?_⟩
            exact ⟨_, _, _, rfl, by rw [stp]; exact hW2.add inj nk f0 w00 nfw nfl nwl hi q2 q4⟩
      · rintro σ H2 ⟨v6, v7, wvs2, rfl, hW2⟩
        have el : cxs.take cvs.length = cxs := by rw [Paired.length hrc, List.take_length]
        rw [el] at hW2
        refine ⟨_, rfl, _, _, rfl, rfl, ?_⟩
        refine ⟨m - 1, by have := hW.wn; omega, n + 1, v6, v7, _, wvs2, by have := hW.wn; omega, rfl, hW2, .inr ⟨n, rfl, stepA⟩⟩
    · have c : ¬ n < wvs.length := by simpa using c
      refine ⟨_, rfl, ?_⟩
      refine k _ fl hW.sm f0 ?_
      rcases hA with ⟨rfl, rfl⟩ | ⟨q, rfl, a⟩
      · exact absurd (by rw [hW.wn]; exact Nat.succ_pos _) c
      · rw [← a.done (by have := hW.wn; omega)]
        exact hW.hf
end
end Sh


set_option maxHeartbeats 2000000
namespace Sh
open PySem PySem.Spec PyProof.Rows L2
/-! ### a new list that is being built -/
structure Bld (H0 : Hp) (L : Addr) (acc : List V) (H : Hp) : Prop where
  sm : Same H0 H
  at_ : H L = some (.lst acc)
section
variable {H0 H H' : Hp} {L : Addr} {acc acc' : List V}
theorem Bld.start (n : H0 L = none) : Bld H0 L acc (upd H0 L (.lst acc)) := ⟨Same.new n, upd_same⟩
theorem Bld.put (b : Bld H0 L acc H) (n : H0 L = none) : Bld H0 L acc' (upd H L (.lst acc')) := ⟨fun a o e => by rw [upd_ne (ne_of_none e n)]; exact b.sm a o e, upd_same⟩
theorem Bld.grow (b : Bld H0 L acc H) (s : Same H H') : Bld H0 L acc H' := ⟨b.sm.trans s, s _ _ b.at_⟩
theorem Bld.new {t : Addr} {o : HO} (b : Bld H0 L acc H) (n : H t = none) : Bld H0 L acc (upd H t o) := b.grow (Same.new n)
theorem Bld.tups (b : Bld H0 L acc H) : Tups H (upd H L (.lst acc')) := Tups.write b.at_ fun _ z => by cases z
end
theorem yes {σ : L2.St} {H : Hp} {A B : Hp → Prop} (h : A H) : tYes σ H fun b H3 => if b = true then A H3 else B H3 := by
  show if true = true then A H else B H
  exact iteT h
/-! ### roots -/
/-- v is the pair of a number and a value -/
def IsR (K : PySem.W.Frag) (nm : Nat → Int) (H : Hp) (v : V) (p : Nat × VV) : Prop := ∃ (t : Addr) (u : V), v = .ref t ∧ H t = some (.tup [.int (p.1 : Nat), u]) ∧ IsV K nm H u p.2
theorem IsR.keep {K : PySem.W.Frag} {nm : Nat → Int} {H H' : Hp} {v : V} {p : Nat × VV} (h : IsR K nm H v p) (k : Tups H H') : IsR K nm H' v p := let ⟨t, u, e, z, r⟩ := h; ⟨t, u, e, k _ _ z, r.keep k⟩
theorem rows_keep {K : PySem.W.Frag} {nm : Nat → Int} {H H' : Hp} {vs : List V} {ps : List (Nat × VV)} (h : Paired (IsR K nm H) vs ps) (k : Tups H H') : Paired (IsR K nm H') vs ps := Paired.mapP h fun _ _ z => z.keep k
theorem zip_more {α : Type} {l : List α} {i : Nat} {x : α} (h : l[i]? = some x) : (l.take (i + 1)).zipIdx = (l.take i).zipIdx ++ [(x, i)] := by
  obtain ⟨hi, e⟩ := List.getElem?_eq_some_iff.mp h
  rw [List.take_succ_eq_append_getElem hi, e, List.zipIdx_append, List.length_take, Nat.min_eq_left (Nat.le_of_lt hi)]
  simp
def slotPairs (l : List VV) : List (Nat × VV) := l.zipIdx.map fun x => (x.2, x.1)
def msgPairs (at_ : Nat) (l : List VV) : List (Nat × VV) := l.zipIdx.map fun v => (Vbxlaa.slotCount + Vbxlaa.maxMessage * at_ + v.2, v.1)
def inboxPairs (l : List (List VV)) : List (Nat × VV) := l.zipIdx.flatMap fun m => msgPairs m.2 m.1
theorem rootsOf_eq (c : VC) : Vbxlaa.rootsOf c = slotPairs c.slots ++ inboxPairs c.inbox := rfl
theorem slotPairs_more {l : List VV} {i : Nat} {x : VV} (h : l[i]? = some x) : slotPairs (l.take (i + 1)) = slotPairs (l.take i) ++ [(i, x)] := by
  unfold slotPairs
  rw [zip_more h, List.map_append]
  rfl
theorem msgPairs_more {a : Nat} {l : List VV} {i : Nat} {x : VV} (h : l[i]? = some x) : msgPairs a (l.take (i + 1)) = msgPairs a (l.take i) ++ [(6 + 3 * a + i, x)] := by
  unfold msgPairs
  rw [zip_more h, List.map_append]
  rfl
theorem inboxPairs_more {l : List (List VV)} {i : Nat} {m : List VV} (h : l[i]? = some m) : inboxPairs (l.take (i + 1)) = inboxPairs (l.take i) ++ msgPairs i m := by
  unfold inboxPairs
  rw [zip_more h, List.flatMap_append]
  simp
theorem slotPairs_length (l : List VV) : (slotPairs l).length = l.length := by unfold slotPairs; rw [List.length_map, List.length_zipIdx]
theorem msgPairs_length (a : Nat) (l : List VV) : (msgPairs a l).length = l.length := by unfold msgPairs; rw [List.length_map, List.length_zipIdx]
theorem inboxPairs_le : ∀ (i : Nat) (l : List (List VV)), (∀ m ∈ l, m.length ≤ 3) → i ≤ l.length → (inboxPairs (l.take i)).length ≤ 3 * i
  | 0, l, _, _ => by simp [inboxPairs]
  | i + 1, l, h, hi => by
    have ih := inboxPairs_le i l h (by omega)
    obtain ⟨m, e⟩ : ∃ m, l[i]? = some m := ⟨_, List.getElem?_eq_getElem (by omega)⟩
    have := h m (List.mem_of_getElem? e)
    rw [inboxPairs_more e, List.length_append, msgPairs_length]
    omega
/-- a client's bounds -/
structure COk (c : VC) : Prop where
  sl : c.slots.length = 6
  ib : c.inbox.length ≤ 4
  ms : ∀ m ∈ c.inbox, m.length ≤ 3
theorem Wf.cok {S : VSt} {R : Nat → Prop} (w : Wf S R) {c : VC} (h : c ∈ S.clients) : COk c := ⟨w.sl c h, w.ib c h, fun m hm => (w.ms c h m hm).2⟩
theorem roots_le {c : VC} (h : COk c) : (Vbxlaa.rootsOf c).length ≤ 18 := by
  have := inboxPairs_le c.inbox.length c.inbox h.ms (Nat.le_refl _)
  rw [List.take_length] at this
  rw [rootsOf_eq, List.length_append, slotPairs_length, h.sl]
  have := h.ib
  omega
section
variable {P : Program} {w : World} {K : PySem.W.Frag} {mg : Str → Option Value} {base : Heap} {ad : Ad}
def spRootRows (K : PySem.W.Frag) (ad : Ad) : Sp := fun vs H Q _ => ∃ (ca : Addr) (nm : Nat → Int) (ro : Rm) (b : Bool) (i : Nat) (c : VC), vs = [.ref ca] ∧ ClientAt K ad nm ro H b i ca c ∧ COk c ∧
  ∀ H' p rvs, Same H H' → H p = none → H' p = some (.lst rvs) → Paired (IsR K nm H') rvs (Vbxlaa.rootsOf c) → Q (.ref p) H'
theorem ok_root_rows (T : Tx K mg ad) (D : Df K mg "root_rows" s_root_rows ["client"]) : Ok P w K mg base 1 "root_rows" ["client"] (spRootRows K ad) := by
  refine D.ok c_root_rows (fun vs H Q E h => ?_) (fun f cdv A outer s H vs Q E hr h => ?_)
  · obtain ⟨ca, nm, ro, b, i, c, rfl, _⟩ := h
    rfl
  · refine ⟨_,
      (pss_cons (ps_setLc (i := 2) (own := [("number", 1)]) (g := (gName 1)) (tt := tYes) rfl c_root_rows.nd rfl rfl (sw_true rfl rfl rfl (by decide +kernel)) (pi_range1 rfl T.b_range (pa_cons (pe_ci T.c_SLOTS) pa_nil)) (blkOk_by (own := [("number", 1)]) (N := ["client", "number", "found", "at", "message", "own"]) (sc := defScope s_root_rows) (by decide +kernel)) (fun _ _ _ _ _ => by exact (pg_name (i := 1) c_root_rows.nd rfl (Or.inl rfl))) (fun _ _ _ _ _ => by exact pts_nil) (fun _ _ _ _ _ => by exact (pe_tup (by exact (pa_cons (pv 1) (pa_cons (pe_ix (ix_listK (K := K)) (pe_fldK (K := K) (pv 0) rfl) (pv 1) (fun _ _ => rfl)) pa_nil))))))
        (pss_cons (ps_for (passes_of rfl) rfl (pi_enum (by rfl) T.b_enumerate (pa_cons (pe_fld (pv 0) rfl) pa_nil)) (pg_tup rfl (pgs_cons (pg_name (i := 3) c_root_rows.nd rfl (Or.inl rfl)) (pgs_cons (pg_name (i := 4) c_root_rows.nd rfl (Or.inl rfl)) pgs_nil)))
          (pss_one (ps_for (passes_of rfl) rfl (pi_enum (by rfl) T.b_enumerate (pa_cons (pv 4) pa_nil)) (pg_tup rfl (pgs_cons (pg_name (i := 1) c_root_rows.nd rfl (Or.inl rfl)) (pgs_cons (pg_name (i := 5) c_root_rows.nd rfl (Or.inl rfl)) pgs_nil)))
            (pss_one (ps_expr (pe_bm PySem.F.plainAttrs_list PySem.F.slot_list_append PySem.F.type_list_append mt_append (pv 2) (pa_cons (pe_tup (pa_cons (pe_op op_add (pe_op op_add (pe_ci T.c_SLOTS) (pe_op op_mul (pe_ci T.c_MOST_IN_MESSAGE) (pv 3))) (pv 1)) (pa_cons (pv 5) pa_nil))) pa_nil)))))))
        (pss_one (ps_ret (pv 2)))))
      , ?_⟩
    obtain ⟨ca, nm, ro, b, i, c, rfl, hC, hc, k⟩ := h
    obtain ⟨dx, sl, ib, svs, ims, e1, e2, e3, e4, e5, e6, e7, e8⟩ := hC
    have hib := hc.ib
    have hsv : svs.length = 6 := (Paired.length e5).trans hc.sl
    have hims : ims.length = c.inbox.length := Paired.length e8
    refine ⟨6, rfl, by decide, by decide, fun L nL => lc_range (lo := 0) (n := 6) (fun j H1 => ∃ acc, Bld H L acc H1 ∧ Paired (IsR K nm H1) acc (slotPairs (c.slots.take j))) ⟨[], Bld.start nL, .nil⟩ ?_ ?_⟩
    · rintro j H1 hj ⟨acc, hB, hP⟩
      obtain ⟨x, hx⟩ : ∃ x, c.slots[j]? = some x := ⟨_, List.getElem?_eq_getElem (by rw [hc.sl]; exact hj)⟩
      obtain ⟨v, hv, iv⟩ := pair_get e5 hx
      have hl : acc.length = j := by
        rw [Paired.length hP, slotPairs_length, List.length_take, hc.sl]
        omega
      refine ⟨rfl, yes ?_⟩
      refine ⟨_, rfl, _, rfl, ca, _, dx, _, _, rfl, hB.sm _ _ e1, T.k_client, T.n_slots, rfl, _, rfl, sl, svs, _, v, rfl, rfl, SqL.of (hB.sm _ _ e3), at_of (Int.zero_add _) hv, leLine (by show 2 ≤ 1000; decide), fun t nt => ?_⟩
      have B2 := hB.new (o := .tup [.int (0 + (j : Int)), v]) nt
      refine ⟨acc, B2.at_, small1000 (by omega), acc ++ [.ref t], B2.put nL, ?_⟩
      rw [slotPairs_more hx]
      have nLt : t ≠ L := fun z => by rw [z, hB.at_] at nt; cases nt
      refine pair_snoc (rows_keep hP ((Tups.new nt).trans B2.tups)) ⟨t, v, rfl, ?_, iv.keep ((Same.tups hB.sm).trans ((Tups.new nt).trans B2.tups))⟩
      rw [upd_ne nLt, upd_same, Int.zero_add]
    · rintro H1 ⟨acc, hB, hP⟩
      rw [List.take_of_length_le (Nat.le_of_eq hc.sl)] at hP
      -- for at, message in enumerate(client.inbox)
      refine ⟨_, rfl, ca, _, dx, _, _, rfl, hB.sm _ _ e1, T.k_client, T.n_inbox, rfl, ib, ims, rfl, SqL.of (hB.sm _ _ e6), ?_⟩
      refine for_it (walk_enum (K := K) (a := ib) (xs := ims)) (fun j σ H2 => ∃ (v1 v3 v4 v5 : Option V) (acc : List V), σ = [some (.ref ca), v1, some (.ref L), v3, v4, v5] ∧ Bld H L acc H2 ∧ Paired (IsR K nm H2) acc (slotPairs c.slots ++ inboxPairs (c.inbox.take j)))
        ⟨none, none, none, none, acc, rfl, hB, by simpa [inboxPairs] using hP⟩ (fun j σ H2 _ ⟨_, _, _, _, _, _, hB, _⟩ => SqL.of (hB.sm _ _ e6)) ?_ ?_
      · rintro j x σ H2 H3 hj ⟨v1, v3, v4, v5, acc, rfl, hB, hP⟩ ⟨t, x0, y0, rfl, nt, rfl, ex, ey⟩
        cases ex
        obtain ⟨m, hm, ma, mvs, rfl, m1, m2, m3⟩ := pair_get' e8 ey
        have B3 := hB.new (o := .tup [.int (j : Nat), .ref ma]) nt
        refine ⟨t, _, rfl, SqT.of upd_same, rfl, _, _, rfl, _, _, rfl, rfl, ?_⟩
        refine ⟨_, rfl, ma, mvs, rfl, SqL.of (B3.sm _ _ m1), ?_⟩
        have hm3 := hc.ms m (List.mem_of_getElem? hm)
        have hmv : mvs.length = m.length := Paired.length m3
        have hin := inboxPairs_le j c.inbox hc.ms (by omega)
        refine for_it (walk_enum (K := K) (a := ma) (xs := mvs)) (fun q σ H4 => ∃ (v1 v5 : Option V) (acc : List V), σ = [some (.ref ca), v1, some (.ref L), some (.int (j : Nat)), some (.ref ma), v5] ∧ Bld H L acc H4 ∧
            Paired (IsR K nm H4) acc (slotPairs c.slots ++ inboxPairs (c.inbox.take j) ++ msgPairs j (m.take q)))
          ⟨v1, v5, acc, rfl, B3, by simpa [msgPairs] using rows_keep hP (Tups.new nt)⟩ (fun q σ H4 _ ⟨_, _, _, _, hB, _⟩ => SqL.of (hB.sm _ _ m1)) ?_ ?_
        · rintro q x σ H4 H5 hq ⟨v1, v5, acc, rfl, hB, hP⟩ ⟨t2, x2, y2, rfl, nt2, rfl, ex, ey⟩
          cases ex
          obtain ⟨mx, hmx, iv⟩ := pair_get' m3 ey
          have B5 := hB.new (o := .tup [.int (q : Nat), y2]) nt2
          have hl : acc.length = 6 + (inboxPairs (c.inbox.take j)).length + q := by
            rw [Paired.length hP, List.length_append, List.length_append, slotPairs_length, hc.sl, msgPairs_length, List.length_take]
            omega
          refine ⟨t2, _, rfl, SqT.of upd_same, rfl, _, _, rfl, _, _, rfl, rfl, ?_⟩
          refine ⟨_, rfl, .inl ⟨rfl, _, SqL.of B5.at_⟩, _, rfl, _, _, rfl, rfl, ⟨.inl (by decide), ?_⟩⟩
          refine ⟨_, _, rfl, rfl, _, rfl, _, _, rfl, rfl, _, rfl, leLine (by show 2 ≤ 1000; decide), fun t3 nt3 => ?_⟩
          have B6 := B5.new (o := .tup [.int (6 + 3 * (j : Int) + (q : Int)), y2]) nt3
          refine ⟨L, acc, _, rfl, rfl, B6.at_, small1000 (by omega), ?_⟩
          refine ⟨_, _, _, rfl, B6.put nL, ?_⟩
          rw [msgPairs_more hmx, ← List.append_assoc]
          have nLt : t3 ≠ L := fun z => by rw [z, B5.at_] at nt3; cases nt3
          refine pair_snoc (rows_keep hP ((Tups.new nt2).trans ((Tups.new nt3).trans B6.tups))) ⟨t3, y2, rfl, ?_, iv.keep ((Same.tups hB.sm).trans ((Tups.new nt2).trans ((Tups.new nt3).trans B6.tups)))⟩
          rw [upd_ne nLt, upd_same]
          simp
        · rintro σ H4 ⟨v1, v5, acc, rfl, hB, hP⟩
          refine ⟨_, _, _, _, acc, rfl, hB, ?_⟩
          rw [hmv, List.take_length] at hP
          rw [inboxPairs_more hm, ← List.append_assoc]
          exact hP
      · rintro σ H2 ⟨v1, v3, v4, v5, acc, rfl, hB, hP⟩
        rw [hims, List.take_length] at hP
        exact ⟨_, rfl, k _ L acc hB.sm nL hB.at_ hP⟩
end
end Sh


/-! M2: roots and paths of the specification. -/
namespace Sh
open Vbxlaa (fieldsOf follow rootsOf)
def rootAt (c : VC) (k : Nat) : Option VV := if k < 6 then c.slots[k]? else (c.inbox[(k - 6) / 3]?).bind fun m => m[(k - 6) % 3]?
theorem find_slots (k : Nat) : ∀ (l : List VV) (n : Nat), ((l.zipIdx n).map fun x => (x.2, x.1)).find? (fun p => p.1 == k) = if n ≤ k then (l[k - n]?).map fun v => (k, v) else none
  | [], n => by simp
  | x :: l, n => by
    rw [List.zipIdx_cons, List.map_cons, List.find?_cons]
    by_cases e : n = k
    · subst e
      simp
    · have ne : ((n, x).1 == k) = false := beq_eq_false_iff_ne.mpr e
      show (match (n, x).1 == k with | true => some (n, x) | false => _) = _
      rw [ne]
      show ((l.zipIdx (n + 1)).map fun x => (x.2, x.1)).find? (fun p => p.1 == k) = _
      rw [find_slots k l (n + 1)]
      by_cases h : n ≤ k
      · rw [if_pos h, if_pos (by omega), show k - n = (k - (n + 1)) + 1 from by omega, List.getElem?_cons_succ]
      · rw [if_neg h, if_neg (by omega)]
theorem find_msg (a k : Nat) : ∀ (l : List VV) (n : Nat), ((l.zipIdx n).map fun (v : VV × Nat) => (Vbxlaa.slotCount + Vbxlaa.maxMessage * a + v.2, v.1)).find? (fun p => p.1 == k) = if 6 + 3 * a + n ≤ k then (l[k - (6 + 3 * a + n)]?).map fun v => (k, v) else none
  | [], n => by simp
  | x :: l, n => by
    rw [List.zipIdx_cons, List.map_cons, List.find?_cons]
    show (match (6 + 3 * a + n == k) with | true => some (6 + 3 * a + n, x) | false => ((l.zipIdx (n + 1)).map fun (v : VV × Nat) => (Vbxlaa.slotCount + Vbxlaa.maxMessage * a + v.2, v.1)).find? (fun p => p.1 == k)) = _
    by_cases e : 6 + 3 * a + n = k
    · subst e
      simp
    · rw [beq_eq_false_iff_ne.mpr e]
      show ((l.zipIdx (n + 1)).map fun (v : VV × Nat) => (Vbxlaa.slotCount + Vbxlaa.maxMessage * a + v.2, v.1)).find? (fun p => p.1 == k) = _
      rw [find_msg a k l (n + 1)]
      by_cases h : 6 + 3 * a + n ≤ k
      · rw [if_pos h, if_pos (by omega), show k - (6 + 3 * a + n) = (k - (6 + 3 * a + (n + 1))) + 1 from by omega, List.getElem?_cons_succ]
      · rw [if_neg h, if_neg (by omega)]
theorem find_inbox (k : Nat) : ∀ (l : List (List VV)) (n : Nat), (∀ m ∈ l, m.length ≤ 3) → ((l.zipIdx n).flatMap fun (m : List VV × Nat) => m.1.zipIdx.map fun (v : VV × Nat) => (Vbxlaa.slotCount + Vbxlaa.maxMessage * m.2 + v.2, v.1)).find? (fun p => p.1 == k) =
    if 6 + 3 * n ≤ k then (l[(k - 6) / 3 - n]?).bind fun m => (m[(k - 6) % 3]?).map fun v => (k, v) else none
  | [], n, _ => by simp
  | m :: l, n, h => by
    rw [List.zipIdx_cons, List.flatMap_cons, List.find?_append]
    have hm := h m List.mem_cons_self
    rw [find_msg n k m 0, find_inbox k l (n + 1) fun m2 h2 => h m2 (List.mem_cons_of_mem _ h2)]
    by_cases c1 : 6 + 3 * n ≤ k
    · rw [if_pos (by omega), if_pos c1]
      by_cases c2 : k < 6 + 3 * n + 3
      · have e1 : (k - 6) / 3 - n = 0 := by omega
        have e2 : (k - 6) % 3 = k - (6 + 3 * n + 0) := by omega
        rw [if_neg (by omega), e1, e2, List.getElem?_cons_zero, Option.bind_some]
        simp
      · have e1 : (k - 6) / 3 - n = ((k - 6) / 3 - (n + 1)) + 1 := by omega
        rw [if_pos (by omega), e1, List.getElem?_cons_succ, List.getElem?_eq_none (by omega)]
        rfl
    · rw [if_neg (by omega), if_neg (by omega), if_neg c1]
      rfl
theorem rootsOf_find {c : VC} (hs : c.slots.length = 6) (hm : ∀ m ∈ c.inbox, m.length ≤ 3) (k : Nat) : (rootsOf c).find? (fun p => p.1 == k) = (rootAt c k).map fun v => (k, v) := by
  unfold rootsOf rootAt
  rw [List.find?_append, find_slots k c.slots 0, find_inbox k c.inbox 0 hm, if_pos (Nat.zero_le _), Nat.sub_zero, Nat.sub_zero]
  by_cases h : k < 6
  · rw [if_pos h, if_neg (by omega), Option.or_none]
  · rw [if_neg h, if_pos (by omega), List.getElem?_eq_none (by omega), Option.map_none, Option.none_or]
    cases c.inbox[(k - 6) / 3]? with
    | none => rfl
    | some m => rfl
/-- one field further -/
def stepF (S : VSt) (o : Option VV) (f : Nat) : Option VV := o.bind fun v => match v with
  | .object i => (fieldsOf S i)[f]?
  | _ => none
theorem stepF_none (S : VSt) : ∀ l : List Nat, l.foldl (stepF S) none = none
  | [] => rfl
  | _ :: l => stepF_none S l
theorem follow_fold (S : VSt) : ∀ (l : List Nat) (v : VV), follow S v l = l.foldl (stepF S) (some v)
  | [], v => by cases v <;> rfl
  | f :: l, .nothing => (stepF_none S l).symm
  | f :: l, .number _ => (stepF_none S l).symm
  | f :: l, .object i => by
    show (match (fieldsOf S i)[f]? with | some v => follow S v l | none => none) = l.foldl (stepF S) ((fieldsOf S i)[f]?)
    cases e : (fieldsOf S i)[f]? with
    | none => exact (stepF_none S l).symm
    | some v => exact follow_fold S l v
theorem valueAt_fold {S : VSt} {c : VC} (hs : c.slots.length = 6) (hm : ∀ m ∈ c.inbox, m.length ≤ 3) (k : Nat) (l : List Nat) : Vbxlaa.valueAt S c (k :: l) = l.foldl (stepF S) (rootAt c k) := by
  show ((rootsOf c).find? fun x => x.1 == k).bind (fun x => follow S x.2 l) = _
  rw [rootsOf_find hs hm]
  cases rootAt c k with
  | none => exact (stepF_none S l).symm
  | some v => exact follow_fold S l v
theorem rootAt_live {S : VSt} {R : Nat → Prop} (w : Wf S R) {c : VC} (h : c ∈ S.clients) {k : Nat} {v : VV} (e : rootAt c k = some v) : Lv R v := by
  unfold rootAt at e
  by_cases c1 : k < 6
  · rw [if_pos c1] at e
    exact w.ls c h v (List.mem_of_getElem? e)
  · rw [if_neg c1] at e
    cases q : c.inbox[(k - 6) / 3]? with
    | none => rw [q] at e; cases e
    | some m =>
      rw [q] at e
      exact w.lm c h m (List.mem_of_getElem? q) v (List.mem_of_getElem? e)
theorem stepF_live {S : VSt} {R : Nat → Prop} (w : Wf S R) {o : Option VV} {f : Nat} {v : VV} (h : ∀ x, o = some x → Lv R x) (e : stepF S o f = some v) : Lv R v := by
  cases o with
  | none => cases e
  | some x =>
    cases x with
    | nothing => cases e
    | number _ => cases e
    | object i => exact (w.fields (h _ rfl i rfl)).2 v (List.mem_of_getElem? e)
/-- the values of the roots are live -/
theorem roots_live {S : VSt} {R : Nat → Prop} (w : Wf S R) {c : VC} (h : c ∈ S.clients) : ∀ v ∈ Vbxlaa.rootValues c, Lv R v := by
  intro v hv
  unfold Vbxlaa.rootValues Vbxlaa.rootsOf at hv
  rw [List.map_append, List.mem_append] at hv
  rcases hv with hv | hv
  · rw [List.map_map] at hv
    obtain ⟨⟨y, j⟩, hy, rfl⟩ := List.mem_map.mp hv
    exact w.ls c h y (List.mem_of_getElem? (List.mem_zipIdx_iff_getElem?.mp hy))
  · rw [List.map_flatMap] at hv
    obtain ⟨⟨m, q⟩, hm, hv⟩ := List.mem_flatMap.mp hv
    rw [List.map_map] at hv
    obtain ⟨⟨y, j⟩, hy, rfl⟩ := List.mem_map.mp hv
    exact w.lm c h m (List.mem_of_getElem? (List.mem_zipIdx_iff_getElem?.mp hm)) y (List.mem_of_getElem? (List.mem_zipIdx_iff_getElem?.mp hy))
theorem all_live {S : VSt} {R : Nat → Prop} (w : Wf S R) : ∀ v ∈ Vbxlaa.allRootValues S, Lv R v := by
  intro v hv
  obtain ⟨c, hc, hv⟩ := List.mem_flatMap.mp hv
  exact roots_live w hc v hv
end Sh

set_option maxHeartbeats 2000000
namespace Sh
open PySem PySem.Spec PyProof.Rows L2
open Vbxlaa (fieldsOf rootsOf rootValues allRootValues clientAt)
/-! ### data that is compared -/
theorem dpInts {K : PySem.W.Frag} {H : Hp} : ∀ ns : List Int, DpAll K H (ns.map V.int) (ns.map PyData.int)
  | [] => .nil
  | n :: r => .cons (.int n) (dpInts r)
theorem lay_ints : ∀ ns : List Int, PyData.canLayAll0 (ns.map PyData.int) = true ∧ PyData.depthAll (ns.map PyData.int) = 0
  | [] => ⟨rfl, rfl⟩
  | n :: r => ⟨(lay_ints r).1, by
    show max 0 (PyData.depthAll (r.map PyData.int)) = 0
    rw [(lay_ints r).2]
    rfl⟩
theorem shaped_ints (ns : List Int) : SeqAt.shaped (.list (ns.map PyData.int)) = true := by
  unfold SeqAt.shaped
  show (PyData.canLayAll0 (ns.map PyData.int) && decide (PyData.depthAll (ns.map PyData.int) + 1 ≤ 64)) = true
  rw [(lay_ints ns).1, (lay_ints ns).2]
  rfl
theorem shaped_pair (i j : Int) : SeqAt.shaped (.tuple [.int i, .int j]) = true := rfl
theorem eqv_nil (ds : List PyData) : PyData.eqv (.list ds) (.list []) = ds.isEmpty := by cases ds <;> rfl
theorem eqv_pair (i j k l : Int) : PyData.eqv (.tuple [.int i, .int j]) (.tuple [.int k, .int l]) = (decide (i = k) && decide (j = l)) := by
  show ((i == k) && ((j == l) && true)) = _
  rw [Bool.and_true, Bool.beq_eq_decide_eq, Bool.beq_eq_decide_eq]
theorem eqv_two (i j k l : Int) : PyData.eqv (.list [.int i, .int j]) (.list [.int k, .int l]) = (decide (i = k) && decide (j = l)) := eqv_pair i j k l
/-! ### lists of numbers -/
def nI (l : List Nat) : List V := l.map fun i => V.int (i : Nat)
theorem nI_ints (l : List Nat) : nI l = (l.map fun i => ((i : Nat) : Int)).map V.int := by unfold nI; rw [List.map_map]; rfl
theorem inV_names {nm : Nat → Int} (inj : ∀ i j, nm i = nm j → i = j) (i : Nat) : ∀ l : List Nat, inV (.int (nm i)) (l.map fun j => V.int (nm j)) = l.contains i
  | [] => rfl
  | j :: l => by
    have ih := inV_names inj i l
    unfold inV at ih ⊢
    rw [List.map_cons, List.any_cons, ih, List.contains_cons]
    congr 1
    show eqV (.int (nm j)) (.int (nm i)) = (i == j)
    by_cases e : i = j
    · subst e
      simp [eqV]
    · have ne : nm j ≠ nm i := fun z => e (inj _ _ z.symm)
      show (nm j == nm i) = (i == j)
      rw [beq_eq_false_iff_ne.mpr ne, beq_eq_false_iff_ne.mpr e]
theorem flat_ints : ∀ l : List Int, (l.map V.int).all flatV = true
  | [] => rfl
  | _ :: l => flat_ints l
section
variable {P : Program} {w : World} {K : PySem.W.Frag} {mg : Str → Option Value} {base : Heap} {ad : Ad}
/-! ### root_values -/
def spRootValues (K : PySem.W.Frag) (ad : Ad) : Sp := fun vs H Q _ => ∃ (ca : Addr) (nm : Nat → Int) (ro : Rm) (b : Bool) (i : Nat) (c : VC), vs = [.ref ca] ∧ ClientAt K ad nm ro H b i ca c ∧ COk c ∧
  ∀ H' p rvs, Same H H' → H p = none → H' p = some (.lst rvs) → Row K nm H' rvs (rootValues c) → Q (.ref p) H'
theorem ok_root_values (T : Tx K mg ad) (D : Df K mg "root_values" s_root_values ["client"]) (G_root_rows : Ok P w K mg base 1 "root_rows" ["client"] (spRootRows K ad)) : Ok P w K mg base 2 "root_values" ["client"] (spRootValues K ad) := by
  refine D.ok c_root_values (fun vs H Q E h => ?_) (fun f cdv A outer s H vs Q E hr h => ?_)
  · obtain ⟨ca, nm, ro, b, i, c, rfl, _⟩ := h
    rfl
  · refine ⟨_,
      (pss_one (ps_ret (pe_lc (own := [("index", 1), ("own", 2)]) (g := (gTup K 2 (gCons (gName 1) (gCons (gName 2) gNil)))) (tt := tYes) rfl c_root_values.nd (pi_list (pe_c G_root_rows hr (L2N.takes_of rfl rfl rfl rfl) (pa_cons (pv 0) pa_nil))) (blkOk_by (own := [("index", 1), ("own", 2)]) (N := ["client", "index", "own"]) (sc := defScope s_root_values) (by decide +kernel)) (fun _ _ _ _ _ => by exact (pg_tup rfl (pgs_cons (pg_name (i := 1) c_root_values.nd rfl (Or.inl rfl)) (pgs_cons (pg_name (i := 2) c_root_values.nd rfl (Or.inl rfl)) pgs_nil)))) (fun _ _ _ _ _ => by exact pts_nil) (fun _ _ _ _ _ => by exact (pv 2)))))
      , ?_⟩
    obtain ⟨ca, nm, ro, b, i, c, rfl, hC, hc, k⟩ := h
    refine ⟨_, rfl, ca, nm, ro, b, i, c, rfl, hC, hc, fun H1 p rvs s1 np hp hrow => ?_⟩
    have hl : rvs.length ≤ 18 := by rw [Paired.length hrow]; exact roots_le hc
    refine ⟨p, rfl, ⟨rvs, SqL.of hp⟩, fun L nL => lc_list (K := K) (a := p) (xs := rvs) (fun j H2 => ∃ acc, Bld H1 L acc H2 ∧ Row K nm H2 acc (((rootsOf c).take j).map fun x => x.2)) ⟨[], Bld.start nL, .nil⟩ (fun j H2 _ ⟨_, hB, _⟩ => SqL.of (hB.sm _ _ hp)) ?_ ?_⟩
    · rintro j x H2 hj ⟨acc, hB, hP⟩
      obtain ⟨⟨ix, v⟩, hv, t, u, rfl, ht, iu⟩ := pair_get' hrow hj
      have hj2 : j < rvs.length := (List.getElem?_eq_some_iff.mp hj).1
      have al : acc.length ≤ 18 := by
        rw [Paired.length hP, List.length_map, List.length_take]
        omega
      refine ⟨t, _, rfl, SqT.of (hB.sm _ _ ht), rfl, _, _, rfl, _, _, rfl, rfl, rfl, yes ?_⟩
      refine ⟨_, rfl, acc, hB.at_, small1000 (by omega), _, hB.put nL, ?_⟩
      obtain ⟨hq, eq⟩ := List.getElem?_eq_some_iff.mp hv
      rw [List.take_succ_eq_append_getElem hq, eq, List.map_append]
      exact pair_snoc (Row.keep hP hB.tups) (iu.keep ((Same.tups hB.sm).trans hB.tups))
    · rintro H2 ⟨acc, hB, hP⟩
      rw [Paired.length hrow, List.take_length] at hP
      exact k _ L acc (s1.trans hB.sm) (s1.free nL) hB.at_ hP
/-! ### all_values -/
def spAllValues (K : PySem.W.Frag) (ad : Ad) : Sp := fun vs H Q _ => ∃ (sa : Addr) (nm : Nat → Int) (ro : Rm) (b : Bool) (S : VSt) (R : Nat → Prop), vs = [.ref sa] ∧ StoreAt K ad nm ro H b sa S ∧ Wf S R ∧
  ∀ H' p rvs, Same H H' → H p = none → H' p = some (.lst rvs) → Row K nm H' rvs (allRootValues S) → Q (.ref p) H'
theorem rootValues_le {c : VC} (h : COk c) : (rootValues c).length ≤ 18 := by
  unfold rootValues
  rw [List.length_map]
  exact roots_le h
theorem flat_more {α β : Type} (f : α → List β) {l : List α} {i : Nat} {x : α} (h : l[i]? = some x) : (l.take (i + 1)).flatMap f = (l.take i).flatMap f ++ f x := by
  obtain ⟨hi, e⟩ := List.getElem?_eq_some_iff.mp h
  rw [List.take_succ_eq_append_getElem hi, e, List.flatMap_append]
  simp
theorem flat_le {α β : Type} (f : α → List β) (n : Nat) : ∀ (i : Nat) (l : List α), (∀ x ∈ l, (f x).length ≤ n) → i ≤ l.length → ((l.take i).flatMap f).length ≤ n * i
  | 0, l, _, _ => by simp
  | i + 1, l, h, hi => by
    have ih := flat_le f n i l h (by omega)
    obtain ⟨m, e⟩ : ∃ m, l[i]? = some m := ⟨_, List.getElem?_eq_getElem (by omega)⟩
    have := h m (List.mem_of_getElem? e)
    rw [flat_more f e, List.length_append, Nat.mul_succ]
    omega
theorem ok_all_values (T : Tx K mg ad) (D : Df K mg "all_values" s_all_values ["store"]) (G_root_values : Ok P w K mg base 2 "root_values" ["client"] (spRootValues K ad)) : Ok P w K mg base 3 "all_values" ["store"] (spAllValues K ad) := by
  refine D.ok c_all_values (fun vs H Q E h => ?_) (fun f cdv A outer s H vs Q E hr h => ?_)
  · obtain ⟨sa, nm, ro, b, S, R, rfl, _⟩ := h
    rfl
  · refine ⟨_,
      (pss_cons (ps_set (i := 1) c_all_values.nd rfl (Or.inl rfl) (pe_lst pa_nil))
        (pss_cons (ps_for (passes_of rfl) rfl (pi_list (pe_fld (pv 0) rfl)) (pg_name (i := 2) c_all_values.nd rfl (Or.inl rfl))
          (pss_one (ps_expr (pe_bm PySem.F.plainAttrs_list PySem.F.slot_list_extend PySem.F.type_list_extend mt_extend (pv 1) (pa_cons (pe_c G_root_values hr (L2N.takes_of rfl rfl rfl rfl) (pa_cons (pv 2) pa_nil)) pa_nil)))))
        (pss_one (ps_ret (pv 1)))))
      , ?_⟩
    obtain ⟨sa, nm, ro, b, S, R, rfl, hS, wf, k⟩ := h
    obtain ⟨dx, cl, td, cvs, kvs, last, h1, h2, h3, h4, h5, h6, h7, h8, h9, h10⟩ := id hS
    refine ⟨leLine (by decide), fun L nL => ?_⟩
    have s1 : Same H (upd H L (.lst [])) := Same.new nL
    refine ⟨_, rfl, sa, _, dx, _, _, rfl, s1 _ _ h1, T.k_store, T.n_clients, rfl, cl, rfl, ⟨_, SqL.of (s1 _ _ h3)⟩, ?_⟩
    refine for_list (K := K) (a := cl) (xs := cvs) (fun j σ H2 => ∃ (v2 : Option V) (acc : List V), σ = [some (.ref sa), some (.ref L), v2] ∧ Bld H L acc H2 ∧ Row K nm H2 acc ((S.clients.take j).flatMap rootValues))
      ⟨none, [], rfl, Bld.start nL, .nil⟩ (fun j σ H2 _ ⟨_, _, _, hB, _⟩ => SqL.of (hB.sm _ _ h3)) ?_ ?_
    · rintro j x σ H2 hj ⟨v2, acc, rfl, hB, hP⟩
      have hj2 : j < S.clients.length := by rw [← h5]; exact (List.getElem?_eq_some_iff.mp hj).1
      obtain ⟨c, hc⟩ : ∃ c, S.clients[j]? = some c := ⟨_, List.getElem?_eq_getElem hj2⟩
      obtain ⟨ca, e1, e2⟩ := h6 j c hc
      rw [hj] at e1
      cases e1
      have cm := List.mem_of_getElem? hc
      refine ⟨_, rfl, .inl ⟨rfl, _, SqL.of hB.at_⟩, _, rfl, ca, nm, ro, b, j, c, rfl, e2.same hB.sm, wf.cok cm, fun H3 p rvs s3 np hp hrow => ?_⟩
      have B3 := hB.grow s3
      have l1 := flat_le rootValues 18 j S.clients (fun x hx => rootValues_le (wf.cok hx)) (Nat.le_of_lt hj2)
      have l2 := rootValues_le (wf.cok cm)
      have l3 := wf.c4
      refine ⟨L, p, acc, rvs, rfl, rfl, B3.at_, hp, leLine (by rw [Paired.length hP, Paired.length hrow]; omega), ?_⟩
      refine ⟨_, _, rfl, B3.put nL, ?_⟩
      rw [flat_more rootValues hc]
      exact pair_app (Row.keep hP ((Same.tups s3).trans B3.tups)) (Row.keep hrow B3.tups)
    · rintro σ H2 ⟨v2, acc, rfl, hB, hP⟩
      rw [h5, List.take_length] at hP
      exact ⟨_, rfl, k _ L acc hB.sm nL hB.at_ hP⟩
/-! ### client_walk, store_walk -/
def spClientWalk (K : PySem.W.Frag) (ad : Ad) : Sp := fun vs H Q _ => ∃ (sa : Addr) (nm : Nat → Int) (ro : Rm) (b : Bool) (S : VSt) (R : Nat → Prop) (n : Nat) (c : VC), vs = [.ref sa, .int (n : Nat)] ∧ StoreAt K ad nm ro H b sa S ∧ Wf S R ∧ 1 ≤ n ∧ S.clients[n - 1]? = some c ∧
  ∀ H' p, Same H H' → H p = none → H' p = some (.lst ((Vbxlaa.walk S (rootValues c)).map fun i => V.int (nm i))) → Q (.ref p) H'
theorem ok_client_walk (T : Tx K mg ad) (D : Df K mg "client_walk" s_client_walk ["store", "number"]) (G_root_values : Ok P w K mg base 2 "root_values" ["client"] (spRootValues K ad)) (G_walk : Ok P w K mg base 1 "walk" ["store", "row"] (spWalk K ad)) :
    Ok P w K mg base 3 "client_walk" ["store", "number"] (spClientWalk K ad) := by
  refine D.ok c_client_walk (fun vs H Q E h => ?_) (fun f cdv A outer s H vs Q E hr h => ?_)
  · obtain ⟨sa, nm, ro, b, S, R, n, c, rfl, _⟩ := h
    rfl
  · refine ⟨_,
      (pss_one (ps_ret (pe_c G_walk hr (L2N.takes_of rfl rfl rfl rfl) (pa_cons (pv 0) (pa_cons (pe_c G_root_values hr (L2N.takes_of rfl rfl rfl rfl) (pa_cons (pe_ix ix_list (pe_fld (pv 0) rfl) (pe_op op_sub (pv 1) pe_int) (fun _ _ => rfl)) pa_nil)) pa_nil)))))
      , ?_⟩
    obtain ⟨sa, nm, ro, b, S, R, n, c, rfl, hS, wf, hn, hcl, k⟩ := h
    obtain ⟨dx, cl, td, cvs, kvs, last, h1, h2, h3, h4, h5, h6, h7, h8, h9, h10⟩ := id hS
    obtain ⟨ca, e1, e2⟩ := h6 _ _ hcl
    have cm := List.mem_of_getElem? hcl
    refine ⟨_, rfl, _, rfl, sa, _, dx, _, _, rfl, h1, T.k_store, T.n_clients, rfl, _, rfl, _, _, rfl, rfl, cl, cvs, _, .ref ca, rfl, rfl, SqL.of h3, at_of (j := n - 1) (by omega) e1, ?_⟩
    refine ⟨ca, nm, ro, b, _, c, rfl, e2, wf.cok cm, fun H1 p rvs s1 np hp hrow => ?_⟩
    exact ⟨sa, p, nm, ro, b, S, R, rvs, _, rfl, hS.same s1, wf, SqL.of hp, hrow, roots_live wf cm, fun H2 p2 s2 np2 hp2 => k _ p2 (s1.trans s2) (s1.free np2) hp2⟩
def spStoreWalk (K : PySem.W.Frag) (ad : Ad) : Sp := fun vs H Q _ => ∃ (sa : Addr) (nm : Nat → Int) (ro : Rm) (b : Bool) (S : VSt) (R : Nat → Prop), vs = [.ref sa] ∧ StoreAt K ad nm ro H b sa S ∧ Wf S R ∧
  ∀ H' p, Same H H' → H p = none → H' p = some (.lst ((Vbxlaa.reachable S).map fun i => V.int (nm i))) → Q (.ref p) H'
theorem ok_store_walk (T : Tx K mg ad) (D : Df K mg "store_walk" s_store_walk ["store"]) (G_all_values : Ok P w K mg base 3 "all_values" ["store"] (spAllValues K ad)) (G_walk : Ok P w K mg base 1 "walk" ["store", "row"] (spWalk K ad)) :
    Ok P w K mg base 4 "store_walk" ["store"] (spStoreWalk K ad) := by
  refine D.ok c_store_walk (fun vs H Q E h => ?_) (fun f cdv A outer s H vs Q E hr h => ?_)
  · obtain ⟨sa, nm, ro, b, S, R, rfl, _⟩ := h
    rfl
  · refine ⟨_,
      (pss_one (ps_ret (pe_c G_walk hr (L2N.takes_of rfl rfl rfl rfl) (pa_cons (pv 0) (pa_cons (pe_c G_all_values hr (L2N.takes_of rfl rfl rfl rfl) (pa_cons (pv 0) pa_nil)) pa_nil)))))
      , ?_⟩
    obtain ⟨sa, nm, ro, b, S, R, rfl, hS, wf, k⟩ := h
    refine ⟨_, rfl, _, rfl, sa, nm, ro, b, S, R, rfl, hS, wf, fun H1 p rvs s1 np hp hrow => ?_⟩
    exact ⟨sa, p, nm, ro, b, S, R, rvs, _, rfl, hS.same s1, wf, SqL.of hp, hrow, all_live wf, fun H2 p2 s2 np2 hp2 => k _ p2 (s1.trans s2) (s1.free np2) hp2⟩
/-! ### unreached -/
def spUnreached (K : PySem.W.Frag) (ad : Ad) : Sp := fun vs H Q _ => ∃ (sa : Addr) (nm : Nat → Int) (ro : Rm) (b : Bool) (S : VSt) (R : Nat → Prop), vs = [.ref sa] ∧ StoreAt K ad nm ro H b sa S ∧ Wf S R ∧
  ∀ H' p, Same H H' → H p = none → H' p = some (.lst ((Vbxlaa.unreachable S).map fun o => V.int (nm o.id))) → Q (.ref p) H'
theorem thing_keys {nm : Nat → Int} {ro : Rm} {H : Hp} {b : Bool} : ∀ {kvs : List (Key × V)} {l : List VO}, Paired (ThingAt K nm ro H b) kvs l → (kvs.map fun kv => kV kv.1) = l.map fun o => V.int (nm o.id)
  | _, _, .nil => rfl
  | _, _, .cons r t => by
    rw [List.map_cons, List.map_cons, thing_keys t, r.1]
    rfl
theorem ok_unreached (T : Tx K mg ad) (D : Df K mg "unreached" s_unreached ["store"]) (G_store_walk : Ok P w K mg base 4 "store_walk" ["store"] (spStoreWalk K ad)) : Ok P w K mg base 5 "unreached" ["store"] (spUnreached K ad) := by
  refine D.ok c_unreached (fun vs H Q E h => ?_) (fun f cdv A outer s H vs Q E hr h => ?_)
  · obtain ⟨sa, nm, ro, b, S, R, rfl, _⟩ := h
    rfl
  · refine ⟨_,
      (pss_cons (ps_set (i := 1) c_unreached.nd rfl (Or.inr rfl) (pe_c G_store_walk hr (L2N.takes_of rfl rfl rfl rfl) (pa_cons (pv 0) pa_nil)))
        (pss_one (ps_ret (pe_lc (own := [("name", 2)]) (g := (gName 2)) rfl c_unreached.nd (pi_list (pe_callTy (call_list_dK rfl) (by rfl) T.b_list (by decide +kernel) (pa_cons (pe_fld (pv 0) rfl) pa_nil))) (blkOk_by (own := [("name", 2)]) (N := ["store", "reached", "name"]) (sc := defScope s_unreached) (by decide +kernel)) (fun _ _ _ _ _ => by exact (pg_name (i := 2) c_unreached.nd rfl (Or.inl rfl))) (fun _ _ _ _ _ => by exact (pts_one (pt_cmpR (op_notIn_seqK (K := K)) (pv 2) (pv 1) rfl))) (fun _ _ _ _ _ => by exact (pv 2))))))
      , ?_⟩
    obtain ⟨sa, nm, ro, b, S, R, rfl, hS, wf, k⟩ := h
    refine ⟨_, rfl, sa, nm, ro, b, S, R, rfl, hS, wf, fun H1 p s1 np hp => ?_⟩
    obtain ⟨dx, cl, td, cvs, kvs, last, h1, h2, h3, h4, h5, h6, h7, h8, h9, h10⟩ := id hS
    refine ⟨_, rfl, sa, _, dx, _, _, rfl, s1 _ _ h1, T.k_store, T.n_things, rfl, td, kvs, rfl, s1 _ _ h7, fun q nq => ?_⟩
    rw [thing_keys h9]
    have s2 := s1.trans (Same.new (o := .lst (S.objects.map fun o => V.int (nm o.id))) nq)
    have hl := wf.ol
    have hm := wf.mx
    refine ⟨q, rfl, ⟨_, SqL.of upd_same⟩, fun L nL => lc_list (K := K) (a := q) (xs := S.objects.map fun o => V.int (nm o.id)) (fun j H2 => ∃ acc, Bld (upd H1 q (.lst (S.objects.map fun o => V.int (nm o.id)))) L acc H2 ∧
      acc = (((S.objects.take j).filter fun o => !(Vbxlaa.reachable S).contains o.id).map fun o => V.int (nm o.id))) ⟨[], Bld.start nL, rfl⟩ (fun j H2 _ ⟨_, hB, _⟩ => SqL.of (hB.sm _ _ upd_same)) ?_ ?_⟩
    · rintro j x H2 hj ⟨acc, hB, ea⟩
      rw [List.getElem?_map] at hj
      obtain ⟨o, ho, rfl⟩ := Option.map_eq_some_iff.mp hj
      obtain ⟨hq, eq⟩ := List.getElem?_eq_some_iff.mp ho
      have al : acc.length ≤ 48 := by
        rw [ea, List.length_map]
        refine Nat.le_trans (List.length_filter_le _ _) ?_
        rw [List.length_take]
        omega
      refine ⟨rfl, _, rfl, _, rfl, p, _, rfl, .inl (SqL.of (hB.sm _ _ (Same.new nq _ _ hp))), rfl, ?_, ?_⟩
      · rw [show ((Vbxlaa.reachable S).map fun i => V.int (nm i)) = ((Vbxlaa.reachable S).map nm).map V.int from by rw [List.map_map]; rfl]
        exact flat_ints _
      rw [inV_names h10.inj]
      refine ⟨_, rfl, ?_⟩
      rw [List.take_succ_eq_append_getElem hq, eq, List.filter_append, List.map_append, ← ea]
      cases hcon : (Vbxlaa.reachable S).contains o.id with
      | true =>
        refine iteF ?_
        refine ⟨acc, hB, ?_⟩
        rw [List.filter_cons, hcon]
        simp
      | false =>
        refine iteT ?_
        refine ⟨_, rfl, acc, hB.at_, small1000 (by omega), _, hB.put nL, ?_⟩
        rw [List.filter_cons, hcon]
        rfl
    · rintro H2 ⟨acc, hB, ea⟩
      rw [List.length_map, List.take_length] at ea
      have nL1 : H1 L = none := (Same.new nq).free nL
      refine k _ L (s2.trans hB.sm) (s1.free nL1) ?_
      rw [hB.at_, ea]
      rfl
end
end Sh


set_option maxHeartbeats 2000000
namespace Sh
open PySem PySem.Spec PyProof.Rows L2
open Vbxlaa (fieldsOf rootsOf rootValues allRootValues clientAt)
/-! ### slices -/
theorem cut_from (xs : List V) (a : Nat) : cutV xs (some (a : Int)) none = xs.drop a := by
  unfold cutV
  rw [HT.sIx_nat, HT.sIx_none]
  rcases Nat.le_total a xs.length with h | h
  · rw [Nat.min_eq_left h, List.take_of_length_le (by rw [List.length_drop]; exact Nat.le_refl _)]
  · rw [Nat.min_eq_right h, List.drop_length, List.drop_eq_nil_of_le h, List.take_nil]
theorem cut_mid (xs : List V) (a b : Nat) (h : b ≤ xs.length) : cutV xs (some (a : Int)) (some (b : Int)) = (xs.drop a).take (b - a) := by
  unfold cutV
  rw [HT.sIx_nat, HT.sIx_nat, Nat.min_eq_left h]
  rcases Nat.le_total a xs.length with h2 | h2
  · rw [Nat.min_eq_left h2]
  · rw [Nat.min_eq_right h2, List.drop_length, List.drop_eq_nil_of_le h2, List.take_nil, List.take_nil]
/-- a value that may be missing -/
def IsO (K : PySem.W.Frag) (nm : Nat → Int) (H : Hp) (v : V) : Option VV → Prop
  | none => v = .non
  | some x => IsV K nm H v x
theorem IsO.keep {K : PySem.W.Frag} {nm : Nat → Int} {H H' : Hp} {v : V} {o : Option VV} (h : IsO K nm H v o) (k : Tups H H') : IsO K nm H' v o := by
  cases o with
  | none => exact h
  | some x => exact IsV.keep h k
theorem nI_length (l : List Nat) : (nI l).length = l.length := List.length_map ..
theorem nI_get {l : List Nat} {i : Nat} {x : V} (h : (nI l)[i]? = some x) : ∃ n, l[i]? = some n ∧ x = V.int (n : Nat) := by
  unfold nI at h
  rw [List.getElem?_map] at h
  obtain ⟨n, e, rfl⟩ := Option.map_eq_some_iff.mp h
  exact ⟨n, e, rfl⟩
theorem fold_take {α β : Type} (f : β → α → β) {l : List α} {i : Nat} {x : α} {b : β} (h : l[i]? = some x) : (l.take (i + 1)).foldl f b = f ((l.take i).foldl f b) x := by
  obtain ⟨hi, e⟩ := List.getElem?_eq_some_iff.mp h
  rw [List.take_succ_eq_append_getElem hi, e, List.foldl_append]
  rfl
section
variable {P : Program} {w : World} {K : PySem.W.Frag} {mg : Str → Option Value} {base : Heap} {ad : Ad}
/-! ### root_at -/
def spRootAt (K : PySem.W.Frag) (ad : Ad) : Sp := fun vs H Q _ => ∃ (ca : Addr) (nm : Nat → Int) (ro : Rm) (b : Bool) (i : Nat) (c : VC) (n : Nat), vs = [.ref ca, .int (n : Nat)] ∧ ClientAt K ad nm ro H b i ca c ∧ COk c ∧
  ∀ H' v, Same H H' → IsO K nm H' v (rootAt c n) → Q v H'
theorem ok_root_at (T : Tx K mg ad) (D : Df K mg "root_at" s_root_at ["client", "index"]) : Ok P w K mg base 1 "root_at" ["client", "index"] (spRootAt K ad) := by
  refine D.ok c_root_at (fun vs H Q E h => ?_) (fun f cdv A outer s H vs Q E hr h => ?_)
  · obtain ⟨ca, nm, ro, b, i, c, n, rfl, _⟩ := h
    rfl
  · refine ⟨_,
      (pss_cons (ps_if (pt_cmpR op_lt (pv 1) (pe_ci T.c_SLOTS) (nomark _)) (pss_one (ps_ret (pe_ix ix_list (pe_fld (pv 0) rfl) (pv 1) (fun _ _ => rfl)))) pss_nil)
        (pss_cons (ps_asg (pe_callB call_divmod (by rfl) T.b_divmod (by decide +kernel) (pa_cons (pe_op op_sub (pv 1) (pe_ci T.c_SLOTS)) (pa_cons (pe_ci T.c_MOST_IN_MESSAGE) pa_nil))) (pg_tup rfl (pgs_cons (pg_name (i := 2) c_root_at.nd rfl (Or.inl rfl)) (pgs_cons (pg_name (i := 3) c_root_at.nd rfl (Or.inl rfl)) pgs_nil))))
        (pss_cons (ps_if (PW.pt (pw_or (pt_cmpR op_ge (pv 2) (pe_callB call_len_seq (by rfl) T.b_len (by decide +kernel) (pa_cons (pe_fld (pv 0) rfl) pa_nil)) (nomark _)) (pw_or1 (pt_cmpR op_ge (pv 3) (pe_callB call_len_seq (by rfl) T.b_len (by decide +kernel) (pa_cons (pe_ix ix_list (pe_fld (pv 0) rfl) (pv 2) (fun _ _ => rfl)) pa_nil)) (nomark _))))) (pss_one (ps_ret pe_non)) pss_nil)
        (pss_one (ps_ret (pe_ix ix_list (pe_ix ix_list (pe_fld (pv 0) rfl) (pv 2) (fun _ _ => rfl)) (pv 3) (fun _ _ => rfl)))))))
      , ?_⟩
    obtain ⟨ca, nm, ro, b, i, c, n, rfl, hC, hc, k⟩ := h
    obtain ⟨dx, sl, ib, svs, ims, e1, e2, e3, e4, e5, e6, e7, e8⟩ := hC
    have hsv : svs.length = 6 := (Paired.length e5).trans hc.sl
    have hims : ims.length = c.inbox.length := Paired.length e8
    refine ⟨_, rfl, _, _, rfl, rfl, _, rfl, ite2 (fun cc => ?_) fun cc => ?_⟩
    · have cc : n < 6 := by have := of_decide_eq_true cc; omega
      obtain ⟨x, hx⟩ : ∃ x, c.slots[n]? = some x := ⟨_, List.getElem?_eq_getElem (by rw [hc.sl]; exact cc)⟩
      obtain ⟨v, hv, iv⟩ := pair_get e5 hx
      refine ⟨_, rfl, ca, _, dx, _, _, rfl, e1, T.k_client, T.n_slots, rfl, _, rfl, sl, svs, _, v, rfl, rfl, SqL.of e3, atI_nat hv, ?_⟩
      refine k H v (Same.refl H) ?_
      unfold rootAt
      rw [if_pos cc, hx]
      exact iv
    · have cc : 6 ≤ n := by have := of_decide_eq_false (Bool.eq_false_iff.mpr cc); omega
      have hr0 : rootAt c n = (c.inbox[(n - 6) / 3]?).bind fun m => m[(n - 6) % 3]? := by unfold rootAt; rw [if_neg (by omega)]
      have d1 : ((n : Int) - 6) / 3 = (((n - 6) / 3 : Nat) : Int) := by omega
      have d2 : ((n : Int) - 6) % 3 = (((n - 6) % 3 : Nat) : Int) := by omega
      refine ⟨_, rfl, _, _, rfl, rfl, _, _, rfl, ⟨by decide, by decide⟩, fun t nt => ?_⟩
      rw [d1, d2]
      refine ⟨t, _, rfl, SqT.of upd_same, rfl, _, _, rfl, _, _, rfl, rfl, ?_⟩
      have s1 : Same H (upd H t (.tup [.int (((n - 6) / 3 : Nat) : Int), .int (((n - 6) % 3 : Nat) : Int)])) := Same.new nt
      refine ⟨_, rfl, _, rfl, ca, _, dx, _, _, rfl, s1 _ _ e1, T.k_client, T.n_inbox, rfl, ib, ims, rfl, .inl (SqL.of (s1 _ _ e6)), _, _, rfl, rfl, _, rfl, ite2 (fun cc2 => ?_) fun cc2 => ?_⟩
      · have cc2 : ims.length ≤ (n - 6) / 3 := by have := of_decide_eq_true cc2; omega
        refine iteT (k _ .non s1 ?_)
        rw [hr0, List.getElem?_eq_none (by omega)]
        rfl
      · have cc2 : (n - 6) / 3 < ims.length := by have := of_decide_eq_false (Bool.eq_false_iff.mpr cc2); omega
        obtain ⟨m, hm⟩ : ∃ m, c.inbox[(n - 6) / 3]? = some m := ⟨_, List.getElem?_eq_getElem (by omega)⟩
        obtain ⟨mv, hmv, ma, mvs, rfl, m1, m2, m3⟩ := pair_get e8 hm
        have hml : mvs.length = m.length := Paired.length m3
        refine ⟨_, rfl, _, rfl, ca, _, dx, _, _, rfl, s1 _ _ e1, T.k_client, T.n_inbox, rfl, _, rfl, ib, ims, _, .ref ma, rfl, rfl, SqL.of (s1 _ _ e6), atI_nat hmv, ma, mvs, rfl, .inl (SqL.of (s1 _ _ m1)), _, _, rfl, rfl, _, rfl, ite2 (fun cc3 => ?_) fun cc3 => ?_⟩
        · have cc3 : mvs.length ≤ (n - 6) % 3 := by have := of_decide_eq_true cc3; omega
          refine k _ .non s1 ?_
          rw [hr0, hm]
          show IsO K nm _ .non m[(n - 6) % 3]?
          rw [List.getElem?_eq_none (by omega)]
          rfl
        · have cc3 : (n - 6) % 3 < mvs.length := by have := of_decide_eq_false (Bool.eq_false_iff.mpr cc3); omega
          obtain ⟨x, hx⟩ : ∃ x, m[(n - 6) % 3]? = some x := ⟨_, List.getElem?_eq_getElem (by omega)⟩
          obtain ⟨v, hv, iv⟩ := pair_get m3 hx
          refine ⟨_, rfl, ca, _, dx, _, _, rfl, s1 _ _ e1, T.k_client, T.n_inbox, rfl, _, rfl, ib, ims, _, .ref ma, rfl, rfl, SqL.of (s1 _ _ e6), atI_nat hmv, _, rfl, ma, mvs, _, v, rfl, rfl, SqL.of (s1 _ _ m1), atI_nat hv, ?_⟩
          refine k _ v s1 ?_
          rw [hr0, hm]
          show IsO K nm _ v m[(n - 6) % 3]?
          rw [hx]
          exact iv.keep (Same.tups s1)
/-! ### field_at -/
def spFieldAt (K : PySem.W.Frag) (ad : Ad) : Sp := fun vs H Q _ => ∃ (sa : Addr) (ov : V) (nm : Nat → Int) (ro : Rm) (b : Bool) (S : VSt) (R : Nat → Prop) (x : VV) (n : Nat), vs = [.ref sa, ov, .int (n : Nat)] ∧ StoreAt K ad nm ro H b sa S ∧ Wf S R ∧ IsV K nm H ov x ∧ Lv R x ∧
  ∀ v, IsO K nm H v (stepF S (some x) n) → Q v H
theorem ok_field_at (T : Tx K mg ad) (D : Df K mg "field_at" s_field_at ["store", "own", "field"]) : Ok P w K mg base 1 "field_at" ["store", "own", "field"] (spFieldAt K ad) := by
  refine D.ok c_field_at (fun vs H Q E h => ?_) (fun f cdv A outer s H vs Q E hr h => ?_)
  · obtain ⟨sa, ov, nm, ro, b, S, R, x, n, rfl, _⟩ := h
    rfl
  · refine ⟨_,
      (pss_cons (ps_if (PW.pt (pw_or (pt_cmpR op_ne (pe_ix ix_tup (pv 1) pe_int (fun _ _ => rfl)) (pe_ci T.c_REFERENCE) (nomark _)) (pw_or1 (pt_cmpR op_ge (pv 2) (pe_callB call_len_seq (by rfl) T.b_len (by decide +kernel) (pa_cons (pe_dget (hu_of hr) (pe_fld (pv 0) rfl) (pe_ix ix_tup (pv 1) pe_int (fun _ _ => rfl)) (fun _ _ => rfl)) pa_nil)) (nomark _))))) (pss_one (ps_ret pe_non)) pss_nil)
        (pss_one (ps_ret (pe_ix ix_list (pe_dget (hu_of hr) (pe_fld (pv 0) rfl) (pe_ix ix_tup (pv 1) pe_int (fun _ _ => rfl)) (fun _ _ => rfl)) (pv 2) (fun _ _ => rfl)))))
      , ?_⟩
    obtain ⟨sa, ov, nm, ro, b, S, R, x, n, rfl, hS, wf, iv, lv, k⟩ := h
    obtain ⟨t, rfl, ht⟩ := isV_ref iv
    obtain ⟨dx, cl, td, last, kvs, h1, h2, inj, hth⟩ := hS.thing wf
    refine ⟨_, rfl, t, _, _, _, rfl, rfl, ht, rfl, rfl, _, rfl, ?_⟩
    cases x with
    | nothing => exact iteT (iteT (k .non rfl))
    | number z => exact iteT (iteT (k .non rfl))
    | object i =>
      obtain ⟨ta, tvs, q1, q2, q3, q4⟩ := hth i (lv i rfl)
      have hl : tvs.length = (fieldsOf S i).length := Paired.length q4
      refine iteF ⟨_, rfl, _, rfl, sa, _, dx, _, _, rfl, h1, T.k_store, T.n_things, rfl, _, rfl, t, _, _, _, rfl, rfl, ht, rfl, td, .ref ta, rfl, q1 ▸ DGet.k (k := Sum.inl (nm i)) h2, ta, tvs, rfl, .inl (SqL.of q2), _, _, rfl, rfl, _, rfl, ite2 (fun cc => ?_) fun cc => ?_⟩
      · have cc : tvs.length ≤ n := by have := of_decide_eq_true cc; omega
        refine k .non ?_
        show IsO K nm H .non (fieldsOf S i)[n]?
        rw [List.getElem?_eq_none (by omega)]
        rfl
      · have cc : n < tvs.length := by have := of_decide_eq_false (Bool.eq_false_iff.mpr cc); omega
        obtain ⟨y, hy⟩ : ∃ y, (fieldsOf S i)[n]? = some y := ⟨_, List.getElem?_eq_getElem (by omega)⟩
        obtain ⟨v, hv, jv⟩ := pair_get q4 hy
        refine ⟨_, rfl, sa, _, dx, _, _, rfl, h1, T.k_store, T.n_things, rfl, _, rfl, t, _, _, _, rfl, rfl, ht, rfl, td, .ref ta, rfl, q1 ▸ DGet.k (k := Sum.inl (nm i)) h2, _, rfl, ta, tvs, _, v, rfl, rfl, SqL.of q2, atI_nat hv, ?_⟩
        refine k v ?_
        show IsO K nm H v (fieldsOf S i)[n]?
        rw [hy]
        exact jv
/-! ### value_at -/
def spValueAt (K : PySem.W.Frag) (ad : Ad) : Sp := fun vs H Q _ => ∃ (sa pa : Addr) (nm : Nat → Int) (ro : Rm) (b : Bool) (S : VSt) (R : Nat → Prop) (n : Nat) (p : List Nat), vs = [.ref sa, .int (n : Nat), .ref pa] ∧ StoreAt K ad nm ro H b sa S ∧ Wf S R ∧ SqL K H pa (nI p) ∧
  ∀ H' v, Same H H' → (∀ x, Vbxlaa.valueAtPlace S (n :: p) = some x → Lv R x) → IsO K nm H' v (Vbxlaa.valueAtPlace S (n :: p)) → Q v H'
theorem ok_value_at (T : Tx K mg ad) (D : Df K mg "value_at" s_value_at ["store", "number", "path"]) (G_root_at : Ok P w K mg base 1 "root_at" ["client", "index"] (spRootAt K ad)) (G_field_at : Ok P w K mg base 1 "field_at" ["store", "own", "field"] (spFieldAt K ad)) :
    Ok P w K mg base 2 "value_at" ["store", "number", "path"] (spValueAt K ad) := by
  refine D.ok c_value_at (fun vs H Q E h => ?_) (fun f cdv A outer s H vs Q E hr h => ?_)
  · obtain ⟨sa, pa, nm, ro, b, S, R, n, p, rfl, _⟩ := h
    rfl
  · refine ⟨_,
      (pss_cons (ps_if (PW.pt (pw_or (pt_not (pt_chain op_le op_le pe_int (pv 1) (pe_callB call_len_seq (by rfl) T.b_len (by decide +kernel) (pa_cons (pe_fld (pv 0) rfl) pa_nil)))) (pw_or1 (pt_cmpR (op_eqD hr.units) (pv 2) (pe_lst pa_nil) (nomark _))))) (pss_one (ps_ret pe_non)) pss_nil)
        (pss_cons (ps_set (i := 3) c_value_at.nd rfl (Or.inl rfl) (pe_c G_root_at hr (L2N.takes_of rfl rfl rfl rfl) (pa_cons (pe_ix ix_list (pe_fld (pv 0) rfl) (pe_op op_sub (pv 1) pe_int) (fun _ _ => rfl)) (pa_cons (pe_ix ix_list (pv 2) pe_int (fun _ _ => rfl)) pa_nil))))
        (pss_cons (ps_for (passes_of rfl) rfl (pi_list (pe_slice sl_list (pv 2) (po_some pe_int) po_none)) (pg_name (i := 4) c_value_at.nd rfl (Or.inl rfl))
          (pss_one (ps_if (pt_cmpR op_notN (pv 3) pe_non (nomark _)) (pss_one (ps_set (i := 3) c_value_at.nd rfl (Or.inl rfl) (pe_c G_field_at hr (L2N.takes_of rfl rfl rfl rfl) (pa_cons (pv 0) (pa_cons (pv 3) (pa_cons (pv 4) pa_nil)))))) pss_nil)))
        (pss_one (ps_ret (pv 3))))))
      , ?_⟩
    obtain ⟨sa, pa, nm, ro, b, S, R, n, p, rfl, hS, wf, hp, k⟩ := h
    obtain ⟨dx, cl, td, cvs, kvs, last, h1, h2, h3, h4, h5, h6, h7, h8, h9, h10⟩ := id hS
    -- the three ways out: no such client, an empty path, a client and a path
    have way : ∀ o : Option VV, Vbxlaa.valueAtPlace S (n :: p) = o → (∀ x, o = some x → Lv R x) → ∀ H' v, Same H H' → IsO K nm H' v o → Q v H' := fun o e lv H' v s1 io => k H' v s1 (fun x q => lv x (e ▸ q)) (by rw [e]; exact io)
    have rest : ∀ H1, Same H H1 → 1 ≤ n → ∀ (c : VC), S.clients[n - 1]? = some c → ∀ (r : Nat) (q : List Nat), p = r :: q → Vbxlaa.valueAtPlace S (n :: p) = q.foldl (stepF S) (rootAt c r) := fun H1 s1 hn c hc r q ep => by
      have hm : clientAt S n = some c := by unfold Vbxlaa.clientAt; rw [if_neg (by omega)]; exact hc
      show (clientAt S n).bind (fun c => Vbxlaa.valueAt S c p) = _
      rw [hm, ep]
      have cm := List.mem_of_getElem? hc
      exact valueAt_fold (wf.sl c cm) (fun m h => (wf.ms c cm m h).2) r q
    have noclient : ¬ (1 ≤ n ∧ n ≤ cvs.length) → Vbxlaa.valueAtPlace S (n :: p) = none := fun z => by
      have hm : clientAt S n = none := by
        unfold Vbxlaa.clientAt
        by_cases y : n = 0
        · rw [if_pos y]
        · rw [if_neg y]
          exact List.getElem?_eq_none (by omega)
      show (clientAt S n).bind (fun c => Vbxlaa.valueAt S c p) = none
      rw [hm]
      rfl
    refine ⟨_, rfl, _, _, rfl, rfl, _, rfl, ite2 (fun c1 => ?_) fun c1 => ?_⟩
    · refine ⟨_, rfl, sa, _, dx, _, _, rfl, h1, T.k_store, T.n_clients, rfl, cl, cvs, rfl, .inl (SqL.of h3), _, _, rfl, rfl, _, rfl, ?_⟩
      have c1 : 1 ≤ n := by have := of_decide_eq_true c1; omega
      by_cases c2 : n ≤ cvs.length
      · rw [show decide ((n : Int) ≤ (cvs.length : Int)) = true from decide_eq_true (by omega)]
        refine iteF ⟨_, rfl, leLine (by decide), fun e0 n0 => ?_⟩
        have s1 : Same H (upd H e0 (.lst [])) := Same.new n0
        refine ⟨.list ((p.map fun i => ((i : Nat) : Int)).map PyData.int), .list [], .lst (s1.seq hp) (by rw [nI_ints]; exact dpInts _), .lst (SqL.of upd_same) .nil, shaped_ints _, rfl, _, rfl, ?_⟩
        rw [eqv_nil]
        cases ep : p with
        | nil =>
          refine iteT (way none ?_ (fun _ z => by cases z) _ .non s1 rfl)
          show (clientAt S n).bind (fun c => Vbxlaa.valueAt S c p) = none
          rw [ep]
          cases clientAt S n <;> rfl
        | cons r q =>
          refine iteF ?_
          obtain ⟨c, hc⟩ : ∃ c, S.clients[n - 1]? = some c := ⟨_, List.getElem?_eq_getElem (by omega)⟩
          obtain ⟨ca, f1, f2⟩ := h6 _ _ hc
          have cm := List.mem_of_getElem? hc
          have hp0 : (nI p)[0]? = some (V.int (r : Nat)) := by rw [ep]; rfl
          have eR := rest _ s1 c1 c hc r q ep
          refine ⟨_, rfl, sa, _, dx, _, _, rfl, s1 _ _ h1, T.k_store, T.n_clients, rfl, _, rfl, _, _, rfl, rfl, cl, cvs, _, .ref ca, rfl, rfl, SqL.of (s1 _ _ h3), at_of (j := n - 1) (by omega) f1, _, rfl, pa, nI p, _, V.int (r : Nat), rfl, rfl, s1.seq hp, at_of (j := 0) rfl hp0, ?_⟩
          refine ⟨ca, nm, ro, b, _, c, r, rfl, f2.same s1, wf.cok cm, fun H2 v s2 io => ?_⟩
          have s12 := s1.trans s2
          refine ⟨_, rfl, _, rfl, pa, nI p, rfl, s12.seq hp, fun l1 nl => ?_⟩
          rw [show cutV (nI p) (some 1) none = nI q from by rw [show (1 : Int) = ((1 : Nat) : Int) from rfl, cut_from, ep]; rfl]
          have s3 := s12.trans (Same.new (o := .lst (nI q)) nl)
          refine ⟨l1, rfl, ⟨_, SqL.of upd_same⟩, ?_⟩
          refine for_list (K := K) (a := l1) (xs := nI q) (fun j σ H3 => ∃ (v3 : V) (v4 : Option V), σ = [some (.ref sa), some (.int (n : Nat)), some (.ref pa), some v3, v4] ∧ Same (upd H2 l1 (.lst (nI q))) H3 ∧ IsO K nm H3 v3 ((q.take j).foldl (stepF S) (rootAt c r)) ∧
              ∀ x, (q.take j).foldl (stepF S) (rootAt c r) = some x → Lv R x)
            ⟨v, none, rfl, Same.refl _, io.keep (Tups.new nl), fun x e => rootAt_live wf cm e⟩ (fun j σ H3 _ ⟨_, _, _, sm, _⟩ => SqL.of (sm _ _ upd_same)) ?_ ?_
          · rintro j x σ H3 hj ⟨v3, v4, rfl, sm, io3, lv3⟩
            obtain ⟨m, hm, rfl⟩ := nI_get hj
            have eF := fold_take (stepF S) (b := rootAt c r) hm
            have lvN : ∀ x, ((q.take (j + 1)).foldl (stepF S) (rootAt c r)) = some x → Lv R x := fun x e => stepF_live wf lv3 (eF ▸ e)
            refine ⟨_, rfl, rfl, _, rfl, ?_⟩
            cases eo : (q.take j).foldl (stepF S) (rootAt c r) with
            | none =>
              rw [eo] at io3 eF
              cases io3
              refine iteF ?_
              exact ⟨.non, _, rfl, sm, by rw [eF]; rfl, lvN⟩
            | some y =>
              rw [eo] at io3 eF
              obtain ⟨t, rfl, ht⟩ := isV_ref io3
              refine iteT ⟨_, rfl, _, rfl, _, rfl, ?_⟩
              refine ⟨sa, .ref t, nm, ro, b, S, R, y, m, rfl, hS.same (s3.trans sm), wf, io3, lv3 y eo, fun v5 i5 => ?_⟩
              exact ⟨v5, _, rfl, sm, by rw [eF]; exact i5, lvN⟩
          · rintro σ H3 ⟨v3, v4, rfl, sm, io3, lv3⟩
            rw [nI_length, List.take_length] at io3 lv3
            exact ⟨_, rfl, way _ eR lv3 _ v3 (s3.trans sm) io3⟩
      · rw [show decide ((n : Int) ≤ (cvs.length : Int)) = false from decide_eq_false (by omega)]
        exact iteT (iteT (way none (noclient fun z => c2 z.2) (fun _ z => by cases z) _ .non (Same.refl H) rfl))
    · have c1 : ¬ 1 ≤ n := by have := of_decide_eq_false (Bool.eq_false_iff.mpr c1); omega
      exact ⟨_, rfl, iteT (iteT (way none (noclient fun z => c1 z.1) (fun _ z => by cases z) _ .non (Same.refl H) rfl))⟩
/-! ### value_at_place, detail -/
def spValueAtPlace (K : PySem.W.Frag) (ad : Ad) : Sp := fun vs H Q _ => ∃ (sa pa : Addr) (nm : Nat → Int) (ro : Rm) (b : Bool) (S : VSt) (R : Nat → Prop) (p : List Nat), vs = [.ref sa, .ref pa] ∧ StoreAt K ad nm ro H b sa S ∧ Wf S R ∧ SqL K H pa (nI p) ∧
  ∀ H' v, Same H H' → (∀ x, Vbxlaa.valueAtPlace S p = some x → Lv R x) → IsO K nm H' v (Vbxlaa.valueAtPlace S p) → Q v H'
theorem ok_value_at_place (T : Tx K mg ad) (D : Df K mg "value_at_place" s_value_at_place ["store", "place"]) (G_value_at : Ok P w K mg base 2 "value_at" ["store", "number", "path"] (spValueAt K ad)) :
    Ok P w K mg base 3 "value_at_place" ["store", "place"] (spValueAtPlace K ad) := by
  refine D.ok c_value_at_place (fun vs H Q E h => ?_) (fun f cdv A outer s H vs Q E hr h => ?_)
  · obtain ⟨sa, pa, nm, ro, b, S, R, p, rfl, _⟩ := h
    rfl
  · refine ⟨_,
      (pss_one (ps_ret (pe_ifExp (pt_cmpR (op_neD hr.units) (pv 1) (pe_lst pa_nil) (nomark _)) (pe_c G_value_at hr (L2N.takes_of rfl rfl rfl rfl) (pa_cons (pv 0) (pa_cons (pe_ix ix_list (pv 1) pe_int (fun _ _ => rfl)) (pa_cons (pe_slice sl_list (pv 1) (po_some pe_int) po_none) pa_nil)))) pe_non)))
      , ?_⟩
    obtain ⟨sa, pa, nm, ro, b, S, R, p, rfl, hS, wf, hp, k⟩ := h
    refine ⟨_, rfl, leLine (by decide), fun e0 n0 => ?_⟩
    have s1 : Same H (upd H e0 (.lst [])) := Same.new n0
    refine ⟨.list ((p.map fun i => ((i : Nat) : Int)).map PyData.int), .list [], .lst (s1.seq hp) (by rw [nI_ints]; exact dpInts _), .lst (SqL.of upd_same) .nil, shaped_ints _, rfl, _, rfl, ?_⟩
    rw [eqv_nil]
    cases ep : p with
    | nil =>
      refine iteF (k _ .non s1 (fun x e => by rw [ep] at e; cases e) ?_)
      rw [ep]
      rfl
    | cons r q =>
      have hp0 : (nI p)[0]? = some (V.int (r : Nat)) := by rw [ep]; rfl
      refine iteT ⟨_, rfl, _, rfl, pa, nI p, _, V.int (r : Nat), rfl, rfl, s1.seq hp, at_of (j := 0) rfl hp0, _, rfl, _, rfl, pa, nI p, rfl, s1.seq hp, fun l1 nl => ?_⟩
      rw [show cutV (nI p) (some 1) none = nI q from by rw [show (1 : Int) = ((1 : Nat) : Int) from rfl, cut_from, ep]; rfl]
      have s2 := s1.trans (Same.new (o := .lst (nI q)) nl)
      exact ⟨sa, l1, nm, ro, b, S, R, r, q, rfl, hS.same s2, wf, SqL.of upd_same, fun H3 v s3 lv io => k H3 v (s2.trans s3) (ep ▸ lv) (ep ▸ io)⟩
def spDetail (K : PySem.W.Frag) (ad : Ad) : Sp := fun vs H Q _ => ∃ (sa : Addr) (ov : V) (nm : Nat → Int) (ro : Rm) (b : Bool) (S : VSt) (R : Nat → Prop) (x : VV), vs = [.ref sa, ov] ∧ StoreAt K ad nm ro H b sa S ∧ Wf S R ∧ IsV K nm H ov x ∧ Lv R x ∧
  ∀ H' p, Same H H' → H p = none → H' p = some (.lst [.int (Vbxlaa.describe S x).1, .int (Vbxlaa.describe S x).2]) → Q (.ref p) H'
theorem ok_detail (T : Tx K mg ad) (D : Df K mg "detail" s_detail ["store", "own"]) : Ok P w K mg base 1 "detail" ["store", "own"] (spDetail K ad) := by
  refine D.ok c_detail (fun vs H Q E h => ?_) (fun f cdv A outer s H vs Q E hr h => ?_)
  · obtain ⟨sa, ov, nm, ro, b, S, R, x, rfl, _⟩ := h
    rfl
  · refine ⟨_,
      (pss_cons (ps_if (pt_cmpR op_eq (pe_ix ix_tup (pv 1) pe_int (fun _ _ => rfl)) (pe_ci T.c_REFERENCE) (nomark _)) (pss_one (ps_ret (pe_lst (pa_cons (pe_ci T.c_REFERENCE) (pa_cons (pe_callB call_len_seq (by rfl) T.b_len (by decide +kernel) (pa_cons (pe_dget (hu_of hr) (pe_fld (pv 0) rfl) (pe_ix ix_tup (pv 1) pe_int (fun _ _ => rfl)) (fun _ _ => rfl)) pa_nil)) pa_nil))))) pss_nil)
        (pss_one (ps_ret (pe_lst (pa_cons (pe_ix ix_tup (pv 1) pe_int (fun _ _ => rfl)) (pa_cons (pe_ix ix_tup (pv 1) pe_int (fun _ _ => rfl)) pa_nil))))))
      , ?_⟩
    obtain ⟨sa, ov, nm, ro, b, S, R, x, rfl, hS, wf, iv, lv, k⟩ := h
    obtain ⟨t, rfl, ht⟩ := isV_ref iv
    obtain ⟨dx, cl, td, last, kvs, h1, h2, inj, hth⟩ := hS.thing wf
    refine ⟨_, rfl, t, _, _, _, rfl, rfl, ht, rfl, rfl, _, rfl, ?_⟩
    have plain : ∀ i j : Int, SqT K H t [.int i, .int j] → Vbxlaa.describe S x = (i, j) → (tRet (tLst (tCons (tOp (rIxT K) (tVar 1) (L2.tC (.int 0))) (tCons (tOp (rIxT K) (tVar 1) (L2.tC (.int 1))) tNil)))) { nx := fun _ H' => Q .non H', rt := Q } (start ["store", "own"] [.ref sa, .ref t]) H := fun i j h e =>
      ⟨_, rfl, t, _, _, _, rfl, rfl, h, rfl, _, rfl, t, _, _, _, rfl, rfl, h, rfl, leLine (by show 2 ≤ 1000; decide), fun p np => k _ p (Same.new np) np (by rw [e]; exact upd_same)⟩
    cases x with
    | nothing => exact iteF (plain _ _ ht rfl)
    | number z => exact iteF (plain _ _ ht rfl)
    | object i =>
      obtain ⟨ta, tvs, q1, q2, q3, q4⟩ := hth i (lv i rfl)
      refine iteT ⟨_, rfl, sa, _, dx, _, _, rfl, h1, T.k_store, T.n_things, rfl, _, rfl, t, _, _, _, rfl, rfl, ht, rfl, td, .ref ta, rfl, q1 ▸ DGet.k (k := Sum.inl (nm i)) h2, ta, tvs, rfl, .inl (SqL.of q2), leLine (by show 2 ≤ 1000; decide), fun p np => ?_⟩
      refine k _ p (Same.new np) np ?_
      rw [upd_same, Paired.length q4]
      rfl
end
end Sh


/-! M3: what a walk holds; numbers. -/
namespace Sh
open Vbxlaa (fieldsOf meet walkFrom numberIn)
structure Full (S : VSt) (R : Nat → Prop) (F : List Nat) : Prop where
  cl : ∀ i ∈ F, ∀ j, Vbxlaa.Value.object j ∈ fieldsOf S i → j ∈ F
  nd : F.Nodup
  lv : ∀ i ∈ F, R i
theorem At.full {S : VSt} {R : Nat → Prop} (w : Wf S R) {F : List Nat} : ∀ (n : Nat) {met : List Nat} {q : Nat}, S.objects.length - q = n → At S R F met q → (∀ p i, p < q → met[p]? = some i → ∀ j, Vbxlaa.Value.object j ∈ fieldsOf S i → j ∈ met) →
    Full S R F ∧ ∀ i ∈ met, i ∈ F := by
  intro n
  induction n with
  | zero =>
    intro met q hn a h
    have hl := live_len w a.nd a.lv
    have e := a.done (by omega)
    subst e
    refine ⟨⟨fun i hi j hj => ?_, a.nd, a.lv⟩, fun i hi => hi⟩
    obtain ⟨p, hp, e⟩ := List.getElem_of_mem hi
    exact h p i (by omega) ((List.getElem?_eq_getElem hp).trans (congrArg some e)) j hj
  | succ n ih =>
    intro met q hn a h
    by_cases c : met.length ≤ q
    · have e := a.done c
      subst e
      refine ⟨⟨fun i hi j hj => ?_, a.nd, a.lv⟩, fun i hi => hi⟩
      obtain ⟨p, hp, e⟩ := List.getElem_of_mem hi
      exact h p i (by omega) ((List.getElem?_eq_getElem hp).trans (congrArg some e)) j hj
    · obtain ⟨i, hi⟩ : ∃ i, met[q]? = some i := ⟨_, List.getElem?_eq_getElem (by omega)⟩
      obtain ⟨more, em⟩ := meet_pre (fieldsOf S i) met
      obtain ⟨f1, f2⟩ := ih (by omega) (a.step w hi) fun p k hp hk j hj => by
        by_cases c2 : p < q
        · refine (meet_mem _ _ _).mpr (.inl (h p k c2 ?_ j hj))
          rw [em, List.getElem?_append_left (by omega)] at hk
          exact hk
        · have e : p = q := by omega
          subst e
          rw [em, List.getElem?_append_left (by omega), hi] at hk
          cases hk
          exact (meet_mem _ _ _).mpr (.inr hj)
      exact ⟨f1, fun k hk => f2 k ((meet_mem _ _ _).mpr (.inl hk))⟩
theorem walk_full {S : VSt} {R : Nat → Prop} (w : Wf S R) {xs : List VV} (hl : ∀ v ∈ xs, Lv R v) : Full S R (Vbxlaa.walk S xs) ∧ ∀ j, Vbxlaa.Value.object j ∈ xs → j ∈ Vbxlaa.walk S xs := by
  obtain ⟨f1, f2⟩ := (At.start (S := S) (R := R) hl).full w _ rfl fun p i hp => by omega
  exact ⟨f1, fun j hj => f2 j ((meet_mem _ _ _).mpr (.inr hj))⟩
/-! ### numbers -/
theorem findIdx_mem {i : Nat} : ∀ {l : List Nat}, i ∈ l → ∃ k, l.findIdx? (fun x => x == i) = some k
  | [], h => by cases h
  | x :: l, h => by
    rw [List.findIdx?_cons]
    by_cases e : x = i
    · rw [if_pos (by simpa using e)]
      exact ⟨0, rfl⟩
    · rw [if_neg (by simpa using e)]
      obtain ⟨k, hk⟩ := findIdx_mem ((List.mem_cons.mp h).resolve_left fun z => e z.symm)
      exact ⟨k + 1, by rw [hk]; rfl⟩
theorem numberIn_get {i k : Nat} : ∀ {l : List Nat}, l.Nodup → l[k]? = some i → numberIn l i = k + 1 := by
  have key : ∀ {l : List Nat} {k : Nat}, l.Nodup → l[k]? = some i → l.findIdx? (fun x => x == i) = some k := by
    intro l
    induction l with
    | nil => intro k _ h; simp at h
    | cons x l ih =>
      intro k nd h
      rw [List.nodup_cons] at nd
      rw [List.findIdx?_cons]
      cases k with
      | zero =>
        have e : x = i := by simpa using h
        rw [if_pos (by simpa using e)]
      | succ k =>
        have h2 : l[k]? = some i := by simpa using h
        have e : ¬ x = i := fun z => nd.1 (z ▸ List.mem_of_getElem? h2)
        rw [if_neg (by simpa using e), ih nd.2 h2]
        rfl
  intro l nd h
  unfold numberIn
  rw [key nd h]
  rfl
end Sh

set_option maxHeartbeats 2000000
namespace Sh
open PySem PySem.Spec PyProof.Rows L2
open Vbxlaa (fieldsOf rootsOf rootValues allRootValues clientAt numberIn valueText clientText objectsText)
theorem nodup_ix' {l : List Nat} (nd : l.Nodup) {i j x : Nat} (a : l[i]? = some x) (b : l[j]? = some x) : i = j := nd_ix nd a b
/-! ### the dict of numbers -/
def numF (nm : Nat → Int) (x : Nat × Nat) : Key × V := (Sum.inl (nm x.1), V.int ((x.2 + 1 : Nat) : Int))
def numKvs (nm : Nat → Int) (met : List Nat) : List (Key × V) := met.zipIdx.map (numF nm)
theorem valV_num {nm : Nat → Int} (inj : ∀ i j, nm i = nm j → i = j) {i : Nat} : ∀ {l : List Nat} {n k : Nat}, l.Nodup → l[k]? = some i → valV ((l.zipIdx n).map (numF nm)) (.inl (nm i)) = some (.int ((n + k + 1 : Nat) : Int))
  | [], _, _, _, h => by simp at h
  | x :: l, n, 0, _, h => by
    have e : x = i := by simpa using h
    subst e
    exact (valV_pos (p := numF nm (x, n)) (r := (l.zipIdx (n + 1)).map (numF nm)) (k := Sum.inl (nm x)) rfl)
  | x :: l, n, k + 1, nd, h => by
    rw [List.nodup_cons] at nd
    have h2 : l[k]? = some i := by simpa using h
    have e : ¬ x = i := fun z => nd.1 (z ▸ List.mem_of_getElem? h2)
    refine ((valV_neg (p := numF nm (x, n)) (r := (l.zipIdx (n + 1)).map (numF nm)) (k := Sum.inl (nm i)) (fun z => e (inj _ _ (Sum.inl.inj (show (Sum.inl (nm x) : Key) = Sum.inl (nm i) from z))))).trans (valV_num inj nd.2 h2)).trans ?_
    rw [show n + 1 + k + 1 = n + (k + 1) + 1 by omega]
theorem valV_num_none {nm : Nat → Int} (inj : ∀ i j, nm i = nm j → i = j) {i : Nat} : ∀ {l : List Nat} {n : Nat}, i ∉ l → valV ((l.zipIdx n).map (numF nm)) (.inl (nm i)) = none
  | [], _, _ => rfl
  | x :: l, n, h => by
    refine (valV_neg (p := numF nm (x, n)) (r := (l.zipIdx (n + 1)).map (numF nm)) (k := Sum.inl (nm i)) (fun z => h ?_)).trans (valV_num_none inj fun z => h (List.mem_cons_of_mem _ z))
    have z2 := inj _ _ (Sum.inl.inj (show (Sum.inl (nm x) : Key) = Sum.inl (nm i) from z))
    exact z2 ▸ List.mem_cons_self
theorem valV_number {nm : Nat → Int} (inj : ∀ i j, nm i = nm j → i = j) {i : Nat} {met : List Nat} (nd : met.Nodup) (h : i ∈ met) : valV (numKvs nm met) (.inl (nm i)) = some (.int (numberIn met i : Nat)) := by
  obtain ⟨k, hk, e⟩ := List.getElem_of_mem h
  have e2 : met[k]? = some i := (List.getElem?_eq_getElem hk).trans (congrArg some e)
  unfold numKvs
  rw [valV_num inj nd e2, numberIn_get nd e2, Nat.zero_add]
theorem numKvs_more {nm : Nat → Int} (inj : ∀ i j, nm i = nm j → i = j) {met : List Nat} (nd : met.Nodup) {j i : Nat} (h : met[j]? = some i) : putK (numKvs nm (met.take j)) (.inl (nm i)) (.int ((j : Int) + 1)) = numKvs nm (met.take (j + 1)) := by
  have ni : i ∉ met.take j := fun z => by
    obtain ⟨k, hk, e⟩ := List.getElem_of_mem z
    have e2 : (met.take j)[k]? = some i := (List.getElem?_eq_getElem hk).trans (congrArg some e)
    have kj : k < j := by rw [List.length_take] at hk; omega
    rw [List.getElem?_take_of_lt kj] at e2
    have := nodup_ix' nd e2 h
    omega
  unfold numKvs
  rw [putK_new (valV_num_none inj ni), zip_more h, List.map_append]
  rfl
theorem numKvs_length (nm : Nat → Int) (met : List Nat) : (numKvs nm met).length = met.length := by unfold numKvs; rw [List.length_map, List.length_zipIdx]
theorem valueText_le (met : List Nat) (x : VV) : (valueText met x).length ≤ 2 := by
  cases x with
  | nothing => show 1 ≤ 2; decide
  | number _ => show 2 ≤ 2; decide
  | object _ => show 2 ≤ 2; decide
section
variable {P : Program} {w : World} {K : PySem.W.Frag} {mg : Str → Option Value} {base : Heap} {ad : Ad}
/-! ### numbered -/
def spNumbered (K : PySem.W.Frag) : Sp := fun vs H Q _ => ∃ (na : Addr) (nm : Nat → Int) (met : List Nat), vs = [.ref na] ∧ H na = some (.lst (met.map fun i => V.int (nm i))) ∧ (∀ i j, nm i = nm j → i = j) ∧ met.Nodup ∧ met.length ≤ 48 ∧
  ∀ H' p, Same H H' → H p = none → H' p = some (.dK (numKvs nm met)) → Q (.ref p) H'
theorem ok_numbered (T : Tx K mg ad) (D : Df K mg "numbered" s_numbered ["names"]) : Ok P w K mg base 1 "numbered" ["names"] (spNumbered K) := by
  refine D.ok c_numbered (fun vs H Q E h => ?_) (fun f cdv A outer s H vs Q E hr h => ?_)
  · obtain ⟨na, nm, met, rfl, _⟩ := h
    rfl
  · refine ⟨_,
      (pss_cons (ps_set (i := 1) c_numbered.nd rfl (Or.inl rfl) pe_dnewK)
        (pss_cons (ps_for (passes_of rfl) rfl (pi_enum (by rfl) T.b_enumerate (pa_cons (pv 0) pa_nil)) (pg_tup rfl (pgs_cons (pg_name (i := 2) c_numbered.nd rfl (Or.inl rfl)) (pgs_cons (pg_name (i := 3) c_numbered.nd rfl (Or.inl rfl)) pgs_nil)))
          (pss_one (ps_asg (pe_op op_add (pv 2) pe_int) (pg_sub (pv 1) (pv 3) (set_dict (hu_of hr))))))
        (pss_one (ps_ret (pv 1)))))
      , ?_⟩
    obtain ⟨na, nm, met, rfl, hn, inj, nd, hl, k⟩ := h
    intro L nL
    have s1 : Same H (upd H L (.dK [])) := Same.new nL
    refine ⟨_, rfl, na, _, rfl, SqL.of (s1 _ _ hn), ?_⟩
    refine for_it (walk_enum (K := K) (a := na) (xs := met.map fun i => V.int (nm i))) (fun j σ H2 => ∃ (v2 v3 : Option V), σ = [some (.ref na), some (.ref L), v2, v3] ∧ Same H H2 ∧ H2 L = some (.dK (numKvs nm (met.take j))))
      ⟨none, none, rfl, s1, upd_same⟩ (fun j σ H2 _ ⟨_, _, _, sm, _⟩ => SqL.of (sm _ _ hn)) ?_ ?_
    · rintro j x σ H2 H3 hj ⟨v2, v3, rfl, sm, hL⟩ ⟨t, x0, y0, rfl, nt, rfl, ex, ey⟩
      cases ex
      have ey' : (met.map fun i => V.int (nm i))[j]? = some y0 := ey
      rw [List.getElem?_map] at ey'
      obtain ⟨i, hi, rfl⟩ := Option.map_eq_some_iff.mp ey'
      have s2 := sm.trans (Same.new (o := .tup [.int (j : Nat), .int (nm i)]) nt)
      have hL2 : (upd H2 t (.tup [.int (j : Nat), .int (nm i)])) L = some (.dK (numKvs nm (met.take j))) := Same.new nt _ _ hL
      refine ⟨t, _, rfl, SqT.of upd_same, rfl, _, _, rfl, _, _, rfl, rfl, ?_⟩
      refine ⟨_, rfl, _, _, rfl, rfl, _, rfl, _, rfl, L, _, rfl, DPut.k (k := Sum.inl (nm i)) hL2 (small1000 (by rw [numKvs_length, List.length_take]; omega)), ?_⟩
      refine ⟨_, _, rfl, fun b o e => by rw [upd_ne (ne_of_none e nL)]; exact s2 b o e, ?_⟩
      rw [upd_same, numKvs_more inj nd hi]
    · rintro σ H2 ⟨v2, v3, rfl, sm, hL⟩
      rw [List.length_map, List.take_length] at hL
      exact ⟨_, rfl, k _ L sm nL hL⟩
/-! ### written, row_written -/
def Known (met : List Nat) (x : VV) : Prop := ∀ i, x = .object i → i ∈ met
def spWritten (K : PySem.W.Frag) : Sp := fun vs H Q _ => ∃ (ov : V) (da : Addr) (nm : Nat → Int) (met : List Nat) (x : VV), vs = [ov, .ref da] ∧ H da = some (.dK (numKvs nm met)) ∧ (∀ i j, nm i = nm j → i = j) ∧ met.Nodup ∧ IsV K nm H ov x ∧ Known met x ∧
  ∀ H' p, Same H H' → H p = none → H' p = some (.lst ((valueText met x).map V.int)) → Q (.ref p) H'
theorem ok_written (T : Tx K mg ad) (D : Df K mg "written" s_written ["own", "numbers"]) : Ok P w K mg base 1 "written" ["own", "numbers"] (spWritten K) := by
  refine D.ok c_written (fun vs H Q E h => ?_) (fun f cdv A outer s H vs Q E hr h => ?_)
  · obtain ⟨ov, da, nm, met, x, rfl, _⟩ := h
    rfl
  · refine ⟨_,
      (pss_cons (ps_if (pt_cmpR op_eq (pe_ix ix_tup (pv 0) pe_int (fun _ _ => rfl)) (pe_ci T.c_REFERENCE) (nomark _)) (pss_one (ps_ret (pe_lst (pa_cons (pe_ci T.c_REFERENCE) (pa_cons (pe_dget (hu_of hr) (pv 1) (pe_ix ix_tup (pv 0) pe_int (fun _ _ => rfl)) (fun _ _ => rfl)) pa_nil))))) pss_nil)
        (pss_one (ps_ret (pe_ifExp (pt_cmpR op_eq (pe_ix ix_tup (pv 0) pe_int (fun _ _ => rfl)) (pe_ci T.c_NUMBER) (nomark _)) (pe_lst (pa_cons (pe_ci T.c_NUMBER) (pa_cons (pe_ix ix_tup (pv 0) pe_int (fun _ _ => rfl)) pa_nil))) (pe_lst (pa_cons pe_int pa_nil))))))
      , ?_⟩
    obtain ⟨ov, da, nm, met, x, rfl, hd, inj, nd, iv, kn, k⟩ := h
    obtain ⟨t, rfl, ht⟩ := isV_ref iv
    refine ⟨_, rfl, t, _, _, _, rfl, rfl, ht, rfl, rfl, _, rfl, ?_⟩
    cases x with
    | nothing => exact iteF ⟨_, rfl, t, _, _, _, rfl, rfl, ht, rfl, rfl, _, rfl, iteF ⟨leLine (by decide), fun p np => k _ p (Same.new np) np upd_same⟩⟩
    | number z => exact iteF ⟨_, rfl, t, _, _, _, rfl, rfl, ht, rfl, rfl, _, rfl, iteT ⟨_, rfl, t, _, _, _, rfl, rfl, ht, rfl, leLine (by show 2 ≤ 1000; decide), fun p np => k _ p (Same.new np) np upd_same⟩⟩
    | object i =>
      have q := valV_number inj nd (kn i rfl)
      exact iteT ⟨_, rfl, _, rfl, t, _, _, _, rfl, rfl, ht, rfl, da, _, rfl, q ▸ DGet.k (k := Sum.inl (nm i)) hd, leLine (by show 2 ≤ 1000; decide), fun p np => k _ p (Same.new np) np upd_same⟩
def spRowWritten (K : PySem.W.Frag) : Sp := fun vs H Q _ => ∃ (ra da : Addr) (nm : Nat → Int) (met : List Nat) (rvs : List V) (xs : List VV), vs = [.ref ra, .ref da] ∧ H da = some (.dK (numKvs nm met)) ∧ (∀ i j, nm i = nm j → i = j) ∧ met.Nodup ∧ H ra = some (.lst rvs) ∧ Row K nm H rvs xs ∧ (∀ x ∈ xs, Known met x) ∧ xs.length ≤ 100 ∧
  ∀ H' p, Same H H' → H p = none → H' p = some (.lst ((xs.flatMap (valueText met)).map V.int)) → Q (.ref p) H'
theorem ok_row_written (T : Tx K mg ad) (D : Df K mg "row_written" s_row_written ["row", "numbers"]) (G_written : Ok P w K mg base 1 "written" ["own", "numbers"] (spWritten K)) : Ok P w K mg base 2 "row_written" ["row", "numbers"] (spRowWritten K) := by
  refine D.ok c_row_written (fun vs H Q E h => ?_) (fun f cdv A outer s H vs Q E hr h => ?_)
  · obtain ⟨ra, da, nm, met, rvs, xs, rfl, _⟩ := h
    rfl
  · refine ⟨_,
      (pss_cons (ps_set (i := 2) c_row_written.nd rfl (Or.inl rfl) (pe_lst pa_nil))
        (pss_cons (ps_for (passes_of rfl) rfl (pi_list (pv 0)) (pg_name (i := 3) c_row_written.nd rfl (Or.inl rfl))
          (pss_one (ps_expr (pe_bm PySem.F.plainAttrs_list PySem.F.slot_list_extend PySem.F.type_list_extend mt_extend (pv 2) (pa_cons (pe_c G_written hr (L2N.takes_of rfl rfl rfl rfl) (pa_cons (pv 3) (pa_cons (pv 1) pa_nil))) pa_nil)))))
        (pss_one (ps_ret (pv 2)))))
      , ?_⟩
    obtain ⟨ra, da, nm, met, rvs, xs, rfl, hd, inj, nd, hra, hrow, kn, hl, k⟩ := h
    refine ⟨leLine (by decide), fun L nL => ?_⟩
    have s1 : Same H (upd H L (.lst [])) := Same.new nL
    refine ⟨_, rfl, ra, rfl, ⟨_, SqL.of (s1 _ _ hra)⟩, ?_⟩
    refine for_list (K := K) (a := ra) (xs := rvs) (fun j σ H2 => ∃ (v3 : Option V), σ = [some (.ref ra), some (.ref da), some (.ref L), v3] ∧ Bld H L (((xs.take j).flatMap (valueText met)).map V.int) H2)
      ⟨none, rfl, Bld.start nL⟩ (fun j σ H2 _ ⟨_, _, hB⟩ => SqL.of (hB.sm _ _ hra)) ?_ ?_
    · rintro j x σ H2 hj ⟨v3, rfl, hB⟩
      obtain ⟨y, hy, iv⟩ := pair_get' hrow hj
      have hj2 : j < xs.length := (List.getElem?_eq_some_iff.mp hy).1
      refine ⟨_, rfl, .inl ⟨rfl, _, SqL.of hB.at_⟩, _, rfl, _, rfl, x, da, nm, met, y, rfl, hB.sm _ _ hd, inj, nd, iv.keep (Same.tups hB.sm), kn y (List.mem_of_getElem? hy), fun H3 p s3 np hp => ?_⟩
      have B3 := hB.grow s3
      have l1 := flat_le (valueText met) 2 j xs (fun x _ => valueText_le met x) (Nat.le_of_lt hj2)
      have l2 := valueText_le met y
      refine ⟨L, p, _, _, rfl, rfl, B3.at_, hp, leLine (by rw [List.length_map, List.length_map]; omega), ?_⟩
      refine ⟨_, rfl, ?_⟩
      rw [flat_more _ hy, List.map_append]
      exact B3.put nL
    · rintro σ H2 ⟨v3, rfl, hB⟩
      rw [Paired.length hrow, List.take_length] at hB
      exact ⟨_, rfl, k _ L hB.sm nL hB.at_⟩
/-! ### client_text, things_text -/
/-- what a client refers to is known -/
structure CKnown (met : List Nat) (c : VC) : Prop where
  sl : ∀ x ∈ c.slots, Known met x
  ms : ∀ m ∈ c.inbox, ∀ x ∈ m, Known met x
def msgText (met : List Nat) (m : List VV) : List Int := (m.length : Int) :: m.flatMap (valueText met)
theorem flat_len {α β : Type} (f : α → List β) (n : Nat) {l : List α} (h : ∀ x ∈ l, (f x).length ≤ n) : (l.flatMap f).length ≤ n * l.length := by
  have := flat_le f n l.length l h (Nat.le_refl _)
  rwa [List.take_length] at this
theorem msgText_le {met : List Nat} {m : List VV} (h : m.length ≤ 4) : (msgText met m).length ≤ 9 := by
  have := flat_len (valueText met) 2 (l := m) fun x _ => valueText_le met x
  unfold msgText
  rw [List.length_cons]
  omega
def spClientText (K : PySem.W.Frag) (ad : Ad) : Sp := fun vs H Q _ => ∃ (ca da : Addr) (nm : Nat → Int) (ro : Rm) (b : Bool) (i : Nat) (c : VC) (met : List Nat), vs = [.ref ca, .ref da] ∧ ClientAt K ad nm ro H b i ca c ∧ COk c ∧ CKnown met c ∧ H da = some (.dK (numKvs nm met)) ∧ (∀ i j, nm i = nm j → i = j) ∧ met.Nodup ∧
  ∀ H' p, Same H H' → H p = none → H' p = some (.lst ((clientText met c).map V.int)) → Q (.ref p) H'
theorem ok_client_text (T : Tx K mg ad) (D : Df K mg "client_text" s_client_text ["client", "numbers"]) (G_row_written : Ok P w K mg base 2 "row_written" ["row", "numbers"] (spRowWritten K)) : Ok P w K mg base 3 "client_text" ["client", "numbers"] (spClientText K ad) := by
  refine D.ok c_client_text (fun vs H Q E h => ?_) (fun f cdv A outer s H vs Q E hr h => ?_)
  · obtain ⟨ca, da, nm, ro, b, i, c, met, rfl, _⟩ := h
    rfl
  · refine ⟨_,
      (pss_cons (ps_set (i := 2) c_client_text.nd rfl (Or.inl rfl) (pe_op op_cat (pe_c G_row_written hr (L2N.takes_of rfl rfl rfl rfl) (pa_cons (pe_fld (pv 0) rfl) (pa_cons (pv 1) pa_nil))) (pe_lst (pa_cons (pe_callB call_len_seq (by rfl) T.b_len (by decide +kernel) (pa_cons (pe_fld (pv 0) rfl) pa_nil)) pa_nil))))
        (pss_cons (ps_for (passes_of rfl) rfl (pi_list (pe_fld (pv 0) rfl)) (pg_name (i := 3) c_client_text.nd rfl (Or.inl rfl))
          (pss_one (ps_expr (pe_bm PySem.F.plainAttrs_list PySem.F.slot_list_extend PySem.F.type_list_extend mt_extend (pv 2) (pa_cons (pe_op op_cat (pe_lst (pa_cons (pe_callB call_len_seq (by rfl) T.b_len (by decide +kernel) (pa_cons (pv 3) pa_nil)) pa_nil)) (pe_c G_row_written hr (L2N.takes_of rfl rfl rfl rfl) (pa_cons (pv 3) (pa_cons (pv 1) pa_nil)))) pa_nil)))))
        (pss_one (ps_ret (pv 2)))))
      , ?_⟩
    obtain ⟨ca, da, nm, ro, b, i, c, met, rfl, hC, hc, kn, hd, inj, nd, k⟩ := h
    obtain ⟨dx, sl, ib, svs, ims, e1, e2, e3, e4, e5, e6, e7, e8⟩ := hC
    have hsl := hc.sl
    have hib := hc.ib
    have hims : ims.length = c.inbox.length := Paired.length e8
    refine ⟨_, rfl, ca, _, dx, _, _, rfl, e1, T.k_client, T.n_slots, rfl, _, rfl, sl, da, nm, met, svs, _, rfl, hd, inj, nd, e3, e5, kn.sl, by omega, fun H1 p s1 np hp => ?_⟩
    refine ⟨_, rfl, ca, _, dx, _, _, rfl, s1 _ _ e1, T.k_client, T.n_inbox, rfl, ib, ims, rfl, .inl (SqL.of (s1 _ _ e6)), leLine (by show 1 ≤ 1000; decide), fun q nq => ?_⟩
    have s2 := s1.trans (Same.new (o := .lst [.int (ims.length : Nat)]) nq)
    have l1 := flat_len (valueText met) 2 (l := c.slots) fun x _ => valueText_le met x
    refine ⟨p, q, _, _, rfl, rfl, Same.new nq _ _ hp, upd_same, leLine (by rw [List.length_map]; show _ + 1 ≤ _; omega), fun L nL => ?_⟩
    have nL0 : H L = none := s2.free nL
    have hB : Bld H L (((c.slots.flatMap (valueText met) ++ [(c.inbox.length : Int)]) ++ (c.inbox.take 0).flatMap (msgText met)).map V.int) (upd (upd H1 q (.lst [.int (ims.length : Nat)])) L (.lst ((c.slots.flatMap (valueText met)).map V.int ++ [.int (ims.length : Nat)]))) := by
      refine ⟨s2.trans (Same.new nL), ?_⟩
      rw [upd_same, hims, List.take_zero, List.flatMap_nil, List.append_nil, List.map_append]
      rfl
    refine ⟨_, rfl, ca, _, dx, _, _, rfl, hB.sm _ _ e1, T.k_client, T.n_inbox, rfl, ib, rfl, ⟨_, SqL.of (hB.sm _ _ e6)⟩, ?_⟩
    refine for_list (K := K) (a := ib) (xs := ims) (fun j σ H2 => ∃ (v3 : Option V), σ = [some (.ref ca), some (.ref da), some (.ref L), v3] ∧ Bld H L (((c.slots.flatMap (valueText met) ++ [(c.inbox.length : Int)]) ++ (c.inbox.take j).flatMap (msgText met)).map V.int) H2)
      ⟨none, rfl, hB⟩ (fun j σ H2 _ ⟨_, _, hB⟩ => SqL.of (hB.sm _ _ e6)) ?_ ?_
    · rintro j x σ H2 hj ⟨v3, rfl, hB⟩
      obtain ⟨m, hm, ma, mvs, rfl, m1, m2, m3⟩ := pair_get' e8 hj
      have hj2 : j < c.inbox.length := (List.getElem?_eq_some_iff.mp hm).1
      have mm := List.mem_of_getElem? hm
      have hm3 := hc.ms m mm
      have hmv : mvs.length = m.length := Paired.length m3
      refine ⟨_, rfl, .inl ⟨rfl, _, SqL.of hB.at_⟩, _, rfl, ma, mvs, rfl, .inl (SqL.of (hB.sm _ _ m1)), leLine (by show 1 ≤ 1000; decide), fun q1 nq1 => ?_⟩
      have B2 := hB.new (o := .lst [.int (mvs.length : Nat)]) nq1
      refine ⟨_, rfl, _, rfl, ma, da, nm, met, mvs, m, rfl, B2.sm _ _ hd, inj, nd, B2.sm _ _ m1, Row.keep m3 (Same.tups B2.sm), kn.ms m mm, by omega, fun H3 p3 s3 np3 hp3 => ?_⟩
      have B3 := B2.grow s3
      have lv := flat_len (valueText met) 2 (l := m) fun x _ => valueText_le met x
      refine ⟨q1, p3, _, _, rfl, rfl, s3 _ _ upd_same, hp3, leLine (by rw [List.length_map]; show 1 + _ ≤ _; omega), fun q4 nq4 => ?_⟩
      have B4 := B3.new (o := .lst ([.int (mvs.length : Nat)] ++ (m.flatMap (valueText met)).map V.int)) nq4
      have l2 := flat_le (msgText met) 9 j c.inbox (fun x hx => msgText_le (Nat.le_trans (hc.ms x hx) (by decide))) (Nat.le_of_lt hj2)
      refine ⟨L, q4, _, _, rfl, rfl, B4.at_, upd_same, leLine (by rw [List.length_map, List.length_append, List.length_append, List.length_append, List.length_map]; show _ + 1 + _ + (1 + _) ≤ _; omega), ?_⟩
      refine ⟨_, rfl, ?_⟩
      have e9 : (c.slots.flatMap (valueText met) ++ [(c.inbox.length : Int)] ++ (c.inbox.take (j + 1)).flatMap (msgText met)).map V.int = (c.slots.flatMap (valueText met) ++ [(c.inbox.length : Int)] ++ (c.inbox.take j).flatMap (msgText met)).map V.int ++ ([.int (mvs.length : Nat)] ++ (m.flatMap (valueText met)).map V.int) := by
        rw [flat_more _ hm, ← List.append_assoc, List.map_append, hmv]
        rfl
      rw [e9]
      exact B4.put nL0
    · rintro σ H2 ⟨v3, rfl, hB⟩
      rw [hims, List.take_length] at hB
      refine ⟨_, rfl, k _ L hB.sm nL0 ?_⟩
      rw [hB.at_]
      unfold clientText
      rw [List.append_assoc]
      rfl
def objText (S : VSt) (met : List Nat) (i : Nat) : List Int := ((fieldsOf S i).length : Int) :: (fieldsOf S i).flatMap (valueText met)
theorem objText_le {S : VSt} {R : Nat → Prop} (wf : Wf S R) {met : List Nat} {i : Nat} (h : R i) : (objText S met i).length ≤ 9 := by
  have := flat_len (valueText met) 2 (l := fieldsOf S i) fun x _ => valueText_le met x
  have := (wf.fields h).1
  unfold objText
  rw [List.length_cons]
  omega
def spThingsText (K : PySem.W.Frag) (ad : Ad) : Sp := fun vs H Q _ => ∃ (sa na da : Addr) (nm : Nat → Int) (ro : Rm) (b : Bool) (S : VSt) (R : Nat → Prop) (met : List Nat), vs = [.ref sa, .ref na, .ref da] ∧ StoreAt K ad nm ro H b sa S ∧ Wf S R ∧ Full S R met ∧ H na = some (.lst (met.map fun i => V.int (nm i))) ∧ H da = some (.dK (numKvs nm met)) ∧
  ∀ H' p, Same H H' → H p = none → H' p = some (.lst ((objectsText S met).map V.int)) → Q (.ref p) H'
theorem ok_things_text (T : Tx K mg ad) (D : Df K mg "things_text" s_things_text ["store", "names", "numbers"]) (G_row_written : Ok P w K mg base 2 "row_written" ["row", "numbers"] (spRowWritten K)) : Ok P w K mg base 3 "things_text" ["store", "names", "numbers"] (spThingsText K ad) := by
  refine D.ok c_things_text (fun vs H Q E h => ?_) (fun f cdv A outer s H vs Q E hr h => ?_)
  · obtain ⟨sa, na, da, nm, ro, b, S, R, met, rfl, _⟩ := h
    rfl
  · refine ⟨_,
      (pss_cons (ps_set (i := 3) c_things_text.nd rfl (Or.inl rfl) (pe_lst (pa_cons (pe_callB call_len_seq (by rfl) T.b_len (by decide +kernel) (pa_cons (pv 1) pa_nil)) pa_nil)))
        (pss_cons (ps_for (passes_of rfl) rfl (pi_list (pv 1)) (pg_name (i := 4) c_things_text.nd rfl (Or.inl rfl))
          (pss_one (ps_expr (pe_bm PySem.F.plainAttrs_list PySem.F.slot_list_extend PySem.F.type_list_extend mt_extend (pv 3) (pa_cons (pe_op op_cat (pe_lst (pa_cons (pe_callB call_len_seq (by rfl) T.b_len (by decide +kernel) (pa_cons (pe_dget (hu_of hr) (pe_fld (pv 0) rfl) (pv 4) (fun _ _ => rfl)) pa_nil)) pa_nil)) (pe_c G_row_written hr (L2N.takes_of rfl rfl rfl rfl) (pa_cons (pe_dget (hu_of hr) (pe_fld (pv 0) rfl) (pv 4) (fun _ _ => rfl)) (pa_cons (pv 2) pa_nil)))) pa_nil)))))
        (pss_one (ps_ret (pv 3)))))
      , ?_⟩
    obtain ⟨sa, na, da, nm, ro, b, S, R, met, rfl, hS, wf, fu, hn, hd, k⟩ := h
    obtain ⟨dx, cl, td, last, kvs, h1, h2, inj, hth⟩ := hS.thing wf
    have hml := live_len wf fu.nd fu.lv
    have hol := wf.ol
    have hmx := wf.mx
    refine ⟨_, rfl, na, _, rfl, .inl (SqL.of hn), leLine (by show 1 ≤ 1000; decide), fun L nL => ?_⟩
    rw [List.length_map]
    have hB : Bld H L (((met.length : Int) :: (met.take 0).flatMap (objText S met)).map V.int) (upd H L (.lst [.int (met.length : Nat)])) := Bld.start nL
    refine ⟨_, rfl, na, rfl, ⟨_, SqL.of (hB.sm _ _ hn)⟩, ?_⟩
    refine for_list (K := K) (a := na) (xs := met.map fun i => V.int (nm i)) (fun j σ H2 => ∃ (v3 : Option V), σ = [some (.ref sa), some (.ref na), some (.ref da), some (.ref L), v3] ∧ Bld H L (((met.length : Int) :: (met.take j).flatMap (objText S met)).map V.int) H2)
      ⟨none, rfl, hB⟩ (fun j σ H2 _ ⟨_, _, hB⟩ => SqL.of (hB.sm _ _ hn)) ?_ ?_
    · rintro j x σ H2 hj ⟨v3, rfl, hB⟩
      rw [List.getElem?_map] at hj
      obtain ⟨i, hi, rfl⟩ := Option.map_eq_some_iff.mp hj
      have im := List.mem_of_getElem? hi
      have hj2 : j < met.length := (List.getElem?_eq_some_iff.mp hi).1
      obtain ⟨ta, tvs, q1, q2, q3, q4⟩ := hth i (fu.lv i im)
      have htv : tvs.length = (fieldsOf S i).length := Paired.length q4
      have hf4 := (wf.fields (fu.lv i im)).1
      refine ⟨_, rfl, .inl ⟨rfl, _, SqL.of hB.at_⟩, _, rfl, sa, _, dx, _, _, rfl, hB.sm _ _ h1, T.k_store, T.n_things, rfl, _, rfl, td, .ref ta, rfl, q1 ▸ DGet.k (k := Sum.inl (nm i)) (hB.sm _ _ h2), ta, tvs, rfl, .inl (SqL.of (hB.sm _ _ q2)), leLine (by show 1 ≤ 1000; decide), fun p1 np1 => ?_⟩
      have B2 := hB.new (o := .lst [.int (tvs.length : Nat)]) np1
      refine ⟨_, rfl, sa, _, dx, _, _, rfl, B2.sm _ _ h1, T.k_store, T.n_things, rfl, _, rfl, td, .ref ta, rfl, q1 ▸ DGet.k (k := Sum.inl (nm i)) (B2.sm _ _ h2), _, rfl, ta, da, nm, met, tvs, _, rfl, B2.sm _ _ hd, inj, fu.nd, B2.sm _ _ q2, Row.keep q4 (Same.tups B2.sm), fun x hx a ea => fu.cl i im a (ea ▸ hx), by omega, fun H3 p3 s3 np3 hp3 => ?_⟩
      have B3 := B2.grow s3
      have lv := flat_len (valueText met) 2 (l := fieldsOf S i) fun x _ => valueText_le met x
      refine ⟨p1, p3, _, _, rfl, rfl, s3 _ _ upd_same, hp3, leLine (by rw [List.length_map]; show 1 + _ ≤ _; omega), fun p4 np4 => ?_⟩
      have B4 := B3.new (o := .lst ([.int (tvs.length : Nat)] ++ ((fieldsOf S i).flatMap (valueText met)).map V.int)) np4
      have l2 := flat_le (objText S met) 9 j met (fun x hx => objText_le wf (fu.lv x hx)) (Nat.le_of_lt hj2)
      refine ⟨L, p4, _, _, rfl, rfl, B4.at_, upd_same, leLine (by rw [List.length_map, List.length_cons, List.length_append, List.length_map]; show _ + 1 + (1 + _) ≤ _; omega), ?_⟩
      refine ⟨_, rfl, ?_⟩
      have e9 : (((met.length : Int) :: (met.take (j + 1)).flatMap (objText S met)).map V.int) = (((met.length : Int) :: (met.take j).flatMap (objText S met)).map V.int) ++ ([.int (tvs.length : Nat)] ++ ((fieldsOf S i).flatMap (valueText met)).map V.int) := by
        rw [flat_more _ hi, ← List.cons_append, List.map_append, htv]
        rfl
      rw [e9]
      exact B4.put nL
    · rintro σ H2 ⟨v3, rfl, hB⟩
      rw [List.length_map, List.take_length] at hB
      exact ⟨_, rfl, k _ L hB.sm nL hB.at_⟩
/-! ### client_view, store_view -/
theorem known_of {S : VSt} {xs : List VV} {met : List Nat} (h : ∀ j, Vbxlaa.Value.object j ∈ xs → j ∈ met) : ∀ x ∈ xs, Known met x := fun x hx i e => h i (e ▸ hx)
theorem mem_roots_slot {c : VC} {x : VV} (h : x ∈ c.slots) : x ∈ rootValues c := by
  unfold rootValues rootsOf
  rw [List.map_append, List.mem_append]
  left
  rw [List.map_map]
  obtain ⟨k, hk, e⟩ := List.getElem_of_mem h
  exact List.mem_map.mpr ⟨(x, k), List.mem_zipIdx_iff_getElem?.mpr ((List.getElem?_eq_getElem hk).trans (congrArg some e)), rfl⟩
theorem mem_roots_msg {c : VC} {m : List VV} {x : VV} (hm : m ∈ c.inbox) (h : x ∈ m) : x ∈ rootValues c := by
  unfold rootValues rootsOf
  rw [List.map_append, List.mem_append]
  right
  rw [List.map_flatMap]
  obtain ⟨q, hq, eq⟩ := List.getElem_of_mem hm
  obtain ⟨k, hk, e⟩ := List.getElem_of_mem h
  refine List.mem_flatMap.mpr ⟨(m, q), List.mem_zipIdx_iff_getElem?.mpr ((List.getElem?_eq_getElem hq).trans (congrArg some eq)), ?_⟩
  rw [List.map_map]
  exact List.mem_map.mpr ⟨(x, k), List.mem_zipIdx_iff_getElem?.mpr ((List.getElem?_eq_getElem hk).trans (congrArg some e)), rfl⟩
theorem cknown_of {c : VC} {met : List Nat} (h : ∀ j, Vbxlaa.Value.object j ∈ rootValues c → j ∈ met) : CKnown met c :=
  ⟨fun x hx i e => h i (e ▸ mem_roots_slot hx), fun m hm x hx i e => h i (e ▸ mem_roots_msg hm hx)⟩
theorem clientText_le {c : VC} {met : List Nat} (h : COk c) : (clientText met c).length ≤ 60 := by
  have l1 := flat_len (valueText met) 2 (l := c.slots) fun x _ => valueText_le met x
  have l2 := flat_len (msgText met) 9 (l := c.inbox) fun x hx => msgText_le (Nat.le_trans (h.ms x hx) (by decide))
  have := h.sl
  have := h.ib
  show (c.slots.flatMap (valueText met) ++ ((c.inbox.length : Int) :: c.inbox.flatMap (msgText met))).length ≤ 60
  rw [List.length_append, List.length_cons]
  omega
theorem objectsText_le {S : VSt} {R : Nat → Prop} (wf : Wf S R) {met : List Nat} (fu : Full S R met) : (objectsText S met).length ≤ 500 := by
  have l1 := flat_len (objText S met) 9 (l := met) fun x hx => objText_le wf (fu.lv x hx)
  have hml := live_len wf fu.nd fu.lv
  have hol := wf.ol
  have hmx := wf.mx
  show ((met.length : Int) :: met.flatMap (objText S met)).length ≤ 500
  rw [List.length_cons]
  omega
def spClientView (K : PySem.W.Frag) (ad : Ad) : Sp := fun vs H Q _ => ∃ (sa : Addr) (nm : Nat → Int) (ro : Rm) (b : Bool) (S : VSt) (R : Nat → Prop) (n : Nat) (c : VC), vs = [.ref sa, .int (n : Nat)] ∧ StoreAt K ad nm ro H b sa S ∧ Wf S R ∧ 1 ≤ n ∧ S.clients[n - 1]? = some c ∧
  ∀ H' p, Same H H' → H p = none → H' p = some (.lst ((Vbxlaa.viewOf S c).map V.int)) → Q (.ref p) H'
theorem ok_client_view (T : Tx K mg ad) (D : Df K mg "client_view" s_client_view ["store", "number"]) (G_client_walk : Ok P w K mg base 3 "client_walk" ["store", "number"] (spClientWalk K ad)) (G_numbered : Ok P w K mg base 1 "numbered" ["names"] (spNumbered K))
    (G_client_text : Ok P w K mg base 3 "client_text" ["client", "numbers"] (spClientText K ad)) (G_things_text : Ok P w K mg base 3 "things_text" ["store", "names", "numbers"] (spThingsText K ad)) : Ok P w K mg base 4 "client_view" ["store", "number"] (spClientView K ad) := by
  refine D.ok c_client_view (fun vs H Q E h => ?_) (fun f cdv A outer s H vs Q E hr h => ?_)
  · obtain ⟨sa, nm, ro, b, S, R, n, c, rfl, _⟩ := h
    rfl
  · refine ⟨_,
      (pss_cons (ps_set (i := 2) c_client_view.nd rfl (Or.inl rfl) (pe_c G_client_walk hr (L2N.takes_of rfl rfl rfl rfl) (pa_cons (pv 0) (pa_cons (pv 1) pa_nil))))
        (pss_cons (ps_set (i := 3) c_client_view.nd rfl (Or.inl rfl) (pe_c G_numbered hr (L2N.takes_of rfl rfl rfl rfl) (pa_cons (pv 2) pa_nil)))
        (pss_one (ps_ret (pe_op op_cat (pe_c G_client_text hr (L2N.takes_of rfl rfl rfl rfl) (pa_cons (pe_ix ix_list (pe_fld (pv 0) rfl) (pe_op op_sub (pv 1) pe_int) (fun _ _ => rfl)) (pa_cons (pv 3) pa_nil))) (pe_c G_things_text hr (L2N.takes_of rfl rfl rfl rfl) (pa_cons (pv 0) (pa_cons (pv 2) (pa_cons (pv 3) pa_nil)))))))))
      , ?_⟩
    obtain ⟨sa, nm, ro, b, S, R, n, c, rfl, hS, wf, hn, hcl, k⟩ := h
    obtain ⟨dx, cl, td, cvs, kvs, last, h1, h2, h3, h4, h5, h6, h7, h8, h9, h10⟩ := id hS
    obtain ⟨ca, e1, e2⟩ := h6 _ _ hcl
    have cm := List.mem_of_getElem? hcl
    obtain ⟨fu, fu2⟩ := walk_full wf (roots_live wf cm)
    have hml := live_len wf fu.nd fu.lv
    have hol := wf.ol
    have hmx := wf.mx
    refine ⟨_, rfl, _, rfl, sa, nm, ro, b, S, R, n, c, rfl, hS, wf, hn, hcl, fun H1 p1 s1 np1 hp1 => ?_⟩
    refine ⟨_, rfl, p1, nm, _, rfl, hp1, h10.inj, fu.nd, by omega, fun H2 p2 s2 np2 hp2 => ?_⟩
    have s12 := s1.trans s2
    refine ⟨_, rfl, sa, _, dx, _, _, rfl, s12 _ _ h1, T.k_store, T.n_clients, rfl, _, rfl, _, _, rfl, rfl, cl, cvs, _, .ref ca, rfl, rfl, SqL.of (s12 _ _ h3), at_of (j := n - 1) (by omega) e1, _, rfl, ca, p2, nm, ro, b, _, c, _, rfl, e2.same s12, wf.cok cm, cknown_of fu2, hp2, h10.inj, fu.nd, fun H3 p3 s3 np3 hp3 => ?_⟩
    have s13 := s12.trans s3
    refine ⟨_, rfl, _, rfl, _, rfl, sa, p1, p2, nm, ro, b, S, R, _, rfl, hS.same s13, wf, fu, (s2.trans s3) _ _ hp1, s3 _ _ hp2, fun H4 p4 s4 np4 hp4 => ?_⟩
    have l1 := clientText_le (met := Vbxlaa.walk S (rootValues c)) (wf.cok cm)
    have l2 := objectsText_le wf fu
    refine ⟨p3, p4, _, _, rfl, rfl, s4 _ _ hp3, hp4, leLine (by rw [List.length_map, List.length_map]; omega), fun L nL => ?_⟩
    have s14 := s13.trans s4
    refine k _ L (s14.trans (Same.new nL)) (s14.free nL) ?_
    rw [upd_same, ← List.map_append]
    rfl
def spStoreView (K : PySem.W.Frag) (ad : Ad) : Sp := fun vs H Q _ => ∃ (sa : Addr) (nm : Nat → Int) (ro : Rm) (b : Bool) (S : VSt) (R : Nat → Prop), vs = [.ref sa] ∧ StoreAt K ad nm ro H b sa S ∧ Wf S R ∧
  ∀ H' p, Same H H' → H p = none → H' p = some (.lst ((Vbxlaa.viewAll S).map V.int)) → Q (.ref p) H'
theorem ok_store_view (T : Tx K mg ad) (D : Df K mg "store_view" s_store_view ["store"]) (G_store_walk : Ok P w K mg base 4 "store_walk" ["store"] (spStoreWalk K ad)) (G_numbered : Ok P w K mg base 1 "numbered" ["names"] (spNumbered K))
    (G_client_text : Ok P w K mg base 3 "client_text" ["client", "numbers"] (spClientText K ad)) (G_things_text : Ok P w K mg base 3 "things_text" ["store", "names", "numbers"] (spThingsText K ad)) : Ok P w K mg base 5 "store_view" ["store"] (spStoreView K ad) := by
  refine D.ok c_store_view (fun vs H Q E h => ?_) (fun f cdv A outer s H vs Q E hr h => ?_)
  · obtain ⟨sa, nm, ro, b, S, R, rfl, _⟩ := h
    rfl
  · refine ⟨_,
      (pss_cons (ps_set (i := 1) c_store_view.nd rfl (Or.inl rfl) (pe_c G_store_walk hr (L2N.takes_of rfl rfl rfl rfl) (pa_cons (pv 0) pa_nil)))
        (pss_cons (ps_set (i := 2) c_store_view.nd rfl (Or.inl rfl) (pe_c G_numbered hr (L2N.takes_of rfl rfl rfl rfl) (pa_cons (pv 1) pa_nil)))
        (pss_cons (ps_set (i := 3) c_store_view.nd rfl (Or.inl rfl) (pe_lst (pa_cons (pe_fld (pv 0) rfl) (pa_cons (pe_callB call_len_seq (by rfl) T.b_len (by decide +kernel) (pa_cons (pe_fld (pv 0) rfl) pa_nil)) pa_nil))))
        (pss_cons (ps_for (passes_of rfl) rfl (pi_list (pe_fld (pv 0) rfl)) (pg_name (i := 4) c_store_view.nd rfl (Or.inl rfl))
          (pss_one (ps_expr (pe_bm PySem.F.plainAttrs_list PySem.F.slot_list_extend PySem.F.type_list_extend mt_extend (pv 3) (pa_cons (pe_c G_client_text hr (L2N.takes_of rfl rfl rfl rfl) (pa_cons (pv 4) (pa_cons (pv 2) pa_nil))) pa_nil)))))
        (pss_one (ps_ret (pe_op op_cat (pv 3) (pe_c G_things_text hr (L2N.takes_of rfl rfl rfl rfl) (pa_cons (pv 0) (pa_cons (pv 1) (pa_cons (pv 2) pa_nil)))))))))))
      , ?_⟩
    obtain ⟨sa, nm, ro, b, S, R, rfl, hS, wf, k⟩ := h
    obtain ⟨dx, cl, td, cvs, kvs, last, h1, h2, h3, h4, h5, h6, h7, h8, h9, h10⟩ := id hS
    obtain ⟨fu, fu2⟩ := walk_full wf (all_live wf)
    have fu : Full S R (Vbxlaa.reachable S) := fu
    have hml : (Vbxlaa.reachable S).length ≤ _ := live_len wf fu.nd fu.lv
    have hol := wf.ol
    have hmx := wf.mx
    have hc4 := wf.c4
    refine ⟨_, rfl, sa, nm, ro, b, S, R, rfl, hS, wf, fun H1 p1 s1 np1 hp1 => ?_⟩
    refine ⟨_, rfl, p1, nm, _, rfl, hp1, h10.inj, fu.nd, by omega, fun H2 p2 s2 np2 hp2 => ?_⟩
    have s12 := s1.trans s2
    refine ⟨_, rfl, sa, _, dx, _, _, rfl, s12 _ _ h1, T.k_store, T.n_created, rfl, _, rfl, sa, _, dx, _, _, rfl, s12 _ _ h1, T.k_store, T.n_clients, rfl, cl, cvs, rfl, .inl (SqL.of (s12 _ _ h3)), leLine (by show 2 ≤ 1000; decide), fun L nL => ?_⟩
    rw [h5]
    have hB : Bld H2 L (([(S.made : Int), (S.clients.length : Int)] ++ (S.clients.take 0).flatMap (clientText (Vbxlaa.reachable S))).map V.int) (upd H2 L (.lst [.int (S.made : Nat), .int (S.clients.length : Nat)])) := Bld.start nL
    refine ⟨_, rfl, sa, _, dx, _, _, rfl, (s12.trans hB.sm) _ _ h1, T.k_store, T.n_clients, rfl, cl, rfl, ⟨_, SqL.of ((s12.trans hB.sm) _ _ h3)⟩, ?_⟩
    refine for_list (K := K) (a := cl) (xs := cvs) (fun j σ H3 => ∃ (v4 : Option V), σ = [some (.ref sa), some (.ref p1), some (.ref p2), some (.ref L), v4] ∧ Bld H2 L (([(S.made : Int), (S.clients.length : Int)] ++ (S.clients.take j).flatMap (clientText (Vbxlaa.reachable S))).map V.int) H3)
      ⟨none, rfl, hB⟩ (fun j σ H3 _ ⟨_, _, hB⟩ => SqL.of ((s12.trans hB.sm) _ _ h3)) ?_ ?_
    · rintro j x σ H3 hj ⟨v4, rfl, hB⟩
      have hj2 : j < S.clients.length := by rw [← h5]; exact (List.getElem?_eq_some_iff.mp hj).1
      obtain ⟨c, hc⟩ : ∃ c, S.clients[j]? = some c := ⟨_, List.getElem?_eq_getElem hj2⟩
      obtain ⟨ca, e1, e2⟩ := h6 j c hc
      rw [hj] at e1
      cases e1
      have cm := List.mem_of_getElem? hc
      refine ⟨_, rfl, .inl ⟨rfl, _, SqL.of hB.at_⟩, _, rfl, _, rfl, ca, p2, nm, ro, b, j, c, _, rfl, e2.same (s12.trans hB.sm), wf.cok cm, cknown_of fun i hi => fu2 i (List.mem_flatMap.mpr ⟨c, cm, hi⟩), hB.sm _ _ hp2, h10.inj, fu.nd, fun H4 p4 s4 np4 hp4 => ?_⟩
      have B4 := hB.grow s4
      have l1 := flat_le (clientText (Vbxlaa.reachable S)) 60 j S.clients (fun x hx => clientText_le (wf.cok hx)) (Nat.le_of_lt hj2)
      have l2 := clientText_le (met := Vbxlaa.walk S (allRootValues S)) (wf.cok cm)
      refine ⟨L, p4, _, _, rfl, rfl, B4.at_, hp4, leLine (by rw [List.length_map, List.length_map, List.length_append]; show 2 + _ + _ ≤ _; omega), ?_⟩
      refine ⟨_, rfl, ?_⟩
      rw [flat_more _ hc, ← List.append_assoc, List.map_append]
      exact B4.put nL
    · rintro σ H3 ⟨v4, rfl, hB⟩
      rw [h5, List.take_length] at hB
      have s13 := s12.trans hB.sm
      refine ⟨_, rfl, _, rfl, _, rfl, _, rfl, sa, p1, p2, nm, ro, b, S, R, _, rfl, hS.same s13, wf, fu, (s2.trans hB.sm) _ _ hp1, hB.sm _ _ hp2, fun H4 p4 s4 np4 hp4 => ?_⟩
      have l1 := flat_len (clientText (Vbxlaa.reachable S)) 60 (l := S.clients) fun x hx => clientText_le (wf.cok hx)
      have l2 := objectsText_le wf fu
      refine ⟨L, p4, _, _, rfl, rfl, s4 _ _ hB.at_, hp4, leLine (by rw [List.length_map, List.length_map, List.length_append]; show 2 + _ + _ ≤ _; omega), fun L2 nL2 => ?_⟩
      have s14 := s13.trans s4
      refine k _ L2 (s14.trans (Same.new nL2)) (s14.free nL2) ?_
      rw [upd_same, ← List.map_append, List.append_assoc]
      rfl
end
end Sh


/-! M4: the shortest paths of the specification. -/
namespace Sh
open Vbxlaa (meetPaths pathsFrom fieldsOf)
abbrev PI := Nat × List Nat
def kid (S : VSt) (m : PI) : List (List Nat × VV) := (fieldsOf S m.1).zipIdx.map fun x => (m.2 ++ [x.2], x.1)
def kids (S : VSt) (l : List PI) : List (List Nat × VV) := l.flatMap (kid S)
theorem kids_app (S : VSt) (a b : List PI) : kids S (a ++ b) = kids S a ++ kids S b := List.flatMap_append
theorem kids_one (S : VSt) (m : PI) : kids S [m] = kid S m := by unfold kids; rw [List.flatMap_cons, List.flatMap_nil, List.append_nil]
theorem mp_obj (met : List PI) (p : List Nat) (i : Nat) (l : List (List Nat × VV)) : meetPaths met ((p, .object i) :: l) = if i ∈ met.map (fun m => m.1) then meetPaths met l else meetPaths (met ++ [(i, p)]) l := by
  show (if (met.any fun m => m.1 == i) = true then meetPaths met l else meetPaths (met ++ [(i, p)]) l) = _
  have e : ((met.any fun m => m.1 == i) = true) ↔ i ∈ met.map (fun m => m.1) := by simp
  by_cases h : i ∈ met.map (fun m => m.1)
  · rw [if_pos (e.mpr h), if_pos h]
  · rw [if_neg (fun z => h (e.mp z)), if_neg h]
theorem mp_app : ∀ (a : List (List Nat × VV)) (met : List PI) (b : List (List Nat × VV)), meetPaths met (a ++ b) = meetPaths (meetPaths met a) b
  | [], _, _ => rfl
  | (_, .nothing) :: a, met, b => mp_app a met b
  | (_, .number _) :: a, met, b => mp_app a met b
  | (p, .object i) :: a, met, b => by
    rw [List.cons_append, mp_obj, mp_obj]
    by_cases h : i ∈ met.map (fun m => m.1)
    · rw [if_pos h, if_pos h]; exact mp_app a met b
    · rw [if_neg h, if_neg h]; exact mp_app a _ b
theorem mp_pre : ∀ (l : List (List Nat × VV)) (met : List PI), met <+: meetPaths met l
  | [], met => List.prefix_rfl
  | (_, .nothing) :: l, met => mp_pre l met
  | (_, .number _) :: l, met => mp_pre l met
  | (p, .object i) :: l, met => by
    rw [mp_obj]
    by_cases h : i ∈ met.map (fun m => m.1)
    · rw [if_pos h]; exact mp_pre l met
    · rw [if_neg h]; exact (List.prefix_append met [(i, p)]).trans (mp_pre l _)
theorem mp_mono {a b : List (List Nat × VV)} (h : a <+: b) (met : List PI) : meetPaths met a <+: meetPaths met b := by
  obtain ⟨t, rfl⟩ := h
  rw [mp_app]
  exact mp_pre t _
theorem kids_mono (S : VSt) {a b : List PI} (h : a <+: b) : kids S a <+: kids S b := by
  obtain ⟨t, rfl⟩ := h
  rw [kids_app]
  exact List.prefix_append ..
theorem mp_nodup : ∀ (l : List (List Nat × VV)) (met : List PI), (met.map fun m => m.1).Nodup → ((meetPaths met l).map fun m => m.1).Nodup
  | [], _, h => h
  | (_, .nothing) :: l, met, h => mp_nodup l met h
  | (_, .number _) :: l, met, h => mp_nodup l met h
  | (p, .object i) :: l, met, h => by
    rw [mp_obj]
    by_cases c : i ∈ met.map (fun m => m.1)
    · rw [if_pos c]; exact mp_nodup l met h
    · rw [if_neg c]
      refine mp_nodup l _ ?_
      rw [List.map_append, List.nodup_append]
      refine ⟨h, by simp, fun a ha b hb e => ?_⟩
      rw [List.map_cons, List.map_nil, List.mem_singleton] at hb
      exact c (by
        have hb : b = i := hb
        rw [← hb, ← e]
        exact ha)
theorem mp_live {R : Nat → Prop} : ∀ {l : List (List Nat × VV)} {met : List PI}, (∀ m ∈ met, R m.1) → (∀ x ∈ l, Lv R x.2) → ∀ m ∈ meetPaths met l, R m.1
  | [], _, h, _ => h
  | (_, .nothing) :: l, met, h, hl => mp_live (l := l) h fun x m => hl x (List.mem_cons_of_mem _ m)
  | (_, .number _) :: l, met, h, hl => mp_live (l := l) h fun x m => hl x (List.mem_cons_of_mem _ m)
  | (p, .object i) :: l, met, h, hl => by
    rw [mp_obj]
    by_cases c : i ∈ met.map (fun m => m.1)
    · rw [if_pos c]; exact mp_live (l := l) h fun x m => hl x (List.mem_cons_of_mem _ m)
    · rw [if_neg c]
      refine mp_live (l := l) (fun m hm => ?_) fun x m => hl x (List.mem_cons_of_mem _ m)
      rcases List.mem_append.mp hm with hm | hm
      · exact h m hm
      · rw [List.mem_singleton] at hm
        subst hm
        exact hl _ List.mem_cons_self i rfl
theorem kid_live {S : VSt} {R : Nat → Prop} (w : Wf S R) {m : PI} (h : R m.1) : ∀ x ∈ kid S m, Lv R x.2 := by
  intro x hx
  obtain ⟨⟨v, j⟩, hv, rfl⟩ := List.mem_map.mp hx
  exact (w.fields h).2 v (List.mem_of_getElem? (List.mem_zipIdx_iff_getElem?.mp hv))
theorem kid_le {S : VSt} {R : Nat → Prop} (w : Wf S R) {m : PI} (h : R m.1) : (kid S m).length ≤ 4 := by
  unfold kid
  rw [List.length_map, List.length_zipIdx]
  exact (w.fields h).1
theorem kids_le {S : VSt} {R : Nat → Prop} (w : Wf S R) : ∀ {l : List PI}, (∀ m ∈ l, R m.1) → (kids S l).length ≤ 4 * l.length
  | [], _ => Nat.zero_le _
  | m :: l, h => by
    have h1 := kid_le w (h m List.mem_cons_self)
    have h2 := kids_le w (l := l) fun x hx => h x (List.mem_cons_of_mem _ hx)
    have e : (kids S (m :: l)).length = (kid S m).length + (kids S l).length := List.length_append
    rw [e, List.length_cons]
    omega
theorem pathsFrom_nil {S : VSt} {met : List PI} : ∀ n, pathsFrom S n [] met = met
  | 0 => rfl
  | _ + 1 => rfl
structure AtP (S : VSt) (R : Nat → Prop) (rs : List (List Nat × VV)) (F met : List PI) (q : Nat) : Prop where
  eq : pathsFrom S (S.objects.length - q) (met.drop q) met = F
  fx : met = meetPaths [] (rs ++ kids S (met.take q))
  le : q ≤ met.length
  nd : (met.map fun m => m.1).Nodup
  lv : ∀ m ∈ met, R m.1
/-- what the walk ends with -/
structure FinP (S : VSt) (R : Nat → Prop) (rs : List (List Nat × VV)) (F : List PI) : Prop where
  fx : F = meetPaths [] (rs ++ kids S F)
  nd : (F.map fun m => m.1).Nodup
  lv : ∀ m ∈ F, R m.1
theorem live_lenP {S : VSt} {R : Nat → Prop} (w : Wf S R) {met : List PI} (nd : (met.map fun m => m.1).Nodup) (lv : ∀ m ∈ met, R m.1) : met.length ≤ S.objects.length := by
  have h := live_len w nd fun i hi => by
    obtain ⟨m, hm, rfl⟩ := List.mem_map.mp hi
    exact lv m hm
  rwa [List.length_map] at h
theorem AtP.step {S : VSt} {R : Nat → Prop} (w : Wf S R) {rs : List (List Nat × VV)} {F met : List PI} {q : Nat} {m : PI} (a : AtP S R rs F met q) (h : met[q]? = some m) :
    AtP S R rs F (meetPaths met (kid S m)) (q + 1) ∧ meetPaths met (kid S m) = meetPaths [] (rs ++ kids S (met.take (q + 1))) := by
  have hq : q < met.length := (List.getElem?_eq_some_iff.mp h).1
  have hm : m ∈ met := List.mem_of_getElem? h
  have hL := live_lenP w a.nd a.lv
  obtain ⟨more, em⟩ := mp_pre (kid S m) met
  have et : met.take (q + 1) = met.take q ++ [m] := by
    obtain ⟨hj, e⟩ := List.getElem?_eq_some_iff.mp h
    rw [List.take_succ_eq_append_getElem hj, e]
  have e2 : meetPaths met (kid S m) = meetPaths [] (rs ++ kids S (met.take (q + 1))) := by
    rw [et, kids_app, kids_one, ← List.append_assoc, mp_app, ← a.fx]
  refine ⟨⟨?_, ?_, ?_, mp_nodup _ _ a.nd, mp_live a.lv (kid_live w (a.lv m hm))⟩, e2⟩
  · have e := a.eq
    have ed : met.drop q = m :: met.drop (q + 1) := by
      rw [List.drop_eq_getElem_cons hq]
      congr 1
      exact Option.some.inj ((List.getElem?_eq_getElem hq).symm.trans h)
    have en : S.objects.length - q = (S.objects.length - (q + 1)) + 1 := by omega
    rw [ed, en] at e
    have e3 : pathsFrom S (S.objects.length - (q + 1)) (met.drop (q + 1) ++ (meetPaths met (kid S m)).drop met.length) (meetPaths met (kid S m)) = F := e
    rw [← e3]
    congr 1
    rw [← em, List.drop_append_of_le_length hq, List.drop_append_of_le_length (Nat.le_refl _), List.drop_length, List.nil_append]
  · rw [e2]
    congr 3
    rw [← e2, ← em, List.take_append_of_le_length hq]
  · rw [← em, List.length_append]
    omega
theorem AtP.fin {S : VSt} {R : Nat → Prop} (w : Wf S R) {rs : List (List Nat × VV)} {F : List PI} : ∀ (n : Nat) {met : List PI} {q : Nat}, S.objects.length - q = n → AtP S R rs F met q →
    FinP S R rs F ∧ ∀ f, f = meetPaths [] (rs ++ kids S f) → met <+: f → F <+: f := by
  intro n
  have base : ∀ {met : List PI} {q : Nat}, AtP S R rs F met q → met.length ≤ q → FinP S R rs F ∧ ∀ f, f = meetPaths [] (rs ++ kids S f) → met <+: f → F <+: f := by
    intro met q a c
    have e := a.eq
    rw [List.drop_eq_nil_of_le c, pathsFrom_nil] at e
    subst e
    have fx := a.fx
    rw [List.take_of_length_le c] at fx
    exact ⟨⟨fx, a.nd, a.lv⟩, fun f _ h => h⟩
  induction n with
  | zero =>
    intro met q hn a
    have hl := live_lenP w a.nd a.lv
    exact base a (by omega)
  | succ n ih =>
    intro met q hn a
    by_cases c : met.length ≤ q
    · exact base a c
    · obtain ⟨m, hm⟩ : ∃ m, met[q]? = some m := ⟨_, List.getElem?_eq_getElem (by omega)⟩
      obtain ⟨a2, e2⟩ := a.step w hm
      obtain ⟨f1, f2⟩ := ih (by omega) a2
      refine ⟨f1, fun f hf hp => f2 f hf ?_⟩
      rw [e2, hf]
      refine mp_mono ?_ []
      exact (List.prefix_append_right_inj rs).mpr (kids_mono S ((List.take_prefix _ _).trans hp))
/-- the roots with their paths -/
def rootPaths (c : VC) : List (List Nat × VV) := (Vbxlaa.rootsOf c).map fun x => ([x.1], x.2)
theorem paths_fin {S : VSt} {R : Nat → Prop} (w : Wf S R) {c : VC} (h : c ∈ S.clients) : FinP S R (rootPaths c) (Vbxlaa.pathsOf S c) ∧ ∀ f, f = meetPaths [] (rootPaths c ++ kids S f) → Vbxlaa.pathsOf S c <+: f := by
  have lv : ∀ x ∈ rootPaths c, Lv R x.2 := fun x hx => by
    obtain ⟨y, hy, rfl⟩ := List.mem_map.mp hx
    exact roots_live w h y.2 (List.mem_map.mpr ⟨y, hy, rfl⟩)
  have a : AtP S R (rootPaths c) (Vbxlaa.pathsOf S c) (meetPaths [] (rootPaths c)) 0 :=
    ⟨rfl, by rw [List.take_zero]; show _ = meetPaths [] (rootPaths c ++ []); rw [List.append_nil], Nat.zero_le _, mp_nodup _ _ List.nodup_nil, mp_live (fun _ h => by cases h) lv⟩
  obtain ⟨f1, f2⟩ := a.fin w _ rfl
  refine ⟨f1, fun f hf => f2 f hf ?_⟩
  rw [hf]
  exact mp_mono (List.prefix_append ..) []
/-- one item more -/
theorem paths_step {S : VSt} {rs : List (List Nat × VV)} {F f : List PI} {ws : List (List Nat × VV)} {n : Nat} {x : List Nat × VV} (fx : F = meetPaths [] (rs ++ kids S F)) (hp : f <+: F) (hw : ws = rs ++ kids S f) (hf : f = meetPaths [] (ws.take n)) (hx : ws[n]? = some x) :
    meetPaths [] (ws.take (n + 1)) = meetPaths f [x] ∧ meetPaths f [x] <+: F := by
  have et : ws.take (n + 1) = ws.take n ++ [x] := by
    obtain ⟨hj, e⟩ := List.getElem?_eq_some_iff.mp hx
    rw [List.take_succ_eq_append_getElem hj, e]
  have e1 : meetPaths [] (ws.take (n + 1)) = meetPaths f [x] := by rw [et, mp_app, ← hf]
  refine ⟨e1, ?_⟩
  rw [← e1, fx]
  refine mp_mono ((List.take_prefix _ _).trans ?_) []
  rw [hw]
  exact (List.prefix_append_right_inj rs).mpr (kids_mono S hp)
theorem paths_end {S : VSt} {R : Nat → Prop} (w : Wf S R) {c : VC} (h : c ∈ S.clients) {f : List PI} {ws : List (List Nat × VV)} {n : Nat} (hp : f <+: Vbxlaa.pathsOf S c) (hw : ws = rootPaths c ++ kids S f) (hf : f = meetPaths [] (ws.take n)) (hn : ws.length ≤ n) : f = Vbxlaa.pathsOf S c := by
  rw [List.take_of_length_le hn, hw] at hf
  exact List.IsPrefix.eq_of_length hp (Nat.le_antisymm hp.length_le ((paths_fin w h).2 f hf).length_le)
end Sh

set_option maxHeartbeats 2000000
/-! S4: stores that are being made or changed. -/
namespace Sh
open PySem PySem.Spec PyProof.Rows L2
def upR (ro : Rm) (a : Addr) (r : Ro) : Rm := fun x => if x = a then some r else ro x
theorem upR_same {ro : Rm} {a : Addr} {r : Ro} : upR ro a r a = some r := if_pos rfl
theorem upR_ne {ro : Rm} {a x : Addr} {r : Ro} (h : x ≠ a) : upR ro a r x = ro x := if_neg h
def RoN (H0 : Hp) (ro ro' : Rm) : Prop := ∀ a o, H0 a = some o → ro' a = ro a
theorem RoN.refl {H : Hp} {ro : Rm} : RoN H ro ro := fun _ _ _ => rfl
theorem RoN.trans {H0 H1 : Hp} {ro ro1 ro2 : Rm} (s : Same H0 H1) (a : RoN H0 ro ro1) (b : RoN H1 ro1 ro2) : RoN H0 ro ro2 := fun x o e => (b x o (s x o e)).trans (a x o e)
theorem RoN.up {H0 : Hp} {ro ro1 : Rm} {a : Addr} {r : Ro} (h : RoN H0 ro ro1) (n : H0 a = none) : RoN H0 ro (upR ro1 a r) := fun x o e => (upR_ne (ne_of_none e n)).trans (h x o e)
theorem Kept.of {ro ro' : Rm} {H H' : Hp} {b : Bool} (s : Same H H') (r : RoN H ro ro') : Kept ro ro' H H' b := ⟨Same.tups s, fun a o q e h _ => ⟨s a o e, (r a o e).trans h⟩⟩
theorem Same.put {H0 H : Hp} {x : Addr} {u : HO} (s : Same H0 H) (n : H0 x = none) : Same H0 (upd H x u) := fun a o e => by
  rw [upd_ne (ne_of_none e n)]
  exact s a o e
/-- roles only of new places -/
def Fs (H : Hp) (ro : Rm) : Prop := ∀ a r, ro a = some r → H a = none
theorem Fs.up {H : Hp} {ro : Rm} {a : Addr} {r : Ro} (h : Fs H ro) (n : H a = none) : Fs H (upR ro a r) := fun x q e => by
  by_cases c : x = a
  · rw [c]; exact n
  · exact h x q ((upR_ne c).symm.trans e)
theorem ne_role {ro : Rm} {a a' : Addr} {r r' : Ro} (h : ro a = some r) (h' : ro a' = some r') (d : r ≠ r') : a ≠ a' := fun z => d (Option.some.inj (h.symm.trans (z ▸ h')))
theorem wr_keep {ro : Rm} {H : Hp} {w : Addr} {rw_ : Ro} {u : HO} (hw : ro w = some rw_) {a : Addr} {o : HO} {r : Ro} (e : H a = some o) (q : ro a = some r) (d : r ≠ rw_) : upd H w u a = some o ∧ ro a = some r :=
  ⟨(upd_ne (ne_role q hw d)).trans e, q⟩
section
variable {K : PySem.W.Frag} {ad : Ad} {nm : Nat → Int} {ro ro' : Rm} {H H' : Hp} {b : Bool}
theorem MsgAt.keep' {v : V} {m : List VV} (h : MsgAt K nm ro H v m) (t : Tups H H') (k : ∀ a o, H a = some o → ro a = some .imm → H' a = some o ∧ ro' a = some .imm) : MsgAt K nm ro' H' v m := by
  obtain ⟨ma, mvs, e, h1, h2, h3⟩ := h
  obtain ⟨k1, k2⟩ := k _ _ h1 h2
  exact ⟨ma, mvs, e, k1, k2, h3.keep t⟩
theorem ClientAt.keep' {i : Nat} {ca : Addr} {c : VC} (h : ClientAt K ad nm ro H b i ca c) (t : Tups H H') (k : ∀ a o r, H a = some o → ro a = some r → r = .imm ∨ r = .client b i ∨ r = .slots b i ∨ r = .inbox b i → H' a = some o ∧ ro' a = some r) :
    ClientAt K ad nm ro' H' b i ca c := by
  obtain ⟨dx, sl, ib, svs, ims, h1, h2, h3, h4, h5, h6, h7, h8⟩ := h
  obtain ⟨a1, a2⟩ := k _ _ _ h1 h2 (.inr (.inl rfl))
  obtain ⟨b1, b2⟩ := k _ _ _ h3 h4 (.inr (.inr (.inl rfl)))
  obtain ⟨c1, c2⟩ := k _ _ _ h6 h7 (.inr (.inr (.inr rfl)))
  exact ⟨dx, sl, ib, svs, ims, a1, a2, b1, b2, h5.keep t, c1, c2, Paired.mapP h8 fun _ _ z => z.keep' t fun a o e q => k a o _ e q (.inl rfl)⟩
theorem ThingAt.keep' {kv : Key × V} {o : VO} (h : ThingAt K nm ro H b kv o) (t : Tups H H') (k : ∀ a u, H a = some u → ro a = some (.thing b o.id) → H' a = some u ∧ ro' a = some (.thing b o.id)) : ThingAt K nm ro' H' b kv o := by
  obtain ⟨e, ta, tvs, h1, h2, h3, h4⟩ := h
  obtain ⟨a1, a2⟩ := k _ _ h2 h3
  exact ⟨e, ta, tvs, h1, a1, a2, h4.keep t⟩
end
structure Raw (K : PySem.W.Frag) (ad : Ad) (nm : Nat → Int) (ro : Rm) (H : Hp) (b : Bool) (sa dx cl td : Addr) (cs : List VC) (os : List VO) (made last : Int) (cvs : List V) (kvs : List (Key × V)) : Prop where
  ha : H sa = some (.ins ad.store dx [("clients", .ref cl), ("things", .ref td), ("created", .int made), ("last", .int last)])
  ra : ro sa = some (.store b)
  hc : H cl = some (.lst cvs)
  rc : ro cl = some (.cls b)
  ln : cvs.length = cs.length
  ct : ∀ (i : Nat) (c : VC), cs[i]? = some c → ∃ ca, cvs[i]? = some (.ref ca) ∧ ClientAt K ad nm ro H b i ca c
  ht : H td = some (.dK kvs)
  rt : ro td = some (.things b)
  th : Paired (ThingAt K nm ro H b) kvs os
section
variable {K : PySem.W.Frag} {ad : Ad} {nm : Nat → Int} {ro ro' : Rm} {H H' : Hp} {b : Bool} {sa dx cl td : Addr} {cs : List VC} {os : List VO} {made last : Int} {cvs : List V} {kvs : List (Key × V)}
theorem Raw.store {S : VSt} (r : Raw K ad nm ro H b sa dx cl td S.clients S.objects S.made last cvs kvs) (n : NmOk nm S.made last) : StoreAt K ad nm ro H b sa S :=
  ⟨dx, cl, td, cvs, kvs, last, r.ha, r.ra, r.hc, r.rc, r.ln, r.ct, r.ht, r.rt, r.th, n⟩
theorem StoreAt.raw {S : VSt} (h : StoreAt K ad nm ro H b sa S) : ∃ dx cl td cvs kvs last, Raw K ad nm ro H b sa dx cl td S.clients S.objects S.made last cvs kvs ∧ NmOk nm S.made last := by
  obtain ⟨dx, cl, td, cvs, kvs, last, h1, h2, h3, h4, h5, h6, h7, h8, h9, h10⟩ := h
  exact ⟨dx, cl, td, cvs, kvs, last, ⟨h1, h2, h3, h4, h5, h6, h7, h8, h9⟩, h10⟩
theorem Raw.keep (r : Raw K ad nm ro H b sa dx cl td cs os made last cvs kvs) (k : Kept ro ro' H H' b) : Raw K ad nm ro' H' b sa dx cl td cs os made last cvs kvs := by
  obtain ⟨a1, a2⟩ := k.2 _ _ _ r.ha r.ra (by simp [Ro.own])
  obtain ⟨b1, b2⟩ := k.2 _ _ _ r.hc r.rc (by simp [Ro.own])
  obtain ⟨c1, c2⟩ := k.2 _ _ _ r.ht r.rt (by simp [Ro.own])
  exact ⟨a1, a2, b1, b2, r.ln, fun i c e => let ⟨ca, q1, q2⟩ := r.ct i c e; ⟨ca, q1, q2.keep k⟩, c1, c2, Paired.mapP r.th fun _ _ z => z.keep k⟩
theorem get_snoc {α : Type} {l : List α} {x y : α} {i : Nat} (h : (l ++ [x])[i]? = some y) : l[i]? = some y ∨ (i = l.length ∧ y = x) := by
  by_cases c : i < l.length
  · rw [List.getElem?_append_left c] at h
    exact .inl h
  · rw [List.getElem?_append_right (by omega)] at h
    have hi := (List.getElem?_eq_some_iff.mp h).1
    simp at hi
    have e : i = l.length := by omega
    subst e
    simp at h
    exact .inr ⟨rfl, h.symm⟩
/-- one client more -/
theorem Raw.addC (r : Raw K ad nm ro H b sa dx cl td cs os made last cvs kvs) {ca : Addr} {c : VC} (n : ClientAt K ad nm ro H b cs.length ca c) :
    Raw K ad nm ro (upd H cl (.lst (cvs ++ [.ref ca]))) b sa dx cl td (cs ++ [c]) os made last (cvs ++ [.ref ca]) kvs := by
  have t : Tups H (upd H cl (.lst (cvs ++ [.ref ca]))) := Tups.write r.hc fun _ z => by cases z
  have kc : ∀ i a o q, H a = some o → ro a = some q → q = .imm ∨ q = .client b i ∨ q = .slots b i ∨ q = .inbox b i → upd H cl (.lst (cvs ++ [.ref ca])) a = some o ∧ ro a = some q := fun i a o q e h d =>
    wr_keep r.rc e h (by rcases d with rfl | rfl | rfl | rfl <;> simp)
  refine ⟨(wr_keep r.rc r.ha r.ra (by simp)).1, r.ra, upd_same, r.rc, by rw [List.length_append, List.length_append, r.ln]; rfl, fun i d e => ?_, (wr_keep r.rc r.ht r.rt (by simp)).1, r.rt, Paired.mapP r.th fun _ _ z => z.keep' t fun a u e h => wr_keep r.rc e h (by simp)⟩
  rcases get_snoc e with e | ⟨rfl, rfl⟩
  · obtain ⟨ca2, q1, q2⟩ := r.ct i d e
    exact ⟨ca2, by rw [List.getElem?_append_left (List.getElem?_eq_some_iff.mp q1).1]; exact q1, q2.keep' t (kc i)⟩
  · exact ⟨ca, by rw [← r.ln, List.getElem?_append_right (Nat.le_refl _)]; simp, n.keep' t (kc _)⟩
/-- one thing more -/
theorem Raw.addT (r : Raw K ad nm ro H b sa dx cl td cs os made last cvs kvs) {kv : Key × V} {o : VO} (n : ThingAt K nm ro H b kv o) :
    Raw K ad nm ro (upd H td (.dK (kvs ++ [kv]))) b sa dx cl td cs (os ++ [o]) made last cvs (kvs ++ [kv]) := by
  have t : Tups H (upd H td (.dK (kvs ++ [kv]))) := Tups.write r.ht fun _ z => by cases z
  have kt : ∀ i a u, H a = some u → ro a = some (.thing b i) → upd H td (.dK (kvs ++ [kv])) a = some u ∧ ro a = some (.thing b i) := fun i a u e h => wr_keep r.rt e h (by simp)
  refine ⟨(wr_keep r.rt r.ha r.ra (by simp)).1, r.ra, (wr_keep r.rt r.hc r.rc (by simp)).1, r.rc, r.ln, fun i d e => ?_, upd_same, r.rt, pair_snoc (Paired.mapP r.th fun _ _ z => z.keep' t (kt _)) (n.keep' t (kt _))⟩
  obtain ⟨ca2, q1, q2⟩ := r.ct i d e
  exact ⟨ca2, q1, q2.keep' t fun a o q e h d => wr_keep r.rt e h (by rcases d with rfl | rfl | rfl | rfl <;> simp)⟩
/-- the store's own numbers -/
theorem Raw.nums (r : Raw K ad nm ro H b sa dx cl td cs os made last cvs kvs) {made' last' : Int} {fs : List (Str × V)} (ef : fs = ([("clients", V.ref cl), ("things", .ref td), ("created", .int made'), ("last", .int last')] : List (Str × V))) :
    Raw K ad nm ro (upd H sa (.ins ad.store dx fs)) b sa dx cl td cs os made' last' cvs kvs := by
  subst ef
  have t : Tups H (upd H sa (.ins ad.store dx [("clients", .ref cl), ("things", .ref td), ("created", .int made'), ("last", .int last')])) := Tups.write r.ha fun _ z => by cases z
  refine ⟨upd_same, r.ra, (wr_keep r.ra r.hc r.rc (by simp)).1, r.rc, r.ln, fun i d e => ?_, (wr_keep r.ra r.ht r.rt (by simp)).1, r.rt, Paired.mapP r.th fun _ _ z => z.keep' t fun a u e h => wr_keep r.ra e h (by simp)⟩
  obtain ⟨ca2, q1, q2⟩ := r.ct i d e
  exact ⟨ca2, q1, q2.keep' t fun a o q e h d => wr_keep r.ra e h (by rcases d with rfl | rfl | rfl | rfl <;> simp)⟩
/-- a client that is changed -/
theorem Raw.client (r : Raw K ad nm ro H b sa dx cl td cs os made last cvs kvs) {i : Nat} {ca : Addr} {c c' : VC} (hi : cs[i]? = some c) (he : cvs[i]? = some (.ref ca)) (t : Tups H H')
    (k : ∀ a o q, H a = some o → ro a = some q → q.own b = true → q ≠ .client b i → q ≠ .slots b i → q ≠ .inbox b i → H' a = some o ∧ ro' a = some q) (n : ClientAt K ad nm ro' H' b i ca c') :
    Raw K ad nm ro' H' b sa dx cl td (cs.set i c') os made last cvs kvs := by
  obtain ⟨a1, a2⟩ := k _ _ _ r.ha r.ra (by simp [Ro.own]) (by simp) (by simp) (by simp)
  obtain ⟨b1, b2⟩ := k _ _ _ r.hc r.rc (by simp [Ro.own]) (by simp) (by simp) (by simp)
  obtain ⟨c1, c2⟩ := k _ _ _ r.ht r.rt (by simp [Ro.own]) (by simp) (by simp) (by simp)
  refine ⟨a1, a2, b1, b2, by rw [List.length_set]; exact r.ln, fun j d e => ?_, c1, c2, Paired.mapP r.th fun _ _ z => z.keep' t fun a u e h => k _ _ _ e h (by simp [Ro.own]) (by simp) (by simp) (by simp)⟩
  by_cases eij : j = i
  · subst eij
    rw [List.getElem?_set_self (List.getElem?_eq_some_iff.mp hi).1] at e
    cases e
    exact ⟨ca, he, n⟩
  · rw [List.getElem?_set_ne (Ne.symm eij)] at e
    obtain ⟨ca2, q1, q2⟩ := r.ct j d e
    refine ⟨ca2, q1, q2.keep' t fun a o q e h d => k a o q e h ?_ ?_ ?_ ?_⟩
    · rcases d with rfl | rfl | rfl | rfl <;> simp [Ro.own]
    · rcases d with rfl | rfl | rfl | rfl <;> simp [eij]
    · rcases d with rfl | rfl | rfl | rfl <;> simp [eij]
    · rcases d with rfl | rfl | rfl | rfl <;> simp [eij]
end
/-- roles of new places beside those of old ones -/
def mrg (H : Hp) (ro ro2 : Rm) : Rm := fun a => match H a with
  | none => ro2 a
  | some _ => ro a
theorem mrg_old {H : Hp} {ro ro2 : Rm} {a : Addr} {o : HO} (e : H a = some o) : mrg H ro ro2 a = ro a := by unfold mrg; rw [e]
theorem mrg_new {H : Hp} {ro ro2 : Rm} {a : Addr} (e : H a = none) : mrg H ro ro2 a = ro2 a := by unfold mrg; rw [e]
theorem RoN.mrg {H : Hp} {ro ro2 : Rm} : RoN H ro (mrg H ro ro2) := fun _ _ e => mrg_old e
theorem Kept.mrg {H H' : Hp} {ro ro2 : Rm} {b : Bool} (f : Fs H ro2) : Kept ro2 (mrg H ro ro2) H' H' b := ⟨Tups.refl, fun a _ r e q _ => ⟨e, (mrg_new (f a r q)).trans q⟩⟩
end Sh

set_option maxHeartbeats 2000000
namespace Sh
open PySem PySem.Spec PyProof.Rows L2
open Vbxlaa (fieldsOf rootsOf rootValues clientAt emptyClient)
section
variable {P : Program} {w : World} {K : PySem.W.Frag} {mg : Str → Option Value} {base : Heap} {ad : Ad}
/-! ### Client -/
def spClientInit (ad : Ad) : Sp := fun vs H Q _ => ∃ x dx, vs = [.ref x] ∧ H x = some (.ins ad.client dx []) ∧ ∀ H' sl ib, H sl = none → H ib = none → (∀ a o, a ≠ x → H a = some o → H' a = some o) →
  H' x = some (.ins ad.client dx [("slots", .ref sl), ("inbox", .ref ib)]) → H' sl = some (.lst (List.replicate 6 (.ref ad.nothing))) → H' ib = some (.lst []) → Q .non H'
theorem ok_Client_init (T : Tx K mg ad) (D : Di K mg "Client" ad.client "Client.__init__" s_Client_init ["self"]) : OkI P w K mg base 1 "Client" ad.client ["self"] (spClientInit ad) := by
  refine D.ok c_Client_init (fun vs H Q E h => ?_) (fun f cdv A outer s H vs Q E hr h => ?_)
  · obtain ⟨x, dx, rfl, _⟩ := h
    rfl
  · refine ⟨_,
      (pss_cons (ps_fld (pv 0) (pe_op op_rep (pe_lst (pa_cons (pe_glob (v := .ref ad.nothing) rfl T.g_NOTHING rfl) pa_nil)) (pe_ci T.c_SLOTS)) rfl)
        (pss_one (ps_fld (pv 0) (pe_lst pa_nil) rfl)))
      , ?_⟩
    obtain ⟨x, dx, rfl, hx, k⟩ := h
    refine ⟨leLine (by show 1 ≤ 1000; decide), fun l0 n0 => ⟨l0, 6, _, rfl, rfl, upd_same, by decide, by decide, leLine (by show 6 ≤ 1000; decide), fun sl n1 => ?_⟩⟩
    have s0 : Same H (upd H l0 (.lst [.ref ad.nothing])) := Same.new n0
    have s1 : Same H (upd (upd H l0 (.lst [.ref ad.nothing])) sl (.lst (List.replicate 6 (.ref ad.nothing)))) := s0.trans (Same.new n1)
    refine ⟨_, rfl, x, _, dx, _, rfl, s1 _ _ hx, T.k_client, T.n_slots, by decide, ?_⟩
    refine ⟨leLine (by decide), fun ib n2 => ?_⟩
    have nxs : x ≠ sl := ne_of_none (s0 _ _ hx) n1
    have nxi : x ≠ ib := ne_of_none upd_same n2
    have nsi : sl ≠ ib := ne_of_none ((upd_ne (Ne.symm nxs)).trans upd_same) n2
    have f1 : H sl = none := s0.free n1
    have f2 : H ib = none := s1.free ((upd_ne (Ne.symm nxi)).symm.trans n2)
    refine ⟨_, rfl, x, _, dx, _, rfl, (upd_ne nxi).trans upd_same, T.k_client, T.n_inbox, by show 1 < 1000; decide, ?_⟩
    refine k _ sl ib f1 f2 (fun a o na e => ?_) upd_same ?_ ?_
    · rw [upd_ne na, upd_ne (ne_of_none e f2), upd_ne na]
      exact s1 _ _ e
    · rw [upd_ne (Ne.symm nxs), upd_ne nsi, upd_ne (Ne.symm nxs)]
      exact upd_same
    · rw [upd_ne (Ne.symm nxi)]
      exact upd_same
theorem nothing_row (T : Tx K mg ad) {nm : Nat → Int} {H : Hp} (n : Nat) : Row K nm H (List.replicate n (.ref ad.nothing)) (List.replicate n .nothing) := by
  induction n with
  | zero => exact .nil
  | succ n ih => exact .cons ⟨ad.nothing, rfl, .inr T.nothing⟩ ih
/-- Client(), placed -/
theorem placed (T : Tx K mg ad) {nm : Nat → Int} {ro : Rm} {b : Bool} {i : Nat} {H0 H' : Hp} {x dx sl ib : Addr} (f : Fs H0 ro) (hx : H0 x = none) (hs : H0 sl = none) (hi : H0 ib = none) (e1 : H' x = some (.ins ad.client dx [("slots", .ref sl), ("inbox", .ref ib)]))
    (e2 : H' sl = some (.lst (List.replicate 6 (.ref ad.nothing)))) (e3 : H' ib = some (.lst [])) :
    ClientAt K ad nm (upR (upR (upR ro x (.client b i)) sl (.slots b i)) ib (.inbox b i)) H' b i x emptyClient ∧ Fs H0 (upR (upR (upR ro x (.client b i)) sl (.slots b i)) ib (.inbox b i)) := by
  have n1 : x ≠ sl := ne_of e1 e2 (by intro z; cases z)
  have n2 : x ≠ ib := ne_of e1 e3 (by intro z; cases z)
  have n3 : sl ≠ ib := ne_of e2 e3 (by intro z; cases z)
  exact ⟨⟨dx, sl, ib, _, _, e1, by rw [upR_ne n2, upR_ne n1, upR_same], e2, by rw [upR_ne n3, upR_same], nothing_row T 6, e3, upR_same, .nil⟩, ((f.up hx).up hs).up hi⟩
/-! ### Store -/
def spStoreInit (K : PySem.W.Frag) (ad : Ad) : Sp := fun vs H Q _ => ∃ (x dx : Addr) (n : Nat) (nm : Nat → Int) (b : Bool), vs = [.ref x, .int (n : Nat)] ∧ n ≤ 4 ∧ H x = some (.ins ad.store dx []) ∧ ∀ H' ro cl td cvs,
  (∀ a o, a ≠ x → H a = some o → H' a = some o) → Fs (fun a => if a = x then none else H a) ro → Raw K ad nm ro H' b x dx cl td (List.replicate n emptyClient) [] 0 0 cvs [] → Q .non H'
theorem ok_Store_init (T : Tx K mg ad) (D : Di K mg "Store" ad.store "Store.__init__" s_Store_init ["self", "many"]) (G_Client : OkI P w K mg base 1 "Client" ad.client ["self"] (spClientInit ad)) : OkI P w K mg base 3 "Store" ad.store ["self", "many"] (spStoreInit K ad) := by
  refine D.ok c_Store_init (fun vs H Q E h => ?_) (fun f cdv A outer s H vs Q E hr h => ?_)
  · obtain ⟨x, dx, n, nm, b, rfl, _⟩ := h
    rfl
  · refine ⟨_,
      (pss_cons (ps_fld (pv 0) (pe_lc (own := [("number", 2)]) (g := (gName 2)) (tt := tYes) rfl c_Store_init.nd (pi_range1 rfl T.b_range (pa_cons (pv 1) pa_nil)) (blkOk_by (own := [("number", 2)]) (N := ["self", "many", "number"]) (sc := defScope s_Store_init) (by decide +kernel)) (fun _ _ _ _ _ => by exact (pg_name (i := 2) c_Store_init.nd rfl (Or.inl rfl))) (fun _ _ _ _ _ => by exact pts_nil) (fun _ _ _ _ _ => by exact (pe_i0 G_Client hr))) rfl)
        (pss_cons (ps_fld (pv 0) pe_dnewK rfl)
        (pss_cons (ps_fld (pv 0) pe_int rfl)
        (pss_one (ps_fld (pv 0) pe_int rfl)))))
      , ?_⟩
    obtain ⟨x, dx, n, nm, b, rfl, hn, hx, k⟩ := h
    refine ⟨_, rfl, ?_⟩
    refine ⟨_, rfl, by omega, by omega, fun L nL => lc_range (lo := 0) (n := n) (fun j H1 => ∃ (acc : List V) (ro : Rm), Bld H L acc H1 ∧ acc.length = j ∧ Fs (fun a => if a = L then some (.lst []) else H a) ro ∧ ∀ i, i < j → ∃ ca, acc[i]? = some (.ref ca) ∧ ClientAt K ad nm ro H1 b i ca emptyClient)
      ⟨[], fun _ => none, Bld.start nL, rfl, (fun a r z => by cases z), fun i hi => by omega⟩ ?_ ?_⟩
    · rintro j H1 hj ⟨acc, ro, hB, ha, hF, hC⟩
      refine ⟨rfl, yes ?_⟩
      intro y dy ny nd nyd
      have s1 : Same H1 (upd (upd H1 dy (.own y)) y (.ins ad.client dy [])) := (Same.new nd).trans (Same.new ((upd_ne (Ne.symm nyd)).trans ny))
      refine ⟨y, dy, rfl, upd_same, fun H2 sl ib m1 m2 kp e1 e2 e3 => ⟨rfl, ?_⟩⟩
      have s2 : Same H1 H2 := fun a o e => kp a o (ne_of_none e ny) (s1 a o e)
      have B2 := hB.grow s2
      have z0 : ∀ a, H1 a = none → (fun a => if a = L then some (HO.lst []) else H a) a = none := fun a e => by
        have : a ≠ L := fun z => by rw [z, hB.at_] at e; cases e
        show (if a = L then _ else H a) = none
        rw [if_neg this]
        exact hB.sm.free e
      obtain ⟨p1, p2⟩ := placed T (nm := nm) (b := b) (i := j) hF (z0 _ ny) (z0 _ (s1.free m1)) (z0 _ (s1.free m2)) e1 e2 e3
      have rn : RoN H1 ro (upR (upR (upR ro y (.client b j)) sl (.slots b j)) ib (.inbox b j)) := ((RoN.refl.up ny).up (s1.free m1)).up (s1.free m2)
      refine ⟨acc, B2.at_, small1000 (by omega), acc ++ [.ref y], _, B2.put nL, by rw [List.length_append, ha]; rfl, p2, fun i hi => ?_⟩
      have fin : ∀ {i ca c}, ClientAt K ad nm (upR (upR (upR ro y (.client b j)) sl (.slots b j)) ib (.inbox b j)) H2 b i ca c → ClientAt K ad nm (upR (upR (upR ro y (.client b j)) sl (.slots b j)) ib (.inbox b j)) (upd H2 L (.lst (acc ++ [.ref y]))) b i ca c := fun {i ca c} h =>
        h.keep ⟨Tups.write B2.at_ (fun _ z => by cases z), fun a o r e q _ => ⟨(upd_ne fun z => by
          have := p2 a r q
          rw [z] at this
          simp at this).trans e, q⟩⟩
      by_cases c : i < j
      · obtain ⟨ca, q1, q2⟩ := hC i c
        exact ⟨ca, by rw [List.getElem?_append_left (by omega)]; exact q1, fin (q2.keep (Kept.of s2 rn))⟩
      · have : i = j := by omega
        subst this
        exact ⟨y, by rw [List.getElem?_append_right (by omega), ha]; simp, fin p1⟩
    · rintro H1 ⟨acc, ro, hB, ha, hF, hC⟩
      have nxL : x ≠ L := ne_of_none hx nL
      refine ⟨_, rfl, x, _, dx, _, rfl, hB.sm _ _ hx, T.k_store, T.n_clients, by decide, ?_⟩
      intro td ntd
      have ntx : x ≠ td := ne_of_none upd_same ntd
      have ntd1 : H1 td = none := (upd_ne (Ne.symm ntx)).symm.trans ntd
      have ntL : td ≠ L := fun z => by rw [z, hB.at_] at ntd1; cases ntd1
      refine ⟨_, rfl, x, _, dx, _, rfl, (upd_ne ntx).trans upd_same, T.k_store, T.n_things, by show 1 < 1000; decide, ?_⟩
      refine ⟨_, rfl, x, _, dx, _, rfl, upd_same, T.k_store, T.n_created, by show 2 < 1000; decide, ?_⟩
      refine ⟨_, rfl, x, _, dx, _, rfl, upd_same, T.k_store, T.n_last, by show 3 < 1000; decide, ?_⟩
      have oth : ∀ a o, a ≠ x → H1 a = some o → (upd (upd (upd (upd (upd H1 x (.ins ad.store dx (putF "clients" (.ref L) []))) td (.dK [])) x (.ins ad.store dx (putF "things" (.ref td) (putF "clients" (.ref L) [])))) x (.ins ad.store dx (putF "created" (.int 0) (putF "things" (.ref td) (putF "clients" (.ref L) []))))) x
          (.ins ad.store dx (putF "last" (.int 0) (putF "created" (.int 0) (putF "things" (.ref td) (putF "clients" (.ref L) [])))))) a = some o := fun a o na e => by
        rw [upd_ne na, upd_ne na, upd_ne na, upd_ne (ne_of_none e ntd1), upd_ne na]
        exact e
      refine k _ (upR (upR (upR ro x (.store b)) L (.cls b)) td (.things b)) L td acc (fun a o na e => oth a o na (hB.sm _ _ e)) ?_ ?_
      · intro a r q
        show (if a = x then none else H a) = none
        by_cases c1 : a = x
        · rw [if_pos c1]
        · rw [if_neg c1]
          by_cases c2 : a = td
          · rw [c2]; exact hB.sm.free ntd1
          · rw [upR_ne c2] at q
            by_cases c3 : a = L
            · rw [c3]; exact nL
            · rw [upR_ne c3, upR_ne c1] at q
              have := hF a r q
              rw [show (fun a => if a = L then some (HO.lst []) else H a) a = H a from if_neg c3] at this
              exact this
      · refine ⟨upd_same, by rw [upR_ne ntx, upR_ne nxL, upR_same], oth _ _ (Ne.symm nxL) hB.at_, by rw [upR_ne (Ne.symm ntL), upR_same], by rw [List.length_replicate]; exact ha, fun i c e => ?_, ?_, upR_same, .nil⟩
        · have hi : i < n := by have := (List.getElem?_eq_some_iff.mp e).1; rwa [List.length_replicate] at this
          obtain rfl : c = emptyClient := by
            rw [List.getElem?_replicate, if_pos hi] at e
            exact (Option.some.inj e).symm
          obtain ⟨ca, q1, q2⟩ := hC i hi
          refine ⟨ca, q1, q2.keep ⟨fun a xs e => oth a _ (fun z => ?_) e, fun a o r e q _ => ?_⟩⟩
          · rw [z, hB.sm _ _ hx] at e; cases e
          · have hf := hF a r q
            have c3 : a ≠ L := fun z => by rw [z] at hf; simp at hf
            have hf2 : H a = none := by rw [← hf]; exact (if_neg c3).symm
            have c1 : a ≠ x := fun z => by rw [z, hx] at hf2; cases hf2
            exact ⟨oth a o c1 e, by rw [upR_ne (ne_of_none e ntd1), upR_ne c3, upR_ne c1]; exact q⟩
        · rw [upd_ne (Ne.symm ntx), upd_ne (Ne.symm ntx), upd_ne (Ne.symm ntx)]
          exact upd_same
end
end Sh


set_option maxHeartbeats 2000000
namespace Sh
open PySem PySem.Spec PyProof.Rows L2
open Vbxlaa (fieldsOf rootsOf rootValues clientAt emptyClient)
/-- what a change of the store b leaves -/
structure Ch (b : Bool) (H H' : Hp) (ro ro' : Rm) : Prop where
  old : ∀ a o, H a = some o → (∀ r, ro a = some r → r = .imm ∨ r.own b = false) → H' a = some o
  rn : RoN H ro ro'
  tp : Tups H H'
  al : ∀ a o, H a = some o → ∃ o', H' a = some o'
theorem Ch.same {b : Bool} {H H' : Hp} {ro ro' : Rm} (s : Same H H') (r : RoN H ro ro') : Ch b H H' ro ro' := ⟨fun a o e _ => s a o e, r, Same.tups s, fun a o e => ⟨o, s a o e⟩⟩
theorem Ch.trans {b : Bool} {H H1 H2 : Hp} {ro ro1 ro2 : Rm} (x : Ch b H H1 ro ro1) (y : Ch b H1 H2 ro1 ro2) : Ch b H H2 ro ro2 := by
  refine ⟨fun a o e h => y.old a o (x.old a o e h) fun r q => h r ((x.rn a o e).symm.trans q), fun a o e => ?_, x.tp.trans y.tp, fun a o e => ?_⟩
  · obtain ⟨o1, e1⟩ := x.al a o e
    exact (y.rn a o1 e1).trans (x.rn a o e)
  · obtain ⟨o1, e1⟩ := x.al a o e
    exact y.al a o1 e1
theorem Ch.wr {b : Bool} {H : Hp} {ro : Rm} {a : Addr} {o u : HO} {r : Ro} (e : H a = some o) (q : ro a = some r) (hb : r.own b = true) (hi : r ≠ .imm) (ht : ∀ xs, o ≠ .tup xs) : Ch b H (upd H a u) ro ro := by
  refine ⟨fun x v ex h => ?_, RoN.refl, Tups.write e ht, fun x v ex => ?_⟩
  · rw [upd_ne fun z => ?_]
    · exact ex
    · subst z
      rcases h r q with h | h
      · exact hi h
      · rw [hb] at h; cases h
  · by_cases c : x = a
    · exact ⟨u, c ▸ upd_same⟩
    · exact ⟨v, (upd_ne c).trans ex⟩
theorem valV_thing_none {K : PySem.W.Frag} {nm : Nat → Int} {ro : Rm} {H : Hp} {b : Bool} (inj : ∀ i j, nm i = nm j → i = j) {i : Nat} : ∀ {kvs : List (Key × V)} {l : List VO}, Paired (ThingAt K nm ro H b) kvs l → (∀ o ∈ l, o.id ≠ i) → valV kvs (.inl (nm i)) = none
  | _, _, .nil, _ => rfl
  | kv :: kvs, o :: l, .cons r t, h => by
    refine (valV_neg (p := kv) fun z => ?_).trans (valV_thing_none inj t fun o m => h o (List.mem_cons_of_mem _ m))
    rw [r.1] at z
    exact h o List.mem_cons_self (inj _ _ (Sum.inl.inj z))
theorem rep_flat (v : V) : ∀ n : Nat, (List.replicate n [v]).flatten = List.replicate n v
  | 0 => rfl
  | n + 1 => by rw [List.replicate_succ, List.flatten_cons, rep_flat v n]; rfl
section
variable {P : Program} {w : World} {K : PySem.W.Frag} {mg : Str → Option Value} {base : Heap} {ad : Ad}
/-! ### Store.make -/
def made1 (S : VSt) (n : Nat) : VSt := { S with made := S.made + 1, objects := S.objects ++ [⟨S.made, List.replicate n .nothing⟩] }
def spMake (K : PySem.W.Frag) (ad : Ad) : Sp := fun vs H Q _ => ∃ (sa dx cl td : Addr) (nm : Nat → Int) (ro : Rm) (b : Bool) (S : VSt) (R : Nat → Prop) (n : Nat) (cvs : List V) (kvs : List (Key × V)) (last : Int), vs = [.ref sa, .int (n : Nat)] ∧ Raw K ad nm ro H b sa dx cl td S.clients S.objects S.made last cvs kvs ∧ NmOk nm S.made last ∧ Wf S R ∧ n ≤ 4 ∧
  ∀ H' ro' kvs' last', Ch b H H' ro ro' → (∀ a o i, H a = some o → ro a = some (.client b i) ∨ ro a = some (.slots b i) ∨ ro a = some (.inbox b i) → H' a = some o) → Raw K ad nm ro' H' b sa dx cl td S.clients (S.objects ++ [⟨S.made, List.replicate n .nothing⟩]) ((S.made : Int) + 1) last' cvs kvs' → NmOk nm (S.made + 1) last' → Q (.int (nm S.made)) H'
theorem ok_Store_make (T : Tx K mg ad) (D : Dm K ad.store "make" "Store.make" s_Store_make ["self", "many"]) : OkM P w K mg base 1 ad.store "make" ["self", "many"] (spMake K ad) := by
  refine D.ok c_Store_make (fun vs H Q E h => ?_) (fun f cdv A outer s H vs Q E hr h => ?_)
  · obtain ⟨sa, dx, cl, td, nm, ro, b, S, R, n, cvs, kvs, last, rfl, _⟩ := h
    rfl
  · refine ⟨_,
      (pss_cons (ps_fld (pv 0) (pe_op op_add (pe_fld (pv 0) rfl) pe_int) rfl)
        (pss_cons (ps_fld (pv 0) (pe_op op_add (pe_fld (pv 0) rfl) pe_int) rfl)
        (pss_cons (ps_asg (pe_op op_rep (pe_lst (pa_cons (pe_glob (v := .ref ad.nothing) rfl T.g_NOTHING rfl) pa_nil)) (pv 1)) (pg_sub (pe_fld (pv 0) rfl) (pe_fld (pv 0) rfl) (set_dict (hu_of hr))))
        (pss_one (ps_ret (pe_fld (pv 0) rfl))))))
      , ?_⟩
    obtain ⟨sa, dx, cl, td, nm, ro, b, S, R, n, cvs, kvs, last, rfl, r, nk, wf, hn, k⟩ := h
    have hol := wf.ol
    have hmx := wf.mx
    have hkv : kvs.length = S.objects.length := Paired.length r.th
    have enm : nm S.made = last + 1 := by rw [nk.next _ (Nat.le_refl _), Nat.sub_self]; simp
    have r1 := r.nums (made' := S.made) (last' := last + 1) rfl
    have ch1 := Ch.wr (b := b) (u := .ins ad.store dx [("clients", .ref cl), ("things", .ref td), ("created", .int S.made), ("last", .int (last + 1))]) r.ha r.ra (by simp [Ro.own]) (by simp) (fun _ z => by cases z)
    have r2 := r1.nums (made' := S.made + 1) (last' := last + 1) rfl
    have ch2 := Ch.wr (b := b) (u := .ins ad.store dx [("clients", .ref cl), ("things", .ref td), ("created", .int (S.made + 1)), ("last", .int (last + 1))]) r1.ha r.ra (by simp [Ro.own]) (by simp) (fun _ z => by cases z)
    refine ⟨_, rfl, sa, _, dx, _, _, rfl, r.ha, T.k_store, T.n_last, rfl, _, _, rfl, rfl, _, rfl, sa, _, dx, _, rfl, r.ha, T.k_store, T.n_last, by show 4 < 1000; decide, ?_⟩
    refine ⟨_, rfl, sa, _, dx, _, _, rfl, upd_same, T.k_store, T.n_created, rfl, _, _, rfl, rfl, _, rfl, sa, _, dx, _, rfl, upd_same, T.k_store, T.n_created, by show 4 < 1000; decide, ?_⟩
    have s3 : Same (upd (upd H sa (.ins ad.store dx [("clients", .ref cl), ("things", .ref td), ("created", .int S.made), ("last", .int (last + 1))])) sa (.ins ad.store dx [("clients", .ref cl), ("things", .ref td), ("created", .int (S.made + 1)), ("last", .int (last + 1))])) _ := Same.refl _
    refine ⟨leLine (by show 1 ≤ 1000; decide), fun l0 n0 => ⟨_, rfl, l0, _, _, rfl, rfl, upd_same, by omega, by omega, leLine (by show 1 * _ ≤ 1000; omega), fun p np => ?_⟩⟩
    have s4 := (Same.new (o := .lst [.ref ad.nothing]) n0).trans (Same.new (o := .lst (List.replicate n [V.ref ad.nothing]).flatten) np)
    have np0 := (Same.new (o := .lst [.ref ad.nothing]) n0).free np
    have eflat : (List.replicate n [V.ref ad.nothing]).flatten = List.replicate n (V.ref ad.nothing) := rep_flat _ n
    have r4 := r2.keep (Kept.of s4 (RoN.refl.up (r := .thing b S.made) np0))
    have th4 : ThingAt K nm (upR ro p (.thing b S.made)) (upd (upd (upd (upd H sa (.ins ad.store dx [("clients", .ref cl), ("things", .ref td), ("created", .int S.made), ("last", .int (last + 1))])) sa (.ins ad.store dx [("clients", .ref cl), ("things", .ref td), ("created", .int (S.made + 1)), ("last", .int (last + 1))])) l0 (.lst [.ref ad.nothing])) p (.lst (List.replicate n [V.ref ad.nothing]).flatten)) b (Sum.inl (nm S.made), .ref p) ⟨S.made, List.replicate n .nothing⟩ :=
      ⟨rfl, p, _, rfl, upd_same, upR_same, by rw [eflat]; exact nothing_row T n⟩
    have r5 := r4.addT th4
    have nokv : valV kvs (.inl (nm S.made)) = none := valV_thing_none nk.inj r4.th fun o m e => by have := wf.lt o m; omega
    rw [← putK_new nokv, enm] at r5
    refine ⟨_, rfl, sa, _, dx, _, _, rfl, r4.ha, T.k_store, T.n_things, rfl, _, rfl, sa, _, dx, _, _, rfl, r4.ha, T.k_store, T.n_last, rfl, td, _, rfl, DPut.k (k := Sum.inl (last + 1)) r4.ht (small1000 (by omega)), ?_⟩
    refine ⟨_, rfl, sa, _, dx, _, _, rfl, r5.ha, T.k_store, T.n_last, rfl, ?_⟩
    rw [enm] at k
    have ch3 := (ch1.trans ch2).trans ((Ch.same (b := b) s4 (RoN.refl.up (r := .thing b S.made) np0)).trans (Ch.wr (u := .dK (putK kvs (.inl (last + 1)) (.ref p))) r4.ht r4.rt (by simp [Ro.own]) (by simp) (fun _ z => by cases z)))
    refine k _ _ _ (last + 1) ch3 (fun a o i e h => ?_) r5 ⟨nk.inj, fun i hi => ?_⟩
    · have e2 : upd (upd H sa (.ins ad.store dx [("clients", .ref cl), ("things", .ref td), ("created", .int S.made), ("last", .int (last + 1))])) sa (.ins ad.store dx [("clients", .ref cl), ("things", .ref td), ("created", .int (S.made + 1)), ("last", .int (last + 1))]) a = some o := by
        have na : a ≠ sa := by rcases h with h | h | h <;> exact ne_role h r.ra (by simp)
        rw [upd_ne na, upd_ne na]
        exact e
      have nt : a ≠ td := by rcases h with h | h | h <;> exact ne_role h r.rt (by simp)
      rw [upd_ne nt]
      exact s4 _ _ e2
    · have hi2 : S.made + 1 ≤ i := hi
      show nm i = last + 1 + 1 + ((i - (S.made + 1) : Nat) : Int)
      rw [nk.next i (by omega)]
      omega
end
end Sh


set_option maxHeartbeats 2000000
namespace Sh
open PySem PySem.Spec PyProof.Rows L2
open Vbxlaa (fieldsOf rootsOf rootValues clientAt emptyClient)
open Classical in
noncomputable def immR (ro : Rm) (acc : List V) : Rm := fun a => if V.ref a ∈ acc then some .imm else ro a
theorem immR_in {ro : Rm} {acc : List V} {a : Addr} (h : V.ref a ∈ acc) : immR ro acc a = some .imm := if_pos h
theorem immR_out {ro : Rm} {acc : List V} {a : Addr} (h : V.ref a ∉ acc) : immR ro acc a = ro a := if_neg h
/-- a new message -/
def MsgNew (K : PySem.W.Frag) (nm : Nat → Int) (H0 : Hp) (D : Addr) (H : Hp) (v : V) (m : List VV) : Prop := ∃ ma mvs, v = V.ref ma ∧ H ma = some (.lst mvs) ∧ ma ≠ D ∧ H0 ma = none ∧ Row K nm H mvs m
theorem MsgNew.keep {K : PySem.W.Frag} {nm : Nat → Int} {H0 H H' : Hp} {D : Addr} {v : V} {m : List VV} (h : MsgNew K nm H0 D H v m) (t : Tups H H') (k : ∀ a o, a ≠ D → H0 a = none → H a = some o → H' a = some o) : MsgNew K nm H0 D H' v m := by
  obtain ⟨ma, mvs, e, h1, h2, h3, h4⟩ := h
  exact ⟨ma, mvs, e, k _ _ h2 h3 h1, h2, h3, h4.keep t⟩
section
variable {P : Program} {w : World} {K : PySem.W.Frag} {mg : Str → Option Value} {base : Heap} {ad : Ad}
def spDuplicate (K : PySem.W.Frag) (ad : Ad) : Sp := fun vs H Q _ => ∃ (sa : Addr) (nm : Nat → Int) (ro : Rm) (b b' : Bool) (S : VSt) (R : Nat → Prop), vs = [.ref sa] ∧ StoreAt K ad nm ro H b sa S ∧ Wf S R ∧
  ∀ H' ro2 p, Same H H' → Fs H ro2 → StoreAt K ad nm ro2 H' b' p S → Q (.ref p) H'
theorem ok_Store_duplicate (T : Tx K mg ad) (D : Dm K ad.store "duplicate" "Store.duplicate" s_Store_duplicate ["self"]) (G_Client : OkI P w K mg base 1 "Client" ad.client ["self"] (spClientInit ad)) (G_Store : OkI P w K mg base 3 "Store" ad.store ["self", "many"] (spStoreInit K ad)) :
    OkM P w K mg base 5 ad.store "duplicate" ["self"] (spDuplicate K ad) := by
  refine D.ok c_Store_duplicate (fun vs H Q E h => ?_) (fun f cdv A outer s H vs Q E hr h => ?_)
  · obtain ⟨sa, nm, ro, b, b', S, R, rfl, _⟩ := h
    rfl
  · refine ⟨_,
      (pss_cons (ps_set (i := 1) c_Store_duplicate.nd rfl (Or.inl rfl) (pe_i G_Store hr (pa_cons pe_int pa_nil)))
        (pss_cons (ps_for (passes_of rfl) rfl (pi_list (pe_fld (pv 0) rfl)) (pg_name (i := 2) c_Store_duplicate.nd rfl (Or.inl rfl))
          (pss_cons (ps_set (i := 3) c_Store_duplicate.nd rfl (Or.inl rfl) (pe_i0 G_Client hr))
          (pss_cons (ps_fld (pv 3) (pe_callTy call_list_of (by rfl) T.b_list (by decide +kernel) (pa_cons (pe_fld (pv 2) rfl) pa_nil)) rfl)
          (pss_cons (ps_fld (pv 3) (pe_lc (own := [("message", 5)]) (g := (gName 5)) (tt := tYes) rfl c_Store_duplicate.nd (pi_list (pe_fld (pv 2) rfl)) (blkOk_by (own := [("message", 5)]) (N := ["self", "found", "client", "other", "name", "message"]) (sc := defScope s_Store_duplicate) (by decide +kernel)) (fun _ _ _ _ _ => by exact (pg_name (i := 5) c_Store_duplicate.nd rfl (Or.inl rfl))) (fun _ _ _ _ _ => by exact pts_nil) (fun _ _ _ _ _ => by exact (pe_callTy (call_list_ofK (K := K)) (by rfl) T.b_list (by decide +kernel) (by exact (pa_cons (pv 5) pa_nil))))) rfl)
          (pss_one (ps_expr (pe_bm PySem.F.plainAttrs_list PySem.F.slot_list_append PySem.F.type_list_append mt_append (pe_fld (pv 1) rfl) (pa_cons (pv 3) pa_nil))))))))
        (pss_cons (ps_for (passes_of rfl) rfl (pi_list (pe_callTy (call_list_dK rfl) (by rfl) T.b_list (by decide +kernel) (pa_cons (pe_fld (pv 0) rfl) pa_nil))) (pg_name (i := 4) c_Store_duplicate.nd rfl (Or.inl rfl))
          (pss_one (ps_asg (pe_callTy call_list_of (by rfl) T.b_list (by decide +kernel) (pa_cons (pe_dget (hu_of hr) (pe_fld (pv 0) rfl) (pv 4) (fun _ _ => rfl)) pa_nil)) (pg_sub (pe_fld (pv 1) rfl) (pv 4) (set_dict (hu_of hr))))))
        (pss_cons (ps_fld (pv 1) (pe_fld (pv 0) rfl) rfl)
        (pss_cons (ps_fld (pv 1) (pe_fld (pv 0) rfl) rfl)
        (pss_one (ps_ret (pv 1))))))))
      , ?_⟩
    obtain ⟨sa, nm, ro, b, b', S, R, rfl, hS, wf, k⟩ := h
    obtain ⟨dx, cl, td, cvs, kvs, last, r0, nk⟩ := hS.raw
    have hol := wf.ol
    have hmx := wf.mx
    have hc4 := wf.c4
    intro fa fx nfa nfx nfx2
    have sz : Same H (upd (upd H fx (.own fa)) fa (.ins ad.store fx [])) := (Same.new nfx).trans (Same.new ((upd_ne (Ne.symm nfx2)).trans nfa))
    refine ⟨fa, fx, 0, nm, b', rfl, by decide, upd_same, fun H1 ro1 cl' td' cvs1 kp fs1 raw1 => ⟨rfl, ?_⟩⟩
    have s1 : Same H H1 := fun a o e => kp a o (ne_of_none e nfa) (sz a o e)
    have f1 : Fs H ro1 := fun a r q => by
      have z := fs1 a r q
      by_cases c : a = fa
      · rw [c]; exact nfa
      · exact sz.free ((if_neg c).symm.trans z)
    refine ⟨_, rfl, sa, _, dx, _, _, rfl, s1 _ _ r0.ha, T.k_store, T.n_clients, rfl, cl, rfl, ⟨_, SqL.of (s1 _ _ r0.hc)⟩, ?_⟩
    refine for_list (K := K) (a := cl) (xs := cvs) (fun j σ H2 => ∃ (v2 v3 v4 v5 : Option V) (ro2 : Rm) (cvs2 : List V), σ = [some (.ref sa), some (.ref fa), v2, v3, v4, v5] ∧ Same H H2 ∧ Fs H ro2 ∧ Raw K ad nm ro2 H2 b' fa fx cl' td' (S.clients.take j) [] 0 0 cvs2 [])
      ⟨none, none, none, none, ro1, cvs1, rfl, s1, f1, raw1⟩ (fun j σ H2 _ ⟨_, _, _, _, _, _, _, sm, _⟩ => SqL.of (sm _ _ r0.hc)) ?_ ?_
    · rintro j x σ H2 hj ⟨v2, v3, v4, v5, ro2, cvs2, rfl, s2, f2, raw2⟩
      have hj2 : j < S.clients.length := by rw [← r0.ln]; exact (List.getElem?_eq_some_iff.mp hj).1
      obtain ⟨c, hc⟩ : ∃ c, S.clients[j]? = some c := ⟨_, List.getElem?_eq_getElem hj2⟩
      obtain ⟨ca, e1, hC⟩ := r0.ct j c hc
      rw [hj] at e1
      cases e1
      have cok := wf.cok (List.mem_of_getElem? hc)
      obtain ⟨dxc, csl, cib, svs, ims, c1, c2, c3, c4, c5, c6, c7, c8⟩ := hC
      have hims : ims.length = c.inbox.length := Paired.length c8
      have hib := cok.ib
      have hcv2 : cvs2.length = j := by rw [raw2.ln, List.length_take]; omega
      -- other = Client()
      intro y dy ny nd nyd
      have s20 : Same H2 (upd (upd H2 dy (.own y)) y (.ins ad.client dy [])) := (Same.new nd).trans (Same.new ((upd_ne (Ne.symm nyd)).trans ny))
      refine ⟨y, dy, rfl, upd_same, fun H3 sl ib m1 m2 kp3 e1 e2 e3 => ⟨rfl, ?_⟩⟩
      have s3 : Same H2 H3 := fun a o e => kp3 a o (ne_of_none e ny) (s20 a o e)
      have s03 := s2.trans s3
      -- other.slots = list(client.slots)
      refine ⟨_, rfl, ca, _, dxc, _, _, rfl, s03 _ _ c1, T.k_client, T.n_slots, rfl, csl, svs, rfl, .inl (SqL.of (s03 _ _ c3)), fun l1 nl1 => ?_⟩
      have nyl : y ≠ l1 := ne_of_none e1 nl1
      refine ⟨_, rfl, y, _, dy, _, rfl, (upd_ne nyl).trans e1, T.k_client, T.n_slots, by show 2 < 1000; decide, ?_⟩
      have s4 : Same H2 (upd (upd H3 l1 (.lst svs)) y (.ins ad.client dy (putF "slots" (.ref l1) [("slots", .ref sl), ("inbox", .ref ib)]))) := Same.put (s3.trans (Same.new nl1)) ny
      have s04 := s2.trans s4
      have nl2 : H2 l1 = none := s3.free nl1
      -- other.inbox = [list(message) for message in client.inbox]
      refine ⟨_, rfl, ca, _, dxc, _, _, rfl, s04 _ _ c1, T.k_client, T.n_inbox, rfl, cib, rfl, ⟨_, SqL.of (s04 _ _ c6)⟩, fun D nD => ?_⟩
      have hy4 : upd (upd H3 l1 (.lst svs)) y (.ins ad.client dy (putF "slots" (.ref l1) [("slots", .ref sl), ("inbox", .ref ib)])) y = some (.ins ad.client dy [("slots", .ref l1), ("inbox", .ref ib)]) := upd_same
      have hl4 : upd (upd H3 l1 (.lst svs)) y (.ins ad.client dy (putF "slots" (.ref l1) [("slots", .ref sl), ("inbox", .ref ib)])) l1 = some (.lst svs) := (upd_ne (Ne.symm nyl)).trans upd_same
      generalize upd (upd H3 l1 (.lst svs)) y (.ins ad.client dy (putF "slots" (.ref l1) [("slots", .ref sl), ("inbox", .ref ib)])) = H4 at *
      refine lc_list (K := K) (a := cib) (xs := ims) (fun i H5 => ∃ acc : List V, Bld H4 D acc H5 ∧ Paired (MsgNew K nm H4 D H5) acc (c.inbox.take i)) ⟨[], Bld.start nD, .nil⟩ (fun i H5 _ ⟨_, hB, _⟩ => SqL.of (hB.sm _ _ (s04 _ _ c6))) ?_ ?_
      · rintro i x H5 hi ⟨acc, hB, hP⟩
        obtain ⟨m, hm, ma, mvs, rfl, g1, g2, g3⟩ := pair_get' c8 hi
        have hi2 : i < c.inbox.length := (List.getElem?_eq_some_iff.mp hm).1
        have hal : acc.length = i := by rw [Paired.length hP, List.length_take]; omega
        refine ⟨rfl, yes ?_⟩
        refine ⟨_, rfl, ma, mvs, rfl, .inl (SqL.of (hB.sm _ _ (s04 _ _ g1))), fun q nq => ?_⟩
        have nqD : q ≠ D := Ne.symm (ne_of_none hB.at_ nq)
        refine ⟨acc, (upd_ne (Ne.symm nqD)).trans hB.at_, small1000 (by omega), acc ++ [.ref q], (hB.new nq).put nD, ?_⟩
        have tp : Tups H5 (upd (upd H5 q (.lst mvs)) D (.lst (acc ++ [.ref q]))) := (Tups.new nq).trans (Tups.write ((upd_ne (Ne.symm nqD)).trans hB.at_) fun _ z => by cases z)
        obtain ⟨hq1, eq1⟩ := List.getElem?_eq_some_iff.mp hm
        rw [List.take_succ_eq_append_getElem hq1, eq1]
        refine pair_snoc (Paired.mapP hP fun v m h => h.keep tp fun a o na _ e => ?_) ⟨q, mvs, rfl, (upd_ne nqD).trans upd_same, nqD, hB.sm.free nq, g3.keep ((Same.tups (s04.trans hB.sm)).trans tp)⟩
        rw [upd_ne na]
        exact Same.new nq _ _ e
      · rintro H5 ⟨acc, hB, hP⟩
        rw [hims, List.take_length] at hP
        have s45 := hB.sm
        refine ⟨_, rfl, y, _, dy, _, rfl, s45 _ _ hy4, T.k_client, T.n_inbox, by show 2 < 1000; decide, ?_⟩
        have hyD : y ≠ D := ne_of_none hy4 nD
        have hlD : l1 ≠ D := ne_of_none hl4 nD
        have s25 : Same H2 (upd H5 y (.ins ad.client dy (putF "inbox" (.ref D) [("slots", .ref l1), ("inbox", .ref ib)]))) := Same.put (s4.trans s45) ny
        have nD2 : H2 D = none := s4.free nD
        have inacc : ∀ a, V.ref a ∈ acc → H4 a = none ∧ a ≠ D := fun a ha => by
          obtain ⟨i, hi, ei⟩ := List.getElem_of_mem ha
          obtain ⟨m, _, ma, mvs, e, _, q1, q2, _⟩ := pair_get' hP ((List.getElem?_eq_getElem hi).trans (congrArg some ei))
          cases e
          exact ⟨q2, q1⟩
        have oy : V.ref y ∉ acc := fun z => by rw [(inacc y z).1] at hy4; cases hy4
        have ol : V.ref l1 ∉ acc := fun z => by rw [(inacc l1 z).1] at hl4; cases hl4
        have oD : V.ref D ∉ acc := fun z => (inacc D z).2 rfl
        have rn : RoN H2 ro2 (immR (upR (upR (upR ro2 y (.client b' j)) l1 (.slots b' j)) D (.inbox b' j)) acc) := fun a o e => by
          rw [immR_out fun z => by
            have h1 := (inacc a z).1
            rw [s4 _ _ e] at h1
            cases h1]
          exact (((RoN.refl.up ny).up nl2).up nD2) a o e
        have fs : Fs H (immR (upR (upR (upR ro2 y (.client b' j)) l1 (.slots b' j)) D (.inbox b' j)) acc) := fun a r q => by
          by_cases z : V.ref a ∈ acc
          · exact s04.free (inacc a z).1
          · rw [immR_out z] at q
            exact (((f2.up (s2.free ny)).up (s2.free nl2)).up (s2.free nD2)) a r q
        have raw3 := raw2.keep (Kept.of s25 rn)
        have tp5 : Tups H5 (upd H5 y (.ins ad.client dy (putF "inbox" (.ref D) [("slots", .ref l1), ("inbox", .ref ib)]))) := Tups.write (s45 _ _ hy4) fun _ z => by cases z
        have cnew : ClientAt K ad nm (immR (upR (upR (upR ro2 y (.client b' j)) l1 (.slots b' j)) D (.inbox b' j)) acc) (upd H5 y (.ins ad.client dy (putF "inbox" (.ref D) [("slots", .ref l1), ("inbox", .ref ib)]))) b' (S.clients.take j).length y c := by
          rw [List.length_take, Nat.min_eq_left (Nat.le_of_lt hj2)]
          refine ⟨dy, l1, D, svs, acc, upd_same, by rw [immR_out oy, upR_ne hyD, upR_ne nyl, upR_same], (upd_ne (Ne.symm nyl)).trans (s45 _ _ hl4), by rw [immR_out ol, upR_ne hlD, upR_same], c5.keep (Same.tups (s2.trans s25)), (upd_ne (Ne.symm hyD)).trans hB.at_, by rw [immR_out oD, upR_same], ?_⟩
          refine pair_of_get (Paired.length hP) fun i v m hv hm => ?_
          obtain ⟨m', hm', ma, mvs, e, q0, q1, q2, q3⟩ := pair_get' hP hv
          rw [hm] at hm'
          cases hm'
          have nma : ma ≠ y := fun z => by rw [z, hy4] at q2; cases q2
          exact ⟨ma, mvs, e, (upd_ne nma).trans q0, immR_in (e ▸ List.mem_of_getElem? hv), q3.keep tp5⟩
        refine ⟨_, rfl, fa, _, fx, _, _, rfl, raw3.ha, T.k_store, T.n_clients, rfl, .inl ⟨rfl, _, SqL.of raw3.hc⟩, _, rfl, cl', cvs2, _, rfl, rfl, raw3.hc, small1000 (by omega), ?_⟩
        have et : S.clients.take (j + 1) = S.clients.take j ++ [c] := by
          obtain ⟨hq, e⟩ := List.getElem?_eq_some_iff.mp hc
          rw [List.take_succ_eq_append_getElem hq, e]
        have ncl : H cl' = none := fs _ _ raw3.rc
        refine ⟨_, _, _, _, _, cvs2 ++ [.ref y], rfl, Same.put (s2.trans s25) ncl, fs, ?_⟩
        rw [et]
        exact raw3.addC cnew
    · rintro σ H2 ⟨v2, v3, v4, v5, ro2, cvs2, rfl, s2, f2, raw2⟩
      rw [r0.ln, List.take_length] at raw2
      refine ⟨_, rfl, sa, _, dx, _, _, rfl, s2 _ _ r0.ha, T.k_store, T.n_things, rfl, td, kvs, rfl, s2 _ _ r0.ht, fun q nq => ?_⟩
      rw [thing_keys r0.th]
      have s3 := s2.trans (Same.new (o := .lst (S.objects.map fun o => V.int (nm o.id))) nq)
      refine ⟨q, rfl, ⟨_, SqL.of upd_same⟩, ?_⟩
      refine for_list (K := K) (a := q) (xs := S.objects.map fun o => V.int (nm o.id)) (fun j σ H3 => ∃ (v2 v3 v4 v5 : Option V) (ro3 : Rm) (kvs3 : List (Key × V)), σ = [some (.ref sa), some (.ref fa), v2, v3, v4, v5] ∧ Same H H3 ∧ H3 q = some (.lst (S.objects.map fun o => V.int (nm o.id))) ∧ Fs H ro3 ∧
          Raw K ad nm ro3 H3 b' fa fx cl' td' S.clients (S.objects.take j) 0 0 cvs2 kvs3)
        ⟨v2, v3, v4, v5, ro2, [], rfl, s3, upd_same, f2, raw2.keep (Kept.of (Same.new nq) RoN.refl)⟩ (fun j σ H3 _ ⟨_, _, _, _, _, _, _, _, hq, _⟩ => SqL.of hq) ?_ ?_
      · rintro j x σ H3 hj ⟨v2, v3, v4, v5, ro3, kvs3, rfl, s3, hq, f3, raw3⟩
        rw [List.getElem?_map] at hj
        obtain ⟨o, ho, rfl⟩ := Option.map_eq_some_iff.mp hj
        obtain ⟨ta, tvs, q1, q2, q3, q4⟩ := valV_thing r0.th nk.inj wf.nd (List.mem_of_getElem? ho)
        have hj2 : j < S.objects.length := (List.getElem?_eq_some_iff.mp ho).1
        have hk3 : kvs3.length = j := by rw [Paired.length raw3.th, List.length_take]; omega
        refine ⟨_, rfl, sa, _, dx, _, _, rfl, s3 _ _ r0.ha, T.k_store, T.n_things, rfl, _, rfl, td, .ref ta, rfl, q1 ▸ DGet.k (k := Sum.inl (nm o.id)) (s3 _ _ r0.ht), ta, tvs, rfl, .inl (SqL.of (s3 _ _ q2)), fun l nl => ?_⟩
        have s34 : Same H3 (upd H3 l (.lst tvs)) := Same.new nl
        have raw4 := raw3.keep (Kept.of s34 (RoN.refl.up (r := .thing b' o.id) nl))
        refine ⟨_, rfl, fa, _, fx, _, _, rfl, raw4.ha, T.k_store, T.n_things, rfl, _, rfl, td', _, rfl, DPut.k (k := Sum.inl (nm o.id)) raw4.ht (small1000 (by omega)), ?_⟩
        have et : S.objects.take (j + 1) = S.objects.take j ++ [o] := by
          obtain ⟨hq, e⟩ := List.getElem?_eq_some_iff.mp ho
          rw [List.take_succ_eq_append_getElem hq, e]
        have nokv : valV kvs3 (.inl (nm o.id)) = none := valV_thing_none nk.inj raw3.th fun p m e => by
          obtain ⟨i, hi, ei⟩ := List.getElem_of_mem m
          rw [List.length_take] at hi
          rw [List.getElem_take] at ei
          have g1 : (S.objects.map fun o => o.id)[i]? = some o.id := by
            rw [List.getElem?_map, List.getElem?_eq_getElem (by omega), ei, ← e]
            rfl
          have g2 : (S.objects.map fun o => o.id)[j]? = some o.id := by rw [List.getElem?_map, ho]; rfl
          have := nodup_ix' wf.nd g1 g2
          omega
        have ntd : H td' = none := f3 _ _ raw3.rt
        have nqt : q ≠ td' := ne_of hq raw3.ht (by intro z; cases z)
        rw [putK_new nokv, et]
        refine ⟨_, _, _, _, _, _, rfl, Same.put (s3.trans s34) ntd, (upd_ne nqt).trans (s34 _ _ hq), f3.up (r := .thing b' o.id) (s3.free nl), raw4.addT ⟨rfl, l, tvs, rfl, upd_same, upR_same, q4.keep ((Same.tups s3).trans (Same.tups s34))⟩⟩
      · rintro σ H3 ⟨v2, v3, v4, v5, ro3, kvs3, rfl, s3, hq, f3, raw3⟩
        rw [List.length_map, List.take_length] at raw3
        have nfa' : H fa = none := nfa
        refine ⟨_, rfl, sa, _, dx, _, _, rfl, s3 _ _ r0.ha, T.k_store, T.n_created, rfl, _, rfl, fa, _, fx, _, rfl, raw3.ha, T.k_store, T.n_created, by show 4 < 1000; decide, ?_⟩
        have raw4 := raw3.nums (made' := S.made) (last' := 0) rfl
        have s4 := Same.put s3 (u := .ins ad.store fx [("clients", .ref cl'), ("things", .ref td'), ("created", .int S.made), ("last", .int 0)]) nfa
        refine ⟨_, rfl, sa, _, dx, _, _, rfl, s4 _ _ r0.ha, T.k_store, T.n_last, rfl, _, rfl, fa, _, fx, _, rfl, raw4.ha, T.k_store, T.n_last, by show 4 < 1000; decide, ?_⟩
        have raw5 := raw4.nums (made' := S.made) (last' := last) rfl
        have s5 := Same.put s4 (u := .ins ad.store fx [("clients", .ref cl'), ("things", .ref td'), ("created", .int S.made), ("last", .int last)]) nfa
        exact ⟨_, rfl, k _ _ fa s5 f3 (raw5.store nk)⟩
end
end Sh


set_option maxHeartbeats 2000000
namespace Sh
open PySem PySem.Spec PyProof.Rows L2
open Vbxlaa (fieldsOf rootsOf rootValues clientAt meetPaths pathsOf)
theorem mp_mem : ∀ (l : List (List Nat × VV)) (met : List PI) (m : PI), m ∈ meetPaths met l → m ∈ met ∨ (m.2, Vbxlaa.Value.object m.1) ∈ l
  | [], _, _, h => .inl h
  | (_, .nothing) :: l, met, m, h => (mp_mem l met m h).imp id (List.mem_cons_of_mem _)
  | (_, .number _) :: l, met, m, h => (mp_mem l met m h).imp id (List.mem_cons_of_mem _)
  | (p, .object i) :: l, met, m, h => by
    rw [mp_obj] at h
    by_cases c : i ∈ met.map (fun m => m.1)
    · rw [if_pos c] at h
      exact (mp_mem l met m h).imp id (List.mem_cons_of_mem _)
    · rw [if_neg c] at h
      rcases mp_mem l _ m h with h | h
      · rcases List.mem_append.mp h with h | h
        · exact .inl h
        · rw [List.mem_singleton] at h
          subst h
          exact .inr List.mem_cons_self
      · exact .inr (List.mem_cons_of_mem _ h)
/-- a path that is found -/
def PathAt (nm : Nat → Int) (W : Addr) (H : Hp) (kv : Key × V) (m : PI) : Prop := kv.1 = .inl (nm m.1) ∧ ∃ pa, kv.2 = .ref pa ∧ H pa = some (.lst (nI m.2)) ∧ pa ≠ W
/-- an item that waits -/
def IsW (K : PySem.W.Frag) (nm : Nat → Int) (W : Addr) (H : Hp) (v : V) (x : List Nat × VV) : Prop := ∃ t pa u, v = .ref t ∧ H t = some (.tup [.ref pa, u]) ∧ H pa = some (.lst (nI x.1)) ∧ pa ≠ W ∧ IsV K nm H u x.2
theorem PathAt.keep {nm : Nat → Int} {W : Addr} {H H' : Hp} {kv : Key × V} {m : PI} (h : PathAt nm W H kv m) (k : ∀ a l, a ≠ W → H a = some (.lst l) → H' a = some (.lst l)) : PathAt nm W H' kv m := by
  obtain ⟨e, pa, e2, h1, h2⟩ := h
  exact ⟨e, pa, e2, k _ _ h2 h1, h2⟩
theorem IsW.keep {K : PySem.W.Frag} {nm : Nat → Int} {W : Addr} {H H' : Hp} {v : V} {x : List Nat × VV} (h : IsW K nm W H v x) (t : Tups H H') (k : ∀ a l, a ≠ W → H a = some (.lst l) → H' a = some (.lst l)) : IsW K nm W H' v x := by
  obtain ⟨ta, pa, u, e, h1, h2, h3, h4⟩ := h
  exact ⟨ta, pa, u, e, t _ _ h1, k _ _ h3 h2, h3, h4.keep t⟩
theorem path_get {nm : Nat → Int} (inj : ∀ i j, nm i = nm j → i = j) {W : Addr} {H : Hp} {i : Nat} : ∀ {kvs : List (Key × V)} {f : List PI}, Paired (PathAt nm W H) kvs f →
    (i ∉ f.map (fun m => m.1) ∧ valV kvs (.inl (nm i)) = none) ∨ ∃ p pa, f.find? (fun m => m.1 == i) = some (i, p) ∧ i ∈ f.map (fun m => m.1) ∧ valV kvs (.inl (nm i)) = some (.ref pa) ∧ H pa = some (.lst (nI p))
  | _, _, .nil => .inl ⟨by simp, rfl⟩
  | (k, v) :: kvs, (j, p) :: f, .cons r t => by
    obtain ⟨e, pa, e2, h1, h2⟩ := r
    dsimp only at e e2 h1
    subst e e2
    by_cases c : j = i
    · subst c
      refine .inr ⟨p, pa, by simp, by simp, ?_, h1⟩
      exact valV_pos (p := (Sum.inl (nm j), V.ref pa)) rfl
    · have hne : ¬ (Sum.inl (nm j), V.ref pa).1 = (Sum.inl (nm i) : Key) := fun z => c (inj _ _ (Sum.inl.inj z))
      rw [valV_neg hne]
      rcases path_get inj (i := i) t with ⟨q1, q2⟩ | ⟨p2, pa2, q1, q2, q3, q4⟩
      · refine .inl ⟨?_, q2⟩
        rw [List.map_cons, List.mem_cons]
        rintro (z | z)
        · exact c z.symm
        · exact q1 z
      · refine .inr ⟨p2, pa2, ?_, ?_, q3, q4⟩
        · rw [List.find?_cons, show ((j, p).1 == i) = false from beq_eq_false_iff_ne.mpr c]
          exact q1
        · rw [List.map_cons, List.mem_cons]
          exact .inr q2
structure PWk (K : PySem.W.Frag) (nm : Nat → Int) (H0 : Hp) (kd wl : Addr) (f : List PI) (kvs : List (Key × V)) (ws : List (List Nat × VV)) (wvs : List V) (H : Hp) : Prop where
  sm : Same H0 H
  hk : H kd = some (.dK kvs)
  pk : Paired (PathAt nm wl H) kvs f
  hw : H wl = some (.lst wvs)
  pw : Paired (IsW K nm wl H) wvs ws
section
variable {K : PySem.W.Frag} {nm : Nat → Int} {H0 H H' : Hp} {kd wl : Addr} {f : List PI} {kvs : List (Key × V)} {ws : List (List Nat × VV)} {wvs : List V}
theorem PWk.same (a : PWk K nm H0 kd wl f kvs ws wvs H) (s : Same H H') : PWk K nm H0 kd wl f kvs ws wvs H' :=
  ⟨a.sm.trans s, s _ _ a.hk, Paired.mapP a.pk fun _ _ z => z.keep fun x l _ e => s _ _ e, s _ _ a.hw, Paired.mapP a.pw fun _ _ z => z.keep (Same.tups s) fun x l _ e => s _ _ e⟩
theorem PWk.put (a : PWk K nm H0 kd wl f kvs ws wvs H) (nk : H0 kd = none) {kv : Key × V} {m : PI} (n : PathAt nm wl H kv m) : PWk K nm H0 kd wl (f ++ [m]) (kvs ++ [kv]) ws wvs (upd H kd (.dK (kvs ++ [kv]))) := by
  have k : ∀ x l, x ≠ wl → H x = some (.lst l) → upd H kd (.dK (kvs ++ [kv])) x = some (.lst l) := fun x l _ e => by
    rw [upd_ne (ne_of e a.hk (by intro z; cases z))]
    exact e
  have t : Tups H (upd H kd (.dK (kvs ++ [kv]))) := Tups.write a.hk fun _ z => by cases z
  exact ⟨Same.put a.sm nk, upd_same, pair_snoc (Paired.mapP a.pk fun _ _ z => z.keep k) (n.keep k), (upd_ne (ne_of a.hw a.hk (by intro z; cases z))).trans a.hw, Paired.mapP a.pw fun _ _ z => z.keep t k⟩
theorem PWk.app (a : PWk K nm H0 kd wl f kvs ws wvs H) (nw : H0 wl = none) {v : V} {x : List Nat × VV} (n : IsW K nm wl H v x) : PWk K nm H0 kd wl f kvs (ws ++ [x]) (wvs ++ [v]) (upd H wl (.lst (wvs ++ [v]))) := by
  have k : ∀ x l, x ≠ wl → H x = some (.lst l) → upd H wl (.lst (wvs ++ [v])) x = some (.lst l) := fun x l nx e => (upd_ne nx).trans e
  have t : Tups H (upd H wl (.lst (wvs ++ [v]))) := Tups.write a.hw fun _ z => by cases z
  exact ⟨Same.put a.sm nw, (upd_ne (ne_of a.hk a.hw (by intro z; cases z))).trans a.hk, Paired.mapP a.pk fun _ _ z => z.keep k, upd_same, pair_snoc (Paired.mapP a.pw fun _ _ z => z.keep t k) (n.keep t k)⟩
end
section
variable {P : Program} {w : World} {K : PySem.W.Frag} {mg : Str → Option Value} {base : Heap} {ad : Ad}
def spPathsOf (K : PySem.W.Frag) (ad : Ad) : Sp := fun vs H Q _ => ∃ (sa : Addr) (nm : Nat → Int) (ro : Rm) (b : Bool) (S : VSt) (R : Nat → Prop) (n : Nat) (c : VC), vs = [.ref sa, .int (n : Nat)] ∧ StoreAt K ad nm ro H b sa S ∧ Wf S R ∧ 1 ≤ n ∧ S.clients[n - 1]? = some c ∧
  ∀ H' p kvs W, Same H H' → H p = none → H' p = some (.dK kvs) → Paired (PathAt nm W H') kvs (pathsOf S c) → (∀ m ∈ pathsOf S c, m.2.length ≤ 400) → Q (.ref p) H'
theorem ok_paths_of (T : Tx K mg ad) (D : Df K mg "paths_of" s_paths_of ["store", "number"]) (G_root_rows : Ok P w K mg base 1 "root_rows" ["client"] (spRootRows K ad)) : Ok P w K mg base 2 "paths_of" ["store", "number"] (spPathsOf K ad) := by
  refine D.ok c_paths_of (fun vs H Q E h => ?_) (fun f cdv A outer s H vs Q E hr h => ?_)
  · obtain ⟨sa, nm, ro, b, S, R, n, c, rfl, _⟩ := h
    rfl
  · refine ⟨_,
      (pss_cons (ps_set (i := 2) c_paths_of.nd rfl (Or.inl rfl) pe_dnewK)
        (pss_cons (ps_setLc (i := 4) (own := [("index", 9), ("own", 3)]) (g := (gTup K 2 (gCons (gName 9) (gCons (gName 3) gNil)))) (tt := tYes) rfl c_paths_of.nd rfl rfl (sw_true rfl rfl rfl (by decide +kernel)) (pi_list (pe_c G_root_rows hr (L2N.takes_of rfl rfl rfl rfl) (pa_cons (pe_ix ix_list (pe_fld (pv 0) rfl) (pe_op op_sub (pv 1) pe_int) (fun _ _ => rfl)) pa_nil))) (blkOk_by (own := [("index", 9), ("own", 3)]) (N := ["store", "number", "found", "own", "waiting", "at", "path", "field", "behind", "index"]) (sc := defScope s_paths_of) (by decide +kernel)) (fun _ _ _ _ _ => by exact (pg_tup rfl (pgs_cons (pg_name (i := 9) c_paths_of.nd rfl (Or.inl rfl)) (pgs_cons (pg_name (i := 3) c_paths_of.nd rfl (Or.inl rfl)) pgs_nil)))) (fun _ _ _ _ _ => by exact pts_nil) (fun _ _ _ _ _ => by exact (pe_tup (by exact (pa_cons (pe_lst (by exact (pa_cons (pv 9) pa_nil))) (pa_cons (pv 3) pa_nil))))))
        (pss_cons (ps_set (i := 5) c_paths_of.nd rfl (Or.inl rfl) pe_int)
        (pss_cons (ps_while (passes_of rfl) (pt_cmpR op_lt (pv 5) (pe_callB call_len_seq (by rfl) T.b_len (by decide +kernel) (pa_cons (pv 4) pa_nil)) (nomark _))
          (pss_cons (ps_asg (pe_ix ix_list (pv 4) (pv 5) (fun _ _ => rfl)) (pg_tup rfl (pgs_cons (pg_name (i := 6) c_paths_of.nd rfl (Or.inl rfl)) (pgs_cons (pg_name (i := 3) c_paths_of.nd rfl (Or.inl rfl)) pgs_nil))))
          (pss_cons (ps_if (PW.pt (pw_and (pt_cmpR op_eq (pe_ix ix_tup (pv 3) pe_int (fun _ _ => rfl)) (pe_ci T.c_REFERENCE) (nomark _)) (pw_and1 (pt_cmp (pc_dnotin (hu_of hr) (pe_ix ix_tup (pv 3) pe_int (fun _ _ => rfl)) (pv 2)))))) (pss_cons (ps_asg (pv 6) (pg_sub (pv 2) (pe_ix ix_tup (pv 3) pe_int (fun _ _ => rfl)) (set_dict (hu_of hr))))
            (pss_one (ps_for (passes_of rfl) rfl (pi_enum (by rfl) T.b_enumerate (pa_cons (pe_dget (hu_of hr) (pe_fld (pv 0) rfl) (pe_ix ix_tup (pv 3) pe_int (fun _ _ => rfl)) (fun _ _ => rfl)) pa_nil)) (pg_tup rfl (pgs_cons (pg_name (i := 7) c_paths_of.nd rfl (Or.inl rfl)) (pgs_cons (pg_name (i := 8) c_paths_of.nd rfl (Or.inl rfl)) pgs_nil)))
              (pss_one (ps_expr (pe_bm PySem.F.plainAttrs_list PySem.F.slot_list_append PySem.F.type_list_append mt_append (pv 4) (pa_cons (pe_tup (pa_cons (pe_op op_cat (pv 6) (pe_lst (pa_cons (pv 7) pa_nil))) (pa_cons (pv 8) pa_nil))) pa_nil))))))) pss_nil)
          (pss_one (ps_set (i := 5) c_paths_of.nd rfl (Or.inl rfl) (pe_op op_add (pv 5) pe_int))))))
        (pss_one (ps_ret (pv 2)))))))
      , ?_⟩
    obtain ⟨sa, nm, ro, b, S, R, nn, c, rfl, hS, wf, hn, hcl, k⟩ := h
    obtain ⟨dx, cl, td, cvs, kvs0, last, r0, nk⟩ := hS.raw
    obtain ⟨ca, e1, e2⟩ := r0.ct _ _ hcl
    have cm := List.mem_of_getElem? hcl
    have hol := wf.ol
    have hmx := wf.mx
    have hro := roots_le (wf.cok cm)
    obtain ⟨fin, finu⟩ := paths_fin wf cm
    have hth : ∀ i, R i → ∃ (ta : Addr) (tvs : List V), valV kvs0 (.inl (nm i)) = some (.ref ta) ∧ H ta = some (.lst tvs) ∧ Row K nm H tvs (fieldsOf S i) := fun i hi => by
      obtain ⟨o, m, rfl⟩ := wf.st i hi
      rw [fieldsOf_mem wf.nd m]
      obtain ⟨ta, tvs, q1, q2, q3, q4⟩ := valV_thing r0.th nk.inj wf.nd m
      exact ⟨ta, tvs, q1, q2, q4⟩
    intro kd nkd
    have sk : Same H (upd H kd (.dK [])) := Same.new nkd
    refine ⟨_, rfl, sa, _, dx, _, _, rfl, sk _ _ r0.ha, T.k_store, T.n_clients, rfl, _, rfl, _, _, rfl, rfl, cl, cvs, _, .ref ca, rfl, rfl, SqL.of (sk _ _ r0.hc), at_of (j := nn - 1) (by omega) e1, ?_⟩
    refine ⟨ca, nm, ro, b, _, c, rfl, e2.same sk, wf.cok cm, fun H1 p rvs s1 np hp hrow => ?_⟩
    have hk1 : H1 kd = some (.dK []) := s1 _ _ upd_same
    have sH1 := sk.trans s1
    refine ⟨p, rfl, ⟨rvs, SqL.of hp⟩, fun wl nwl => lc_list (K := K) (a := p) (xs := rvs) (fun j H2 => ∃ acc, Bld H1 wl acc H2 ∧ Paired (IsW K nm wl H2) acc ((rootPaths c).take j)) ⟨[], Bld.start nwl, .nil⟩ (fun j H2 _ ⟨_, hB, _⟩ => SqL.of (hB.sm _ _ hp)) ?_ ?_⟩
    · rintro j x H2 hj ⟨acc, hB, hP⟩
      obtain ⟨⟨ix, v⟩, hv, t, u, rfl, ht, iu⟩ := pair_get' hrow hj
      have hj2 : j < (rootsOf c).length := (List.getElem?_eq_some_iff.mp hv).1
      have hrl : (rootPaths c).length = (rootsOf c).length := List.length_map ..
      have al : acc.length ≤ 18 := by
        rw [Paired.length hP, List.length_take]
        omega
      refine ⟨t, _, rfl, SqT.of (hB.sm _ _ ht), rfl, _, _, rfl, _, _, rfl, rfl, rfl, yes ?_⟩
      refine ⟨_, rfl, leLine (by show 1 ≤ 1000; decide), fun l nl => ⟨_, rfl, leLine (by show 2 ≤ 1000; decide), fun t2 nt2 => ?_⟩⟩
      have B2 := (hB.new (o := .lst [.int (ix : Nat)]) nl).new (o := .tup [.ref l, u]) nt2
      have s2 : Same H2 (upd (upd H2 l (.lst [.int (ix : Nat)])) t2 (.tup [.ref l, u])) := (Same.new nl).trans (Same.new nt2)
      refine ⟨acc, B2.at_, small1000 (by omega), _, B2.put nwl, ?_⟩
      have hx : (rootPaths c)[j]? = some ([ix], v) := by
        unfold rootPaths
        rw [List.getElem?_map, hv]
        rfl
      obtain ⟨hq, eq⟩ := List.getElem?_eq_some_iff.mp hx
      rw [List.take_succ_eq_append_getElem hq, eq]
      have tp : Tups H2 (upd (upd (upd H2 l (.lst [.int (ix : Nat)])) t2 (.tup [.ref l, u])) wl (.lst (acc ++ [.ref t2]))) := (Same.tups s2).trans B2.tups
      have nlw : l ≠ wl := fun z => by rw [z, hB.at_] at nl; cases nl
      have nlt : l ≠ t2 := ne_of_none upd_same nt2
      refine pair_snoc (Paired.mapP hP fun _ _ z => z.keep tp fun a o na e => (upd_ne na).trans (s2 _ _ e)) ⟨t2, l, u, rfl, B2.tups _ _ upd_same, ?_, nlw, iu.keep ((Same.tups hB.sm).trans tp)⟩
      rw [upd_ne nlw, upd_ne nlt, upd_same]
      rfl
    · rintro H2 ⟨acc, hB, hP⟩
      have hrl : (rootPaths c).length = (rootsOf c).length := List.length_map ..
      rw [Paired.length hrow, ← hrl, List.take_length] at hP
      have nw0 : H wl = none := sH1.free nwl
      refine ⟨fun m σ H3 => ∃ (n : Nat) (v3 v6 v7 v8 v9 : Option V) (f : List PI) (kvs : List (Key × V)) (ws : List (List Nat × VV)) (wvs : List V), m + n = 300 ∧ σ = [some (.ref sa), some (.int (nn : Nat)), some (.ref kd), v3, some (.ref wl), some (.int n), v6, v7, v8, v9] ∧
        PWk K nm H kd wl f kvs ws wvs H3 ∧ f <+: pathsOf S c ∧ ws = rootPaths c ++ kids S f ∧ f = meetPaths [] (ws.take n) ∧ (∀ x ∈ ws, x.1.length ≤ n + 1), ⟨_, 0, none, none, none, none, none, [], [], _, acc, Nat.add_zero 300, rfl,
          ⟨sH1.trans hB.sm, hB.sm _ _ hk1, .nil, hB.at_, hP⟩, List.nil_prefix, (List.append_nil _).symm, rfl, fun x hx => ?_⟩, ?_⟩
      · obtain ⟨y, _, rfl⟩ := List.mem_map.mp hx
        exact Nat.le_refl _
      rintro m σ H3 ⟨n, v3, v6, v7, v8, v9, f, kvs, ws, wvs, hm, rfl, hW, hpre, hws, hf, hpl⟩
      have hwl : wvs.length = ws.length := Paired.length hW.pw
      have hfl : f.length ≤ S.objects.length := Nat.le_trans hpre.length_le (live_lenP wf fin.nd fin.lv)
      have wslen : ws.length ≤ 210 := by
        have := kids_le wf (l := f) fun x hx => fin.lv x (hpre.subset hx)
        rw [hws, List.length_append]
        omega
      refine ⟨_, rfl, _, rfl, wl, wvs, rfl, .inl (SqL.of hW.hw), _, _, rfl, rfl, _, rfl, ?_⟩
      refine ite2 (fun cc => ?_) fun cc => ?_
      · have cc : n < ws.length := by have := of_decide_eq_true cc; omega
        obtain ⟨⟨pth, val⟩, hx⟩ : ∃ x, ws[n]? = some x := ⟨_, List.getElem?_eq_getElem cc⟩
        obtain ⟨wv, hwv, t, pa, u, rfl, ht, hpa, npa, iu⟩ := pair_get hW.pw hx
        obtain ⟨st1, st2⟩ := paths_step fin.fx hpre hws hf hx
        have hpth : pth.length ≤ n + 1 := hpl _ (List.mem_of_getElem? hx)
        obtain ⟨t2, rfl, ht2⟩ := isV_ref iu
        refine ⟨_, fun σ' H' h => h, ?_⟩
        refine ⟨_, rfl, _, rfl, wl, wvs, _, .ref t, rfl, rfl, SqL.of hW.hw, atI_nat hwv, t, _, rfl, SqT.of ht, rfl, _, _, rfl, _, _, rfl, rfl, ?_⟩
        refine ⟨_, rfl, t2, _, _, _, rfl, rfl, ht2, rfl, rfl, _, rfl, ?_⟩
        cases val with
        | nothing => 
          refine iteF (iteF ⟨_, rfl, _, _, rfl, rfl, ?_⟩)
          refine ⟨m - 1, by omega, n + 1, _, _, v7, v8, v9, f, kvs, ws, wvs, by omega, rfl, hW, hpre, hws, by rw [st1]; rfl, fun x hx => Nat.le_succ_of_le (hpl x hx)⟩
        | number z => 
          refine iteF (iteF ⟨_, rfl, _, _, rfl, rfl, ?_⟩)
          refine ⟨m - 1, by omega, n + 1, _, _, v7, v8, v9, f, kvs, ws, wvs, by omega, rfl, hW, hpre, hws, by rw [st1]; rfl, fun x hx => Nat.le_succ_of_le (hpl x hx)⟩
        | object i =>
          refine iteT ⟨_, rfl, t2, _, _, _, rfl, rfl, ht2, rfl, _, rfl, kd, _, rfl, DGet.k (k := Sum.inl (nm i)) hW.hk, _, rfl, ?_⟩
          rcases path_get nk.inj (i := i) hW.pk with ⟨ni, ev⟩ | ⟨p2, pa2, _, ii, ev, _⟩
          · rw [ev]
            refine iteT ?_
            have e1 : meetPaths f [(pth, .object i)] = f ++ [(i, pth)] := by rw [mp_obj, if_neg ni]; rfl
            rw [e1] at st1 st2
            have Ri : R i := fin.lv (i, pth) (st2.subset (by simp))
            obtain ⟨ta, tvs, q1, q2, q3⟩ := hth i Ri
            have htv : tvs.length = (fieldsOf S i).length := Paired.length q3
            have hf4 := (wf.fields Ri).1
            have hfl2 : f.length + 1 ≤ S.objects.length := by
              have := Nat.le_trans st2.length_le (live_lenP wf fin.nd fin.lv)
              simpa using this
            have hkv : kvs.length = f.length := Paired.length hW.pk
            have W4 := hW.put nkd (kv := (.inl (nm i), .ref pa)) (m := (i, pth)) ⟨rfl, pa, rfl, hpa, npa⟩
            rw [← putK_new ev] at W4
            have tp4 : Tups H3 (upd H3 kd (.dK (putK kvs (.inl (nm i)) (.ref pa)))) := Tups.write hW.hk fun _ z => by cases z
            have ht4 : SqT K (upd H3 kd (.dK (putK kvs (.inl (nm i)) (.ref pa)))) t2 [.int (vk (.object i)), .int (vp nm (.object i))] := by
              obtain ⟨t3, e3, z3⟩ := iu.keep tp4
              cases e3
              exact z3.sq
            have hpa4 : (upd H3 kd (.dK (putK kvs (.inl (nm i)) (.ref pa)))) pa = some (.lst (nI pth)) := by
              rw [upd_ne (ne_of hpa hW.hk (by intro z; cases z))]
              exact hpa
            refine ⟨_, rfl, _, rfl, _, rfl, t2, _, _, _, rfl, rfl, ht2, rfl, kd, _, rfl, DPut.k (k := Sum.inl (nm i)) hW.hk (small1000 (by omega)), ?_⟩
            have hkn : (kid S (i, pth)).length = tvs.length := by unfold kid; rw [List.length_map, List.length_zipIdx, htv]
            refine ⟨_, rfl, sa, _, dx, _, _, rfl, W4.sm _ _ r0.ha, T.k_store, T.n_things, rfl, _, rfl, t2, _, _, _, rfl, rfl, ht4, rfl, td, .ref ta, rfl, q1 ▸ DGet.k (k := Sum.inl (nm i)) (W4.sm _ _ r0.ht), ta, tvs, rfl, SqL.of (W4.sm _ _ q2), ?_⟩
            refine for_it (walk_enum (K := K) (a := ta) (xs := tvs)) (fun j σ H4 => ∃ (v7 v8 : Option V) (wvs4 : List V), σ = [some (.ref sa), some (.int (nn : Nat)), some (.ref kd), some (.ref t2), some (.ref wl), some (.int n), some (.ref pa), v7, v8, v9] ∧
                PWk K nm H kd wl (f ++ [(i, pth)]) (putK kvs (.inl (nm i)) (.ref pa)) (ws ++ (kid S (i, pth)).take j) wvs4 H4 ∧ H4 pa = some (.lst (nI pth)))
              ⟨v7, v8, wvs, rfl, by rw [List.take_zero, List.append_nil]; exact W4, hpa4⟩ (fun j σ H4 _ ⟨_, _, _, _, hW4, _⟩ => SqL.of (hW4.sm _ _ q2)) ?_ ?_
            · rintro j x σ H4 H5 hj ⟨v7, v8, wvs4, rfl, hW4, hp4⟩ ⟨t5, x0, y0, rfl, nt5, rfl, ex, ey⟩
              cases ex
              obtain ⟨y, hy, iy⟩ := pair_get' q3 ey
              have hj2 : j < (fieldsOf S i).length := (List.getElem?_eq_some_iff.mp hy).1
              have s5 : Same H4 (upd H4 t5 (.tup [.int (j : Nat), y0])) := Same.new nt5
              have W5 := hW4.same s5
              have hl4 : wvs4.length ≤ 214 := by
                rw [Paired.length hW4.pw, List.length_append, List.length_take]
                omega
              refine ⟨t5, _, rfl, SqT.of upd_same, rfl, _, _, rfl, _, _, rfl, rfl, ?_⟩
              refine ⟨_, rfl, .inl ⟨rfl, _, SqL.of W5.hw⟩, _, rfl, _, rfl, leLine (by show 1 ≤ 1000; decide), fun l nl => ?_⟩
              have s6 := s5.trans (Same.new (o := .lst [.int (j : Nat)]) nl)
              refine ⟨pa, l, _, _, rfl, rfl, s6 _ _ hp4, upd_same, leLine (by rw [nI_length]; show pth.length + 1 ≤ 1000; omega), fun l2 nl2 => ?_⟩
              have s7 := s6.trans (Same.new (o := .lst (nI pth ++ [.int (j : Nat)])) nl2)
              refine ⟨_, rfl, leLine (by show 2 ≤ 1000; decide), fun t3 nt3 => ?_⟩
              have s8 := s7.trans (Same.new (o := .tup [.ref l2, y0]) nt3)
              have W8 := hW4.same s8
              have nl2t : l2 ≠ t3 := ne_of_none upd_same nt3
              have nl2w : l2 ≠ wl := Ne.symm (ne_of_none (s6 _ _ hW4.hw) nl2)
              have hn8 : IsW K nm wl _ (.ref t3) (pth ++ [j], y) := ⟨t3, l2, y0, rfl, upd_same, by rw [upd_ne nl2t, upd_same]; unfold nI; rw [List.map_append]; rfl, nl2w, iy.keep (Same.tups W8.sm)⟩
              have W9 := W8.app nw0 hn8
              refine ⟨wl, wvs4, _, rfl, rfl, W8.hw, small1000 (by omega), ?_⟩
              have hk9 : (kid S (i, pth))[j]? = some (pth ++ [j], y) := by
                unfold kid
                rw [List.getElem?_map, List.getElem?_zipIdx, hy]
                simp
              have ek : ws ++ (kid S (i, pth)).take (j + 1) = ws ++ (kid S (i, pth)).take j ++ [(pth ++ [j], y)] := by
                obtain ⟨hq, e⟩ := List.getElem?_eq_some_iff.mp hk9
                rw [List.take_succ_eq_append_getElem hq, e, List.append_assoc]
              refine ⟨_, _, _, rfl, by rw [ek]; exact W9, ?_⟩
              rw [upd_ne npa]
              exact s8 _ _ hp4
            · rintro σ H4 ⟨v7, v8, wvs4, rfl, hW4, _⟩
              rw [← hkn, List.take_length] at hW4
              refine ⟨_, rfl, _, _, rfl, rfl, ?_⟩
              have ews : ws ++ kid S (i, pth) = rootPaths c ++ kids S (f ++ [(i, pth)]) := by rw [kids_app, kids_one, hws, List.append_assoc]
              refine ⟨m - 1, by omega, n + 1, _, _, v7, v8, v9, f ++ [(i, pth)], _, _, wvs4, by omega, rfl, hW4, st2, ews, ?_, fun x hx => ?_⟩
              · rw [List.take_append_of_le_length cc]
                exact st1.symm
              · rcases List.mem_append.mp hx with hx | hx
                · exact Nat.le_succ_of_le (hpl x hx)
                · obtain ⟨y, _, rfl⟩ := List.mem_map.mp hx
                  show (pth ++ [y.2]).length ≤ _
                  rw [List.length_append, List.length_singleton]
                  omega
          · rw [ev]
            refine iteF ⟨_, rfl, _, _, rfl, rfl, ?_⟩
            refine ⟨m - 1, by omega, n + 1, _, _, v7, v8, v9, f, kvs, ws, wvs, by omega, rfl, hW, hpre, hws, by rw [st1]; rw [mp_obj, if_pos ii]; rfl, fun x hx => Nat.le_succ_of_le (hpl x hx)⟩
      · have cc : ws.length ≤ n := by have := of_decide_eq_false (Bool.eq_false_iff.mpr cc); omega
        have ef := paths_end wf cm hpre hws hf cc
        rw [ef] at hW hf
        refine ⟨_, rfl, k _ kd kvs wl hW.sm nkd hW.hk hW.pk fun x hx => ?_⟩
        rw [hf] at hx
        rcases mp_mem _ _ _ hx with hx | hx
        · cases hx
        · have : x.2.length ≤ n + 1 := hpl _ (List.mem_of_mem_take hx)
          omega
end
end Sh


set_option maxHeartbeats 2000000
namespace Sh
open PySem PySem.Spec PyProof.Rows L2
open Vbxlaa (fieldsOf rootsOf rootValues clientAt valueAtPlace messageSize testResult placeSize clientSize)
theorem vk_vp_inj {nm : Nat → Int} (inj : ∀ i j, nm i = nm j → i = j) {x y : VV} (h1 : vk x = vk y) (h2 : vp nm x = vp nm y) : x = y := by
  cases x <;> cases y <;> simp [vk, vp] at h1 h2 ⊢
  · exact h2
  · exact inj _ _ h2
def Res (ad : Ad) (H : Hp) (Q : VK) (E : XK) (o : Option (Int × Int)) : Prop := match o with
  | some x => ∀ H' p, Same H H' → H p = none → H' p = some (.lst [.int x.1, .int x.2]) → Q (.ref p) H'
  | none => ∀ H', Same H H' → E (.ref ad.failed) none H'
theorem Res.some_ {ad : Ad} {H : Hp} {Q : VK} {E : XK} {o : Option (Int × Int)} {a b : Int} (r : Res ad H Q E o) (e : o = some (a, b)) : ∀ H' p, Same H H' → H p = none → H' p = some (.lst [.int a, .int b]) → Q (.ref p) H' := by
  subst e
  exact r
theorem Res.none_ {ad : Ad} {H : Hp} {Q : VK} {E : XK} {o : Option (Int × Int)} (r : Res ad H Q E o) (e : o = none) : ∀ H', Same H H' → E (.ref ad.failed) none H' := by
  subst e
  exact r
theorem ne_intF {i j : Int} (h : i = j) : (!decide (V.int i = V.int j)) = false := by rw [h]; simp
theorem ne_intT {i j : Int} (h : ¬ i = j) : (!decide (V.int i = V.int j)) = true := by
  rw [decide_eq_false fun z => h (V.int.inj z)]
  rfl
def foundV (S : VSt) (n : Nat) (p : List Nat) : Option VV := if n = 0 then valueAtPlace S p else valueAtPlace S (n :: p)
def sizeV (S : VSt) (n : Nat) (l : List Nat) : Option Nat := if n = 0 then placeSize S l else (clientAt S n).bind fun c => clientSize c l
def sizeR (S : VSt) (n : Nat) (l : List Nat) : Option (Int × Int) := (sizeV S n l).map fun (z : Nat) => ((0 : Int), (z : Int))
def runV (S : VSt) (n : Nat) (t : List Nat) : Option (Int × Int) := if n = 0 then Vbxlaa.runOnStore S t else (clientAt S n).bind fun c => Vbxlaa.runOnClient S c t
theorem client_some {S : VSt} {n : Nat} (h1 : 1 ≤ n) (h2 : n ≤ S.clients.length) : ∃ c, clientAt S n = some c ∧ S.clients[n - 1]? = some c := by
  obtain ⟨c, hc⟩ : ∃ c, S.clients[n - 1]? = some c := ⟨_, List.getElem?_eq_getElem (by omega)⟩
  exact ⟨c, by unfold Vbxlaa.clientAt; rw [if_neg (by omega)]; exact hc, hc⟩
theorem client_none {S : VSt} {n : Nat} (h : n = 0 ∨ S.clients.length < n) : clientAt S n = none := by
  unfold Vbxlaa.clientAt
  by_cases c : n = 0
  · rw [if_pos c]
  · rw [if_neg c]
    exact List.getElem?_eq_none (by omega)
theorem runV_eq {S : VSt} {n : Nat} (h : n ≤ S.clients.length) (t : List Nat) : runV S n t = testResult S (sizeV S n) (foundV S n) t := by
  unfold runV
  by_cases c : n = 0
  · subst c
    rfl
  · obtain ⟨d, hd, _⟩ := client_some (by omega) h
    rw [if_neg c, hd]
    show testResult S (clientSize d) (Vbxlaa.valueAt S d) t = _
    have e1 : clientSize d = sizeV S n := by
      funext l
      unfold sizeV
      rw [if_neg c, hd]
      rfl
    have e2 : Vbxlaa.valueAt S d = foundV S n := by
      funext p
      unfold foundV
      rw [if_neg c]
      show _ = (clientAt S n).bind fun c => Vbxlaa.valueAt S c p
      rw [hd]
      rfl
    rw [e1, e2]
theorem foundV_nil (S : VSt) (n : Nat) : foundV S n [] = none := by
  unfold foundV
  by_cases c : n = 0
  · rw [if_pos c]; rfl
  · rw [if_neg c]
    show (clientAt S n).bind (fun c => Vbxlaa.valueAt S c []) = none
    cases clientAt S n <;> rfl
section
variable {P : Program} {w : World} {K : PySem.W.Frag} {mg : Str → Option Value} {base : Heap} {ad : Ad}
/-! ### Side -/
def spSideInit (ad : Ad) : Sp := fun vs H Q _ => ∃ x dx sv nv, vs = [.ref x, sv, nv] ∧ H x = some (.ins ad.side dx []) ∧ ∀ H', (∀ a o, a ≠ x → H a = some o → H' a = some o) → H' x = some (.ins ad.side dx [("store", sv), ("numbers", nv)]) → Q .non H'
theorem ok_Side_init (T : Tx K mg ad) (D : Di K mg "Side" ad.side "Side.__init__" s_Side_init ["self", "store", "numbers"]) : OkI P w K mg base 1 "Side" ad.side ["self", "store", "numbers"] (spSideInit ad) := by
  refine D.ok c_Side_init (fun vs H Q E h => ?_) (fun f cdv A outer s H vs Q E hr h => ?_)
  · obtain ⟨x, dx, sv, nv, rfl, _⟩ := h
    rfl
  · refine ⟨_,
      (pss_cons (ps_fld (pv 0) (pv 1) rfl)
        (pss_one (ps_fld (pv 0) (pv 2) rfl)))
      , ?_⟩
    obtain ⟨x, dx, sv, nv, rfl, hx, k⟩ := h
    refine ⟨_, rfl, _, rfl, x, _, dx, _, rfl, hx, T.k_side, T.n_store, by decide, ?_⟩
    refine ⟨_, rfl, _, rfl, x, _, dx, _, rfl, upd_same, T.k_side, T.n_numbers, by show 1 < 1000; decide, ?_⟩
    exact k _ (fun a o na e => by rw [upd_ne na, upd_ne na]; exact e) upd_same
/-! ### found_at, message_size -/
def spFoundAt (K : PySem.W.Frag) (ad : Ad) : Sp := fun vs H Q E => ∃ (sa pa : Addr) (nm : Nat → Int) (ro : Rm) (b : Bool) (S : VSt) (R : Nat → Prop) (n : Nat) (p : List Nat), vs = [.ref sa, .int (n : Nat), .ref pa] ∧ StoreAt K ad nm ro H b sa S ∧ Wf S R ∧ SqL K H pa (nI p) ∧
  (∀ x, foundV S n p = some x → ∀ H' v, Same H H' → Lv R x → IsV K nm H' v x → Q v H') ∧ (foundV S n p = none → ∀ H', Same H H' → E (.ref ad.failed) none H')
theorem ok_found_at (T : Tx K mg ad) (D : Df K mg "found_at" s_found_at ["store", "number", "path"]) (G_value_at_place : Ok P w K mg base 3 "value_at_place" ["store", "place"] (spValueAtPlace K ad)) (G_value_at : Ok P w K mg base 2 "value_at" ["store", "number", "path"] (spValueAt K ad)) :
    Ok P w K mg base 4 "found_at" ["store", "number", "path"] (spFoundAt K ad) := by
  refine D.ok c_found_at (fun vs H Q E h => ?_) (fun f cdv A outer s H vs Q E hr h => ?_)
  · obtain ⟨sa, pa, nm, ro, b, S, R, n, p, rfl, _⟩ := h
    rfl
  · refine ⟨_,
      (pss_cons (ps_set (i := 3) c_found_at.nd rfl (Or.inl rfl) (pe_ifExp (pt_cmpR op_eq (pv 1) pe_int (nomark _)) (pe_c G_value_at_place hr (L2N.takes_of rfl rfl rfl rfl) (pa_cons (pv 0) (pa_cons (pv 2) pa_nil))) (pe_c G_value_at hr (L2N.takes_of rfl rfl rfl rfl) (pa_cons (pv 0) (pa_cons (pv 1) (pa_cons (pv 2) pa_nil))))))
        (pss_cons (ps_if (pt_cmpR op_isN (pv 3) pe_non (nomark _)) (pss_one (L2N.ps_raise rfl (L2N.takes_of rfl rfl rfl rfl) (pmk_own0 F.excBase_Exception T.x_Failed T.g_Failed T.kp_Failed T.raises_Failed))) pss_nil)
        (pss_one (ps_ret (pv 3)))))
      , ?_⟩
    obtain ⟨sa, pa, nm, ro, b, S, R, n, p, rfl, hS, wf, hp, k1, k2⟩ := h
    refine ⟨_, rfl, rfl, _, rfl, ?_⟩
    refine ite2 (fun cc => ?_) fun cc => ?_
    · have hn : n = 0 := by have := V.int.inj (of_decide_eq_true cc); omega
      subst hn
      refine ⟨_, rfl, _, rfl, sa, pa, nm, ro, b, S, R, p, rfl, hS, wf, hp, fun H1 v s1 lv io => ?_⟩
      have ef : foundV S 0 p = valueAtPlace S p := if_pos rfl
      refine ⟨_, rfl, rfl, _, rfl, ?_⟩
      cases e : valueAtPlace S p with
      | none =>
        rw [e] at io
        cases io
        exact iteT (k2 (ef.trans e) _ s1)
      | some x =>
        rw [e] at io
        obtain ⟨t, rfl, ht⟩ := isV_ref io
        exact iteF ⟨_, rfl, k1 x (ef.trans e) _ _ s1 (lv x e) io⟩
    · have hn : ¬ n = 0 := fun z => of_decide_eq_false (Bool.eq_false_iff.mpr cc) (by rw [z]; rfl)
      refine ⟨_, rfl, _, rfl, _, rfl, sa, pa, nm, ro, b, S, R, n, p, rfl, hS, wf, hp, fun H1 v s1 lv io => ?_⟩
      have ef : foundV S n p = valueAtPlace S (n :: p) := if_neg hn
      refine ⟨_, rfl, rfl, _, rfl, ?_⟩
      cases e : valueAtPlace S (n :: p) with
      | none =>
        rw [e] at io
        cases io
        exact iteT (k2 (ef.trans e) _ s1)
      | some x =>
        rw [e] at io
        obtain ⟨t, rfl, ht⟩ := isV_ref io
        exact iteF ⟨_, rfl, k1 x (ef.trans e) _ _ s1 (lv x e) io⟩
def spMessageSize (K : PySem.W.Frag) (ad : Ad) : Sp := fun vs H Q _ => ∃ (sa : Addr) (nm : Nat → Int) (ro : Rm) (b : Bool) (S : VSt) (n m : Nat) (c : VC), vs = [.ref sa, .int (n : Nat), .int (m : Nat)] ∧ StoreAt K ad nm ro H b sa S ∧ 1 ≤ n ∧ S.clients[n - 1]? = some c ∧ COk c ∧
  Q (.int (messageSize c m : Nat)) H
theorem ok_message_size (T : Tx K mg ad) (D : Df K mg "message_size" s_message_size ["store", "number", "message"]) : Ok P w K mg base 1 "message_size" ["store", "number", "message"] (spMessageSize K ad) := by
  refine D.ok c_message_size (fun vs H Q E h => ?_) (fun f cdv A outer s H vs Q E hr h => ?_)
  · obtain ⟨sa, nm, ro, b, S, n, m, c, rfl, _⟩ := h
    rfl
  · refine ⟨_,
      (pss_cons (ps_set (i := 3) c_message_size.nd rfl (Or.inl rfl) (pe_fld (pe_ix ix_list (pe_fld (pv 0) rfl) (pe_op op_sub (pv 1) pe_int) (fun _ _ => rfl)) rfl))
        (pss_one (ps_ret (pe_ifExp (pt_cmpR op_lt (pv 2) (pe_callB call_len_seq (by rfl) T.b_len (by decide +kernel) (pa_cons (pv 3) pa_nil)) (nomark _)) (pe_callB call_len_seq (by rfl) T.b_len (by decide +kernel) (pa_cons (pe_ix ix_list (pv 3) (pv 2) (fun _ _ => rfl)) pa_nil)) pe_int))))
      , ?_⟩
    obtain ⟨sa, nm, ro, b, S, n, m, c, rfl, hS, hn, hcl, cok, k⟩ := h
    obtain ⟨dx, cl, td, cvs, kvs0, last, r0, nk⟩ := hS.raw
    obtain ⟨ca, e1, hC⟩ := r0.ct _ _ hcl
    obtain ⟨dxc, csl, cib, svs, ims, c1, c2, c3, c4, c5, c6, c7, c8⟩ := hC
    have hims : ims.length = c.inbox.length := Paired.length c8
    refine ⟨_, rfl, sa, _, dx, _, _, rfl, r0.ha, T.k_store, T.n_clients, rfl, _, rfl, _, _, rfl, rfl, cl, cvs, _, .ref ca, rfl, rfl, SqL.of r0.hc, at_of (j := n - 1) (by omega) e1, ca, _, dxc, _, _, rfl, c1, T.k_client, T.n_inbox, rfl, ?_⟩
    refine ⟨_, rfl, _, rfl, cib, ims, rfl, .inl (SqL.of c6), _, _, rfl, rfl, _, rfl, ite2 (fun cc => ?_) fun cc => ?_⟩
    · have cc : m < ims.length := by have := of_decide_eq_true cc; omega
      obtain ⟨x, hx⟩ : ∃ x, c.inbox[m]? = some x := ⟨_, List.getElem?_eq_getElem (by omega)⟩
      obtain ⟨v, hv, ma, mvs, rfl, g1, g2, g3⟩ := pair_get c8 hx
      refine ⟨_, rfl, _, rfl, cib, ims, _, .ref ma, rfl, rfl, SqL.of c6, atI_nat hv, ma, mvs, rfl, .inl (SqL.of g1), ?_⟩
      have e : messageSize c m = mvs.length := by
        unfold Vbxlaa.messageSize
        rw [List.getD_eq_getElem?_getD, hx, Paired.length g3]
        rfl
      rw [← e]
      exact k
    · have cc : ims.length ≤ m := by have := of_decide_eq_false (Bool.eq_false_iff.mpr cc); omega
      have e : messageSize c m = 0 := by
        unfold Vbxlaa.messageSize
        rw [List.getD_eq_getElem?_getD, List.getElem?_eq_none (by omega)]
        rfl
      rw [e] at k
      exact k
/-! ### size_result -/
def spTest (ad : Ad) (K : PySem.W.Frag) (val : VSt → Nat → List Nat → Option (Int × Int)) : Sp := fun vs H Q E => ∃ (sa ra : Addr) (nm : Nat → Int) (ro : Rm) (b : Bool) (S : VSt) (R : Nat → Prop) (n : Nat) (l : List Nat), vs = [.ref sa, .int (n : Nat), .ref ra] ∧ StoreAt K ad nm ro H b sa S ∧ Wf S R ∧ n ≤ S.clients.length ∧ SqL K H ra (nI l) ∧ l.length ≤ 200 ∧
  Res ad H Q E (val S n l)
theorem ok_size_result (T : Tx K mg ad) (D : Df K mg "size_result" s_size_result ["store", "number", "rest"]) (G_message_size : Ok P w K mg base 1 "message_size" ["store", "number", "message"] (spMessageSize K ad)) :
    Ok P w K mg base 2 "size_result" ["store", "number", "rest"] (spTest ad K sizeR) := by
  refine D.ok c_size_result (fun vs H Q E h => ?_) (fun f cdv A outer s H vs Q E hr h => ?_)
  · obtain ⟨sa, ra, nm, ro, b, S, R, n, l, rfl, _⟩ := h
    rfl
  · refine ⟨_,
      (pss_cons (ps_set (i := 3) c_size_result.nd rfl (Or.inl rfl) (pv 2))
        (pss_cons (ps_if (pt_cmpR op_eq (pv 1) pe_int (nomark _)) (pss_cons (ps_if (PW.pt (pw_or (pt_cmpR op_ne (pe_callB call_len_seq (by rfl) T.b_len (by decide +kernel) (pa_cons (pv 2) pa_nil)) pe_int (nomark _)) (pw_or1 (pt_not (pt_chain op_le op_le pe_int (pe_ix ix_list (pv 2) pe_int (fun _ _ => rfl)) (pe_callB call_len_seq (by rfl) T.b_len (by decide +kernel) (pa_cons (pe_fld (pv 0) rfl) pa_nil))))))) (pss_one (L2N.ps_raise rfl (L2N.takes_of rfl rfl rfl rfl) (pmk_own0 F.excBase_Exception T.x_Failed T.g_Failed T.kp_Failed T.raises_Failed))) pss_nil)
          (pss_one (ps_par (i := 1) (j := 3) rfl c_size_result.nd rfl rfl (by decide) rfl rfl (pa_cons (pe_ix ix_list (pv 2) pe_int (fun _ _ => rfl)) (pa_cons (pe_slice sl_list (pv 2) (po_some pe_int) po_none) pa_nil)) (by rfl)))) pss_nil)
        (pss_cons (ps_if (pt_cmpR op_ne (pe_callB call_len_seq (by rfl) T.b_len (by decide +kernel) (pa_cons (pv 3) pa_nil)) pe_int (nomark _)) (pss_one (L2N.ps_raise rfl (L2N.takes_of rfl rfl rfl rfl) (pmk_own0 F.excBase_Exception T.x_Failed T.g_Failed T.kp_Failed T.raises_Failed))) pss_nil)
        (pss_one (ps_ret (pe_lst (pa_cons pe_int (pa_cons (pe_c G_message_size hr (L2N.takes_of rfl rfl rfl rfl) (pa_cons (pv 0) (pa_cons (pv 1) (pa_cons (pe_ix ix_list (pv 3) pe_int (fun _ _ => rfl)) pa_nil)))) pa_nil))))))))
      , ?_⟩
    obtain ⟨sa, ra, nm, ro, b, S, R, n, l, rfl, hS, wf, hn, hl, hll, k⟩ := h
    obtain ⟨dx, cl, td, cvs, kvs0, last, r0, nk⟩ := hS.raw
    refine ⟨_, rfl, ?_⟩
    refine ⟨_, rfl, rfl, _, rfl, ite2 (fun cc => ?_) fun cc => ?_⟩
    · have hn0 : n = 0 := by have := V.int.inj (of_decide_eq_true cc); omega
      subst hn0
      have es : sizeV S 0 l = placeSize S l := if_pos rfl
      refine ⟨_, rfl, ra, nI l, rfl, .inl hl, rfl, _, rfl, ?_⟩
      by_cases h2 : (nI l).length = 2
      · rw [ne_intF (show ((nI l).length : Int) = 2 by omega)]
        obtain ⟨q, m, rfl⟩ : ∃ q m, l = [q, m] := by
          rcases l with _ | ⟨q, _ | ⟨m, _ | ⟨x, t⟩⟩⟩
          · simp [nI] at h2
          · simp [nI] at h2
          · exact ⟨q, m, rfl⟩
          · simp [nI] at h2
        refine iteF ⟨_, rfl, ra, nI [q, m], _, .int (q : Nat), rfl, rfl, hl, at_of (j := 0) rfl rfl, _, _, rfl, rfl, _, rfl, ite2 (fun c1 => ?_) fun c1 => ?_⟩
        · have c1 : 1 ≤ q := by have := of_decide_eq_true c1; omega
          refine ⟨_, rfl, sa, _, dx, _, _, rfl, r0.ha, T.k_store, T.n_clients, rfl, cl, cvs, rfl, .inl (SqL.of r0.hc), _, _, rfl, rfl, _, rfl, ?_⟩
          by_cases c2 : q ≤ cvs.length
          · rw [show decide ((q : Int) ≤ (cvs.length : Int)) = true from decide_eq_true (by omega)]
            obtain ⟨c, hc1, hc2⟩ := client_some (S := S) c1 (by rw [← r0.ln]; exact c2)
            refine iteF ⟨_, rfl, ra, nI [q, m], _, .int (q : Nat), rfl, rfl, hl, at_of (j := 0) rfl rfl, _, rfl, _, rfl, ra, nI [q, m], rfl, hl, fun oa noa => ?_⟩
            have s1 : Same H (upd H oa (.lst (cutV (nI [q, m]) (some 1) none))) := Same.new noa
            have hoa : SqL K (upd H oa (.lst (cutV (nI [q, m]) (some 1) none))) oa (nI [m]) := SqL.of (by rw [upd_same, show (1 : Int) = ((1 : Nat) : Int) from rfl, cut_from]; rfl)
            refine ⟨_, _, rfl, ?_⟩
            refine ⟨_, rfl, oa, nI [m], rfl, .inl hoa, rfl, _, rfl, ?_⟩
            refine iteF ⟨_, rfl, _, rfl, _, rfl, oa, nI [m], _, .int (m : Nat), rfl, rfl, hoa, at_of (j := 0) rfl rfl, sa, nm, ro, b, S, q, m, c, rfl, hS.same s1, c1, hc2, wf.cok (List.mem_of_getElem? hc2), leLine (by show 2 ≤ 1000; decide), fun p np => ?_⟩
            refine k.some_ ?_ _ p (s1.trans (Same.new np)) (s1.free np) upd_same
            show (sizeV S 0 [q, m]).map _ = _
            rw [es]
            show ((clientAt S q).map fun c => messageSize c m).map _ = _
            rw [hc1]
            rfl
          · rw [show decide ((q : Int) ≤ (cvs.length : Int)) = false from decide_eq_false (by omega)]
            refine iteT (k.none_ ?_ _ (Same.refl H))
            show (sizeV S 0 [q, m]).map _ = _
            rw [es]
            show ((clientAt S q).map fun c => messageSize c m).map _ = _
            rw [client_none (.inr (by rw [← r0.ln]; omega))]
            rfl
        · have c1 : q = 0 := by have := of_decide_eq_false (Bool.eq_false_iff.mpr c1); omega
          refine ⟨_, rfl, iteT (k.none_ ?_ _ (Same.refl H))⟩
          show (sizeV S 0 [q, m]).map _ = _
          rw [es]
          show ((clientAt S q).map fun c => messageSize c m).map _ = _
          rw [client_none (.inl c1)]
          rfl
      · rw [ne_intT (show ¬ ((nI l).length : Int) = 2 by omega)]
        refine iteT (iteT (k.none_ ?_ _ (Same.refl H)))
        show (sizeV S 0 l).map _ = _
        rw [es]
        match l, h2 with
        | [], _ => rfl
        | [_], _ => rfl
        | [_, _], h2 => exact absurd rfl h2
        | _ :: _ :: _ :: _, _ => rfl
    · have hn0 : ¬ n = 0 := fun z => of_decide_eq_false (Bool.eq_false_iff.mpr cc) (by rw [z]; rfl)
      obtain ⟨c, hc1, hc2⟩ := client_some (S := S) (by omega) hn
      have es : sizeV S n l = clientSize c l := by unfold sizeV; rw [if_neg hn0, hc1]; rfl
      refine ⟨_, rfl, ra, nI l, rfl, .inl hl, rfl, _, rfl, ?_⟩
      by_cases h1 : (nI l).length = 1
      · rw [ne_intF (show ((nI l).length : Int) = 1 by omega)]
        obtain ⟨m, rfl⟩ : ∃ m, l = [m] := List.length_eq_one_iff.mp (by rw [← nI_length]; exact h1)
        refine iteF ⟨_, rfl, _, rfl, _, rfl, ra, nI [m], _, .int (m : Nat), rfl, rfl, hl, at_of (j := 0) rfl rfl, sa, nm, ro, b, S, n, m, c, rfl, hS, by omega, hc2, wf.cok (List.mem_of_getElem? hc2), leLine (by show 2 ≤ 1000; decide), fun p np => ?_⟩
        exact k.some_ (by show (sizeV S n [m]).map _ = _; rw [es]; rfl) _ p (Same.new np) np upd_same
      · rw [ne_intT (show ¬ ((nI l).length : Int) = 1 by omega)]
        refine iteT (k.none_ ?_ _ (Same.refl H))
        show (sizeV S n l).map _ = _
        rw [es]
        match l, h1 with
        | [], _ => rfl
        | [_], h1 => exact absurd rfl h1
        | _ :: _ :: _, _ => rfl
end
end Sh


set_option maxHeartbeats 2000000
namespace Sh
open PySem PySem.Spec PyProof.Rows L2
open Vbxlaa (fieldsOf rootsOf rootValues clientAt valueAtPlace messageSize testResult placeSize clientSize)
def testV (S : VSt) (n : Nat) (t : List Nat) : Option (Int × Int) := testResult S (sizeV S n) (foundV S n) t
theorem isV_dp {K : PySem.W.Frag} {nm : Nat → Int} {H : Hp} {v : V} {x : VV} (h : IsV K nm H v x) : Dp K H v (.tuple [.int (vk x), .int (vp nm x)]) := by
  obtain ⟨t, rfl, ht⟩ := h
  exact .tup ht.sq (.cons (.int _) (.cons (.int _) .nil))
theorem nI_cons (m : Nat) (r : List Nat) : nI (m :: r) = .int (m : Nat) :: nI r := rfl
theorem nI_take (r : List Nat) (m : Nat) : (nI r).take m = nI (r.take m) := (List.map_take ..).symm
theorem nI_drop (r : List Nat) (m : Nat) : (nI r).drop m = nI (r.drop m) := (List.map_drop ..).symm
theorem test0 (S : VSt) (n : Nat) (r : List Nat) : testResult S (sizeV S n) (foundV S n) (0 :: r) = sizeR S n r := by
  unfold sizeR
  show Option.map (fun (n : Int) => ((0 : Int), n)) ((sizeV S n r).bind fun a => some (a : Int)) = _
  cases sizeV S n r <;> rfl
section
variable {P : Program} {w : World} {K : PySem.W.Frag} {mg : Str → Option Value} {base : Heap} {ad : Ad}
theorem ok_same_result (T : Tx K mg ad) (D : Df K mg "same_result" s_same_result ["store", "number", "rest"]) (G_found_at : Ok P w K mg base 4 "found_at" ["store", "number", "path"] (spFoundAt K ad)) :
    Ok P w K mg base 5 "same_result" ["store", "number", "rest"] (spTest ad K fun S n l => testV S n (2 :: l)) := by
  refine D.ok c_same_result (fun vs H Q E h => ?_) (fun f cdv A outer s H vs Q E hr h => ?_)
  · obtain ⟨sa, ra, nm, ro, b, S, R, n, l, rfl, _⟩ := h
    rfl
  · refine ⟨_,
      (pss_cons (ps_if (PW.pt (pw_or (pt_cmpR (op_eqD hr.units) (pv 2) (pe_lst pa_nil) (nomark _)) (pw_or1 (pt_not (pt_chain op_le op_lt pe_int (pe_ix ix_list (pv 2) pe_int (fun _ _ => rfl)) (pe_op op_sub (pe_callB call_len_seq (by rfl) T.b_len (by decide +kernel) (pa_cons (pv 2) pa_nil)) pe_int)))))) (pss_one (L2N.ps_raise rfl (L2N.takes_of rfl rfl rfl rfl) (pmk_own0 F.excBase_Exception T.x_Failed T.g_Failed T.kp_Failed T.raises_Failed))) pss_nil)
        (pss_cons (ps_set (i := 3) c_same_result.nd rfl (Or.inl rfl) (pe_op op_add pe_int (pe_ix ix_list (pv 2) pe_int (fun _ _ => rfl))))
        (pss_cons (ps_par (i := 4) (j := 5) rfl c_same_result.nd rfl rfl (by decide) rfl rfl (pa_cons (pe_c G_found_at hr (L2N.takes_of rfl rfl rfl rfl) (pa_cons (pv 0) (pa_cons (pv 1) (pa_cons (pe_slice sl_list (pv 2) (po_some pe_int) (po_some (pv 3))) pa_nil)))) (pa_cons (pe_c G_found_at hr (L2N.takes_of rfl rfl rfl rfl) (pa_cons (pv 0) (pa_cons (pv 1) (pa_cons (pe_slice sl_list (pv 2) (po_some (pv 3)) po_none) pa_nil)))) pa_nil)) (by rfl))
        (pss_one (ps_ret (pe_lst (pa_cons pe_int (pa_cons (pe_callTy call_int1 (by rfl) T.b_int (by decide +kernel) (pa_cons (pe_cmpR (op_eqD hr.units) (pv 4) (pv 5) (nomark _)) pa_nil)) pa_nil))))))))
      , ?_⟩
    obtain ⟨sa, ra, nm, ro, b, S, R, n, l, rfl, hS, wf, hn, hl, hll, k⟩ := h
    refine ⟨_, rfl, leLine (by decide), fun e0 n0 => ?_⟩
    have s1 : Same H (upd H e0 (.lst [])) := Same.new n0
    refine ⟨.list ((l.map fun i => ((i : Nat) : Int)).map PyData.int), .list [], .lst (s1.seq hl) (by rw [nI_ints]; exact dpInts _), .lst (SqL.of upd_same) .nil, shaped_ints _, rfl, _, rfl, ?_⟩
    rw [eqv_nil]
    cases l with
    | nil => exact iteT (iteT (k.none_ rfl _ s1))
    | cons m r =>
      have hl1 : SqL K (upd H e0 (.lst [])) ra (nI (m :: r)) := s1.seq hl
      refine iteF ⟨_, rfl, ra, nI (m :: r), _, .int (m : Nat), rfl, rfl, hl1, at_of (j := 0) rfl rfl, _, _, rfl, rfl, _, rfl, ite2 (fun c1 => ?_) fun c1 => ?_⟩
      · have c1 : 1 ≤ m := by have := of_decide_eq_true c1; omega
        refine ⟨_, rfl, ra, nI (m :: r), rfl, .inl hl1, _, _, rfl, rfl, _, _, rfl, rfl, _, rfl, ?_⟩
        have hlen : ((nI (m :: r)).length : Int) = r.length + 1 := by rw [nI_length]; simp
        by_cases c2 : m < r.length
        · rw [show decide ((m : Int) < ((nI (m :: r)).length : Int) - 1) = true from decide_eq_true (by omega)]
          refine iteF ?_
          refine ⟨_, rfl, ra, nI (m :: r), _, .int (m : Nat), rfl, rfl, hl1, at_of (j := 0) rfl rfl, _, _, rfl, rfl, ?_⟩
          have em : (1 : Int) + (m : Int) = ((1 + m : Nat) : Int) := by omega
          have e1 : cutV (nI (m :: r)) (some 1) (some ((1 : Int) + (m : Int))) = nI (r.take m) := by
            rw [em, show (1 : Int) = ((1 : Nat) : Int) from rfl, cut_mid _ _ _ (by rw [nI_length, List.length_cons]; omega), nI_drop, nI_take, show 1 + m - 1 = m by omega]
            rfl
          have e2 : cutV (nI (m :: r)) (some ((1 : Int) + (m : Int))) none = nI (r.drop m) := by
            rw [em, cut_from, nI_drop, show 1 + m = m + 1 by omega]
            rfl
          refine ⟨_, rfl, _, rfl, _, rfl, _, rfl, _, rfl, _, rfl, ra, _, rfl, hl1, fun p1 np1 => ?_⟩
          rw [e1]
          have s2 := s1.trans (Same.new (o := .lst (nI (r.take m))) np1)
          refine ⟨sa, p1, nm, ro, b, S, R, n, r.take m, rfl, hS.same s2, wf, SqL.of upd_same, fun x ex H2 v sx lv iv => ?_, fun ex H2 sx => ?_⟩
          · have s3 := s2.trans sx
            refine ⟨_, rfl, _, rfl, _, rfl, _, rfl, _, rfl, ra, _, rfl, s3.seq hl, fun p2 np2 => ?_⟩
            rw [e2]
            have s4 := s3.trans (Same.new (o := .lst (nI (r.drop m))) np2)
            refine ⟨sa, p2, nm, ro, b, S, R, n, r.drop m, rfl, hS.same s4, wf, SqL.of upd_same, fun y ey H3 u sy lv2 iu => ?_, fun ey H3 sy => ?_⟩
            · have iv3 := iv.keep ((Tups.new (o := .lst (nI (r.drop m))) np2).trans (Same.tups sy))
              refine ⟨_, _, rfl, ?_⟩
              have s5 := s4.trans sy
              obtain ⟨tv, rfl, htv⟩ := id iv3
              obtain ⟨tu, rfl, htu⟩ := id iu
              refine ⟨_, rfl, _, rfl, _, _, isV_dp iv3, isV_dp iu, rfl, rfl, .inr ⟨_, rfl, leLine (by show 2 ≤ 1000; decide), fun p np => ?_⟩⟩
              refine k.some_ (a := 0) (b := if PyData.eqv (.tuple [.int (vk x), .int (vp nm x)]) (.tuple [.int (vk y), .int (vp nm y)]) then 1 else 0) ?_ _ p (s5.trans (Same.new np)) (s5.free np) upd_same
              rw [eqv_pair]
              show ((foundV S n (r.take m)).bind fun a => (foundV S n (r.drop m)).map fun b => ((0 : Int), if a = b then (1 : Int) else 0)) = _
              rw [ex, ey]
              show some ((0 : Int), if x = y then (1 : Int) else 0) = _
              obtain ⟨_, _, _, _, _, _, _, nk⟩ := hS.raw
              by_cases exy : x = y
              · rw [exy, if_pos rfl]
                simp
              · rw [if_neg exy]
                by_cases h1 : vk x = vk y
                · rw [decide_eq_true h1, decide_eq_false fun z => exy (vk_vp_inj nk.inj h1 z)]
                  simp
                · rw [decide_eq_false h1]
                  simp
            · refine k.none_ ?_ _ (s4.trans sy)
              show ((foundV S n (r.take m)).bind fun a => (foundV S n (r.drop m)).map fun b => ((0 : Int), if a = b then (1 : Int) else 0)) = _
              rw [ex, ey]
              rfl
          · refine k.none_ ?_ _ (s2.trans sx)
            show ((foundV S n (r.take m)).bind fun a => (foundV S n (r.drop m)).map fun b => ((0 : Int), if a = b then (1 : Int) else 0)) = _
            rw [ex]
            rfl
        · rw [show decide ((m : Int) < ((nI (m :: r)).length : Int) - 1) = false from decide_eq_false (by omega)]
          refine iteT (k.none_ ?_ _ s1)
          show ((foundV S n (r.take m)).bind fun a => (foundV S n (r.drop m)).map fun b => ((0 : Int), if a = b then (1 : Int) else 0)) = _
          rw [List.drop_eq_nil_of_le (by omega), foundV_nil]
          cases foundV S n (r.take m) <;> rfl
      · have c1 : m = 0 := by have := of_decide_eq_false (Bool.eq_false_iff.mpr c1); omega
        refine ⟨_, rfl, iteT (k.none_ ?_ _ s1)⟩
        show ((foundV S n (r.take m)).bind fun a => (foundV S n (r.drop m)).map fun b => ((0 : Int), if a = b then (1 : Int) else 0)) = _
        rw [c1, List.take_zero, foundV_nil]
        rfl
def spResultOf (ad : Ad) (K : PySem.W.Frag) : Sp := fun vs H Q E => ∃ (sa ra : Addr) (nm : Nat → Int) (ro : Rm) (b : Bool) (S : VSt) (R : Nat → Prop) (n : Nat) (l : List Nat), vs = [.ref sa, .int (n : Nat), .ref ra] ∧ StoreAt K ad nm ro H b sa S ∧ Wf S R ∧ n ≤ S.clients.length ∧ SqL K H ra (nI l) ∧ l.length ≤ 200 ∧ l ≠ [] ∧
  Res ad H Q E (runV S n l)
theorem ok_result_of (T : Tx K mg ad) (D : Df K mg "result_of" s_result_of ["store", "number", "test"]) (G_size_result : Ok P w K mg base 2 "size_result" ["store", "number", "rest"] (spTest ad K sizeR)) (G_found_at : Ok P w K mg base 4 "found_at" ["store", "number", "path"] (spFoundAt K ad))
    (G_detail : Ok P w K mg base 1 "detail" ["store", "own"] (spDetail K ad)) (G_same_result : Ok P w K mg base 5 "same_result" ["store", "number", "rest"] (spTest ad K fun S n l => testV S n (2 :: l))) :
    Ok P w K mg base 6 "result_of" ["store", "number", "test"] (spResultOf ad K) := by
  refine D.ok c_result_of (fun vs H Q E h => ?_) (fun f cdv A outer s H vs Q E hr h => ?_)
  · obtain ⟨sa, ra, nm, ro, b, S, R, n, l, rfl, _⟩ := h
    rfl
  · refine ⟨_,
      (pss_cons (ps_if (pt_cmpR op_eq (pe_ix ix_list (pv 2) pe_int (fun _ _ => rfl)) pe_int (nomark _)) (pss_one (ps_ret (pe_c G_size_result hr (L2N.takes_of rfl rfl rfl rfl) (pa_cons (pv 0) (pa_cons (pv 1) (pa_cons (pe_slice sl_list (pv 2) (po_some pe_int) po_none) pa_nil)))))) pss_nil)
        (pss_cons (ps_if (pt_cmpR op_eq (pe_ix ix_list (pv 2) pe_int (fun _ _ => rfl)) pe_int (nomark _)) (pss_one (ps_ret (pe_c G_detail hr (L2N.takes_of rfl rfl rfl rfl) (pa_cons (pv 0) (pa_cons (pe_c G_found_at hr (L2N.takes_of rfl rfl rfl rfl) (pa_cons (pv 0) (pa_cons (pv 1) (pa_cons (pe_slice sl_list (pv 2) (po_some pe_int) po_none) pa_nil)))) pa_nil))))) pss_nil)
        (pss_cons (ps_if (pt_cmpR op_eq (pe_ix ix_list (pv 2) pe_int (fun _ _ => rfl)) pe_int (nomark _)) (pss_one (ps_ret (pe_c G_same_result hr (L2N.takes_of rfl rfl rfl rfl) (pa_cons (pv 0) (pa_cons (pv 1) (pa_cons (pe_slice sl_list (pv 2) (po_some pe_int) po_none) pa_nil)))))) pss_nil)
        (pss_one (L2N.ps_raise rfl (L2N.takes_of rfl rfl rfl rfl) (pmk_own0 F.excBase_Exception T.x_Failed T.g_Failed T.kp_Failed T.raises_Failed))))))
      , ?_⟩
    obtain ⟨sa, ra, nm, ro, b, S, R, n, l, rfl, hS, wf, hn, hl, hll, hne, k⟩ := h
    rw [runV_eq hn] at k
    cases l with
    | nil => exact absurd rfl hne
    | cons h r =>
      have hrl : r.length ≤ 200 := by rw [List.length_cons] at hll; omega
      have ecut : cutV (nI (h :: r)) (some 1) none = nI r := by rw [show (1 : Int) = ((1 : Nat) : Int) from rfl, cut_from]; rfl
      refine ⟨_, rfl, ra, nI (h :: r), _, .int (h : Nat), rfl, rfl, hl, at_of (j := 0) rfl rfl, rfl, _, rfl, ite2 (fun cc => ?_) fun cc0 => ?_⟩
      · have e0 : h = 0 := by have := V.int.inj (of_decide_eq_true cc); omega
        subst e0
        refine ⟨_, rfl, _, rfl, _, rfl, _, rfl, ra, _, rfl, hl, fun p1 np1 => ?_⟩
        rw [ecut]
        have s1 : Same H (upd H p1 (.lst (nI r))) := Same.new np1
        refine ⟨sa, p1, nm, ro, b, S, R, n, r, rfl, hS.same s1, wf, hn, SqL.of upd_same, hrl, ?_⟩
        have k2 : Res ad H Q E (sizeR S n r) := test0 S n r ▸ k
        show Res ad _ Q E (sizeR S n r)
        cases e : sizeR S n r with
        | none => exact fun H2 s2 => k2.none_ e _ (s1.trans s2)
        | some x => exact fun H2 p s2 np hp => k2.some_ (a := x.1) (b := x.2) e _ p (s1.trans s2) (s1.free np) hp
      refine ⟨_, rfl, ra, nI (h :: r), _, .int (h : Nat), rfl, rfl, hl, at_of (j := 0) rfl rfl, rfl, _, rfl, ite2 (fun cc => ?_) fun cc1 => ?_⟩
      · have e0 : h = 1 := by have := V.int.inj (of_decide_eq_true cc); omega
        subst e0
        refine ⟨_, rfl, _, rfl, _, rfl, _, rfl, _, rfl, ra, _, rfl, hl, fun p1 np1 => ?_⟩
        rw [ecut]
        have s1 : Same H (upd H p1 (.lst (nI r))) := Same.new np1
        have k2 : Res ad H Q E ((foundV S n r).map (Vbxlaa.describe S)) := k
        refine ⟨sa, p1, nm, ro, b, S, R, n, r, rfl, hS.same s1, wf, SqL.of upd_same, fun x ex H2 v s2 lv iv => ?_, fun ex H2 s2 => k2.none_ (by rw [ex]; rfl) _ (s1.trans s2)⟩
        have s3 := s1.trans s2
        refine ⟨sa, v, nm, ro, b, S, R, x, rfl, hS.same s3, wf, iv, lv, fun H3 p s4 np hp => ?_⟩
        exact k2.some_ (by rw [ex]; rfl) _ p (s3.trans s4) (s3.free np) hp
      refine ⟨_, rfl, ra, nI (h :: r), _, .int (h : Nat), rfl, rfl, hl, at_of (j := 0) rfl rfl, rfl, _, rfl, ite2 (fun cc => ?_) fun cc2 => ?_⟩
      · have e0 : h = 2 := by have := V.int.inj (of_decide_eq_true cc); omega
        subst e0
        refine ⟨_, rfl, _, rfl, _, rfl, _, rfl, ra, _, rfl, hl, fun p1 np1 => ?_⟩
        rw [ecut]
        have s1 : Same H (upd H p1 (.lst (nI r))) := Same.new np1
        refine ⟨sa, p1, nm, ro, b, S, R, n, r, rfl, hS.same s1, wf, hn, SqL.of upd_same, hrl, ?_⟩
        have k2 : Res ad H Q E (testV S n (2 :: r)) := k
        show Res ad _ Q E (testV S n (2 :: r))
        cases e : testV S n (2 :: r) with
        | none => exact fun H2 s2 => k2.none_ e _ (s1.trans s2)
        | some x => exact fun H2 p s2 np hp => k2.some_ (a := x.1) (b := x.2) e _ p (s1.trans s2) (s1.free np) hp
      · refine k.none_ ?_ _ (Same.refl H)
        have h0 : h ≠ 0 := fun z => cc0 (by rw [z]; rfl)
        have h1 : h ≠ 1 := fun z => cc1 (by rw [z]; rfl)
        have h2 : h ≠ 2 := fun z => cc2 (by rw [z]; rfl)
        match h, h0, h1, h2 with
        | 0, h0, _, _ => exact absurd rfl h0
        | 1, _, h1, _ => exact absurd rfl h1
        | 2, _, _, h2 => exact absurd rfl h2
        | h + 3, _, _, _ => rfl
end
end Sh


/-! M5: differences of the specification. -/
namespace Sh
open Vbxlaa (fieldsOf messageSize firstSizeDifference differenceFrom pathOf childPairs describe)
abbrev VP := Vbxlaa.Pair
abbrev VM := Vbxlaa.Met
def cAt (S : VSt) (n : Nat) : VC := (S.clients[n - 1]?).getD Vbxlaa.emptyClient
theorem cAt_eq {S : VSt} {n : Nat} {c : VC} (h : S.clients[n - 1]? = some c) : cAt S n = c := by unfold cAt; rw [h]; rfl
/-! ### sizes -/
def first4 (c d : VC) : Option Nat := (List.range 4).find? fun m => messageSize c m != messageSize d m
theorem size_out {c : VC} {m : Nat} (h : c.inbox.length ≤ m) : messageSize c m = 0 := by
  unfold Vbxlaa.messageSize
  rw [List.getD_eq_getElem?_getD, List.getElem?_eq_none h]
  rfl
theorem first4_eq {c d : VC} (hc : c.inbox.length ≤ 4) (hd : d.inbox.length ≤ 4) : firstSizeDifference c d = first4 c d := by
  unfold Vbxlaa.firstSizeDifference first4
  obtain ⟨k, hk⟩ : ∃ k, max c.inbox.length d.inbox.length + k = 4 := ⟨4 - max c.inbox.length d.inbox.length, by omega⟩
  rw [← hk, List.range_add, List.find?_append]
  have e : ((List.range k).map fun x => max c.inbox.length d.inbox.length + x).find? (fun m => messageSize c m != messageSize d m) = none := by
    rw [List.find?_eq_none]
    intro m hm
    obtain ⟨x, _, rfl⟩ := List.mem_map.mp hm
    rw [size_out (c := c) (by omega), size_out (c := d) (by omega)]
    decide
  rw [e, Option.or_none]
theorem range4_drop {j : Nat} (h : j < 4) : (List.range 4).drop j = j :: (List.range 4).drop (j + 1) := by
  match j, h with
  | 0, _ => rfl
  | 1, _ => rfl
  | 2, _ => rfl
  | 3, _ => rfl
def sizeD (S T : VSt) (is : Bool) (p : Nat × Nat) : Option (List Nat) := (first4 (cAt S p.1) (cAt T p.2)).map fun m => if is = true then [0, p.1, m] else [0, m]
/-! ### queues -/
def begunQ (S T : VSt) (is : Bool) (l : List (Nat × Nat)) : List VP := l.flatMap fun p => Vbxlaa.rootPairs (if is = true then [p.1] else []) (cAt S p.1) (cAt T p.2)
/-! ### the elder pair -/
def elderF (x y : Nat) (m : VM) : Bool := m.left == x || m.right == y
def bothF (x y : Nat) (m : VM) : Bool := m.left == x && m.right == y
theorem elder_spec (x y : Nat) : ∀ met : List VM, match met.findIdx? (fun m => m.left == x), met.findIdx? (fun m => m.right == y) with
    | none, none => met.find? (elderF x y) = none
    | some i, none => met.find? (elderF x y) = met[i]? ∧ i < met.length
    | none, some j => met.find? (elderF x y) = met[j]? ∧ j < met.length
    | some i, some j => met.find? (elderF x y) = met[min i j]? ∧ i < met.length ∧ j < met.length
  | [] => rfl
  | m :: met => by
    have ih := elder_spec x y met
    rw [List.findIdx?_cons, List.findIdx?_cons, List.find?_cons]
    by_cases h1 : m.left = x
    · rw [if_pos (by simpa using h1), show elderF x y m = true by unfold elderF; simp [h1]]
      by_cases h2 : m.right = y
      · rw [if_pos (by simpa using h2)]
        simp
      · rw [if_neg (by simpa using h2)]
        cases e2 : met.findIdx? (fun m => m.right == y) with
        | none => simp
        | some j =>
          rw [e2] at ih
          have hj : j < met.length := by
            cases e1 : met.findIdx? (fun m => m.left == x) with
            | none => rw [e1] at ih; exact ih.2
            | some i => rw [e1] at ih; exact ih.2.2
          simp
          omega
    · rw [if_neg (by simpa using h1)]
      by_cases h2 : m.right = y
      · rw [if_pos (by simpa using h2), show elderF x y m = true by unfold elderF; simp [h2]]
        cases e1 : met.findIdx? (fun m => m.left == x) with
        | none => simp
        | some i =>
          rw [e1] at ih
          have hi : i < met.length := by
            cases e2 : met.findIdx? (fun m => m.right == y) with
            | none => rw [e2] at ih; exact ih.2
            | some j => rw [e2] at ih; exact ih.2.1
          simp
          omega
      · rw [if_neg (by simpa using h2), show elderF x y m = false by unfold elderF; simp [h1, h2]]
        cases e1 : met.findIdx? (fun m => m.left == x) with
        | none =>
          cases e2 : met.findIdx? (fun m => m.right == y) with
          | none => rw [e1, e2] at ih; simpa using ih
          | some j =>
            rw [e1, e2] at ih
            simp
            exact ih
        | some i =>
          cases e2 : met.findIdx? (fun m => m.right == y) with
          | none =>
            rw [e1, e2] at ih
            simp
            exact ih
          | some j =>
            rw [e1, e2] at ih
            simp
            refine ⟨?_, ih.2.1, ih.2.2⟩
            exact ih.1
theorem findIdx_some {p : VM → Bool} {i : Nat} : ∀ {l : List VM}, l.findIdx? p = some i → ∃ m, l[i]? = some m ∧ p m = true := by
  intro l h
  rw [List.findIdx?_eq_some_iff_getElem] at h
  obtain ⟨h1, h2, _⟩ := h
  exact ⟨_, List.getElem?_eq_getElem h1, h2⟩
theorem findIdx_none {p : VM → Bool} {l : List VM} (h : l.findIdx? p = none) : ∀ m ∈ l, p m = false := by
  rw [List.findIdx?_eq_none_iff] at h
  exact h
/-- the law of one step where objects meet -/
theorem met_step {S T : VSt} {n : Nat} {queue : List VP} {met : List VM} {x y : Nat} {path : List Nat} (nl : (met.map fun m => m.left).Nodup) (nr : (met.map fun m => m.right).Nodup) (hd : describe S (.object x) = describe T (.object y)) :
    differenceFrom S T (n + 1) (⟨path, .object x, .object y⟩ :: queue) met = match met.find? (elderF x y) with
      | none => differenceFrom S T n (queue ++ childPairs S T path x y) (met ++ [⟨path, x, y⟩])
      | some e => if met.any (bothF x y) = true then differenceFrom S T n queue met else some (2 :: path.length :: (path ++ e.path)) := by
  have hu : differenceFrom S T (n + 1) (⟨path, .object x, .object y⟩ :: queue) met = match met.findIdx? (fun m => m.left == x), met.findIdx? (fun m => m.right == y) with
      | none, none => differenceFrom S T n (queue ++ childPairs S T path x y) (met ++ [⟨path, x, y⟩])
      | some i, none => some (2 :: path.length :: (path ++ pathOf met i))
      | none, some j => some (2 :: path.length :: (path ++ pathOf met j))
      | some i, some j => if i = j then differenceFrom S T n queue met else some (2 :: path.length :: (path ++ pathOf met (min i j))) := by
    show (if describe S (.object x) ≠ describe T (.object y) then _ else _) = _
    rw [if_neg (by rw [hd]; simp)]
    rfl
  rw [hu]
  have es := elder_spec x y met
  have noL : met.findIdx? (fun m => m.left == x) = none → met.any (bothF x y) = false := fun h => by
    rw [List.any_eq_false]
    intro m hm
    have := findIdx_none h m hm
    unfold bothF
    simp at this ⊢
    exact fun z => absurd z this
  have noR : met.findIdx? (fun m => m.right == y) = none → met.any (bothF x y) = false := fun h => by
    rw [List.any_eq_false]
    intro m hm
    have := findIdx_none h m hm
    unfold bothF
    simp at this ⊢
    exact fun _ => this
  cases e1 : met.findIdx? (fun m => m.left == x) with
  | none =>
    cases e2 : met.findIdx? (fun m => m.right == y) with
    | none =>
      rw [e1, e2] at es
      simp only at es
      rw [es]
    | some j =>
      rw [e1, e2] at es
      simp only at es
      obtain ⟨m, hm, _⟩ := findIdx_some e2
      rw [es.1, hm, noL e1]
      simp only [Bool.false_eq_true, if_false]
      unfold Vbxlaa.pathOf
      rw [hm]
      rfl
  | some i =>
    cases e2 : met.findIdx? (fun m => m.right == y) with
    | none =>
      rw [e1, e2] at es
      simp only at es
      obtain ⟨m, hm, _⟩ := findIdx_some e1
      rw [es.1, hm, noR e2]
      simp only [Bool.false_eq_true, if_false]
      unfold Vbxlaa.pathOf
      rw [hm]
      rfl
    | some j =>
      rw [e1, e2] at es
      simp only at es
      obtain ⟨m1, hm1, q1⟩ := findIdx_some e1
      obtain ⟨m2, hm2, q2⟩ := findIdx_some e2
      have q1 : m1.left = x := by simpa using q1
      have q2 : m2.right = y := by simpa using q2
      by_cases eij : i = j
      · subst eij
        rw [hm1] at hm2
        cases hm2
        have ha : met.any (bothF x y) = true := by
          rw [List.any_eq_true]
          exact ⟨m1, List.mem_of_getElem? hm1, by unfold bothF; simp [q1, q2]⟩
        rw [es.1, Nat.min_self, hm1, ha]
        simp
      · have ha : met.any (bothF x y) = false := by
          rw [List.any_eq_false]
          intro m hm z
          obtain ⟨k, hk, ek⟩ := List.getElem_of_mem hm
          have hk2 : met[k]? = some m := (List.getElem?_eq_getElem hk).trans (congrArg some ek)
          unfold bothF at z
          simp at z
          have g1 : k = i := nodup_ix' nl (x := x) (by rw [List.getElem?_map, hk2]; exact congrArg some z.1) (by rw [List.getElem?_map, hm1]; exact congrArg some q1)
          have g2 : k = j := nodup_ix' nr (x := y) (by rw [List.getElem?_map, hk2]; exact congrArg some z.2) (by rw [List.getElem?_map, hm2]; exact congrArg some q2)
          exact eij (g1.symm.trans g2)
        obtain ⟨m, hm⟩ : ∃ m, met[min i j]? = some m := ⟨_, List.getElem?_eq_getElem (by omega)⟩
        rw [es.1, hm, ha]
        simp only [Bool.false_eq_true, if_false, if_neg eij]
        unfold Vbxlaa.pathOf
        rw [hm]
        rfl
theorem find_elder_drop {p : VM → Bool} {l : List VM} {j : Nat} {m : VM} (h : l[j]? = some m) : (l.drop j).find? p = if p m = true then some m else (l.drop (j + 1)).find? p := by
  obtain ⟨hj, e⟩ := List.getElem?_eq_some_iff.mp h
  rw [List.drop_eq_getElem_cons hj, e, List.find?_cons]
  cases p m <;> rfl
theorem any_drop {p : VM → Bool} {l : List VM} {j : Nat} {m : VM} (h : l[j]? = some m) : (l.drop j).any p = (p m || (l.drop (j + 1)).any p) := by
  obtain ⟨hj, e⟩ := List.getElem?_eq_some_iff.mp h
  rw [List.drop_eq_getElem_cons hj, e, List.any_cons]
/-- no pair yet: nothing of the two is among the met ones -/
theorem elder_none {met : List VM} {x y : Nat} (h : met.find? (elderF x y) = none) : x ∉ met.map (fun m => m.left) ∧ y ∉ met.map (fun m => m.right) := by
  rw [List.find?_eq_none] at h
  constructor
  · intro z
    obtain ⟨m, hm, e⟩ := List.mem_map.mp z
    have := h m hm
    unfold elderF at this
    simp [e] at this
  · intro z
    obtain ⟨m, hm, e⟩ := List.mem_map.mp z
    have := h m hm
    unfold elderF at this
    simp [e] at this
end Sh

set_option maxHeartbeats 2000000
namespace Sh
open PySem PySem.Spec PyProof.Rows L2
open Vbxlaa (fieldsOf rootsOf rootValues clientAt messageSize)
section
variable {P : Program} {w : World} {K : PySem.W.Frag} {mg : Str → Option Value} {base : Heap} {ad : Ad}
/-- a side: its store and its clients' numbers -/
structure SideAt (K : PySem.W.Frag) (ad : Ad) (nm : Nat → Int) (ro : Rm) (H : Hp) (b : Bool) (x : Addr) (S : VSt) (R : Nat → Prop) (ns : List Nat) : Prop where
  ex : ∃ dx sa na, H x = some (.ins ad.side dx [("store", .ref sa), ("numbers", .ref na)]) ∧ H na = some (.lst (nI ns)) ∧ StoreAt K ad nm ro H b sa S
  wf : Wf S R
  ok : ∀ n ∈ ns, 1 ≤ n ∧ n ≤ S.clients.length
  le : ns.length ≤ 4
theorem SideAt.same {nm : Nat → Int} {ro : Rm} {H H' : Hp} {b : Bool} {x : Addr} {S : VSt} {R : Nat → Prop} {ns : List Nat} (h : SideAt K ad nm ro H b x S R ns) (s : Same H H') : SideAt K ad nm ro H' b x S R ns := by
  obtain ⟨dx, sa, na, h1, h2, h3⟩ := h.ex
  exact ⟨⟨dx, sa, na, s _ _ h1, s _ _ h2, h3.same s⟩, h.wf, h.ok, h.le⟩
theorem SideAt.get {nm : Nat → Int} {ro : Rm} {H : Hp} {b : Bool} {x : Addr} {S : VSt} {R : Nat → Prop} {ns : List Nat} (h : SideAt K ad nm ro H b x S R ns) {n : Nat} (hn : n ∈ ns) : 1 ≤ n ∧ S.clients[n - 1]? = some (cAt S n) ∧ cAt S n ∈ S.clients := by
  obtain ⟨h1, h2⟩ := h.ok n hn
  obtain ⟨c, _, hc⟩ := client_some h1 h2
  rw [cAt_eq hc]
  exact ⟨h1, hc, List.mem_of_getElem? hc⟩
/-! ### heads -/
def HeadAt (K : PySem.W.Frag) (ad : Ad) (nm : Nat → Int) (ro : Rm) (b : Bool) (S : VSt) (is : Bool) (H0 Hc H : Hp) (v : V) (n : Nat) : Prop := ∃ t ha ca, v = .ref t ∧ H t = some (.tup [.ref ha, .ref ca]) ∧ H ha = some (.lst (nI (if is = true then [n] else []))) ∧ Hc ha = none ∧ ClientAt K ad nm ro H0 b (n - 1) ca (cAt S n)
def HeadN (K : PySem.W.Frag) (ad : Ad) (nm : Nat → Int) (ro : Rm) (b : Bool) (S : VSt) (is : Bool) (H0 Hc : Hp) (L : Addr) (H : Hp) (v : V) (n : Nat) : Prop := ∃ t ha ca, v = .ref t ∧ H t = some (.tup [.ref ha, .ref ca]) ∧ H ha = some (.lst (nI (if is = true then [n] else []))) ∧ ha ≠ L ∧ Hc ha = none ∧ ClientAt K ad nm ro H0 b (n - 1) ca (cAt S n)
theorem HeadAt.same {nm : Nat → Int} {ro : Rm} {b : Bool} {S : VSt} {is : Bool} {H0 Hc H H' : Hp} {v : V} {n : Nat} (h : HeadAt K ad nm ro b S is H0 Hc H v n) (s : Same H H') : HeadAt K ad nm ro b S is H0 Hc H' v n := by
  obtain ⟨t, ha, ca, e, h1, h2, h3, h4⟩ := h
  exact ⟨t, ha, ca, e, s _ _ h1, s _ _ h2, h3, h4⟩
def spHeads (K : PySem.W.Frag) (ad : Ad) : Sp := fun vs H Q _ => ∃ (x : Addr) (is : Bool) (nm : Nat → Int) (ro : Rm) (b : Bool) (S : VSt) (R : Nat → Prop) (ns : List Nat) (H0 : Hp), vs = [.ref x, .bl is] ∧ Same H0 H ∧ SideAt K ad nm ro H0 b x S R ns ∧
  ∀ H' p hvs, Same H H' → H p = none → H' p = some (.lst hvs) → Paired (HeadAt K ad nm ro b S is H0 H H') hvs ns → Q (.ref p) H'
theorem ok_heads (T : Tx K mg ad) (D : Df K mg "heads" s_heads ["side", "is_store"]) : Ok P w K mg base 1 "heads" ["side", "is_store"] (spHeads K ad) := by
  refine D.ok c_heads (fun vs H Q E h => ?_) (fun f cdv A outer s H vs Q E hr h => ?_)
  · obtain ⟨x, is, nm, ro, b, S, R, ns, H0, rfl, _⟩ := h
    rfl
  · refine ⟨_,
      (pss_one (ps_ret (pe_lc (own := [("number", 2)]) (g := (gName 2)) (tt := tYes) rfl c_heads.nd (pi_list (pe_fld (pv 0) rfl)) (blkOk_by (own := [("number", 2)]) (N := ["side", "is_store", "number"]) (sc := defScope s_heads) (by decide +kernel)) (fun _ _ _ _ _ => by exact (pg_name (i := 2) c_heads.nd rfl (Or.inl rfl))) (fun _ _ _ _ _ => by exact pts_nil) (fun _ _ _ _ _ => by exact (pe_tup (by exact (pa_cons (pe_ifExp (pt_val (pv 1)) (pe_lst (by exact (pa_cons (pv 2) pa_nil))) (pe_lst (by exact pa_nil))) (pa_cons (pe_ix (ix_listK (K := K)) (pe_fldK (K := K) (pe_fldK (K := K) (pv 0) rfl) rfl) (pe_op op_sub (pv 2) pe_int) (fun _ _ => rfl)) pa_nil))))))))
      , ?_⟩
    obtain ⟨x, is, nm, ro, b, S, R, ns, H0, rfl, s00, hX, k⟩ := h
    obtain ⟨dx, sa, na, h1, h2, h3⟩ := hX.ex
    obtain ⟨dxs, cl, td, cvs, kvs0, last, r0, nk⟩ := h3.raw
    have hle := hX.le
    refine ⟨_, rfl, x, _, dx, _, _, rfl, s00 _ _ h1, T.k_side, T.n_numbers, rfl, na, rfl, ⟨_, SqL.of (s00 _ _ h2)⟩, fun L nL => lc_list (K := K) (a := na) (xs := nI ns) (fun j H2 => ∃ acc, Bld H L acc H2 ∧ Paired (HeadN K ad nm ro b S is H0 H L H2) acc (ns.take j)) ⟨[], Bld.start nL, .nil⟩ (fun j H2 _ ⟨_, hB, _⟩ => SqL.of (hB.sm _ _ (s00 _ _ h2))) ?_ ?_⟩
    · rintro j y H2 hj ⟨acc, hB, hP⟩
      obtain ⟨n, hn, rfl⟩ := nI_get hj
      obtain ⟨n1, hcl, cm⟩ := hX.get (List.mem_of_getElem? hn)
      obtain ⟨ca, e1, e2⟩ := r0.ct _ _ hcl
      have hj2 : j < ns.length := (List.getElem?_eq_some_iff.mp hn).1
      have al : acc.length ≤ 4 := by
        rw [Paired.length hP, List.length_take]
        omega
      refine ⟨rfl, yes ?_⟩
      have wrap : ∀ (ha : Addr) (hl : List Nat), H2 ha = none → hl = (if is = true then [n] else []) → ∀ t, upd H2 ha (.lst (nI hl)) t = none → ∃ acc', upd (upd H2 ha (.lst (nI hl))) t (.tup [.ref ha, .ref ca]) L = some (.lst acc') ∧ acc'.length < sizeLine ∧ ∃ acc_1,
          Bld H L acc_1 (upd (upd (upd H2 ha (.lst (nI hl))) t (.tup [.ref ha, .ref ca])) L (.lst (acc' ++ [.ref t]))) ∧ Paired (HeadN K ad nm ro b S is H0 H L (upd (upd (upd H2 ha (.lst (nI hl))) t (.tup [.ref ha, .ref ca])) L (.lst (acc' ++ [.ref t])))) acc_1 (ns.take (j + 1)) := fun ha hl nh ehl t nt => by
        have B3 := (hB.new (o := .lst (nI hl)) nh).new (o := .tup [.ref ha, .ref ca]) nt
        have s3 : Same H2 (upd (upd H2 ha (.lst (nI hl))) t (.tup [.ref ha, .ref ca])) := (Same.new nh).trans (Same.new nt)
        have nhL : ha ≠ L := fun z => by rw [z, hB.at_] at nh; cases nh
        have ntL : t ≠ L := ne_of upd_same B3.at_ (by intro z; cases z)
        have nht : ha ≠ t := ne_of_none upd_same nt
        refine ⟨acc, B3.at_, small1000 (by omega), acc ++ [.ref t], B3.put nL, ?_⟩
        obtain ⟨hq, eq⟩ := List.getElem?_eq_some_iff.mp hn
        rw [List.take_succ_eq_append_getElem hq, eq]
        refine pair_snoc (Paired.mapP hP fun v m z => ?_) ⟨t, ha, ca, rfl, (upd_ne ntL).trans upd_same, ?_, nhL, hB.sm.free nh, e2⟩
        · obtain ⟨t0, ha0, ca0, z1, z2, z3, z4, z6, z5⟩ := z
          have nt0 : t0 ≠ L := ne_of z2 hB.at_ (by intro z; cases z)
          exact ⟨t0, ha0, ca0, z1, (upd_ne nt0).trans (s3 _ _ z2), (upd_ne z4).trans (s3 _ _ z3), z4, z6, z5⟩
        · rw [upd_ne nhL, upd_ne nht, upd_same, ehl]
      cases is with
      | true =>
        refine ⟨_, rfl, _, rfl, iteT ⟨_, rfl, leLine (by show 1 ≤ 1000; decide), fun ha nh => ?_⟩⟩
        have s3 : Same H0 (upd H2 ha (.lst (nI [n]))) := (s00.trans hB.sm).trans (Same.new nh)
        exact ⟨_, rfl, x, _, dx, _, _, rfl, s3 _ _ h1, T.k_side, T.n_store, rfl, sa, _, dxs, _, _, rfl, s3 _ _ r0.ha, T.k_store, T.n_clients, rfl, _, rfl, _, _, rfl, rfl, cl, cvs, _, .ref ca, rfl, rfl, SqL.of (s3 _ _ r0.hc), at_of (j := n - 1) (by omega) e1, leLine (by show 2 ≤ 1000; decide), fun t nt => wrap ha [n] nh rfl t nt⟩
      | false =>
        refine ⟨_, rfl, _, rfl, iteF ⟨leLine (by decide), fun ha nh => ?_⟩⟩
        have s3 : Same H0 (upd H2 ha (.lst (nI []))) := (s00.trans hB.sm).trans (Same.new nh)
        exact ⟨_, rfl, x, _, dx, _, _, rfl, s3 _ _ h1, T.k_side, T.n_store, rfl, sa, _, dxs, _, _, rfl, s3 _ _ r0.ha, T.k_store, T.n_clients, rfl, _, rfl, _, _, rfl, rfl, cl, cvs, _, .ref ca, rfl, rfl, SqL.of (s3 _ _ r0.hc), at_of (j := n - 1) (by omega) e1, leLine (by show 2 ≤ 1000; decide), fun t nt => wrap ha [] nh rfl t nt⟩
    · rintro H2 ⟨acc, hB, hP⟩
      rw [nI_length, List.take_length] at hP
      refine k _ L acc hB.sm nL hB.at_ (Paired.mapP hP fun v n z => ?_)
      obtain ⟨t, ha, ca, z1, z2, z3, z4, z6, z5⟩ := z
      exact ⟨t, ha, ca, z1, z2, z3, z6, z5⟩
end
end Sh


set_option maxHeartbeats 2000000
namespace Sh
open PySem PySem.Spec PyProof.Rows L2
open Vbxlaa (fieldsOf rootsOf rootValues clientAt messageSize)
def ResL (H : Hp) (Q : VK) (o : Option (List Nat)) : Prop := match o with
  | none => ∀ H', Same H H' → Q .non H'
  | some l => l.length ≤ 900 → ∀ H' p, Same H H' → H p = none → H' p = some (.lst (nI l)) → Q (.ref p) H'
theorem ResL.none_ {H : Hp} {Q : VK} {o : Option (List Nat)} (r : ResL H Q o) (e : o = none) : ∀ H', Same H H' → Q .non H' := by subst e; exact r
theorem ResL.some_ {H : Hp} {Q : VK} {o : Option (List Nat)} {l : List Nat} (r : ResL H Q o) (e : o = some l) (hl : l.length ≤ 900) : ∀ H' p, Same H H' → H p = none → H' p = some (.lst (nI l)) → Q (.ref p) H' := by subst e; exact r hl
theorem ResL.later {H H1 : Hp} {Q : VK} {o : Option (List Nat)} (r : ResL H Q o) (s : Same H H1) : ResL H1 Q o := by
  cases o with
  | none => exact fun H' s' => r _ (s.trans s')
  | some l => exact fun hl H' p s' np hp => r hl _ p (s.trans s') (s.free np) hp
theorem findSome_drop {α β : Type} {f : α → Option β} {l : List α} {j : Nat} {x : α} (h : l[j]? = some x) : (l.drop j).findSome? f = match f x with | some y => some y | none => (l.drop (j + 1)).findSome? f := by
  obtain ⟨hj, e⟩ := List.getElem?_eq_some_iff.mp h
  rw [List.drop_eq_getElem_cons hj, e, List.findSome?_cons]
  cases f x <;> rfl
section
variable {P : Program} {w : World} {K : PySem.W.Frag} {mg : Str → Option Value} {base : Heap} {ad : Ad}
def spSizeDifference (K : PySem.W.Frag) (ad : Ad) : Sp := fun vs H Q _ => ∃ (x y : Addr) (is : Bool) (nm nm2 : Nat → Int) (ro ro2 : Rm) (b b2 : Bool) (S T : VSt) (R R2 : Nat → Prop) (ns ms : List Nat), vs = [.ref x, .ref y, .bl is] ∧ SideAt K ad nm ro H b x S R ns ∧ SideAt K ad nm2 ro2 H b2 y T R2 ms ∧ ns.length = ms.length ∧
  ResL H Q ((ns.zip ms).findSome? (sizeD S T is))
theorem ok_size_difference (T : Tx K mg ad) (D : Df K mg "size_difference" s_size_difference ["left", "right", "is_store"]) (G_message_size : Ok P w K mg base 1 "message_size" ["store", "number", "message"] (spMessageSize K ad)) :
    Ok P w K mg base 2 "size_difference" ["left", "right", "is_store"] (spSizeDifference K ad) := by
  refine D.ok c_size_difference (fun vs H Q E h => ?_) (fun f cdv A outer s H vs Q E hr h => ?_)
  · obtain ⟨x, y, is, nm, nm2, ro, ro2, b, b2, S, T2, R, R2, ns, ms, rfl, _⟩ := h
    rfl
  · refine ⟨_,
      (pss_cons (ps_for (passes_of rfl) rfl (pi_zip (by rfl) T.b_zip (pa_cons (pe_fld (pv 0) rfl) (pa_cons (pe_fld (pv 1) rfl) pa_nil))) (pg_tup rfl (pgs_cons (pg_name (i := 3) c_size_difference.nd rfl (Or.inl rfl)) (pgs_cons (pg_name (i := 4) c_size_difference.nd rfl (Or.inl rfl)) pgs_nil)))
          (pss_one (ps_for (passes_of rfl) rfl (pi_range1 rfl T.b_range (pa_cons pe_int pa_nil)) (pg_name (i := 5) c_size_difference.nd rfl (Or.inl rfl))
            (pss_one (ps_if (pt_cmpR op_ne (pe_c G_message_size hr (L2N.takes_of rfl rfl rfl rfl) (pa_cons (pe_fld (pv 0) rfl) (pa_cons (pv 3) (pa_cons (pv 5) pa_nil)))) (pe_c G_message_size hr (L2N.takes_of rfl rfl rfl rfl) (pa_cons (pe_fld (pv 1) rfl) (pa_cons (pv 4) (pa_cons (pv 5) pa_nil)))) (nomark _)) (pss_one (ps_ret (pe_op op_cat (pe_op op_cat (pe_lst (pa_cons pe_int pa_nil)) (pe_ifExp (pt_val (pv 2)) (pe_lst (pa_cons (pv 3) pa_nil)) (pe_lst pa_nil))) (pe_lst (pa_cons (pv 5) pa_nil))))) pss_nil)))))
        (pss_one (ps_ret pe_non)))
      , ?_⟩
    obtain ⟨x, y, is, nm, nm2, ro, ro2, b, b2, S, T2, R, R2, ns, ms, rfl, hX, hY, hlen, k⟩ := h
    obtain ⟨dx, sa, na, h1, h2, h3⟩ := hX.ex
    obtain ⟨dy, sb, nb, g1, g2, g3⟩ := hY.ex
    refine ⟨_, rfl, x, _, dx, _, _, rfl, h1, T.k_side, T.n_numbers, rfl, _, rfl, y, _, dy, _, _, rfl, g1, T.k_side, T.n_numbers, rfl, na, nb, nI ns, nI ms, rfl, SqL.of h2, SqL.of g2, ?_⟩
    refine for_it (walk_zip (K := K) (a := na) (b := nb) (xs := nI ns) (ys := nI ms) (n := ns.length) (by rw [nI_length, nI_length, hlen, Nat.min_self])) (fun j σ H2 => ∃ (v3 v4 v5 : Option V), σ = [some (.ref x), some (.ref y), some (.bl is), v3, v4, v5] ∧ Same H H2 ∧ (ns.zip ms).findSome? (sizeD S T2 is) = ((ns.zip ms).drop j).findSome? (sizeD S T2 is))
      ⟨none, none, none, rfl, Same.refl H, rfl⟩ (fun j σ H2 _ ⟨_, _, _, _, sm, _⟩ => ⟨SqL.of (sm _ _ h2), SqL.of (sm _ _ g2)⟩) ?_ ?_
    · rintro j z σ H2 H3 hj ⟨v3, v4, v5, rfl, sm, hD⟩ ⟨t, x0, y0, rfl, nt, rfl, ex, ey⟩
      obtain ⟨n, hn, rfl⟩ := nI_get (show (nI ns)[j]? = some x0 from ex)
      obtain ⟨m, hm, rfl⟩ := nI_get (show (nI ms)[j]? = some y0 from ey)
      obtain ⟨n1, hcl, cm⟩ := hX.get (List.mem_of_getElem? hn)
      obtain ⟨m1, hdl, dm⟩ := hY.get (List.mem_of_getElem? hm)
      have hz : (ns.zip ms)[j]? = some (n, m) := by rw [List.getElem?_zip_eq_some]; exact ⟨hn, hm⟩
      have s3 := sm.trans (Same.new (o := .tup [.int (n : Nat), .int (m : Nat)]) nt)
      refine ⟨t, _, rfl, SqT.of upd_same, rfl, _, _, rfl, _, _, rfl, rfl, ?_⟩
      refine ⟨4, rfl, by decide, by decide, ?_⟩
      refine for_range (lo := 0) (n := 4) (fun i σ H3 => ∃ (v5 : Option V), σ = [some (.ref x), some (.ref y), some (.bl is), some (.int (n : Nat)), some (.int (m : Nat)), v5] ∧ Same H H3 ∧ first4 (cAt S n) (cAt T2 m) = ((List.range 4).drop i).find? fun q => messageSize (cAt S n) q != messageSize (cAt T2 m) q)
        ⟨v5, rfl, s3, rfl⟩ ?_ ?_
      · rintro i σ H3 hi ⟨v5, rfl, s3, hF⟩
        rw [range4_drop hi, List.find?_cons] at hF
        refine ⟨_, rfl, x, _, dx, _, _, rfl, s3 _ _ h1, T.k_side, T.n_store, rfl, _, rfl, _, rfl, sa, nm, ro, b, S, n, i, cAt S n, ?_, h3.same s3, n1, hcl, hX.wf.cok cm, ?_⟩
        · simp
        refine ⟨_, rfl, y, _, dy, _, _, rfl, s3 _ _ g1, T.k_side, T.n_store, rfl, _, rfl, _, rfl, sb, nm2, ro2, b2, T2, m, i, cAt T2 m, ?_, g3.same s3, m1, hdl, hY.wf.cok dm, rfl, _, rfl, ?_⟩
        · simp
        by_cases e : messageSize (cAt S n) i = messageSize (cAt T2 m) i
        · rw [ne_intF (by rw [e])]
          refine iteF ⟨_, rfl, s3, ?_⟩
          rw [hF, show (messageSize (cAt S n) i != messageSize (cAt T2 m) i) = false by rw [e]; simp]
        · rw [ne_intT (by omega)]
          refine iteT ?_
          have hsome : (ns.zip ms).findSome? (sizeD S T2 is) = some (if is = true then [0, n, i] else [0, i]) := by
            rw [hD, findSome_drop hz]
            unfold sizeD
            rw [hF, show (messageSize (cAt S n) i != messageSize (cAt T2 m) i) = true by simpa using e]
            rfl
          refine ⟨leLine (by show 1 ≤ 1000; decide), fun q1 nq1 => ?_⟩
          have s4 := s3.trans (Same.new (o := .lst [.int 0]) nq1)
          have key : ∀ (q2 : Addr) (l2 : List Nat), l2 = (if is = true then [n] else []) → (upd H3 q1 (.lst [.int 0])) q2 = none → Same H3 (upd (upd H3 q1 (.lst [.int 0])) q2 (.lst (nI l2))) := fun q2 l2 _ nq2 => (Same.new nq1).trans (Same.new nq2)
          cases is with
          | true =>
            refine ⟨_, rfl, _, rfl, iteT ⟨_, rfl, leLine (by show 1 ≤ 1000; decide), fun q2 nq2 => ?_⟩⟩
            have s5 := s4.trans (Same.new (o := .lst [.int (n : Nat)]) nq2)
            refine ⟨q1, q2, _, _, rfl, rfl, (Same.new nq2) _ _ upd_same, upd_same, leLine (by show 1 + 1 ≤ 1000; decide), fun q3 nq3 => ?_⟩
            have s6 := s5.trans (Same.new (o := .lst ([.int 0] ++ [.int (n : Nat)])) nq3)
            refine ⟨_, rfl, leLine (by show 1 ≤ 1000; decide), fun q4 nq4 => ?_⟩
            have s7 := s6.trans (Same.new (o := .lst [.int (0 + (i : Int))]) nq4)
            refine ⟨q3, q4, _, _, rfl, rfl, (Same.new nq4) _ _ upd_same, upd_same, leLine (by show 2 + 1 ≤ 1000; decide), fun q5 nq5 => ?_⟩
            refine k.some_ hsome (by show 3 ≤ 900; decide) _ q5 (s7.trans (Same.new nq5)) (s7.free nq5) ?_
            rw [upd_same]
            show some (HO.lst [.int 0, .int (n : Nat), .int (0 + (i : Int))]) = _
            rw [Int.zero_add]
            rfl
          | false =>
            refine ⟨_, rfl, _, rfl, iteF ⟨leLine (by decide), fun q2 nq2 => ?_⟩⟩
            have s5 := s4.trans (Same.new (o := .lst []) nq2)
            refine ⟨q1, q2, _, _, rfl, rfl, (Same.new nq2) _ _ upd_same, upd_same, leLine (by show 1 + 0 ≤ 1000; decide), fun q3 nq3 => ?_⟩
            have s6 := s5.trans (Same.new (o := .lst ([.int 0] ++ [])) nq3)
            refine ⟨_, rfl, leLine (by show 1 ≤ 1000; decide), fun q4 nq4 => ?_⟩
            have s7 := s6.trans (Same.new (o := .lst [.int (0 + (i : Int))]) nq4)
            refine ⟨q3, q4, _, _, rfl, rfl, (Same.new nq4) _ _ upd_same, upd_same, leLine (by show 1 + 1 ≤ 1000; decide), fun q5 nq5 => ?_⟩
            refine k.some_ hsome (by show 2 ≤ 900; decide) _ q5 (s7.trans (Same.new nq5)) (s7.free nq5) ?_
            rw [upd_same]
            show some (HO.lst [.int 0, .int (0 + (i : Int))]) = _
            rw [Int.zero_add]
            rfl
      · rintro σ H3 ⟨v5, rfl, s3, hF⟩
        refine ⟨_, _, _, rfl, s3, ?_⟩
        rw [hD, findSome_drop hz]
        unfold sizeD
        rw [hF]
        rfl
    · rintro σ H2 ⟨v3, v4, v5, rfl, sm, hD⟩
      rw [List.drop_eq_nil_of_le (by rw [List.length_zip]; omega)] at hD
      exact k.none_ hD _ sm
/-! ### begun_queue -/
/-- an item of the queue -/
def IsQ (K : PySem.W.Frag) (nm nm2 : Nat → Int) (W1 W2 : Addr) (H : Hp) (v : V) (q : VP) : Prop := ∃ t pa u1 u2, v = .ref t ∧ H t = some (.tup [.ref pa, u1, u2]) ∧ H pa = some (.lst (nI q.path)) ∧ pa ≠ W1 ∧ pa ≠ W2 ∧ IsV K nm H u1 q.left ∧ IsV K nm2 H u2 q.right
theorem IsQ.keep {nm nm2 : Nat → Int} {W1 W2 : Addr} {H H' : Hp} {v : V} {q : VP} (h : IsQ K nm nm2 W1 W2 H v q) (t : Tups H H') (k : ∀ a l, a ≠ W1 → a ≠ W2 → H a = some (.lst l) → H' a = some (.lst l)) : IsQ K nm nm2 W1 W2 H' v q := by
  obtain ⟨ta, pa, u1, u2, e, h1, h2, h3, h4, h5, h6⟩ := h
  exact ⟨ta, pa, u1, u2, e, t _ _ h1, k _ _ h3 h4 h2, h3, h4, h5.keep t, h6.keep t⟩
def spBegunQueue (K : PySem.W.Frag) (ad : Ad) : Sp := fun vs H Q _ => ∃ (x y : Addr) (is : Bool) (nm nm2 : Nat → Int) (ro ro2 : Rm) (b b2 : Bool) (S T : VSt) (R R2 : Nat → Prop) (ns ms : List Nat), vs = [.ref x, .ref y, .bl is] ∧ SideAt K ad nm ro H b x S R ns ∧ SideAt K ad nm2 ro2 H b2 y T R2 ms ∧ ns.length = ms.length ∧
  ∀ H' p qvs, Same H H' → H p = none → H' p = some (.lst qvs) → Paired (IsQ K nm nm2 p p H') qvs (begunQ S T is (ns.zip ms)) → Q (.ref p) H'
theorem begunQ_more {S T : VSt} {is : Bool} {l : List (Nat × Nat)} {j : Nat} {p : Nat × Nat} (h : l[j]? = some p) : begunQ S T is (l.take (j + 1)) = begunQ S T is (l.take j) ++ Vbxlaa.rootPairs (if is = true then [p.1] else []) (cAt S p.1) (cAt T p.2) := by
  obtain ⟨hj, e⟩ := List.getElem?_eq_some_iff.mp h
  unfold begunQ
  rw [List.take_succ_eq_append_getElem hj, e, List.flatMap_append, List.flatMap_cons, List.flatMap_nil, List.append_nil]
theorem begunQ_le {S T : VSt} {is : Bool} : ∀ {l : List (Nat × Nat)}, (∀ p ∈ l, (rootsOf (cAt S p.1)).length ≤ 18) → (begunQ S T is l).length ≤ 18 * l.length
  | [], _ => Nat.zero_le _
  | p :: l, h => by
    have h1 := h p List.mem_cons_self
    have h2 := begunQ_le (S := S) (T := T) (is := is) (l := l) fun q m => h q (List.mem_cons_of_mem _ m)
    have e : (begunQ S T is (p :: l)).length = (Vbxlaa.rootPairs (if is = true then [p.1] else []) (cAt S p.1) (cAt T p.2)).length + (begunQ S T is l).length := List.length_append
    have e2 : (Vbxlaa.rootPairs (if is = true then [p.1] else []) (cAt S p.1) (cAt T p.2)).length ≤ 18 := by
      unfold Vbxlaa.rootPairs
      rw [List.length_map, List.length_zip]
      omega
    rw [e, List.length_cons]
    omega
/-- all but one place is kept -/
def SL (L : Addr) (H H' : Hp) : Prop := ∀ a o, a ≠ L → H a = some o → H' a = some o
theorem SL.refl {L : Addr} {H : Hp} : SL L H H := fun _ _ _ e => e
theorem SL.trans {L : Addr} {H H1 H2 : Hp} (x : SL L H H1) (y : SL L H1 H2) : SL L H H2 := fun a o n e => y a o n (x a o n e)
theorem SL.same {L : Addr} {H H1 : Hp} (x : Same H H1) : SL L H H1 := fun a o _ e => x a o e
theorem SL.put {L : Addr} {H H1 : Hp} {u : HO} (x : SL L H H1) : SL L H (upd H1 L u) := fun a o n e => (upd_ne n).trans (x a o n e)
theorem SL.tups {L : Addr} {H H1 : Hp} {l : List V} (x : SL L H H1) (e : H L = some (.lst l)) : Tups H H1 := fun a xs h => x a _ (ne_of h e (by intro z; cases z)) h
theorem SL.whole {L : Addr} {H0 H H1 : Hp} (s : Same H0 H) (n : H0 L = none) (x : SL L H H1) : Same H0 H1 := fun a o e => x a o (ne_of_none e n) (s a o e)
theorem ok_begun_queue (T : Tx K mg ad) (D : Df K mg "begun_queue" s_begun_queue ["left", "right", "is_store"]) (G_heads : Ok P w K mg base 1 "heads" ["side", "is_store"] (spHeads K ad)) (G_root_rows : Ok P w K mg base 1 "root_rows" ["client"] (spRootRows K ad)) :
    Ok P w K mg base 2 "begun_queue" ["left", "right", "is_store"] (spBegunQueue K ad) := by
  refine D.ok c_begun_queue (fun vs H Q E h => ?_) (fun f cdv A outer s H vs Q E hr h => ?_)
  · obtain ⟨x, y, is, nm, nm2, ro, ro2, b, b2, S, T2, R, R2, ns, ms, rfl, _⟩ := h
    rfl
  · refine ⟨_,
      (pss_cons (ps_set (i := 3) c_begun_queue.nd rfl (Or.inl rfl) (pe_lst pa_nil))
        (pss_cons (ps_for (passes_of rfl) rfl (pi_zip (by rfl) T.b_zip (pa_cons (pe_c G_heads hr (L2N.takes_of rfl rfl rfl rfl) (pa_cons (pv 0) (pa_cons (pv 2) pa_nil))) (pa_cons (pe_c G_heads hr (L2N.takes_of rfl rfl rfl rfl) (pa_cons (pv 1) (pa_cons (pv 2) pa_nil))) pa_nil))) (pg_tup rfl (pgs_cons (pg_tup rfl (pgs_cons (pg_name (i := 4) c_begun_queue.nd rfl (Or.inl rfl)) (pgs_cons (pg_name (i := 5) c_begun_queue.nd rfl (Or.inl rfl)) pgs_nil))) (pgs_cons (pg_tup rfl (pgs_cons (pg_name (i := 6) c_begun_queue.nd rfl (Or.inl rfl)) (pgs_cons (pg_name (i := 7) c_begun_queue.nd rfl (Or.inl rfl)) pgs_nil))) pgs_nil)))
          (pss_one (ps_for (passes_of rfl) rfl (pi_zip (by rfl) T.b_zip (pa_cons (pe_c G_root_rows hr (L2N.takes_of rfl rfl rfl rfl) (pa_cons (pv 5) pa_nil)) (pa_cons (pe_c G_root_rows hr (L2N.takes_of rfl rfl rfl rfl) (pa_cons (pv 7) pa_nil)) pa_nil))) (pg_tup rfl (pgs_cons (pg_tup rfl (pgs_cons (pg_name (i := 8) c_begun_queue.nd rfl (Or.inl rfl)) (pgs_cons (pg_name (i := 9) c_begun_queue.nd rfl (Or.inl rfl)) pgs_nil))) (pgs_cons (pg_tup rfl (pgs_cons (pg_name (i := 10) c_begun_queue.nd rfl (Or.inl rfl)) (pgs_cons (pg_name (i := 11) c_begun_queue.nd rfl (Or.inl rfl)) pgs_nil))) pgs_nil)))
            (pss_one (ps_expr (pe_bm PySem.F.plainAttrs_list PySem.F.slot_list_append PySem.F.type_list_append mt_append (pv 3) (pa_cons (pe_tup (pa_cons (pe_op op_cat (pv 4) (pe_lst (pa_cons (pv 8) pa_nil))) (pa_cons (pv 9) (pa_cons (pv 11) pa_nil)))) pa_nil)))))))
        (pss_one (ps_ret (pv 3)))))
      , ?_⟩
    obtain ⟨x, y, is, nm, nm2, ro, ro2, b, b2, S, T2, R, R2, ns, ms, rfl, hX, hY, hlen, k⟩ := h
    have hle := hX.le
    refine ⟨leLine (by decide), fun L nL => ?_⟩
    have s0 : Same H (upd H L (.lst [])) := Same.new nL
    refine ⟨_, rfl, _, rfl, x, is, nm, ro, b, S, R, ns, H, rfl, s0, hX, fun H1 p1 hv1 s1 np1 hp1 hh1 => ?_⟩
    refine ⟨_, rfl, _, rfl, y, is, nm2, ro2, b2, T2, R2, ms, H, rfl, s0.trans s1, hY, fun H2 p2 hv2 s2 np2 hp2 hh2 => ?_⟩
    have hp12 := s2 _ _ hp1
    have nL1 : p1 ≠ L := Ne.symm (ne_of_none upd_same np1)
    have nL2 : p2 ≠ L := Ne.symm (ne_of_none (s1 _ _ upd_same) np2)
    refine ⟨p1, p2, hv1, hv2, rfl, SqL.of hp12, SqL.of hp2, ?_⟩
    have hvl1 : hv1.length = ns.length := Paired.length hh1
    have hvl2 : hv2.length = ms.length := Paired.length hh2
    have s02 : Same H H2 := s0.trans (s1.trans s2)
    have hroots : ∀ n ∈ ns, (rootsOf (cAt S n)).length ≤ 18 := fun n hn => roots_le (hX.wf.cok (hX.get hn).2.2)
    refine for_it (walk_zip (K := K) (a := p1) (b := p2) (xs := hv1) (ys := hv2) (n := ns.length) (by omega)) (fun j σ H3 => ∃ (v4 v5 v6 v7 v8 v9 v10 v11 : Option V) (acc : List V), σ = [some (.ref x), some (.ref y), some (.bl is), some (.ref L), v4, v5, v6, v7, v8, v9, v10, v11] ∧ SL L H2 H3 ∧ H3 L = some (.lst acc) ∧
        Paired (IsQ K nm nm2 L L H3) acc (begunQ S T2 is ((ns.zip ms).take j)))
      ⟨none, none, none, none, none, none, none, none, [], rfl, SL.refl, s2 _ _ (s1 _ _ upd_same), .nil⟩ (fun j σ H3 _ ⟨_, _, _, _, _, _, _, _, _, _, sm, _⟩ => ⟨SqL.of (sm _ _ nL1 hp12), SqL.of (sm _ _ nL2 hp2)⟩) ?_ ?_
    · rintro j z σ H3 H3' hj ⟨v4, v5, v6, v7, v8, v9, v10, v11, acc, rfl, sl, hL, hP⟩ ⟨t, x0, y0, rfl, nt, rfl, ex, ey⟩
      have ex : hv1[j]? = some x0 := ex
      have ey : hv2[j]? = some y0 := ey
      obtain ⟨n, hn, t1, ha1, ca1, rfl, d1, d2, d3, d4⟩ := pair_get' hh1 ex
      obtain ⟨m, hm, t2, ha2, ca2, rfl, f1, f2, f3, f4⟩ := pair_get' hh2 ey
      obtain ⟨n1, hcl, cm⟩ := hX.get (List.mem_of_getElem? hn)
      obtain ⟨m1, hdl, dm⟩ := hY.get (List.mem_of_getElem? hm)
      have hz : (ns.zip ms)[j]? = some (n, m) := by rw [List.getElem?_zip_eq_some]; exact ⟨hn, hm⟩
      have nh1 : ha1 ≠ L := Ne.symm (ne_of_none upd_same d3)
      have hL2 : H2 L = some (.lst []) := s2 _ _ (s1 _ _ upd_same)
      have sl' : SL L H2 (upd H3 t (.tup [.ref t1, .ref t2])) := sl.trans (SL.same (Same.new nt))
      have tp3 := sl'.tups hL2
      have s03 := SL.whole s02 nL sl'
      have hL3 : (upd H3 t (.tup [.ref t1, .ref t2])) L = some (.lst acc) := Same.new nt _ _ hL
      refine ⟨t, _, rfl, SqT.of upd_same, rfl, _, _, rfl, t1, _, rfl, SqT.of (tp3 _ _ (s2 _ _ d1)), rfl, _, _, rfl, _, _, rfl, rfl, _, _, rfl, t2, _, rfl, SqT.of (tp3 _ _ f1), rfl, _, _, rfl, _, _, rfl, rfl, rfl, ?_⟩
      have c1 := hX.wf.cok cm
      have c2 := hY.wf.cok dm
      refine ⟨_, rfl, ca1, nm, ro, b, _, _, rfl, d4.same s03, c1, fun H4 r1 rv1 s4 nr1 hr1 hrow1 => ⟨_, rfl, ca2, nm2, ro2, b2, _, _, rfl, f4.same (s03.trans s4), c2, fun H5 r2 rv2 s5 nr2 hr2 hrow2 => ⟨r1, r2, rv1, rv2, rfl, SqL.of (s5 _ _ hr1), SqL.of hr2, ?_⟩⟩⟩
      have n1L : r1 ≠ L := Ne.symm (ne_of_none hL3 nr1)
      have n2L : r2 ≠ L := Ne.symm (ne_of_none (s4 _ _ hL3) nr2)
      have hr15 := s5 _ _ hr1
      have l1 : rv1.length = (rootsOf (cAt S n)).length := Paired.length hrow1
      have l2 : rv2.length = (rootsOf (cAt T2 m)).length := Paired.length hrow2
      have hL5 : H5 L = some (.lst acc) := s5 _ _ (s4 _ _ hL3)
      have hha5 : H5 ha1 = some (.lst (nI (if is = true then [n] else []))) := s5 _ _ (s4 _ _ (sl' _ _ nh1 (s2 _ _ d2)))
      have sl5 : SL L H2 H5 := sl'.trans (SL.same (s4.trans s5))
      have rpl : (Vbxlaa.rootPairs (if is = true then [n] else []) (cAt S n) (cAt T2 m)).length = min rv1.length rv2.length := by
        unfold Vbxlaa.rootPairs
        rw [List.length_map, List.length_zip, l1, l2]
      refine for_it (walk_zip (K := K) (a := r1) (b := r2) (xs := rv1) (ys := rv2) rfl) (fun i σ H6 => ∃ (v8 v9 v10 v11 : Option V) (acc : List V), σ = [some (.ref x), some (.ref y), some (.bl is), some (.ref L), some (.ref ha1), some (.ref ca1), some (.ref ha2), some (.ref ca2), v8, v9, v10, v11] ∧ SL L H5 H6 ∧ H6 L = some (.lst acc) ∧
          Paired (IsQ K nm nm2 L L H6) acc (begunQ S T2 is ((ns.zip ms).take j) ++ (Vbxlaa.rootPairs (if is = true then [n] else []) (cAt S n) (cAt T2 m)).take i))
        ⟨v8, v9, v10, v11, acc, rfl, SL.refl, hL5, by
          rw [List.take_zero, List.append_nil]
          exact Paired.mapP hP fun _ _ z => z.keep (Same.tups ((Same.new nt).trans (s4.trans s5))) fun a l _ _ e => s5 _ _ (s4 _ _ (Same.new nt _ _ e))⟩
        (fun i σ H6 _ ⟨_, _, _, _, _, _, sm, _⟩ => ⟨SqL.of (sm _ _ n1L hr15), SqL.of (sm _ _ n2L hr2)⟩) ?_ ?_
      · rintro i z σ H6 H6' hi ⟨v8, v9, v10, v11, acc, rfl, sl6, hL6, hP6⟩ ⟨t3, x3, y3, rfl, nt3, rfl, ex3, ey3⟩
        obtain ⟨⟨ix, va⟩, hva, w1, u1, rfl, e1, iu1⟩ := pair_get' hrow1 (show rv1[i]? = some x3 from ex3)
        obtain ⟨⟨iy, vb⟩, hvb, w2, u2, rfl, e2, iu2⟩ := pair_get' hrow2 (show rv2[i]? = some y3 from ey3)
        have tp6 : Tups H5 (upd H6 t3 (.tup [.ref w1, .ref w2])) := (sl6.tups hL5).trans (Tups.new nt3)
        refine ⟨t3, _, rfl, SqT.of upd_same, rfl, _, _, rfl, w1, _, rfl, SqT.of (tp6 _ _ (s5 _ _ e1)), rfl, _, _, rfl, _, _, rfl, rfl, _, _, rfl, w2, _, rfl, SqT.of (tp6 _ _ e2), rfl, _, _, rfl, _, _, rfl, rfl, rfl, ?_⟩
        have s7 : Same H6 (upd H6 t3 (.tup [.ref w1, .ref w2])) := Same.new nt3
        have hone : (nI (if is = true then [n] else [])).length + 1 ≤ 1000 := by
          cases is <;> simp [nI]
        have hal : acc.length ≤ 90 := by
          have q := begunQ_le (S := S) (T := T2) (is := is) (l := (ns.zip ms).take j) fun p hp => hroots p.1 (List.of_mem_zip (List.mem_of_mem_take hp)).1
          have q2 := hroots n (List.mem_of_getElem? hn)
          rw [Paired.length hP6, List.length_append, List.length_take, rpl]
          rw [List.length_take, List.length_zip] at q
          omega
        refine ⟨_, rfl, .inl ⟨rfl, _, SqL.of (s7 _ _ hL6)⟩, _, rfl, _, rfl, leLine (by show 1 ≤ 1000; decide), fun l nl => ?_⟩
        have s8 := s7.trans (Same.new (o := .lst [.int (ix : Nat)]) nl)
        refine ⟨ha1, l, _, _, rfl, rfl, s8 _ _ (sl6 _ _ nh1 hha5), upd_same, leLine hone, fun l2 nl2 => ?_⟩
        have s9 := s8.trans (Same.new (o := .lst (nI (if is = true then [n] else []) ++ [.int (ix : Nat)])) nl2)
        refine ⟨_, rfl, _, rfl, leLine (by show 3 ≤ 1000; decide), fun t4 nt4 => ?_⟩
        have s10 := s9.trans (Same.new (o := .tup [.ref l2, u1, u2]) nt4)
        have hL10 := s10 _ _ hL6
        refine ⟨L, acc, _, rfl, rfl, hL10, small1000 (by omega), ?_⟩
        have nl2L : l2 ≠ L := Ne.symm (ne_of_none (s8 _ _ hL6) nl2)
        have nl2t : l2 ≠ t4 := ne_of_none upd_same nt4
        have sl10 : SL L H6 (upd (upd (upd (upd (upd H6 t3 (.tup [.ref w1, .ref w2])) l (.lst [.int (ix : Nat)])) l2 (.lst (nI (if is = true then [n] else []) ++ [.int (ix : Nat)]))) t4 (.tup [.ref l2, u1, u2])) L (.lst (acc ++ [.ref t4]))) := (SL.same s10).put
        have tpw := sl10.tups hL6
        have nt4L : t4 ≠ L := ne_of upd_same hL10 (by intro z; cases z)
        refine ⟨_, _, _, _, acc ++ [.ref t4], rfl, sl6.trans sl10, upd_same, ?_⟩
        have hx : (Vbxlaa.rootPairs (if is = true then [n] else []) (cAt S n) (cAt T2 m))[i]? = some ⟨(if is = true then [n] else []) ++ [ix], va, vb⟩ := by
          unfold Vbxlaa.rootPairs
          rw [List.getElem?_map, show ((rootsOf (cAt S n)).zip (rootsOf (cAt T2 m)))[i]? = some ((ix, va), (iy, vb)) from List.getElem?_zip_eq_some.mpr ⟨hva, hvb⟩]
          rfl
        obtain ⟨hq, eq⟩ := List.getElem?_eq_some_iff.mp hx
        rw [List.take_succ_eq_append_getElem hq, eq, ← List.append_assoc]
        refine pair_snoc (Paired.mapP hP6 fun _ _ z => z.keep tpw fun a l na _ e => sl10 _ _ na e) ⟨t4, l2, u1, u2, rfl, (upd_ne nt4L).trans upd_same, ?_, nl2L, nl2L, (iu1.keep (Same.tups s5)).keep ((sl6.tups hL5).trans tpw), iu2.keep ((sl6.tups hL5).trans tpw)⟩
        rw [upd_ne nl2L, upd_ne nl2t, upd_same]
        unfold nI
        rw [List.map_append]
        rfl
      · rintro σ H6 ⟨v8, v9, v10, v11, acc, rfl, sl6, hL6, hP6⟩
        refine ⟨_, _, _, _, v8, v9, v10, v11, acc, rfl, sl5.trans sl6, hL6, ?_⟩
        rw [begunQ_more hz]
        rw [← rpl, List.take_length] at hP6
        exact hP6
    · rintro σ H3 ⟨v4, v5, v6, v7, v8, v9, v10, v11, acc, rfl, sl, hL, hP⟩
      rw [List.take_of_length_le (by rw [List.length_zip]; omega)] at hP
      exact ⟨_, rfl, k _ L acc (SL.whole s02 nL sl) nL hL hP⟩
end
end Sh


set_option maxHeartbeats 2000000
namespace Sh
open PySem PySem.Spec PyProof.Rows L2
open Vbxlaa (fieldsOf rootsOf rootValues clientAt messageSize describe differenceFrom childPairs)
/-- a met pair -/
def PairAt (nm nm2 : Nat → Int) (W1 W2 : Addr) (H : Hp) (v : V) (m : VM) : Prop := ∃ t pa, v = .ref t ∧ H t = some (.tup [.ref pa, .int (nm m.left), .int (nm2 m.right)]) ∧ H pa = some (.lst (nI m.path)) ∧ pa ≠ W1 ∧ pa ≠ W2
theorem PairAt.keep {nm nm2 : Nat → Int} {W1 W2 : Addr} {H H' : Hp} {v : V} {m : VM} (h : PairAt nm nm2 W1 W2 H v m) (t : Tups H H') (k : ∀ a l, a ≠ W1 → a ≠ W2 → H a = some (.lst l) → H' a = some (.lst l)) : PairAt nm nm2 W1 W2 H' v m := by
  obtain ⟨ta, pa, e, h1, h2, h3, h4⟩ := h
  exact ⟨ta, pa, e, t _ _ h1, k _ _ h3 h4 h2, h3, h4⟩
theorem eq_intF {i j : Int} (h : ¬ i = j) : decide (V.int i = V.int j) = false := decide_eq_false fun z => h (V.int.inj z)
theorem eq_intT {i j : Int} (h : i = j) : decide (V.int i = V.int j) = true := by rw [h]; simp
theorem diff_ne {S T : VSt} {n : Nat} {q : VP} {queue : List VP} {met : List VM} (h : describe S q.left ≠ describe T q.right) : differenceFrom S T (n + 1) (q :: queue) met = some (1 :: q.path) := if_pos h
theorem diff_skip {S T : VSt} {n : Nat} {q : VP} {queue : List VP} {met : List VM} (h : describe S q.left = describe T q.right) (hl : ∀ i, q.left ≠ .object i) : differenceFrom S T (n + 1) (q :: queue) met = differenceFrom S T n queue met := by
  show (if describe S q.left ≠ describe T q.right then _ else _) = _
  rw [if_neg (by rw [h]; simp)]
  obtain ⟨p, l, r⟩ := q
  cases l with
  | nothing => rfl
  | number _ => rfl
  | object i => exact absurd rfl (hl i)
structure DWk (K : PySem.W.Frag) (nm nm2 : Nat → Int) (H0 : Hp) (ql pl : Addr) (qs : List VP) (qvs : List V) (met : List VM) (pvs : List V) (H : Hp) : Prop where
  sm : Same H0 H
  hq : H ql = some (.lst qvs)
  pq : Paired (IsQ K nm nm2 ql pl H) qvs qs
  hp : H pl = some (.lst pvs)
  pp : Paired (PairAt nm nm2 ql pl H) pvs met
section
variable {K : PySem.W.Frag} {nm nm2 : Nat → Int} {H0 H H' : Hp} {ql pl : Addr} {qs : List VP} {qvs pvs : List V} {met : List VM}
theorem DWk.same (a : DWk K nm nm2 H0 ql pl qs qvs met pvs H) (s : Same H H') : DWk K nm nm2 H0 ql pl qs qvs met pvs H' :=
  ⟨a.sm.trans s, s _ _ a.hq, Paired.mapP a.pq fun _ _ z => z.keep (Same.tups s) fun x l _ _ e => s _ _ e, s _ _ a.hp, Paired.mapP a.pp fun _ _ z => z.keep (Same.tups s) fun x l _ _ e => s _ _ e⟩
theorem DWk.appQ (a : DWk K nm nm2 H0 ql pl qs qvs met pvs H) (n : H0 ql = none) (d : ql ≠ pl) {v : V} {q : VP} (z : IsQ K nm nm2 ql pl H v q) : DWk K nm nm2 H0 ql pl (qs ++ [q]) (qvs ++ [v]) met pvs (upd H ql (.lst (qvs ++ [v]))) := by
  have k : ∀ x l, x ≠ ql → x ≠ pl → H x = some (.lst l) → upd H ql (.lst (qvs ++ [v])) x = some (.lst l) := fun x l nx _ e => (upd_ne nx).trans e
  have t : Tups H (upd H ql (.lst (qvs ++ [v]))) := Tups.write a.hq fun _ z => by cases z
  exact ⟨Same.put a.sm n, upd_same, pair_snoc (Paired.mapP a.pq fun _ _ z => z.keep t k) (z.keep t k), (upd_ne (Ne.symm d)).trans a.hp, Paired.mapP a.pp fun _ _ z => z.keep t k⟩
theorem DWk.appP (a : DWk K nm nm2 H0 ql pl qs qvs met pvs H) (n : H0 pl = none) (d : ql ≠ pl) {v : V} {m : VM} (z : PairAt nm nm2 ql pl H v m) : DWk K nm nm2 H0 ql pl qs qvs (met ++ [m]) (pvs ++ [v]) (upd H pl (.lst (pvs ++ [v]))) := by
  have k : ∀ x l, x ≠ ql → x ≠ pl → H x = some (.lst l) → upd H pl (.lst (pvs ++ [v])) x = some (.lst l) := fun x l _ nx e => (upd_ne nx).trans e
  have t : Tups H (upd H pl (.lst (pvs ++ [v]))) := Tups.write a.hp fun _ z => by cases z
  exact ⟨Same.put a.sm n, (upd_ne d).trans a.hq, Paired.mapP a.pq fun _ _ z => z.keep t k, upd_same, pair_snoc (Paired.mapP a.pp fun _ _ z => z.keep t k) (z.keep t k)⟩
end
section
variable {P : Program} {w : World} {K : PySem.W.Frag} {mg : Str → Option Value} {base : Heap} {ad : Ad}
def spMetWith (K : PySem.W.Frag) : Sp := fun vs H Q _ => ∃ (pr : Addr) (nm nm2 : Nat → Int) (W1 W2 : Addr) (x y : Nat) (met : List VM) (pvs : List V), vs = [.ref pr, .int (nm x), .int (nm2 y)] ∧ (∀ i j, nm i = nm j → i = j) ∧ (∀ i j, nm2 i = nm2 j → i = j) ∧ H pr = some (.lst pvs) ∧ Paired (PairAt nm nm2 W1 W2 H) pvs met ∧
  ∀ v, (match met.find? (elderF x y) with | none => v = .non | some e => ∃ pa, v = .ref pa ∧ H pa = some (.lst (nI e.path))) → Q v H
theorem ok_met_with (T : Tx K mg ad) (D : Df K mg "met_with" s_met_with ["pairs", "one", "other"]) : Ok P w K mg base 1 "met_with" ["pairs", "one", "other"] (spMetWith K) := by
  refine D.ok c_met_with (fun vs H Q E h => ?_) (fun f cdv A outer s H vs Q E hr h => ?_)
  · obtain ⟨pr, nm, nm2, W1, W2, x, y, met, pvs, rfl, _⟩ := h
    rfl
  · refine ⟨_,
      (pss_cons (ps_for (passes_of rfl) rfl (pi_list (pv 0)) (pg_tup rfl (pgs_cons (pg_name (i := 3) c_met_with.nd rfl (Or.inl rfl)) (pgs_cons (pg_name (i := 4) c_met_with.nd rfl (Or.inl rfl)) (pgs_cons (pg_name (i := 5) c_met_with.nd rfl (Or.inl rfl)) pgs_nil))))
          (pss_one (ps_if (PW.pt (pw_or (pt_cmpR op_eq (pv 4) (pv 1) (nomark _)) (pw_or1 (pt_cmpR op_eq (pv 5) (pv 2) (nomark _))))) (pss_one (ps_ret (pv 3))) pss_nil)))
        (pss_one (ps_ret pe_non)))
      , ?_⟩
    obtain ⟨pr, nm, nm2, W1, W2, x, y, met, pvs, rfl, inj, inj2, hpr, hP, k⟩ := h
    refine ⟨_, rfl, pr, rfl, ⟨_, SqL.of hpr⟩, ?_⟩
    refine for_list (K := K) (a := pr) (xs := pvs) (fun j σ H2 => ∃ (v3 v4 v5 : Option V), σ = [some (.ref pr), some (.int (nm x)), some (.int (nm2 y)), v3, v4, v5] ∧ H2 = H ∧ met.find? (elderF x y) = (met.drop j).find? (elderF x y))
      ⟨none, none, none, rfl, rfl, rfl⟩ (fun j σ H2 _ ⟨_, _, _, _, e, _⟩ => e ▸ SqL.of hpr) ?_ ?_
    · rintro j z σ H2 hj ⟨v3, v4, v5, rfl, rfl, hD⟩
      obtain ⟨m, hm, t, pa, rfl, h1, h2, h3, h4⟩ := pair_get' hP hj
      rw [find_elder_drop hm] at hD
      refine ⟨t, _, rfl, SqT.of h1, rfl, _, _, rfl, _, _, rfl, _, _, rfl, rfl, ?_⟩
      have ok : elderF x y m = true → Q (.ref pa) H2 := fun e => by
        rw [if_pos e] at hD
        rw [hD] at k
        exact k _ ⟨pa, rfl, h2⟩
      refine ⟨_, rfl, _, rfl, rfl, _, rfl, ?_⟩
      by_cases e1 : m.left = x
      · rw [eq_intT (by rw [e1])]
        exact iteT (iteT ⟨_, rfl, ok (by unfold elderF; simp [e1])⟩)
      · rw [eq_intF fun z => e1 (inj _ _ z)]
        refine iteF ⟨_, rfl, _, rfl, rfl, _, rfl, ?_⟩
        by_cases e2 : m.right = y
        · rw [eq_intT (by rw [e2])]
          exact iteT ⟨_, rfl, ok (by unfold elderF; simp [e2])⟩
        · rw [eq_intF fun z => e2 (inj2 _ _ z)]
          refine iteF ⟨_, _, _, rfl, rfl, ?_⟩
          rw [hD, if_neg (by unfold elderF; simp [e1, e2])]
    · rintro σ H2 ⟨v3, v4, v5, rfl, rfl, hD⟩
      rw [List.drop_eq_nil_of_le (by rw [Paired.length hP]; exact Nat.le_refl _)] at hD
      rw [hD] at k
      exact k _ rfl
def spArePaired (K : PySem.W.Frag) : Sp := fun vs H Q _ => ∃ (pr : Addr) (nm nm2 : Nat → Int) (W1 W2 : Addr) (x y : Nat) (met : List VM) (pvs : List V), vs = [.ref pr, .int (nm x), .int (nm2 y)] ∧ (∀ i j, nm i = nm j → i = j) ∧ (∀ i j, nm2 i = nm2 j → i = j) ∧ H pr = some (.lst pvs) ∧ Paired (PairAt nm nm2 W1 W2 H) pvs met ∧
  Q (.bl (met.any (bothF x y))) H
theorem ok_are_paired (T : Tx K mg ad) (D : Df K mg "are_paired" s_are_paired ["pairs", "one", "other"]) : Ok P w K mg base 1 "are_paired" ["pairs", "one", "other"] (spArePaired K) := by
  refine D.ok c_are_paired (fun vs H Q E h => ?_) (fun f cdv A outer s H vs Q E hr h => ?_)
  · obtain ⟨pr, nm, nm2, W1, W2, x, y, met, pvs, rfl, _⟩ := h
    rfl
  · refine ⟨_,
      (pss_cons (ps_for (passes_of rfl) rfl (pi_list (pv 0)) (pg_tup rfl (pgs_cons (pg_name (i := 3) c_are_paired.nd rfl (Or.inl rfl)) (pgs_cons (pg_name (i := 4) c_are_paired.nd rfl (Or.inl rfl)) (pgs_cons (pg_name (i := 5) c_are_paired.nd rfl (Or.inl rfl)) pgs_nil))))
          (pss_one (ps_if (PW.pt (pw_and (pt_cmpR op_eq (pv 4) (pv 1) (nomark _)) (pw_and1 (pt_cmpR op_eq (pv 5) (pv 2) (nomark _))))) (pss_one (ps_ret pe_bl)) pss_nil)))
        (pss_one (ps_ret pe_bl)))
      , ?_⟩
    obtain ⟨pr, nm, nm2, W1, W2, x, y, met, pvs, rfl, inj, inj2, hpr, hP, k⟩ := h
    refine ⟨_, rfl, pr, rfl, ⟨_, SqL.of hpr⟩, ?_⟩
    refine for_list (K := K) (a := pr) (xs := pvs) (fun j σ H2 => ∃ (v3 v4 v5 : Option V), σ = [some (.ref pr), some (.int (nm x)), some (.int (nm2 y)), v3, v4, v5] ∧ H2 = H ∧ met.any (bothF x y) = (met.drop j).any (bothF x y))
      ⟨none, none, none, rfl, rfl, rfl⟩ (fun j σ H2 _ ⟨_, _, _, _, e, _⟩ => e ▸ SqL.of hpr) ?_ ?_
    · rintro j z σ H2 hj ⟨v3, v4, v5, rfl, rfl, hD⟩
      obtain ⟨m, hm, t, pa, rfl, h1, h2, h3, h4⟩ := pair_get' hP hj
      rw [any_drop hm] at hD
      refine ⟨t, _, rfl, SqT.of h1, rfl, _, _, rfl, _, _, rfl, _, _, rfl, rfl, ?_⟩
      refine ⟨_, rfl, _, rfl, rfl, _, rfl, ?_⟩
      by_cases e1 : m.left = x
      · rw [eq_intT (by rw [e1])]
        refine iteT ⟨_, rfl, _, rfl, rfl, _, rfl, ?_⟩
        by_cases e2 : m.right = y
        · rw [eq_intT (by rw [e2])]
          refine iteT ?_
          rw [hD, show bothF x y m = true by unfold bothF; simp [e1, e2]] at k
          exact k
        · rw [eq_intF fun z => e2 (inj2 _ _ z)]
          refine iteF ⟨_, _, _, rfl, rfl, ?_⟩
          rw [hD, show bothF x y m = false by unfold bothF; simp [e2]]
          rfl
      · rw [eq_intF fun z => e1 (inj _ _ z)]
        refine iteF (iteF ⟨_, _, _, rfl, rfl, ?_⟩)
        rw [hD, show bothF x y m = false by unfold bothF; simp [e1]]
        rfl
    · rintro σ H2 ⟨v3, v4, v5, rfl, rfl, hD⟩
      rw [List.drop_eq_nil_of_le (by rw [Paired.length hP]; exact Nat.le_refl _)] at hD
      rw [hD] at k
      exact k
end
end Sh


set_option maxHeartbeats 2000000
namespace Sh
open PySem PySem.Spec PyProof.Rows L2
open Vbxlaa (fieldsOf rootsOf rootValues clientAt messageSize describe differenceFrom childPairs)
section
variable {P : Program} {w : World} {K : PySem.W.Frag} {mg : Str → Option Value} {base : Heap} {ad : Ad}
theorem child_get {S T : VSt} {p : List Nat} {x y j : Nat} {a b : VV} (h1 : (fieldsOf S x)[j]? = some a) (h2 : (fieldsOf T y)[j]? = some b) : (childPairs S T p x y)[j]? = some ⟨p ++ [j], a, b⟩ := by
  unfold Vbxlaa.childPairs
  rw [List.getElem?_map, List.getElem?_zipIdx, show ((fieldsOf S x).zip (fieldsOf T y))[j]? = some (a, b) from List.getElem?_zip_eq_some.mpr ⟨h1, h2⟩]
  simp
theorem child_len (S T : VSt) (p : List Nat) (x y : Nat) : (childPairs S T p x y).length = min (fieldsOf S x).length (fieldsOf T y).length := by
  unfold Vbxlaa.childPairs
  rw [List.length_map, List.length_zipIdx, List.length_zip]
theorem child_mem {S T : VSt} {p : List Nat} {x y : Nat} {q : VP} (h : q ∈ childPairs S T p x y) : q.left ∈ fieldsOf S x ∧ q.right ∈ fieldsOf T y ∧ q.path.length = p.length + 1 := by
  unfold Vbxlaa.childPairs at h
  obtain ⟨⟨⟨a, b⟩, j⟩, hm, rfl⟩ := List.mem_map.mp h
  have := List.mem_of_getElem? (List.mem_zipIdx_iff_getElem?.mp hm)
  obtain ⟨g1, g2⟩ := List.of_mem_zip this
  exact ⟨g1, g2, by simp⟩
theorem begunQ_mem {S T : VSt} {is : Bool} {l : List (Nat × Nat)} {q : VP} (h : q ∈ begunQ S T is l) : ∃ p ∈ l, q.left ∈ rootValues (cAt S p.1) ∧ q.right ∈ rootValues (cAt T p.2) ∧ q.path.length ≤ 2 := by
  unfold begunQ at h
  obtain ⟨p, hp, hq⟩ := List.mem_flatMap.mp h
  unfold Vbxlaa.rootPairs at hq
  obtain ⟨⟨⟨i, a⟩, ⟨j, b⟩⟩, hm, rfl⟩ := List.mem_map.mp hq
  obtain ⟨g1, g2⟩ := List.of_mem_zip hm
  refine ⟨p, hp, List.mem_map.mpr ⟨_, g1, rfl⟩, List.mem_map.mpr ⟨_, g2, rfl⟩, ?_⟩
  cases is <;> simp
theorem desc_len {S T : VSt} {x y : Nat} (h : describe S (.object x) = describe T (.object y)) : (fieldsOf S x).length = (fieldsOf T y).length := by
  have h2 : ((fieldsOf S x).length : Int) = ((fieldsOf T y).length : Int) := congrArg Prod.snd h
  omega
theorem desc_obj {S T : VSt} {x : Nat} {v : VV} (h : describe S (.object x) = describe T v) : ∃ y, v = .object y := by
  cases v with
  | nothing => have := congrArg Prod.fst h; simp [Vbxlaa.describe] at this
  | number _ => have := congrArg Prod.fst h; simp [Vbxlaa.describe] at this
  | object y => exact ⟨y, rfl⟩
def spDifference (K : PySem.W.Frag) (ad : Ad) : Sp := fun vs H Q _ => ∃ (x y : Addr) (is : Bool) (nm nm2 : Nat → Int) (ro ro2 : Rm) (b b2 : Bool) (S T : VSt) (R R2 : Nat → Prop) (ns ms : List Nat) (fu : Nat), vs = [.ref x, .ref y, .bl is] ∧ SideAt K ad nm ro H b x S R ns ∧ SideAt K ad nm2 ro2 H b2 y T R2 ms ∧ ns.length = ms.length ∧
  (begunQ S T is (ns.zip ms)).length + 4 * S.objects.length + 1 ≤ fu ∧ ResL H Q (differenceFrom S T fu (begunQ S T is (ns.zip ms)) [])
theorem StoreAt.thing2 {nm : Nat → Int} {ro : Rm} {H : Hp} {b : Bool} {sa : Addr} {S : VSt} {R : Nat → Prop} (hS : StoreAt K ad nm ro H b sa S) (wf : Wf S R) {i : Nat} (hi : R i) : ∃ (dx cl td : Addr) (last : Int) (kvs : List (Key × V)) (ta : Addr) (tvs : List V),
    H sa = some (.ins ad.store dx [("clients", .ref cl), ("things", .ref td), ("created", .int S.made), ("last", .int last)]) ∧ H td = some (.dK kvs) ∧ valV kvs (.inl (nm i)) = some (.ref ta) ∧ H ta = some (.lst tvs) ∧ Row K nm H tvs (fieldsOf S i) := by
  obtain ⟨dx, cl, td, last, kvs, h1, h2, inj, hth⟩ := hS.thing wf
  obtain ⟨ta, tvs, q1, q2, q3, q4⟩ := hth i hi
  exact ⟨dx, cl, td, last, kvs, ta, tvs, h1, h2, q1, q2, q4⟩
theorem ok_difference (T : Tx K mg ad) (D : Df K mg "difference" s_difference ["left", "right", "is_store"]) (G_begun_queue : Ok P w K mg base 2 "begun_queue" ["left", "right", "is_store"] (spBegunQueue K ad)) (G_detail : Ok P w K mg base 1 "detail" ["store", "own"] (spDetail K ad))
    (G_met_with : Ok P w K mg base 1 "met_with" ["pairs", "one", "other"] (spMetWith K)) (G_are_paired : Ok P w K mg base 1 "are_paired" ["pairs", "one", "other"] (spArePaired K)) : Ok P w K mg base 3 "difference" ["left", "right", "is_store"] (spDifference K ad) := by
  refine D.ok c_difference (fun vs H Q E h => ?_) (fun f cdv A outer s H vs Q E hr h => ?_)
  · obtain ⟨x, y, is, nm, nm2, ro, ro2, b, b2, S, T2, R, R2, ns, ms, fu, rfl, _⟩ := h
    rfl
  · refine ⟨_,
      (pss_cons (ps_par3 (i := 3) (j := 4) (l := 5) rfl c_difference.nd rfl rfl rfl (by decide) (by decide) (by decide) rfl rfl rfl (pa_cons (pe_c G_begun_queue hr (L2N.takes_of rfl rfl rfl rfl) (pa_cons (pv 0) (pa_cons (pv 1) (pa_cons (pv 2) pa_nil)))) (pa_cons (pe_lst pa_nil) (pa_cons pe_int pa_nil))) (by rfl))
        (pss_cons (ps_while (passes_of rfl) (pt_cmpR op_lt (pv 5) (pe_callB call_len_seq (by rfl) T.b_len (by decide +kernel) (pa_cons (pv 3) pa_nil)) (nomark _))
          (pss_cons (ps_asg (pe_ix ix_list (pv 3) (pv 5) (fun _ _ => rfl)) (pg_tup rfl (pgs_cons (pg_name (i := 6) c_difference.nd rfl (Or.inl rfl)) (pgs_cons (pg_name (i := 7) c_difference.nd rfl (Or.inl rfl)) (pgs_cons (pg_name (i := 8) c_difference.nd rfl (Or.inl rfl)) pgs_nil)))))
          (pss_cons (ps_if (pt_cmpR (op_neD hr.units) (pe_c G_detail hr (L2N.takes_of rfl rfl rfl rfl) (pa_cons (pe_fld (pv 0) rfl) (pa_cons (pv 7) pa_nil))) (pe_c G_detail hr (L2N.takes_of rfl rfl rfl rfl) (pa_cons (pe_fld (pv 1) rfl) (pa_cons (pv 8) pa_nil))) (nomark _)) (pss_one (ps_ret (pe_op op_cat (pe_lst (pa_cons pe_int pa_nil)) (pv 6)))) pss_nil)
          (pss_cons (ps_if (pt_cmpR op_eq (pe_ix ix_tup (pv 7) pe_int (fun _ _ => rfl)) (pe_ci T.c_REFERENCE) (nomark _)) (pss_cons (ps_par (i := 9) (j := 10) rfl c_difference.nd rfl rfl (by decide) rfl rfl (pa_cons (pe_ix ix_tup (pv 7) pe_int (fun _ _ => rfl)) (pa_cons (pe_ix ix_tup (pv 8) pe_int (fun _ _ => rfl)) pa_nil)) (by rfl))
            (pss_cons (ps_set (i := 11) c_difference.nd rfl (Or.inl rfl) (pe_c G_met_with hr (L2N.takes_of rfl rfl rfl rfl) (pa_cons (pv 4) (pa_cons (pv 9) (pa_cons (pv 10) pa_nil)))))
            (pss_one (ps_if (pt_cmpR op_isN (pv 11) pe_non (nomark _)) (pss_cons (ps_expr (pe_bm PySem.F.plainAttrs_list PySem.F.slot_list_append PySem.F.type_list_append mt_append (pv 4) (pa_cons (pe_tup (pa_cons (pv 6) (pa_cons (pv 9) (pa_cons (pv 10) pa_nil)))) pa_nil)))
              (pss_one (ps_for (passes_of rfl) rfl (pi_enum (by rfl) T.b_enumerate (pa_cons (pe_dget (hu_of hr) (pe_fld (pe_fld (pv 0) rfl) rfl) (pv 9) (fun _ _ => rfl)) pa_nil)) (pg_tup rfl (pgs_cons (pg_name (i := 12) c_difference.nd rfl (Or.inl rfl)) (pgs_cons (pg_name (i := 13) c_difference.nd rfl (Or.inl rfl)) pgs_nil)))
                (pss_one (ps_expr (pe_bm PySem.F.plainAttrs_list PySem.F.slot_list_append PySem.F.type_list_append mt_append (pv 3) (pa_cons (pe_tup (pa_cons (pe_op op_cat (pv 6) (pe_lst (pa_cons (pv 12) pa_nil))) (pa_cons (pv 13) (pa_cons (pe_ix ix_list (pe_dget (hu_of hr) (pe_fld (pe_fld (pv 1) rfl) rfl) (pv 10) (fun _ _ => rfl)) (pv 12) (fun _ _ => rfl)) pa_nil)))) pa_nil))))))) (pss_one (ps_if (pt_not (pt_val (pe_c G_are_paired hr (L2N.takes_of rfl rfl rfl rfl) (pa_cons (pv 4) (pa_cons (pv 9) (pa_cons (pv 10) pa_nil)))))) (pss_one (ps_ret (pe_op op_cat (pe_op op_cat (pe_lst (pa_cons pe_int (pa_cons (pe_callB call_len_seq (by rfl) T.b_len (by decide +kernel) (pa_cons (pv 6) pa_nil)) pa_nil))) (pv 6)) (pv 11)))) pss_nil)))))) pss_nil)
          (pss_one (ps_set (i := 5) c_difference.nd rfl (Or.inl rfl) (pe_op op_add (pv 5) pe_int)))))))
        (pss_one (ps_ret pe_non))))
      , ?_⟩
    obtain ⟨x, y, is, nm, nm2, ro, ro2, b, b2, S, T2, R, R2, ns, ms, fu, rfl, hX, hY, hlen, hfu, k⟩ := h
    obtain ⟨dx, sa, na, h1, h2, h3⟩ := hX.ex
    obtain ⟨dy, sb, nb, g1, g2, g3⟩ := hY.ex
    have wf := hX.wf
    have wf2 := hY.wf
    obtain ⟨_, _, _, _, _, _, _, nk⟩ := h3.raw
    obtain ⟨_, _, _, _, _, _, _, nk2⟩ := g3.raw
    have inj := nk.inj
    have inj2 := nk2.inj
    have hol := wf.ol
    have hmx := wf.mx
    have hle := hX.le
    refine ⟨_, rfl, _, rfl, _, rfl, x, y, is, nm, nm2, ro, ro2, b, b2, S, T2, R, R2, ns, ms, rfl, hX, hY, hlen, fun H1 ql qvs s1 nq hq hQ => ?_⟩
    have hbl := begunQ_le (S := S) (T := T2) (is := is) (l := ns.zip ms) fun p hp => roots_le (wf.cok (hX.get (List.of_mem_zip hp).1).2.2)
    rw [List.length_zip] at hbl
    refine ⟨leLine (by decide), fun pl npl => ?_⟩
    have nqp : ql ≠ pl := ne_of_none hq npl
    have np0 : H pl = none := s1.free npl
    have s2 : Same H1 (upd H1 pl (.lst [])) := Same.new npl
    have s12 := s1.trans s2
    refine ⟨_, _, _, rfl, ?_⟩
    refine ⟨fun m σ H3 => ∃ (n fu : Nat) (v6 v7 v8 v9 v10 v11 v12 v13 : Option V) (qs : List VP) (qvs : List V) (met : List VM) (pvs : List V), m + n = 400 ∧ σ = [some (.ref x), some (.ref y), some (.bl is), some (.ref ql), some (.ref pl), some (.int n), v6, v7, v8, v9, v10, v11, v12, v13] ∧
      DWk K nm nm2 H ql pl qs qvs met pvs H3 ∧ ResL H Q (differenceFrom S T2 fu (qs.drop n) met) ∧ (qs.length - n) + 4 * (S.objects.length - met.length) + 1 ≤ fu ∧ n ≤ qs.length ∧ qs.length ≤ 72 + 4 * met.length ∧ (met.map fun m => m.left).Nodup ∧ (met.map fun m => m.right).Nodup ∧ (∀ m ∈ met, R m.left ∧ m.path.length ≤ n + 2) ∧
      (∀ q ∈ qs, Lv R q.left ∧ Lv R2 q.right ∧ q.path.length ≤ n + 2), ⟨_, 0, fu, none, none, none, none, none, none, none, none, _, qvs, [], [], Nat.add_zero 400, rfl,
        ⟨s12, s2 _ _ hq, Paired.mapP hQ fun v q z => ?_, upd_same, .nil⟩, k, by simpa using hfu, Nat.zero_le _, by simp; omega, List.nodup_nil, List.nodup_nil, (fun _ h => by cases h), fun q hq => ?_⟩, ?_⟩
    · obtain ⟨t, pa, u1, u2, z1, z2, z3, z4, z5, z6, z7⟩ := z
      exact ⟨t, pa, u1, u2, z1, s2 _ _ z2, s2 _ _ z3, z4, ne_of_none z3 npl, z6.keep (Same.tups s2), z7.keep (Same.tups s2)⟩
    · obtain ⟨p, hp, q1, q2, q3⟩ := begunQ_mem hq
      obtain ⟨p1, p2⟩ := List.of_mem_zip hp
      exact ⟨roots_live wf (hX.get p1).2.2 _ q1, roots_live wf2 (hY.get p2).2.2 _ q2, q3⟩
    rintro m σ H3 ⟨n, fu, v6, v7, v8, v9, v10, v11, v12, v13, qs, qvs, met, pvs, hm, rfl, hW, kD, hf, hn, hqs, nl, nr, hmet, hqq⟩
    have hml : met.length ≤ S.objects.length := by
      have := live_len wf nl fun i hi => by
        obtain ⟨m, hm, rfl⟩ := List.mem_map.mp hi
        exact (hmet m hm).1
      rwa [List.length_map] at this
    have hql : qvs.length = qs.length := Paired.length hW.pq
    refine ⟨_, rfl, _, rfl, ql, qvs, rfl, .inl (SqL.of hW.hq), _, _, rfl, rfl, _, rfl, ?_⟩
    refine ite2 (fun cc => ?_) fun cc => ?_
    · have cc : n < qs.length := by have := of_decide_eq_true cc; omega
      obtain ⟨q, hx⟩ : ∃ q, qs[n]? = some q := ⟨_, List.getElem?_eq_getElem cc⟩
      obtain ⟨wv, hwv, t, pa, u1, u2, rfl, ht, hpa, npa1, npa2, iu1, iu2⟩ := pair_get hW.pq hx
      obtain ⟨lv1, lv2, hpl⟩ := hqq q (List.mem_of_getElem? hx)
      have edrop : qs.drop n = q :: qs.drop (n + 1) := by
        obtain ⟨hj, e⟩ := List.getElem?_eq_some_iff.mp hx
        rw [List.drop_eq_getElem_cons hj, e]
      obtain ⟨fu', rfl⟩ : ∃ f, fu = f + 1 := ⟨fu - 1, by omega⟩
      rw [edrop] at kD
      refine ⟨_, fun σ' H' h => h, ?_⟩
      refine ⟨_, rfl, _, rfl, ql, qvs, _, .ref t, rfl, rfl, SqL.of hW.hq, atI_nat hwv, t, _, rfl, SqT.of ht, rfl, _, _, rfl, _, _, rfl, _, _, rfl, rfl, ?_⟩
      -- the two details
      refine ⟨_, rfl, x, _, dx, _, _, rfl, hW.sm _ _ h1, T.k_side, T.n_store, rfl, _, rfl, sa, u1, nm, ro, b, S, R, q.left, rfl, h3.same hW.sm, wf, iu1, lv1, fun H4 d1 s4 nd1 hd1 => ?_⟩
      have s04 := hW.sm.trans s4
      refine ⟨_, rfl, y, _, dy, _, _, rfl, s04 _ _ g1, T.k_side, T.n_store, rfl, _, rfl, sb, u2, nm2, ro2, b2, T2, R2, q.right, rfl, g3.same s04, wf2, iu2.keep (Same.tups s4), lv2, fun H5 d2 s5 nd2 hd2 => ?_⟩
      have s35 := s4.trans s5
      have W5 := hW.same s35
      refine ⟨.list [.int (describe S q.left).1, .int (describe S q.left).2], .list [.int (describe T2 q.right).1, .int (describe T2 q.right).2], .lst (SqL.of (s5 _ _ hd1)) (.cons (.int _) (.cons (.int _) .nil)), .lst (SqL.of hd2) (.cons (.int _) (.cons (.int _) .nil)), rfl, rfl, _, rfl, ?_⟩
      rw [eqv_two]
      by_cases ed : describe S q.left = describe T2 q.right
      · rw [ed, decide_eq_true rfl, decide_eq_true rfl]
        refine iteF ?_
        have iv5 := iu1.keep (Same.tups s35)
        have iw5 := iu2.keep (Same.tups s35)
        obtain ⟨tq, rfl, htq⟩ := isV_ref iv5
        obtain ⟨tw, rfl, htw⟩ := isV_ref iw5
        refine ⟨_, rfl, tq, _, _, _, rfl, rfl, htq, rfl, rfl, _, rfl, ?_⟩
        by_cases hob : ∃ i, q.left = .object i
        · obtain ⟨xx, ex⟩ := hob
          rw [ex] at ed htq lv1
          obtain ⟨yy, ey⟩ := desc_obj ed
          rw [ey] at ed htw lv2
          have Rx := lv1 xx rfl
          have Ry := lv2 yy rfl
          have eq0 : q = ⟨q.path, .object xx, .object yy⟩ := by
            cases q
            simp at ex ey
            rw [ex, ey]
          rw [eq0, met_step nl nr ed] at kD
          rw [ex, eq_intT (show vk (.object xx) = 2 from rfl)]
          refine iteT ?_
          refine ⟨_, rfl, tq, _, _, _, rfl, rfl, htq, rfl, _, rfl, tw, _, _, _, rfl, rfl, htw, rfl, _, _, rfl, ?_⟩
          refine ⟨_, rfl, _, rfl, _, rfl, pl, nm, nm2, ql, pl, xx, yy, met, pvs, rfl, inj, inj2, W5.hp, W5.pp, fun ve hve => ?_⟩
          refine ⟨_, rfl, rfl, _, rfl, ?_⟩
          have hpa5 := s35 _ _ hpa
          cases hel : met.find? (elderF xx yy) with
          | none =>
            rw [hel] at hve kD
            cases hve
            refine iteT ?_
            obtain ⟨nx, ny⟩ := elder_none hel
            have hpv : pvs.length = met.length := Paired.length hW.pp
            have nd2 : ((met ++ [(⟨q.path, xx, yy⟩ : VM)]).map fun m => m.left).Nodup := by
              rw [List.map_append, List.nodup_append]
              exact ⟨nl, by simp, fun a ha b hb e => by
                rw [List.map_cons, List.map_nil, List.mem_singleton] at hb
                rw [e, hb] at ha
                exact nx ha⟩
            have nr2 : ((met ++ [(⟨q.path, xx, yy⟩ : VM)]).map fun m => m.right).Nodup := by
              rw [List.map_append, List.nodup_append]
              exact ⟨nr, by simp, fun a ha b hb e => by
                rw [List.map_cons, List.map_nil, List.mem_singleton] at hb
                rw [e, hb] at ha
                exact ny ha⟩
            have hmet2 : ∀ m ∈ met ++ [(⟨q.path, xx, yy⟩ : VM)], R m.left ∧ m.path.length ≤ n + 1 + 2 := fun m hm => by
              rcases List.mem_append.mp hm with hm | hm
              · exact ⟨(hmet m hm).1, Nat.le_succ_of_le (hmet m hm).2⟩
              · rw [List.mem_singleton] at hm
                subst hm
                exact ⟨Rx, Nat.le_succ_of_le hpl⟩
            have hml2 : met.length + 1 ≤ S.objects.length := by
              have := live_len wf nd2 fun i hi => by
                obtain ⟨m, hm, rfl⟩ := List.mem_map.mp hi
                exact (hmet2 m hm).1
              rw [List.length_map, List.length_append] at this
              exact this
            refine ⟨_, rfl, .inl ⟨rfl, _, SqL.of W5.hp⟩, _, rfl, _, rfl, _, rfl, leLine (by show 3 ≤ 1000; decide), fun t6 nt6 => ?_⟩
            have s6 : Same H5 (upd H5 t6 (.tup [.ref pa, .int (vp nm (.object xx)), .int (vp nm2 (.object yy))])) := Same.new nt6
            have W6 := W5.same s6
            refine ⟨pl, pvs, _, rfl, rfl, W6.hp, small1000 (by omega), ?_⟩
            have W7 := W6.appP np0 nqp (v := .ref t6) (m := ⟨q.path, xx, yy⟩) ⟨t6, pa, rfl, upd_same, s6 _ _ hpa5, npa1, npa2⟩
            have hpa7 := (upd_ne (o := .lst (pvs ++ [V.ref t6])) npa2).trans (s6 _ _ hpa5)
            obtain ⟨dxs, cl, td, last, kvs, ta, tvs, b1, b2, b3, b4, b5⟩ := h3.thing2 wf Rx
            obtain ⟨dxs2, cl2, td2, last2, kvs2, ta2, tvs2, c1, c2, c3, c4, c5⟩ := g3.thing2 wf2 Ry
            have htv : tvs.length = (fieldsOf S xx).length := Paired.length b5
            have htv2 : tvs2.length = (fieldsOf T2 yy).length := Paired.length c5
            have hfl := desc_len ed
            have hcl : (childPairs S T2 q.path xx yy).length = tvs.length := by rw [child_len, htv]; omega
            have hf4 := (wf.fields Rx).1
            refine ⟨_, rfl, x, _, dx, _, _, rfl, W7.sm _ _ h1, T.k_side, T.n_store, rfl, sa, _, dxs, _, _, rfl, W7.sm _ _ b1, T.k_store, T.n_things, rfl, _, rfl, td, .ref ta, rfl, b3 ▸ DGet.k (k := Sum.inl (nm xx)) (W7.sm _ _ b2), ta, tvs, rfl, SqL.of (W7.sm _ _ b4), ?_⟩
            refine for_it (walk_enum (K := K) (a := ta) (xs := tvs)) (fun j σ H7 => ∃ (v12 v13 : Option V) (qvs7 : List V), σ = [some (.ref x), some (.ref y), some (.bl is), some (.ref ql), some (.ref pl), some (.int n), some (.ref pa), some (.ref tq), some (.ref tw), some (.int (vp nm (.object xx))), some (.int (vp nm2 (.object yy))), some .non, v12, v13] ∧
                DWk K nm nm2 H ql pl (qs ++ (childPairs S T2 q.path xx yy).take j) qvs7 (met ++ [⟨q.path, xx, yy⟩]) (pvs ++ [.ref t6]) H7 ∧ H7 pa = some (.lst (nI q.path)))
              ⟨v12, v13, qvs, rfl, by rw [List.take_zero, List.append_nil]; exact W7, hpa7⟩ (fun j σ H7 _ ⟨_, _, _, _, hW7, _⟩ => SqL.of (hW7.sm _ _ b4)) ?_ ?_
            · rintro j z σ H7 H8 hj ⟨v12, v13, qvs7, rfl, hW7, hp7⟩ ⟨t8, x0, y0, rfl, nt8, rfl, ex8, ey8⟩
              cases ex8
              obtain ⟨ya, hya, iya⟩ := pair_get' b5 (show tvs[j]? = some y0 from ey8)
              obtain ⟨yb, hyb⟩ : ∃ yb, (fieldsOf T2 yy)[j]? = some yb := ⟨_, List.getElem?_eq_getElem (by omega)⟩
              obtain ⟨z0, hz0, iz0⟩ := pair_get c5 hyb
              have s8 : Same H7 (upd H7 t8 (.tup [.int (j : Nat), y0])) := Same.new nt8
              have W8 := hW7.same s8
              refine ⟨t8, _, rfl, SqT.of upd_same, rfl, _, _, rfl, _, _, rfl, rfl, ?_⟩
              refine ⟨_, rfl, .inl ⟨rfl, _, SqL.of W8.hq⟩, _, rfl, _, rfl, leLine (by show 1 ≤ 1000; decide), fun l nl => ?_⟩
              have s9 := s8.trans (Same.new (o := .lst [.int (j : Nat)]) nl)
              refine ⟨pa, l, _, _, rfl, rfl, s9 _ _ hp7, upd_same, leLine (by rw [nI_length]; show q.path.length + 1 ≤ 1000; omega), fun l2 nl2 => ?_⟩
              have s10 := s9.trans (Same.new (o := .lst (nI q.path ++ [.int (j : Nat)])) nl2)
              have W10 := hW7.same s10
              refine ⟨_, rfl, _, rfl, y, _, dy, _, _, rfl, W10.sm _ _ g1, T.k_side, T.n_store, rfl, sb, _, dxs2, _, _, rfl, W10.sm _ _ c1, T.k_store, T.n_things, rfl, _, rfl, td2, .ref ta2, rfl, c3 ▸ DGet.k (k := Sum.inl (nm2 yy)) (W10.sm _ _ c2), _, rfl, ta2, tvs2, _, z0, rfl, rfl, SqL.of (W10.sm _ _ c4), atI_nat hz0, leLine (by show 3 ≤ 1000; decide), fun t9 nt9 => ?_⟩
              have s11 := s10.trans (Same.new (o := .tup [.ref l2, y0, z0]) nt9)
              have W11 := hW7.same s11
              have hq7l : qvs7.length ≤ 270 := by
                rw [Paired.length hW7.pq, List.length_append, List.length_take]
                omega
              refine ⟨ql, qvs7, _, rfl, rfl, W11.hq, small1000 (by omega), ?_⟩
              have nl2t : l2 ≠ t9 := ne_of_none upd_same nt9
              have n1 : l2 ≠ ql := Ne.symm (ne_of_none (s9 _ _ hW7.hq) nl2)
              have n2 : l2 ≠ pl := Ne.symm (ne_of_none (s9 _ _ hW7.hp) nl2)
              have W12 := W11.appQ nq nqp (v := .ref t9) (q := ⟨q.path ++ [j], ya, yb⟩) ⟨t9, l2, y0, z0, rfl, upd_same, by rw [upd_ne nl2t, upd_same]; unfold nI; rw [List.map_append]; rfl, n1, n2, iya.keep (Same.tups W11.sm), iz0.keep (Same.tups W11.sm)⟩
              have ek : qs ++ (childPairs S T2 q.path xx yy).take (j + 1) = qs ++ (childPairs S T2 q.path xx yy).take j ++ [⟨q.path ++ [j], ya, yb⟩] := by
                obtain ⟨hq, e⟩ := List.getElem?_eq_some_iff.mp (child_get (p := q.path) hya hyb)
                rw [List.take_succ_eq_append_getElem hq, e, List.append_assoc]
              refine ⟨_, _, _, rfl, by rw [ek]; exact W12, ?_⟩
              rw [upd_ne npa1]
              exact s11 _ _ hp7
            · rintro σ H7 ⟨v12, v13, qvs7, rfl, hW7, _⟩
              rw [← hcl, List.take_length] at hW7
              refine ⟨_, rfl, _, _, rfl, rfl, ?_⟩
              refine ⟨m - 1, by omega, n + 1, fu', _, _, _, _, _, _, v12, v13, _, qvs7, _, _, by omega, rfl, hW7, ?_, ?_, ?_, ?_, nd2, nr2, hmet2, fun q2 hq2 => ?_⟩
              · rw [List.drop_append_of_le_length cc]
                exact kD
              · rw [List.length_append, List.length_append, List.length_singleton, hcl]
                omega
              · rw [List.length_append]
                omega
              · rw [List.length_append, List.length_append, List.length_singleton, hcl]
                omega
              · rcases List.mem_append.mp hq2 with hq2 | hq2
                · obtain ⟨z1, z2, z3⟩ := hqq q2 hq2
                  exact ⟨z1, z2, Nat.le_succ_of_le z3⟩
                · obtain ⟨z1, z2, z3⟩ := child_mem hq2
                  exact ⟨(wf.fields Rx).2 _ z1, (wf2.fields Ry).2 _ z2, by omega⟩
          | some e =>
            rw [hel] at hve kD
            obtain ⟨pe, rfl, hpe⟩ := hve
            refine iteF ?_
            refine ⟨_, rfl, _, rfl, _, rfl, pl, nm, nm2, ql, pl, xx, yy, met, pvs, rfl, inj, inj2, W5.hp, W5.pp, _, rfl, ?_⟩
            have hep := (hmet e (List.mem_of_find?_eq_some hel)).2
            cases hany : met.any (bothF xx yy) with
            | true =>
              rw [hany] at kD
              have kD : ResL H Q (differenceFrom S T2 fu' (qs.drop (n + 1)) met) := kD
              refine iteF ⟨_, rfl, _, _, rfl, rfl, ?_⟩
              exact ⟨m - 1, by omega, n + 1, fu', _, _, _, _, _, _, v12, v13, qs, qvs, met, pvs, by omega, rfl, W5, kD, by omega, by omega, hqs, nl, nr, (fun m hm => ⟨(hmet m hm).1, Nat.le_succ_of_le (hmet m hm).2⟩), fun q2 hq2 => let ⟨z1, z2, z3⟩ := hqq q2 hq2; ⟨z1, z2, Nat.le_succ_of_le z3⟩⟩
            | false =>
              rw [hany] at kD
              have kD2 : ResL H Q (some (2 :: q.path.length :: (q.path ++ e.path))) := kD
              refine iteT ?_
              refine ⟨_, rfl, pa, nI q.path, rfl, .inl (SqL.of hpa5), leLine (by show 2 ≤ 1000; decide), fun r1 nr1 => ?_⟩
              have z1 := Same.new (o := .lst [.int 2, .int ((nI q.path).length : Nat)]) nr1
              refine ⟨_, rfl, r1, pa, _, _, rfl, rfl, upd_same, z1 _ _ hpa5, leLine (by rw [nI_length]; show 2 + _ ≤ 1000; omega), fun r2 nr2 => ?_⟩
              have z2 := z1.trans (Same.new (o := .lst ([.int 2, .int ((nI q.path).length : Nat)] ++ nI q.path)) nr2)
              refine ⟨_, rfl, r2, pe, _, _, rfl, rfl, upd_same, z2 _ _ hpe, leLine (by rw [List.length_append, nI_length, nI_length]; show 2 + _ + _ ≤ 1000; omega), fun p np => ?_⟩
              have z3 := W5.sm.trans z2
              refine kD2.some_ rfl (by rw [List.length_cons, List.length_cons, List.length_append]; omega) _ p (z3.trans (Same.new np)) (z3.free np) ?_
              rw [upd_same, nI_length]
              unfold nI
              rw [List.map_cons, List.map_cons, List.map_append]
              rfl
        · have nob : ∀ i, q.left ≠ .object i := fun i e => hob ⟨i, e⟩
          have hv2 : ¬ vk q.left = 2 := by
            cases e : q.left with
            | nothing => show ¬ (0 : Int) = 2; decide
            | number _ => show ¬ (1 : Int) = 2; decide
            | object i => exact absurd e (nob i)
          rw [diff_skip ed nob] at kD
          rw [eq_intF hv2]
          refine iteF ⟨_, rfl, _, _, rfl, rfl, ?_⟩
          exact ⟨m - 1, by omega, n + 1, fu', _, _, _, v9, v10, v11, v12, v13, qs, qvs, met, pvs, by omega, rfl, W5, kD, by omega, by omega, hqs, nl, nr, (fun m hm => ⟨(hmet m hm).1, Nat.le_succ_of_le (hmet m hm).2⟩), fun q2 hq2 => let ⟨z1, z2, z3⟩ := hqq q2 hq2; ⟨z1, z2, Nat.le_succ_of_le z3⟩⟩
      · have : (!(decide ((describe S q.left).1 = (describe T2 q.right).1) && decide ((describe S q.left).2 = (describe T2 q.right).2))) = true := by
          by_cases z1 : (describe S q.left).1 = (describe T2 q.right).1
          · rw [decide_eq_true z1, decide_eq_false fun z2 => ed (Prod.ext z1 z2)]
            rfl
          · rw [decide_eq_false z1]
            rfl
        rw [this]
        rw [diff_ne ed] at kD
        refine iteT ⟨leLine (by show 1 ≤ 1000; decide), fun r1 nr1 => ⟨_, rfl, r1, pa, _, _, rfl, rfl, upd_same, Same.new nr1 _ _ (s35 _ _ hpa), leLine (by rw [nI_length]; show 1 + _ ≤ 1000; omega), fun p np => ?_⟩⟩
        have s6 := W5.sm.trans (Same.new (o := .lst [.int 1]) nr1)
        exact kD.some_ rfl (by rw [List.length_cons]; omega) _ p (s6.trans (Same.new np)) (s6.free np) upd_same
    · have cc : qs.length ≤ n := by have := of_decide_eq_false (Bool.eq_false_iff.mpr cc); omega
      rw [List.drop_eq_nil_of_le cc] at kD
      have e : differenceFrom S T2 fu [] met = none := by cases fu <;> rfl
      exact kD.none_ e _ hW.sm
end
end Sh


set_option maxHeartbeats 2000000
namespace Sh
open PySem PySem.Spec PyProof.Rows L2
open Vbxlaa (fieldsOf rootsOf rootValues clientAt messageSize describe differenceFrom childPairs firstSizeDifference clientDifference storeDifference)
theorem findSome_congr {α β : Type} {f g : α → Option β} : ∀ {l : List α}, (∀ x ∈ l, f x = g x) → l.findSome? f = l.findSome? g
  | [], _ => rfl
  | x :: l, h => by
    rw [List.findSome?_cons, List.findSome?_cons, h x List.mem_cons_self, findSome_congr fun y m => h y (List.mem_cons_of_mem _ m)]
theorem clientDiff_eq {S : VSt} {k j : Nat} (hc : (cAt S k).inbox.length ≤ 4) (hd : (cAt S j).inbox.length ≤ 4) : clientDifference S (cAt S k) (cAt S j) = match ([k].zip [j]).findSome? (sizeD S S false) with
    | some l => some l
    | none => differenceFrom S S ((begunQ S S false ([k].zip [j])).length + 4 * S.objects.length + 1) (begunQ S S false ([k].zip [j])) [] := by
  have e1 : ([k].zip [j]).findSome? (sizeD S S false) = (firstSizeDifference (cAt S k) (cAt S j)).map fun m => [0, m] := by
    rw [first4_eq hc hd]
    show [(k, j)].findSome? (sizeD S S false) = _
    rw [List.findSome?_cons]
    unfold sizeD
    cases first4 (cAt S k) (cAt S j) <;> rfl
  have e2 : begunQ S S false ([k].zip [j]) = Vbxlaa.rootPairs [] (cAt S k) (cAt S j) := by
    show Vbxlaa.rootPairs [] (cAt S k) (cAt S j) ++ [] = _
    rw [List.append_nil]
  rw [e1, e2]
  unfold Vbxlaa.clientDifference
  cases firstSizeDifference (cAt S k) (cAt S j) <;> rfl
def numsTo (n : Nat) : List Nat := (List.range n).map fun i => i + 1
theorem numsTo_zip (n : Nat) : (numsTo n).zip (numsTo n) = (List.range n).map fun i => (i + 1, i + 1) := by
  unfold numsTo
  rw [List.zip_map', ]
theorem both_eq {S T : VSt} (h : S.clients.length = T.clients.length) : (S.clients.zip T.clients).zipIdx = (List.range S.clients.length).map fun i => ((cAt S (i + 1), cAt T (i + 1)), i) := by
  refine List.ext_getElem? fun i => ?_
  rw [List.getElem?_zipIdx, List.getElem?_map]
  by_cases c : i < S.clients.length
  · obtain ⟨a, ha⟩ : ∃ a, S.clients[i]? = some a := ⟨_, List.getElem?_eq_getElem c⟩
    obtain ⟨b, hb⟩ : ∃ b, T.clients[i]? = some b := ⟨_, List.getElem?_eq_getElem (by omega)⟩
    rw [show (S.clients.zip T.clients)[i]? = some (a, b) from List.getElem?_zip_eq_some.mpr ⟨ha, hb⟩, List.getElem?_range c]
    show some ((a, b), 0 + i) = some ((cAt S (i + 1), cAt T (i + 1)), i)
    rw [Nat.zero_add, cAt_eq (S := S) (n := i + 1) (c := a) (by simpa using ha), cAt_eq (S := T) (n := i + 1) (c := b) (by simpa using hb)]
  · rw [List.getElem?_eq_none (by rw [List.length_zip]; omega), List.getElem?_eq_none (by rw [List.length_range]; omega)]
    rfl
theorem storeDiff_eq {S T : VSt} (hm : S.made = T.made) (h : S.clients.length = T.clients.length) (hc : ∀ c ∈ S.clients, c.inbox.length ≤ 4) (hd : ∀ c ∈ T.clients, c.inbox.length ≤ 4) :
    storeDifference S T = match ((numsTo S.clients.length).zip (numsTo S.clients.length)).findSome? (sizeD S T true) with
    | some l => some l
    | none => differenceFrom S T ((begunQ S T true ((numsTo S.clients.length).zip (numsTo S.clients.length))).length + 4 * S.objects.length + 1) (begunQ S T true ((numsTo S.clients.length).zip (numsTo S.clients.length))) [] := by
  have e1 : ((numsTo S.clients.length).zip (numsTo S.clients.length)).findSome? (sizeD S T true) = ((S.clients.zip T.clients).zipIdx.findSome? fun x => (firstSizeDifference x.1.1 x.1.2).map fun m => [0, x.2 + 1, m]) := by
    rw [numsTo_zip, both_eq h, List.findSome?_map, List.findSome?_map]
    refine findSome_congr fun i hi => ?_
    rw [List.mem_range] at hi
    obtain ⟨a, ha⟩ : ∃ a, S.clients[i]? = some a := ⟨_, List.getElem?_eq_getElem hi⟩
    obtain ⟨b, hb⟩ : ∃ b, T.clients[i]? = some b := ⟨_, List.getElem?_eq_getElem (by omega)⟩
    show sizeD S T true (i + 1, i + 1) = (firstSizeDifference (cAt S (i + 1)) (cAt T (i + 1))).map fun m => [0, i + 1, m]
    have ea := cAt_eq (S := S) (n := i + 1) (c := a) (by simpa using ha)
    have eb := cAt_eq (S := T) (n := i + 1) (c := b) (by simpa using hb)
    rw [first4_eq (by rw [ea]; exact hc a (List.mem_of_getElem? ha)) (by rw [eb]; exact hd b (List.mem_of_getElem? hb))]
    unfold sizeD
    rfl
  have e2 : begunQ S T true ((numsTo S.clients.length).zip (numsTo S.clients.length)) = (S.clients.zip T.clients).zipIdx.flatMap fun x => Vbxlaa.rootPairs [x.2 + 1] x.1.1 x.1.2 := by
    unfold begunQ
    rw [numsTo_zip, both_eq h, List.flatMap_map, List.flatMap_map]
    rfl
  rw [e1, e2]
  unfold Vbxlaa.storeDifference
  rw [if_neg (by rw [hm, h]; simp)]
  dsimp only
  generalize (S.clients.zip T.clients).zipIdx = B
  cases B.findSome? fun x => (firstSizeDifference x.1.1 x.1.2).map fun m => [0, x.2 + 1, m] <;> rfl
theorem rgV_nums (n : Nat) : rgV 1 ((n : Int) + 1) = nI (numsTo n) := by
  unfold rgV nI numsTo
  rw [List.map_map, show ((n : Int) + 1 - 1).toNat = n by omega]
  refine List.map_congr_left fun i _ => ?_
  show V.int (1 + (i : Int)) = V.int ((i + 1 : Nat) : Int)
  congr 1
  omega
theorem numsTo_length (n : Nat) : (numsTo n).length = n := by unfold numsTo; rw [List.length_map, List.length_range]
theorem numsTo_mem {n i : Nat} (h : i ∈ numsTo n) : 1 ≤ i ∧ i ≤ n := by
  unfold numsTo at h
  obtain ⟨j, hj, rfl⟩ := List.mem_map.mp h
  rw [List.mem_range] at hj
  omega
section
variable {P : Program} {w : World} {K : PySem.W.Frag} {mg : Str → Option Value} {base : Heap} {ad : Ad}
def spClientsDifference (K : PySem.W.Frag) (ad : Ad) : Sp := fun vs H Q _ => ∃ (sa : Addr) (nm : Nat → Int) (ro : Rm) (b : Bool) (S : VSt) (R : Nat → Prop) (k j : Nat), vs = [.ref sa, .int (k : Nat), .int (j : Nat)] ∧ StoreAt K ad nm ro H b sa S ∧ Wf S R ∧ 1 ≤ k ∧ k ≤ S.clients.length ∧ 1 ≤ j ∧ j ≤ S.clients.length ∧
  ResL H Q (clientDifference S (cAt S k) (cAt S j))
theorem ok_clients_difference (T : Tx K mg ad) (D : Df K mg "clients_difference" s_clients_difference ["store", "number", "other"]) (G_Side : OkI P w K mg base 1 "Side" ad.side ["self", "store", "numbers"] (spSideInit ad))
    (G_size_difference : Ok P w K mg base 2 "size_difference" ["left", "right", "is_store"] (spSizeDifference K ad)) (G_difference : Ok P w K mg base 3 "difference" ["left", "right", "is_store"] (spDifference K ad)) :
    Ok P w K mg base 4 "clients_difference" ["store", "number", "other"] (spClientsDifference K ad) := by
  refine D.ok c_clients_difference (fun vs H Q E h => ?_) (fun f cdv A outer s H vs Q E hr h => ?_)
  · obtain ⟨sa, nm, ro, b, S, R, k, j, rfl, _⟩ := h
    rfl
  · refine ⟨_,
      (pss_cons (ps_par (i := 3) (j := 4) rfl c_clients_difference.nd rfl rfl (by decide) rfl rfl (pa_cons (pe_i G_Side hr (pa_cons (pv 0) (pa_cons (pe_lst (pa_cons (pv 1) pa_nil)) pa_nil))) (pa_cons (pe_i G_Side hr (pa_cons (pv 0) (pa_cons (pe_lst (pa_cons (pv 2) pa_nil)) pa_nil))) pa_nil)) (by rfl))
        (pss_cons (ps_set (i := 5) c_clients_difference.nd rfl (Or.inl rfl) (pe_c G_size_difference hr (L2N.takes_of rfl rfl rfl rfl) (pa_cons (pv 3) (pa_cons (pv 4) (pa_cons pe_bl pa_nil)))))
        (pss_one (ps_ret (pe_ifExp (pt_cmpR op_isN (pv 5) pe_non (nomark _)) (pe_c G_difference hr (L2N.takes_of rfl rfl rfl rfl) (pa_cons (pv 3) (pa_cons (pv 4) (pa_cons pe_bl pa_nil)))) (pv 5))))))
      , ?_⟩
    obtain ⟨sa, nm, ro, b, S, R, kk, jj, rfl, hS, wf, k1, k2, j1, j2, k⟩ := h
    obtain ⟨c, _, hc⟩ := client_some k1 k2
    obtain ⟨d, _, hd⟩ := client_some j1 j2
    have ec := cAt_eq hc
    have edd := cAt_eq hd
    rw [clientDiff_eq (by rw [ec]; exact wf.ib c (List.mem_of_getElem? hc)) (by rw [edd]; exact wf.ib d (List.mem_of_getElem? hd))] at k
    refine ⟨_, rfl, _, rfl, leLine (by show 1 ≤ 1000; decide), fun l1 nl1 => ?_⟩
    have s1 : Same H (upd H l1 (.lst [.int (kk : Nat)])) := Same.new nl1
    intro x dx nx ndx ndxx
    have s2 : Same (upd H l1 (.lst [.int (kk : Nat)])) (upd (upd (upd H l1 (.lst [.int (kk : Nat)])) dx (.own x)) x (.ins ad.side dx [])) := (Same.new ndx).trans (Same.new ((upd_ne (Ne.symm ndxx)).trans nx))
    refine ⟨x, dx, .ref sa, .ref l1, rfl, upd_same, fun H3 kp3 e3 => ⟨rfl, ?_⟩⟩
    have s3 : Same (upd H l1 (.lst [.int (kk : Nat)])) H3 := fun a o e => kp3 a o (ne_of_none e nx) (s2 a o e)
    have s03 := s1.trans s3
    refine ⟨_, rfl, _, rfl, leLine (by show 1 ≤ 1000; decide), fun l2 nl2 => ?_⟩
    have s4 : Same H3 (upd H3 l2 (.lst [.int (jj : Nat)])) := Same.new nl2
    intro y dy ny ndy ndyy
    have s5 : Same (upd H3 l2 (.lst [.int (jj : Nat)])) (upd (upd (upd H3 l2 (.lst [.int (jj : Nat)])) dy (.own y)) y (.ins ad.side dy [])) := (Same.new ndy).trans (Same.new ((upd_ne (Ne.symm ndyy)).trans ny))
    refine ⟨y, dy, .ref sa, .ref l2, rfl, upd_same, fun H6 kp6 e6 => ⟨rfl, ?_⟩⟩
    have s6 : Same (upd H3 l2 (.lst [.int (jj : Nat)])) H6 := fun a o e => kp6 a o (ne_of_none e ny) (s5 a o e)
    have s36 := s4.trans s6
    have s06 := s03.trans s36
    have hX : SideAt K ad nm ro H6 b x S R [kk] := ⟨⟨dx, sa, l1, s36 _ _ e3, s36 _ _ (s3 _ _ upd_same), hS.same s06⟩, wf, fun n hn => by
      rw [List.mem_singleton] at hn
      subst hn
      exact ⟨k1, k2⟩, by show 1 ≤ 4; decide⟩
    have hY : SideAt K ad nm ro H6 b y S R [jj] := ⟨⟨dy, sa, l2, e6, s6 _ _ upd_same, hS.same s06⟩, wf, fun n hn => by
      rw [List.mem_singleton] at hn
      subst hn
      exact ⟨j1, j2⟩, by show 1 ≤ 4; decide⟩
    refine ⟨_, _, rfl, ?_⟩
    refine ⟨_, rfl, _, rfl, x, y, false, nm, nm, ro, ro, b, b, S, S, R, R, [kk], [jj], rfl, hX, hY, rfl, ?_⟩
    cases es : ([kk].zip [jj]).findSome? (sizeD S S false) with
    | some l =>
      rw [es] at k
      intro hl H7 p s7 np hp
      refine ⟨_, rfl, rfl, _, rfl, ?_⟩
      exact iteF ⟨_, rfl, k.some_ rfl hl _ p (s06.trans s7) (s06.free np) hp⟩
    | none =>
      rw [es] at k
      intro H7 s7
      refine ⟨_, rfl, rfl, _, rfl, ?_⟩
      refine iteT ⟨_, rfl, _, rfl, x, y, false, nm, nm, ro, ro, b, b, S, S, R, R, [kk], [jj], _, rfl, hX.same s7, hY.same s7, rfl, Nat.le_refl _, ?_⟩
      exact ResL.later k (s06.trans s7)
def spStoresDifference (K : PySem.W.Frag) (ad : Ad) : Sp := fun vs H Q _ => ∃ (sa sb : Addr) (nm nm2 : Nat → Int) (ro ro2 : Rm) (b b2 : Bool) (S T : VSt) (R R2 : Nat → Prop), vs = [.ref sa, .ref sb] ∧ StoreAt K ad nm ro H b sa S ∧ Wf S R ∧ StoreAt K ad nm2 ro2 H b2 sb T ∧ Wf T R2 ∧
  ResL H Q (storeDifference S T)
theorem ok_stores_difference (T : Tx K mg ad) (D : Df K mg "stores_difference" s_stores_difference ["store", "other"]) (G_Side : OkI P w K mg base 1 "Side" ad.side ["self", "store", "numbers"] (spSideInit ad))
    (G_size_difference : Ok P w K mg base 2 "size_difference" ["left", "right", "is_store"] (spSizeDifference K ad)) (G_difference : Ok P w K mg base 3 "difference" ["left", "right", "is_store"] (spDifference K ad)) :
    Ok P w K mg base 4 "stores_difference" ["store", "other"] (spStoresDifference K ad) := by
  refine D.ok c_stores_difference (fun vs H Q E h => ?_) (fun f cdv A outer s H vs Q E hr h => ?_)
  · obtain ⟨sa, sb, nm, nm2, ro, ro2, b, b2, S, T2, R, R2, rfl, _⟩ := h
    rfl
  · refine ⟨_,
      (pss_cons (ps_if (PW.pt (pw_or (pt_cmpR op_ne (pe_fld (pv 0) rfl) (pe_fld (pv 1) rfl) (nomark _)) (pw_or1 (pt_cmpR op_ne (pe_callB call_len_seq (by rfl) T.b_len (by decide +kernel) (pa_cons (pe_fld (pv 0) rfl) pa_nil)) (pe_callB call_len_seq (by rfl) T.b_len (by decide +kernel) (pa_cons (pe_fld (pv 1) rfl) pa_nil)) (nomark _))))) (pss_one (ps_ret (pe_lst pa_nil))) pss_nil)
        (pss_cons (ps_set (i := 2) c_stores_difference.nd rfl (Or.inl rfl) (pe_listRg rfl rfl T.b_list (prg_2 rfl T.b_range pe_int (pe_op op_add (pe_callB call_len_seq (by rfl) T.b_len (by decide +kernel) (pa_cons (pe_fld (pv 0) rfl) pa_nil)) pe_int))))
        (pss_cons (ps_par (i := 3) (j := 4) rfl c_stores_difference.nd rfl rfl (by decide) rfl rfl (pa_cons (pe_i G_Side hr (pa_cons (pv 0) (pa_cons (pv 2) pa_nil))) (pa_cons (pe_i G_Side hr (pa_cons (pv 1) (pa_cons (pv 2) pa_nil))) pa_nil)) (by rfl))
        (pss_cons (ps_set (i := 5) c_stores_difference.nd rfl (Or.inl rfl) (pe_c G_size_difference hr (L2N.takes_of rfl rfl rfl rfl) (pa_cons (pv 3) (pa_cons (pv 4) (pa_cons pe_bl pa_nil)))))
        (pss_one (ps_ret (pe_ifExp (pt_cmpR op_isN (pv 5) pe_non (nomark _)) (pe_c G_difference hr (L2N.takes_of rfl rfl rfl rfl) (pa_cons (pv 3) (pa_cons (pv 4) (pa_cons pe_bl pa_nil)))) (pv 5))))))))
      , ?_⟩
    obtain ⟨sa, sb, nm, nm2, ro, ro2, b, b2, S, T2, R, R2, rfl, hS, wf, hT, wf2, k⟩ := h
    obtain ⟨dx, cl, td, cvs, kvs, last, r0, nk⟩ := hS.raw
    obtain ⟨dx2, cl2, td2, cvs2, kvs2, last2, r2, nk2⟩ := hT.raw
    have hc4 := wf.c4
    refine ⟨_, rfl, sa, _, dx, _, _, rfl, r0.ha, T.k_store, T.n_created, rfl, _, rfl, sb, _, dx2, _, _, rfl, r2.ha, T.k_store, T.n_created, rfl, rfl, _, rfl, ?_⟩
    by_cases hm : S.made = T2.made
    · rw [ne_intF (by rw [hm])]
      refine iteF ⟨_, rfl, sa, _, dx, _, _, rfl, r0.ha, T.k_store, T.n_clients, rfl, cl, cvs, rfl, .inl (SqL.of r0.hc), _, rfl, sb, _, dx2, _, _, rfl, r2.ha, T.k_store, T.n_clients, rfl, cl2, cvs2, rfl, .inl (SqL.of r2.hc), rfl, _, rfl, ?_⟩
      by_cases hl : S.clients.length = T2.clients.length
      · rw [ne_intF (by rw [r0.ln, r2.ln, hl])]
        refine iteF ?_
        rw [storeDiff_eq hm hl (fun c hc => wf.ib c hc) (fun c hc => wf2.ib c hc)] at k
        refine ⟨_, rfl, sa, _, dx, _, _, rfl, r0.ha, T.k_store, T.n_clients, rfl, cl, cvs, rfl, .inl (SqL.of r0.hc), _, _, rfl, rfl, _, _, rfl, rfl, RgOk.of_le (by decide) (by have := r0.ln; omega) (by decide) (by omega), fun l1 nl1 => ?_⟩
        rw [rgV_nums, r0.ln]
        have s1 : Same H (upd H l1 (.lst (nI (numsTo S.clients.length)))) := Same.new nl1
        refine ⟨_, rfl, _, rfl, ?_⟩
        intro x dx0 nx ndx ndxx
        have s2 : Same (upd H l1 (.lst (nI (numsTo S.clients.length)))) (upd (upd (upd H l1 (.lst (nI (numsTo S.clients.length)))) dx0 (.own x)) x (.ins ad.side dx0 [])) := (Same.new ndx).trans (Same.new ((upd_ne (Ne.symm ndxx)).trans nx))
        refine ⟨x, dx0, .ref sa, .ref l1, rfl, upd_same, fun H3 kp3 e3 => ⟨rfl, ?_⟩⟩
        have s3 : Same (upd H l1 (.lst (nI (numsTo S.clients.length)))) H3 := fun a o e => kp3 a o (ne_of_none e nx) (s2 a o e)
        have s03 := s1.trans s3
        refine ⟨_, rfl, _, rfl, ?_⟩
        intro y dy ny ndy ndyy
        have s5 : Same H3 (upd (upd H3 dy (.own y)) y (.ins ad.side dy [])) := (Same.new ndy).trans (Same.new ((upd_ne (Ne.symm ndyy)).trans ny))
        refine ⟨y, dy, .ref sb, .ref l1, rfl, upd_same, fun H6 kp6 e6 => ⟨rfl, ?_⟩⟩
        have s36 : Same H3 H6 := fun a o e => kp6 a o (ne_of_none e ny) (s5 a o e)
        have s06 := s03.trans s36
        have hX : SideAt K ad nm ro H6 b x S R (numsTo S.clients.length) := ⟨⟨dx0, sa, l1, s36 _ _ e3, s36 _ _ (s3 _ _ upd_same), hS.same s06⟩, wf, fun n hn => numsTo_mem hn, by rw [numsTo_length]; exact hc4⟩
        have hY : SideAt K ad nm2 ro2 H6 b2 y T2 R2 (numsTo S.clients.length) := ⟨⟨dy, sb, l1, e6, s36 _ _ (s3 _ _ upd_same), hT.same s06⟩, wf2, fun n hn => by rw [← hl]; exact numsTo_mem hn, by rw [numsTo_length]; exact hc4⟩
        refine ⟨_, _, rfl, ?_⟩
        refine ⟨_, rfl, _, rfl, x, y, true, nm, nm2, ro, ro2, b, b2, S, T2, R, R2, _, _, rfl, hX, hY, rfl, ?_⟩
        cases es : ((numsTo S.clients.length).zip (numsTo S.clients.length)).findSome? (sizeD S T2 true) with
        | some l =>
          rw [es] at k
          intro hl H7 p s7 np hp
          refine ⟨_, rfl, rfl, _, rfl, ?_⟩
          exact iteF ⟨_, rfl, k.some_ rfl hl _ p (s06.trans s7) (s06.free np) hp⟩
        | none =>
          rw [es] at k
          intro H7 s7
          refine ⟨_, rfl, rfl, _, rfl, ?_⟩
          refine iteT ⟨_, rfl, _, rfl, x, y, true, nm, nm2, ro, ro2, b, b2, S, T2, R, R2, _, _, _, rfl, hX.same s7, hY.same s7, rfl, Nat.le_refl _, ?_⟩
          exact ResL.later k (s06.trans s7)
      · rw [ne_intT (by rw [r0.ln, r2.ln]; omega)]
        refine iteT ⟨leLine (by decide), fun p np => ?_⟩
        exact k.some_ (if_pos (Or.inr hl)) (by decide) _ p (Same.new np) np upd_same
    · rw [ne_intT (by omega)]
      refine iteT (iteT ⟨leLine (by decide), fun p np => ?_⟩)
      exact k.some_ (if_pos (Or.inl hm)) (by decide) _ p (Same.new np) np upd_same
end
end Sh


/-! M6: cuts of the specification. -/
namespace Sh
open Vbxlaa (fieldsOf stepsFrom meetSteps residualFrom residual trace toggle sourceSide edgesFrom edgesOf numberIn)
abbrev VE := Vbxlaa.Edge
abbrev VS := Vbxlaa.Step
def ekey (e : VE) : Nat × Nat := (e.source, e.index)
def skey (s : VS) : Nat × Nat := (s.source, s.index)
/-- a step along an edge -/
def DirE (e : VE) (st : VS) : Prop := ekey e = skey st ∧ ((e.used = false ∧ e.source = st.previous ∧ e.target = st.node) ∨ (e.used = true ∧ e.target = st.previous ∧ e.source = st.node))
def stepOf (e : VE) (u : Nat) : Option VS := if e.source = u ∧ e.used = false then some ⟨e.target, u, e.source, e.index⟩ else if e.target = u ∧ e.used = true then some ⟨e.source, u, e.source, e.index⟩ else none
theorem stepsFrom_eq (es : List VE) (u : Nat) : stepsFrom es u = es.filterMap fun e => stepOf e u := rfl
theorem stepOf_dir {e : VE} {u : Nat} {st : VS} (h : stepOf e u = some st) : st.previous = u ∧ DirE e st := by
  unfold stepOf at h
  by_cases c1 : e.source = u ∧ e.used = false
  · rw [if_pos c1] at h
    cases h
    exact ⟨rfl, rfl, .inl ⟨c1.2, c1.1, rfl⟩⟩
  · rw [if_neg c1] at h
    by_cases c2 : e.target = u ∧ e.used = true
    · rw [if_pos c2] at h
      cases h
      exact ⟨rfl, rfl, .inr ⟨c2.2, c2.1, rfl⟩⟩
    · rw [if_neg c2] at h
      cases h
theorem ms_cons (met : List VS) (x : VS) (l : List VS) : meetSteps met (x :: l) = if x.node ∈ met.map (fun s => s.node) then meetSteps met l else meetSteps (met ++ [x]) l := by
  show (if (met.any fun m => m.node == x.node) = true then meetSteps met l else meetSteps (met ++ [x]) l) = _
  have e : ((met.any fun m => m.node == x.node) = true) ↔ x.node ∈ met.map (fun s => s.node) := by simp
  by_cases h : x.node ∈ met.map (fun s => s.node)
  · rw [if_pos (e.mpr h), if_pos h]
  · rw [if_neg (fun z => h (e.mp z)), if_neg h]
theorem ms_app : ∀ (a met b : List VS), meetSteps met (a ++ b) = meetSteps (meetSteps met a) b
  | [], _, _ => rfl
  | x :: a, met, b => by
    rw [List.cons_append, ms_cons, ms_cons]
    by_cases h : x.node ∈ met.map (fun s => s.node)
    · rw [if_pos h, if_pos h]; exact ms_app a met b
    · rw [if_neg h, if_neg h]; exact ms_app a _ b
theorem ms_more : ∀ (l met : List VS), ∃ more, meetSteps met l = met ++ more ∧ ∀ s ∈ more, s ∈ l
  | [], met => ⟨[], (List.append_nil _).symm, fun _ h => by cases h⟩
  | x :: l, met => by
    rw [ms_cons]
    by_cases h : x.node ∈ met.map (fun s => s.node)
    · rw [if_pos h]
      obtain ⟨more, e, hm⟩ := ms_more l met
      exact ⟨more, e, fun s hs => List.mem_cons_of_mem _ (hm s hs)⟩
    · rw [if_neg h]
      obtain ⟨more, e, hm⟩ := ms_more l (met ++ [x])
      refine ⟨x :: more, by rw [e, List.append_assoc]; rfl, fun s hs => ?_⟩
      rcases List.mem_cons.mp hs with rfl | hs
      · exact List.mem_cons_self
      · exact List.mem_cons_of_mem _ (hm s hs)
theorem ms_nodup : ∀ (l met : List VS), (met.map fun s => s.node).Nodup → ((meetSteps met l).map fun s => s.node).Nodup
  | [], _, h => h
  | x :: l, met, h => by
    rw [ms_cons]
    by_cases c : x.node ∈ met.map (fun s => s.node)
    · rw [if_pos c]; exact ms_nodup l met h
    · rw [if_neg c]
      refine ms_nodup l _ ?_
      rw [List.map_append, List.nodup_append]
      refine ⟨h, by simp, fun a ha b hb e => ?_⟩
      rw [List.map_cons, List.map_nil, List.mem_singleton] at hb
      exact c (by rw [← hb, ← e]; exact ha)
theorem ms_take {l met : List VS} {j : Nat} {x : VS} (h : l[j]? = some x) : meetSteps met (l.take (j + 1)) = if x.node ∈ (meetSteps met (l.take j)).map (fun s => s.node) then meetSteps met (l.take j) else meetSteps met (l.take j) ++ [x] := by
  obtain ⟨hj, e⟩ := List.getElem?_eq_some_iff.mp h
  rw [List.take_succ_eq_append_getElem hj, e, ms_app, ms_cons]
  rfl
theorem residual_nil {es : List VE} {met : List VS} : ∀ n, residualFrom es n [] met = met
  | 0 => rfl
  | _ + 1 => rfl
/-- what is met, in order; a step's node comes from one that was met earlier -/
structure Ways (es : List VE) (N : Nat) (met : List VS) : Prop where
  nd : (met.map fun s => s.node).Nodup
  bd : ∀ s ∈ met, s.node < N
  hd : met[0]? = some ⟨0, 0, 0, 0⟩
  pr : ∀ k st, met[k]? = some st → k ≠ 0 → (∃ e ∈ es, DirE e st) ∧ ∃ p sp, p < k ∧ met[p]? = some sp ∧ sp.node = st.previous
structure AtS (es : List VE) (N : Nat) (F met : List VS) (q : Nat) : Prop where
  eq : residualFrom es (N - q) (met.drop q) met = F
  le : q ≤ met.length
  wy : Ways es N met
theorem Ways.len {es : List VE} {N : Nat} {met : List VS} (a : Ways es N met) : met.length ≤ N := by
  have h := nodup_le (m := List.range N) a.nd fun i hi => by
    obtain ⟨s, hs, rfl⟩ := List.mem_map.mp hi
    exact List.mem_range.mpr (a.bd s hs)
  rwa [List.length_map, List.length_range] at h
theorem AtS.start {es : List VE} {N : Nat} (hN : 0 < N) : AtS es N (residual es N) [⟨0, 0, 0, 0⟩] 0 :=
  ⟨rfl, Nat.zero_le _, by simp, fun s hs => by rw [List.mem_singleton] at hs; subst hs; exact hN, rfl, fun k st h hk => by
    cases k with
    | zero => exact absurd rfl hk
    | succ k => simp at h⟩
theorem AtS.step {es : List VE} {N : Nat} (hE : ∀ e ∈ es, e.source < N ∧ e.target < N) {F met : List VS} {q : Nat} {x : VS} (a : AtS es N F met q) (h : met[q]? = some x) : AtS es N F (meetSteps met (stepsFrom es x.node)) (q + 1) := by
  have hq : q < met.length := (List.getElem?_eq_some_iff.mp h).1
  have hL := a.wy.len
  obtain ⟨more, em, hm⟩ := ms_more (stepsFrom es x.node) met
  have hdir : ∀ s ∈ more, s.previous = x.node ∧ ∃ e ∈ es, DirE e s := fun s hs => by
    have := hm s hs
    rw [stepsFrom_eq] at this
    obtain ⟨e, he, hs2⟩ := List.mem_filterMap.mp this
    obtain ⟨z1, z2⟩ := stepOf_dir hs2
    exact ⟨z1, e, he, z2⟩
  refine ⟨?_, ?_, ms_nodup _ _ a.wy.nd, ?_, ?_, ?_⟩
  · have e := a.eq
    have ed : met.drop q = x :: met.drop (q + 1) := by
      rw [List.drop_eq_getElem_cons hq]
      congr 1
      exact Option.some.inj ((List.getElem?_eq_getElem hq).symm.trans h)
    have en : N - q = (N - (q + 1)) + 1 := by omega
    rw [ed, en] at e
    have e2 : residualFrom es (N - (q + 1)) (met.drop (q + 1) ++ (meetSteps met (stepsFrom es x.node)).drop met.length) (meetSteps met (stepsFrom es x.node)) = F := e
    rw [← e2]
    congr 1
    rw [em, List.drop_append_of_le_length hq, List.drop_append_of_le_length (Nat.le_refl _), List.drop_length, List.nil_append]
  · rw [em, List.length_append]
    omega
  · intro s hs
    rw [em] at hs
    rcases List.mem_append.mp hs with hs | hs
    · exact a.wy.bd s hs
    · obtain ⟨_, e, he, _, d⟩ := hdir s hs
      rcases d with ⟨_, _, d⟩ | ⟨_, _, d⟩
      · rw [← d]; exact (hE e he).2
      · rw [← d]; exact (hE e he).1
  · rw [em, List.getElem?_append_left (by omega)]
    exact a.wy.hd
  · intro k st hk k0
    rw [em] at hk
    by_cases c : k < met.length
    · rw [List.getElem?_append_left c] at hk
      obtain ⟨z1, p, sp, z2, z3, z4⟩ := a.wy.pr k st hk k0
      exact ⟨z1, p, sp, z2, by rw [em, List.getElem?_append_left (by omega)]; exact z3, z4⟩
    · rw [List.getElem?_append_right (by omega)] at hk
      obtain ⟨z1, e, he, z2⟩ := hdir st (List.mem_of_getElem? hk)
      exact ⟨⟨e, he, z2⟩, q, x, by omega, by rw [em, List.getElem?_append_left hq]; exact h, z1.symm⟩
theorem AtS.done {es : List VE} {N : Nat} {F met : List VS} {q : Nat} (a : AtS es N F met q) (h : met.length ≤ q) : met = F := by
  have e := a.eq
  rw [List.drop_eq_nil_of_le h, residual_nil] at e
  exact e
/-! ### traces -/
theorem find_node {F : List VS} {k : Nat} {st : VS} (nd : (F.map fun s => s.node).Nodup) (h : F[k]? = some st) : F.find? (fun x => x.node == st.node) = some st := by
  rw [List.find?_eq_some_iff_getElem]
  obtain ⟨hk, e⟩ := List.getElem?_eq_some_iff.mp h
  refine ⟨by simp, k, hk, e, fun j hj => ?_⟩
  have hj2 : j < F.length := by omega
  simp only [Bool.not_eq_true', beq_eq_false_iff_ne]
  intro z
  have g1 : (F.map fun s => s.node)[j]? = some st.node := by
    rw [List.getElem?_map, List.getElem?_eq_getElem hj2]
    exact congrArg some z
  have g2 : (F.map fun s => s.node)[k]? = some st.node := by rw [List.getElem?_map, h]; rfl
  have := nodup_ix' nd g1 g2
  omega
theorem trace_zero (F : List VS) (f : Nat) : trace F f 0 = [] := by cases f <;> rfl
theorem Ways.pos {es : List VE} {N : Nat} {F : List VS} (a : Ways es N F) {k : Nat} {st : VS} (h : F[k]? = some st) : st.node = 0 ↔ k = 0 := by
  have h0 : (F.map fun s => s.node)[0]? = some 0 := by rw [List.getElem?_map, a.hd]; rfl
  have hk : (F.map fun s => s.node)[k]? = some st.node := by rw [List.getElem?_map, h]; rfl
  constructor
  · intro z
    rw [z] at hk
    exact nodup_ix' a.nd hk h0
  · intro z
    subst z
    rw [h0] at hk
    exact (Option.some.inj hk).symm
theorem trace_step {es : List VE} {N : Nat} {F : List VS} (a : Ways es N F) {f k : Nat} {st : VS} (h : F[k]? = some st) (hk : k ≠ 0) : trace F (f + 1) st.node = skey st :: trace F f st.previous := by
  have hn : st.node ≠ 0 := fun z => hk ((a.pos h).mp z)
  show (if st.node = 0 then [] else match F.find? (fun x => x.node == st.node) with | some x => (x.source, x.index) :: trace F f x.previous | none => []) = _
  rw [if_neg hn, find_node a.nd h]
  rfl
theorem trace_keys {es : List VE} {N : Nat} {F : List VS} (a : Ways es N F) : ∀ (f k : Nat) (st : VS), F[k]? = some st → ∀ key ∈ trace F f st.node, ∃ j sj, j ≤ k ∧ j ≠ 0 ∧ F[j]? = some sj ∧ key = skey sj
  | 0, _, _, _, key, h => by cases h
  | f + 1, k, st, hk, key, h => by
    by_cases c : k = 0
    · rw [(a.pos hk).mpr c, trace_zero] at h
      cases h
    · rw [trace_step a hk c] at h
      rcases List.mem_cons.mp h with rfl | h
      · exact ⟨k, st, Nat.le_refl _, c, hk, rfl⟩
      · obtain ⟨_, p, sp, hp, hsp, e⟩ := a.pr k st hk c
        rw [← e] at h
        obtain ⟨j, sj, z1, z2, z3, z4⟩ := trace_keys a f p sp hsp key h
        exact ⟨j, sj, by omega, z2, z3, z4⟩
/-! ### toggling -/
def flip (c : Bool) (e : VE) : VE := if c = true then { e with used := !e.used } else e
theorem toggle_map (es : List VE) (l : List (Nat × Nat)) : toggle es l = es.map fun e => flip (l.contains (ekey e)) e := rfl
theorem flip_key (c : Bool) (e : VE) : ekey (flip c e) = ekey e := by cases c <;> rfl
theorem flip_src (c : Bool) (e : VE) : (flip c e).source = e.source ∧ (flip c e).target = e.target ∧ (flip c e).index = e.index := by cases c <;> exact ⟨rfl, rfl, rfl⟩
theorem toggle_cons (es : List VE) {key : Nat × Nat} {rest : List (Nat × Nat)} (h : key ∉ rest) : toggle es (key :: rest) = toggle (toggle es [key]) rest := by
  rw [toggle_map, toggle_map, toggle_map, List.map_map]
  refine List.map_congr_left fun e _ => ?_
  show flip ((key :: rest).contains (ekey e)) e = flip (rest.contains (ekey (flip ([key].contains (ekey e)) e))) (flip ([key].contains (ekey e)) e)
  rw [flip_key]
  by_cases c : ekey e = key
  · have c1 : rest.contains (ekey e) = false := by rw [c]; simpa using h
    rw [c1, c, List.contains_cons]
    simp [flip]
  · have c1 : [key].contains (ekey e) = false := by simpa using c
    rw [c1, List.contains_cons, show (ekey e == key) = false from beq_eq_false_iff_ne.mpr c, Bool.false_or]
    rfl
theorem toggle_nil (es : List VE) : toggle es [] = es := by
  rw [toggle_map]
  exact (List.map_congr_left fun e _ => rfl).trans (List.map_id es)
theorem toggle_keys (es : List VE) (l : List (Nat × Nat)) : (toggle es l).map ekey = es.map ekey := by
  rw [toggle_map, List.map_map]
  exact List.map_congr_left fun e _ => flip_key _ e
/-- one flip: at the edge's place -/
theorem toggle_one {es : List VE} (nd : (es.map ekey).Nodup) {i : Nat} {e : VE} (h : es[i]? = some e) : toggle es [ekey e] = es.set i { e with used := !e.used } := by
  refine List.ext_getElem? fun j => ?_
  rw [toggle_map, List.getElem?_map]
  by_cases c : j = i
  · subst c
    rw [h, List.getElem?_set_self (List.getElem?_eq_some_iff.mp h).1]
    show some (flip ([ekey e].contains (ekey e)) e) = _
    simp [flip]
  · rw [List.getElem?_set_ne (Ne.symm c)]
    cases hj : es[j]? with
    | none => rfl
    | some d =>
      show some (flip ([ekey e].contains (ekey d)) d) = some d
      have : ekey d ≠ ekey e := fun z => c (nodup_ix' (l := []) (by simp) (i := j) (j := i) (x := 0) (by
        exfalso
        have g1 : (es.map ekey)[j]? = some (ekey e) := by rw [List.getElem?_map, hj]; exact congrArg some z
        have g2 : (es.map ekey)[i]? = some (ekey e) := by rw [List.getElem?_map, h]; rfl
        obtain ⟨h1, _⟩ := List.getElem?_eq_some_iff.mp g1
        exact c ((List.getElem?_inj h1 nd).mp (g1.trans g2.symm))) (by
        exfalso
        have g1 : (es.map ekey)[j]? = some (ekey e) := by rw [List.getElem?_map, hj]; exact congrArg some z
        have g2 : (es.map ekey)[i]? = some (ekey e) := by rw [List.getElem?_map, h]; rfl
        obtain ⟨h1, _⟩ := List.getElem?_eq_some_iff.mp g1
        exact c ((List.getElem?_inj h1 nd).mp (g1.trans g2.symm))))
      rw [show [ekey e].contains (ekey d) = false by simpa using this]
      rfl
end Sh

/-! M7: cuts of the specification, continued. -/
namespace Sh
open Vbxlaa (fieldsOf stepsFrom meetSteps residualFrom residual trace toggle sourceSide edgesFrom edgesOf numberIn rootsOf)
def cnt (es : List VE) : Nat := es.countP fun e => e.source == 0 && e.used
def tot (es : List VE) : Nat := (es.filter fun e => e.source == 0).length
theorem cnt_le (es : List VE) : cnt es ≤ tot es := by
  unfold cnt tot
  rw [← List.countP_eq_length_filter]
  exact List.countP_mono_left fun e _ h => by simp at h ⊢; exact h.1
theorem tot_toggle (es : List VE) (l : List (Nat × Nat)) : tot (toggle es l) = tot es := by
  unfold tot
  rw [toggle_map, List.filter_map, List.length_map]
  congr 1
  refine List.filter_congr fun e _ => ?_
  show ((flip _ e).source == 0) = _
  rw [(flip_src _ e).1]
theorem dir_node {e : VE} {s s' : VS} (h : DirE e s) (h' : DirE e s') : s.node = s'.node := by
  rcases h.2 with ⟨a, _, b⟩ | ⟨a, _, b⟩ <;> rcases h'.2 with ⟨a', _, b'⟩ | ⟨a', _, b'⟩
  · exact b.symm.trans b'
  · rw [a] at a'; cases a'
  · rw [a] at a'; cases a'
  · exact b.symm.trans b'
theorem key_edge {es : List VE} (nd : (es.map ekey).Nodup) {e d : VE} (he : e ∈ es) (hd : d ∈ es) (h : ekey e = ekey d) : e = d := by
  obtain ⟨i, hi, ei⟩ := List.getElem_of_mem he
  obtain ⟨j, hj, ej⟩ := List.getElem_of_mem hd
  have g1 : (es.map ekey)[i]? = some (ekey e) := by rw [List.getElem?_map, List.getElem?_eq_getElem hi, ei]; rfl
  have g2 : (es.map ekey)[j]? = some (ekey e) := by rw [List.getElem?_map, List.getElem?_eq_getElem hj, ej, h]; rfl
  have : i = j := (List.getElem?_inj (by rw [List.length_map]; exact hi) nd).mp (g1.trans g2.symm)
  subst this
  exact ei.symm.trans ej
theorem key_fresh {es es0 : List VE} {N : Nat} {F : List VS} (a : Ways es0 N F) (nd : (es.map ekey).Nodup) {f k p : Nat} {st sp : VS} (hk : F[k]? = some st) (hk0 : k ≠ 0) (hp : p < k) (hsp : F[p]? = some sp) (hd : ∀ j sj, j ≤ k → j ≠ 0 → F[j]? = some sj → ∃ e ∈ es, DirE e sj) : skey st ∉ trace F f sp.node := by
  intro z
  obtain ⟨j, sj, z1, z2, z3, z4⟩ := trace_keys a f p sp hsp _ z
  obtain ⟨e, he, de⟩ := hd k st (Nat.le_refl _) hk0 hk
  obtain ⟨d, hd2, dd⟩ := hd j sj (by omega) z2 z3
  have : e = d := key_edge nd he hd2 (by rw [de.1, dd.1, z4])
  subst this
  have en := dir_node de dd
  have g1 : (F.map fun s => s.node)[k]? = some st.node := by rw [List.getElem?_map, hk]; rfl
  have g2 : (F.map fun s => s.node)[j]? = some st.node := by rw [List.getElem?_map, z3, en]; rfl
  have := nodup_ix' a.nd g1 g2
  omega
/-- the edges after a flip: the way's earlier part still stands -/
theorem dir_after {es : List VE} (nd : (es.map ekey).Nodup) {F : List VS} {N : Nat} {es0 : List VE} (a : Ways es0 N F) {k p : Nat} {st : VS} (hk : F[k]? = some st) (hk0 : k ≠ 0) (hp : p < k) (hd : ∀ j sj, j ≤ k → j ≠ 0 → F[j]? = some sj → ∃ e ∈ es, DirE e sj) :
    ∀ j sj, j ≤ p → j ≠ 0 → F[j]? = some sj → ∃ e ∈ toggle es [skey st], DirE e sj := by
  intro j sj hj hj0 hsj
  obtain ⟨d, hd2, dd⟩ := hd j sj (by omega) hj0 hsj
  obtain ⟨e, he, de⟩ := hd k st (Nat.le_refl _) hk0 hk
  refine ⟨d, ?_, dd⟩
  have ne : ekey d ≠ skey st := fun z => by
    have : e = d := key_edge nd he hd2 (by rw [de.1, z])
    subst this
    have en := dir_node de dd
    have g1 : (F.map fun s => s.node)[k]? = some st.node := by rw [List.getElem?_map, hk]; rfl
    have g2 : (F.map fun s => s.node)[j]? = some st.node := by rw [List.getElem?_map, hsj, en]; rfl
    have := nodup_ix' a.nd g1 g2
    omega
  rw [toggle_map]
  refine List.mem_map.mpr ⟨d, hd2, ?_⟩
  rw [show [skey st].contains (ekey d) = false by simpa using ne]
  rfl
theorem cnt_one {es : List VE} (nd : (es.map ekey).Nodup) {e : VE} (he : e ∈ es) : cnt (toggle es [ekey e]) + (if (e.source == 0 && e.used) = true then 1 else 0) = cnt es + (if (e.source == 0 && !e.used) = true then 1 else 0) := by
  obtain ⟨i, hi, ei⟩ := List.getElem_of_mem he
  rw [toggle_one nd ((List.getElem?_eq_getElem hi).trans (congrArg some ei))]
  unfold cnt
  rw [List.countP_set hi, ei]
  have hpos : (e.source == 0 && e.used) = true → 0 < es.countP fun e => e.source == 0 && e.used := fun z => List.countP_pos_iff.mpr ⟨e, he, z⟩
  cases h1 : (e.source == 0) <;> cases h2 : e.used
  · simp
  · simp
  · simp
  · have := hpos (by rw [h1, h2]; rfl)
    simp
    omega
theorem cnt_trace {es0 : List VE} {N : Nat} {F : List VS} (a : Ways es0 N F) : ∀ (f k : Nat) (st : VS) (es : List VE), (es.map ekey).Nodup → F[k]? = some st → k ≠ 0 → k ≤ f → (∀ j sj, j ≤ k → j ≠ 0 → F[j]? = some sj → ∃ e ∈ es, DirE e sj) → (∀ e ∈ es, e.target ≠ 0) →
    cnt (toggle es (trace F f st.node)) = cnt es + 1
  | 0, k, _, _, _, _, h0, hf, _, _ => absurd (Nat.le_zero.mp hf) h0
  | f + 1, k, st, es, nd, hk, hk0, hf, hd, ht => by
    obtain ⟨_, p, sp, hp, hsp, esp⟩ := a.pr k st hk hk0
    obtain ⟨e, he, de⟩ := hd k st (Nat.le_refl _) hk0 hk
    have fr := key_fresh (f := f) a nd hk hk0 hp hsp hd
    rw [trace_step a hk hk0, ← esp, toggle_cons _ fr]
    have ek : skey st = ekey e := de.1.symm
    have c1 := cnt_one nd he
    have hsn : st.node ≠ 0 := fun z => hk0 ((a.pos hk).mp z)
    by_cases c : p = 0
    · rw [(a.pos hsp).mpr c, trace_zero, toggle_nil, ek]
      have h0 : st.previous = 0 := by rw [← esp, (a.pos hsp).mpr c]
      rcases de.2 with ⟨z1, z2, z3⟩ | ⟨z1, z2, z3⟩
      · rw [z1, z2, h0] at c1
        simpa using c1
      · exact absurd (z2.trans h0) (ht e he)
    · have hpn : sp.node ≠ 0 := fun z => c ((a.pos hsp).mp z)
      have ih := cnt_trace a f p sp (toggle es [skey st]) (by rw [toggle_keys]; exact nd) hsp c (by omega) (dir_after nd a hk hk0 hp hd) (fun d hd => by
        rw [toggle_map] at hd
        obtain ⟨d0, hd0, rfl⟩ := List.mem_map.mp hd
        rw [(flip_src _ d0).2.1]
        exact ht d0 hd0)
      rw [ih, ek]
      have hs0 : e.source ≠ 0 := by
        rcases de.2 with ⟨_, z2, _⟩ | ⟨_, _, z3⟩
        · rw [z2, ← esp]; exact hpn
        · rw [z3]; exact hsn
      rw [show (e.source == 0) = false from beq_eq_false_iff_ne.mpr hs0] at c1
      simp at c1
      omega
/-! ### the side -/
theorem side_stop {es : List VE} {N tg : Nat} (h : tg ∉ (residual es N).map fun s => s.node) : ∀ f, sourceSide N tg f es = (residual es N).map fun s => s.node
  | 0 => rfl
  | f + 1 => by
    show (if ((residual es N).any fun x => x.node == tg) = true then _ else _) = _
    rw [if_neg]
    intro z
    rw [List.any_eq_true] at z
    obtain ⟨s, hs, e⟩ := z
    exact h (List.mem_map.mpr ⟨s, hs, by simpa using e⟩)
theorem side_go {es : List VE} {N tg f : Nat} (h : tg ∈ (residual es N).map fun s => s.node) : sourceSide N tg (f + 1) es = sourceSide N tg f (toggle es (trace (residual es N) (residual es N).length tg)) := by
  show (if ((residual es N).any fun x => x.node == tg) = true then _ else _) = _
  rw [if_pos]
  rw [List.any_eq_true]
  obtain ⟨s, hs, e⟩ := List.mem_map.mp h
  exact ⟨s, hs, by simpa using e⟩
/-! ### the references -/
theorem pw_zipIdx {α : Type} : ∀ (l : List α) (n : Nat), (l.zipIdx n).Pairwise fun a b => a.2 < b.2
  | [], _ => .nil
  | x :: l, n => by
    rw [List.zipIdx_cons]
    refine .cons (fun b hb => ?_) (pw_zipIdx l (n + 1))
    obtain ⟨b1, b2⟩ := b
    have := List.le_snd_of_mem_zipIdx hb
    show n < b2
    simp at this
    omega
theorem pw_slots (l : List VV) : (slotPairs l).Pairwise fun a b => a.1 < b.1 := by
  unfold slotPairs
  exact List.pairwise_map.mpr (pw_zipIdx l 0)
theorem slots_lt {l : List VV} {p : Nat × VV} (h : p ∈ slotPairs l) : p.1 < l.length := by
  obtain ⟨⟨v, j⟩, hv, rfl⟩ := List.mem_map.mp h
  exact (List.getElem?_eq_some_iff.mp (List.mem_zipIdx_iff_getElem?.mp hv)).1
theorem pw_inbox : ∀ (l : List (List VV)) (n : Nat), (∀ m ∈ l, m.length ≤ 3) → ((l.zipIdx n).flatMap fun m => msgPairs m.2 m.1).Pairwise fun a b => a.1 < b.1
  | [], _, _ => .nil
  | m :: l, n, h => by
    rw [List.zipIdx_cons, List.flatMap_cons, List.pairwise_append]
    have hm := h m List.mem_cons_self
    refine ⟨?_, pw_inbox l (n + 1) fun x hx => h x (List.mem_cons_of_mem _ hx), fun a ha b hb => ?_⟩
    · unfold msgPairs
      refine List.pairwise_map.mpr ((pw_zipIdx m 0).imp fun {x y} z => ?_)
      show 6 + 3 * n + x.2 < 6 + 3 * n + y.2
      omega
    · obtain ⟨⟨v, j⟩, hv, rfl⟩ := List.mem_map.mp ha
      obtain ⟨⟨m2, q⟩, hm2, hb⟩ := List.mem_flatMap.mp hb
      obtain ⟨⟨v2, j2⟩, hv2, rfl⟩ := List.mem_map.mp hb
      have hj := (List.getElem?_eq_some_iff.mp (List.mem_zipIdx_iff_getElem?.mp hv)).1
      have hq := List.le_snd_of_mem_zipIdx hm2
      have hj3 : j < m.length := hj
      have hq3 : n + 1 ≤ q := hq
      show 6 + 3 * n + j < 6 + 3 * q + j2
      omega
theorem pw_roots {c : VC} (h : COk c) : (rootsOf c).Pairwise fun a b => a.1 < b.1 := by
  rw [rootsOf_eq, List.pairwise_append]
  refine ⟨pw_slots _, pw_inbox c.inbox 0 h.ms, fun a ha b hb => ?_⟩
  have := slots_lt ha
  rw [h.sl] at this
  obtain ⟨⟨m2, q⟩, hm2, hb⟩ := List.mem_flatMap.mp hb
  obtain ⟨⟨v2, j2⟩, hv2, rfl⟩ := List.mem_map.mp hb
  show a.1 < 6 + 3 * q + j2
  omega
def lexLt (a b : Nat × Nat) : Prop := a.1 < b.1 ∨ (a.1 = b.1 ∧ a.2 < b.2)
def edgeOf (met : List Nat) (source : Nat) (x : Nat × VV) : Option VE := match x.2 with
  | .object id => some ⟨source, x.1, numberIn met id, false⟩
  | _ => none
theorem edgesFrom_eq (met : List Nat) (source : Nat) (l : List (Nat × VV)) : edgesFrom met source l = l.filterMap (edgeOf met source) := rfl
theorem edgeOf_some {met : List Nat} {source : Nat} {x : Nat × VV} {e : VE} (h : edgeOf met source x = some e) : ∃ id, x.2 = .object id ∧ e = ⟨source, x.1, numberIn met id, false⟩ := by
  obtain ⟨i, v⟩ := x
  cases v with
  | nothing => cases h
  | number _ => cases h
  | object id => exact ⟨id, rfl, (Option.some.inj h).symm⟩
theorem pw_edges {met : List Nat} {source : Nat} {l : List (Nat × VV)} (h : l.Pairwise fun a b => a.1 < b.1) : (edgesFrom met source l).Pairwise fun a b => lexLt (ekey a) (ekey b) := by
  rw [edgesFrom_eq, List.pairwise_filterMap]
  refine h.imp fun {x y} z e he d hd => ?_
  obtain ⟨_, _, rfl⟩ := edgeOf_some he
  obtain ⟨_, _, rfl⟩ := edgeOf_some hd
  exact .inr ⟨rfl, z⟩
def fieldPairs (S : VSt) (i : Nat) : List (Nat × VV) := slotPairs (fieldsOf S i)
def behindEdges (S : VSt) (met : List Nat) (l : List (Nat × Nat)) : List VE := l.flatMap fun x => edgesFrom met (x.2 + 1) (fieldPairs S x.1)
theorem edgesOf_eq (S : VSt) (c : VC) : edgesOf S c = edgesFrom (Vbxlaa.walk S (Vbxlaa.rootValues c)) 0 (rootsOf c) ++ behindEdges S (Vbxlaa.walk S (Vbxlaa.rootValues c)) (Vbxlaa.walk S (Vbxlaa.rootValues c)).zipIdx := rfl
theorem pw_behind {S : VSt} {met : List Nat} : ∀ {l : List (Nat × Nat)}, l.Pairwise (fun a b => a.2 < b.2) → (behindEdges S met l).Pairwise fun a b => lexLt (ekey a) (ekey b)
  | [], _ => .nil
  | x :: l, h => by
    rw [List.pairwise_cons] at h
    unfold behindEdges
    rw [List.flatMap_cons, List.pairwise_append]
    refine ⟨pw_edges (pw_slots _), pw_behind h.2, fun e he d hd => ?_⟩
    rw [edgesFrom_eq] at he
    obtain ⟨y, _, he⟩ := List.mem_filterMap.mp he
    obtain ⟨_, _, rfl⟩ := edgeOf_some he
    obtain ⟨z, hz, hd⟩ := List.mem_flatMap.mp hd
    rw [edgesFrom_eq] at hd
    obtain ⟨y2, _, hd⟩ := List.mem_filterMap.mp hd
    obtain ⟨_, _, rfl⟩ := edgeOf_some hd
    have := h.1 z hz
    exact .inl (show x.2 + 1 < z.2 + 1 by omega)
theorem edges_sorted {S : VSt} {c : VC} (h : COk c) : (edgesOf S c).Pairwise fun a b => lexLt (ekey a) (ekey b) := by
  rw [edgesOf_eq, List.pairwise_append]
  refine ⟨pw_edges (pw_roots h), pw_behind (pw_zipIdx _ 0), fun e he d hd => ?_⟩
  rw [edgesFrom_eq] at he
  obtain ⟨y, _, he⟩ := List.mem_filterMap.mp he
  obtain ⟨_, _, rfl⟩ := edgeOf_some he
  unfold behindEdges at hd
  obtain ⟨z, hz, hd⟩ := List.mem_flatMap.mp hd
  rw [edgesFrom_eq] at hd
  obtain ⟨y2, _, hd⟩ := List.mem_filterMap.mp hd
  obtain ⟨_, _, rfl⟩ := edgeOf_some hd
  exact .inl (Nat.succ_pos _)
theorem edges_nodup {S : VSt} {c : VC} (h : COk c) : ((edgesOf S c).map ekey).Nodup := by
  refine List.pairwise_map.mpr ((edges_sorted h).imp fun {a b} z e => ?_)
  rcases z with z | ⟨_, z⟩
  · rw [e] at z; exact Nat.lt_irrefl _ z
  · rw [e] at z; exact Nat.lt_irrefl _ z
theorem edges_used {S : VSt} {c : VC} : ∀ e ∈ edgesOf S c, e.used = false := by
  intro e he
  rw [edgesOf_eq] at he
  rcases List.mem_append.mp he with he | he
  · rw [edgesFrom_eq] at he
    obtain ⟨y, _, he⟩ := List.mem_filterMap.mp he
    obtain ⟨_, _, rfl⟩ := edgeOf_some he
    rfl
  · obtain ⟨z, hz, hd⟩ := List.mem_flatMap.mp he
    rw [edgesFrom_eq] at hd
    obtain ⟨y2, _, hd⟩ := List.mem_filterMap.mp hd
    obtain ⟨_, _, rfl⟩ := edgeOf_some hd
    rfl
theorem numberIn_le {met : List Nat} (nd : met.Nodup) {i : Nat} (h : i ∈ met) : numberIn met i ≠ 0 ∧ numberIn met i ≤ met.length := by
  obtain ⟨k, hk, e⟩ := List.getElem_of_mem h
  rw [numberIn_get nd ((List.getElem?_eq_getElem hk).trans (congrArg some e))]
  omega
theorem edges_bound {S : VSt} {R : Nat → Prop} (w : Wf S R) {c : VC} (h : c ∈ S.clients) : ∀ e ∈ edgesOf S c, e.source < (Vbxlaa.walk S (Vbxlaa.rootValues c)).length + 1 ∧ e.target < (Vbxlaa.walk S (Vbxlaa.rootValues c)).length + 1 ∧ e.target ≠ 0 := by
  obtain ⟨fu, fu2⟩ := walk_full w (roots_live w h)
  intro e he
  rw [edgesOf_eq] at he
  rcases List.mem_append.mp he with he | he
  · rw [edgesFrom_eq] at he
    obtain ⟨y, hy, he⟩ := List.mem_filterMap.mp he
    obtain ⟨id, hid, rfl⟩ := edgeOf_some he
    have := numberIn_le fu.nd (fu2 id (List.mem_map.mpr ⟨y, hy, hid⟩))
    exact ⟨Nat.succ_pos _, by show numberIn _ _ < _; omega, this.1⟩
  · obtain ⟨⟨i, q⟩, hz, hd⟩ := List.mem_flatMap.mp he
    rw [edgesFrom_eq] at hd
    obtain ⟨y2, hy2, hd⟩ := List.mem_filterMap.mp hd
    obtain ⟨id, hid, rfl⟩ := edgeOf_some hd
    have hq := List.mem_zipIdx_iff_getElem?.mp hz
    have hq2 : q < (Vbxlaa.walk S (Vbxlaa.rootValues c)).length := (List.getElem?_eq_some_iff.mp hq).1
    obtain ⟨⟨v, j⟩, hv, e2⟩ := List.mem_map.mp hy2
    have hv2 : v ∈ fieldsOf S i := List.mem_of_getElem? (List.mem_zipIdx_iff_getElem?.mp hv)
    have ev : v = .object id := by rw [← hid, ← e2]
    have := numberIn_le fu.nd (fu.cl i (List.mem_of_getElem? hq) id (ev ▸ hv2))
    exact ⟨by show q + 1 < _; omega, by show numberIn _ _ < _; omega, this.1⟩
theorem edgesFrom_le (met : List Nat) (s : Nat) (l : List (Nat × VV)) : (edgesFrom met s l).length ≤ l.length := by
  rw [edgesFrom_eq]
  exact List.length_filterMap_le _ _
theorem behind_le {S : VSt} {R : Nat → Prop} (w : Wf S R) {met : List Nat} : ∀ {l : List (Nat × Nat)}, (∀ x ∈ l, R x.1) → (behindEdges S met l).length ≤ 4 * l.length
  | [], _ => Nat.zero_le _
  | x :: l, h => by
    have h1 := (w.fields (h x List.mem_cons_self)).1
    have h2 := behind_le w (met := met) (l := l) fun y hy => h y (List.mem_cons_of_mem _ hy)
    have h3 := edgesFrom_le met (x.2 + 1) (fieldPairs S x.1)
    have e : (behindEdges S met (x :: l)).length = (edgesFrom met (x.2 + 1) (fieldPairs S x.1)).length + (behindEdges S met l).length := List.length_append
    have e2 : (fieldPairs S x.1).length = (fieldsOf S x.1).length := slotPairs_length _
    rw [e, List.length_cons]
    omega
end Sh

set_option maxHeartbeats 2000000
namespace Sh
open PySem PySem.Spec PyProof.Rows L2
open Vbxlaa (fieldsOf rootsOf rootValues clientAt edgesFrom edgesOf numberIn)
/-- v is the tuple of a reference -/
def RefAt (H : Hp) (v : V) (e : VE) : Prop := ∃ t lt, v = .ref t ∧ H t = some (.tup [.int (e.source : Nat), .int (e.target : Nat), .ref lt]) ∧ H lt = some (.tup [.int (e.source : Nat), .int (e.index : Nat)])
theorem RefAt.keep {H H' : Hp} {v : V} {e : VE} (h : RefAt H v e) (t : Tups H H') : RefAt H' v e := by
  obtain ⟨a, l, e, h1, h2⟩ := h
  exact ⟨a, l, e, t _ _ h1, t _ _ h2⟩
theorem edges_more {met : List Nat} {s : Nat} {l : List (Nat × VV)} {j : Nat} {x : Nat × VV} (h : l[j]? = some x) : edgesFrom met s (l.take (j + 1)) = edgesFrom met s (l.take j) ++ (edgeOf met s x).toList := by
  obtain ⟨hj, e⟩ := List.getElem?_eq_some_iff.mp h
  rw [edgesFrom_eq, edgesFrom_eq, List.take_succ_eq_append_getElem hj, e, List.filterMap_append, List.filterMap_cons]
  cases edgeOf met s x <;> rfl
theorem behind_more {S : VSt} {met : List Nat} {l : List (Nat × Nat)} {j : Nat} {x : Nat × Nat} (h : l[j]? = some x) : behindEdges S met (l.take (j + 1)) = behindEdges S met (l.take j) ++ edgesFrom met (x.2 + 1) (fieldPairs S x.1) := by
  obtain ⟨hj, e⟩ := List.getElem?_eq_some_iff.mp h
  unfold behindEdges
  rw [List.take_succ_eq_append_getElem hj, e, List.flatMap_append, List.flatMap_cons, List.flatMap_nil, List.append_nil]
theorem SL.tupsD {L : Addr} {H H1 : Hp} {l : List (Key × V)} (x : SL L H H1) (e : H L = some (.dK l)) : Tups H H1 := fun a xs h => x a _ (ne_of h e (by intro z; cases z)) h
section
variable {P : Program} {w : World} {K : PySem.W.Frag} {mg : Str → Option Value} {base : Heap} {ad : Ad}
def spReferencesOf (K : PySem.W.Frag) (ad : Ad) : Sp := fun vs H Q _ => ∃ (sa : Addr) (nm : Nat → Int) (ro : Rm) (b : Bool) (S : VSt) (R : Nat → Prop) (n : Nat) (c : VC), vs = [.ref sa, .int (n : Nat)] ∧ StoreAt K ad nm ro H b sa S ∧ Wf S R ∧ 1 ≤ n ∧ S.clients[n - 1]? = some c ∧
  ∀ H' p rvs, Same H H' → H p = none → H' p = some (.lst rvs) → Paired (RefAt H') rvs (edgesOf S c) → Q (.ref p) H'
theorem ok_references_of (T : Tx K mg ad) (D : Df K mg "references_of" s_references_of ["store", "number"]) (G_client_walk : Ok P w K mg base 3 "client_walk" ["store", "number"] (spClientWalk K ad)) (G_root_rows : Ok P w K mg base 1 "root_rows" ["client"] (spRootRows K ad)) :
    Ok P w K mg base 4 "references_of" ["store", "number"] (spReferencesOf K ad) := by
  refine D.ok c_references_of (fun vs H Q E h => ?_) (fun f cdv A outer s H vs Q E hr h => ?_)
  · obtain ⟨sa, nm, ro, b, S, R, n, c, rfl, _⟩ := h
    rfl
  · refine ⟨_,
      (pss_cons (ps_par3 (i := 2) (j := 3) (l := 4) rfl c_references_of.nd rfl rfl rfl (by decide) (by decide) (by decide) rfl rfl rfl (pa_cons (pe_c G_client_walk hr (L2N.takes_of rfl rfl rfl rfl) (pa_cons (pv 0) (pa_cons (pv 1) pa_nil))) (pa_cons pe_dnewK (pa_cons (pe_lst pa_nil) pa_nil))) (by rfl))
        (pss_cons (ps_for (passes_of rfl) rfl (pi_enum (by rfl) T.b_enumerate (pa_cons (pv 2) pa_nil)) (pg_tup rfl (pgs_cons (pg_name (i := 5) c_references_of.nd rfl (Or.inl rfl)) (pgs_cons (pg_name (i := 6) c_references_of.nd rfl (Or.inl rfl)) pgs_nil)))
          (pss_one (ps_asg (pe_op op_add (pv 5) pe_int) (pg_sub (pv 3) (pv 6) (set_dict (hu_of hr))))))
        (pss_cons (ps_for (passes_of rfl) rfl (pi_list (pe_c G_root_rows hr (L2N.takes_of rfl rfl rfl rfl) (pa_cons (pe_ix ix_list (pe_fld (pv 0) rfl) (pe_op op_sub (pv 1) pe_int) (fun _ _ => rfl)) pa_nil))) (pg_tup rfl (pgs_cons (pg_name (i := 7) c_references_of.nd rfl (Or.inl rfl)) (pgs_cons (pg_name (i := 8) c_references_of.nd rfl (Or.inl rfl)) pgs_nil)))
          (pss_one (ps_if (pt_cmpR op_eq (pe_ix ix_tup (pv 8) pe_int (fun _ _ => rfl)) (pe_ci T.c_REFERENCE) (nomark _)) (pss_one (ps_expr (pe_bm PySem.F.plainAttrs_list PySem.F.slot_list_append PySem.F.type_list_append mt_append (pv 4) (pa_cons (pe_tup (pa_cons (pe_ci T.c_SOURCE) (pa_cons (pe_dget (hu_of hr) (pv 3) (pe_ix ix_tup (pv 8) pe_int (fun _ _ => rfl)) (fun _ _ => rfl)) (pa_cons (pe_tup (pa_cons (pe_ci T.c_SOURCE) (pa_cons (pv 7) pa_nil))) pa_nil)))) pa_nil)))) pss_nil)))
        (pss_cons (ps_for (passes_of rfl) rfl (pi_enum (by rfl) T.b_enumerate (pa_cons (pv 2) pa_nil)) (pg_tup rfl (pgs_cons (pg_name (i := 5) c_references_of.nd rfl (Or.inl rfl)) (pgs_cons (pg_name (i := 6) c_references_of.nd rfl (Or.inl rfl)) pgs_nil)))
          (pss_one (ps_for (passes_of rfl) rfl (pi_enum (by rfl) T.b_enumerate (pa_cons (pe_dget (hu_of hr) (pe_fld (pv 0) rfl) (pv 6) (fun _ _ => rfl)) pa_nil)) (pg_tup rfl (pgs_cons (pg_name (i := 9) c_references_of.nd rfl (Or.inl rfl)) (pgs_cons (pg_name (i := 8) c_references_of.nd rfl (Or.inl rfl)) pgs_nil)))
            (pss_one (ps_if (pt_cmpR op_eq (pe_ix ix_tup (pv 8) pe_int (fun _ _ => rfl)) (pe_ci T.c_REFERENCE) (nomark _)) (pss_one (ps_expr (pe_bm PySem.F.plainAttrs_list PySem.F.slot_list_append PySem.F.type_list_append mt_append (pv 4) (pa_cons (pe_tup (pa_cons (pe_op op_add (pv 5) pe_int) (pa_cons (pe_dget (hu_of hr) (pv 3) (pe_ix ix_tup (pv 8) pe_int (fun _ _ => rfl)) (fun _ _ => rfl)) (pa_cons (pe_tup (pa_cons (pe_op op_add (pv 5) pe_int) (pa_cons (pv 9) pa_nil))) pa_nil)))) pa_nil)))) pss_nil)))))
        (pss_one (ps_ret (pv 4)))))))
      , ?_⟩
    obtain ⟨sa, nm, ro, b, S, R, n, c, rfl, hS, wf, hn, hcl, k⟩ := h
    obtain ⟨dx, cl, td, cvs, kvs0, last, r0, nk⟩ := hS.raw
    obtain ⟨ca, e1, e2⟩ := r0.ct _ _ hcl
    have cm := List.mem_of_getElem? hcl
    have inj := nk.inj
    obtain ⟨fu, fu2⟩ := walk_full wf (roots_live wf cm)
    have hml := live_len wf fu.nd fu.lv
    have hol := wf.ol
    have hmx := wf.mx
    have hro := roots_le (wf.cok cm)
    refine ⟨_, rfl, _, rfl, sa, nm, ro, b, S, R, n, c, rfl, hS, wf, hn, hcl, fun H1 p1 s1 np1 hp1 => ?_⟩
    generalize hmet : Vbxlaa.walk S (rootValues c) = met at *
    intro kd nkd
    refine ⟨leLine (by decide), fun L nL => ?_⟩
    have nkL : kd ≠ L := ne_of_none upd_same nL
    have sb : Same H1 (upd (upd H1 kd (.dK [])) L (.lst [])) := (Same.new nkd).trans (Same.new nL)
    have skd : (upd (upd H1 kd (.dK [])) L (.lst [])) kd = some (.dK []) := (upd_ne nkL).trans upd_same
    have sLL : (upd (upd H1 kd (.dK [])) L (.lst [])) L = some (.lst []) := upd_same
    have hL0 : H L = none := s1.free ((Same.new nkd).free nL)
    have hk0 : H kd = none := s1.free nkd
    have sHb : Same H (upd (upd H1 kd (.dK [])) L (.lst [])) := s1.trans sb
    have hp1b := sb _ _ hp1
    have n1L : p1 ≠ L := ne_of_none ((Same.new nkd) _ _ hp1) nL
    generalize upd (upd H1 kd (.dK [])) L (.lst []) = Hb at *
    have n1k : p1 ≠ kd := ne_of hp1b skd (by intro z; cases z)
    refine ⟨_, _, _, rfl, ?_⟩
    -- the numbers
    refine ⟨_, rfl, p1, _, rfl, SqL.of hp1b, ?_⟩
    refine for_it (walk_enum (K := K) (a := p1) (xs := met.map fun i => V.int (nm i))) (fun j σ H2 => ∃ (v5 v6 v7 v8 v9 : Option V), σ = [some (.ref sa), some (.int (n : Nat)), some (.ref p1), some (.ref kd), some (.ref L), v5, v6, v7, v8, v9] ∧ SL kd Hb H2 ∧ H2 kd = some (.dK (numKvs nm (met.take j))))
      ⟨none, none, none, none, none, rfl, SL.refl, skd⟩ (fun j σ H2 _ ⟨_, _, _, _, _, _, sm, _⟩ => SqL.of (sm _ _ n1k hp1b)) ?_ ?_
    · rintro j x σ H2 H3 hj ⟨v5, v6, v7, v8, v9, rfl, sm, hL⟩ ⟨t, x0, y0, rfl, nt, rfl, ex, ey⟩
      cases ex
      have ey' : (met.map fun i => V.int (nm i))[j]? = some y0 := ey
      rw [List.getElem?_map] at ey'
      obtain ⟨i, hi, rfl⟩ := Option.map_eq_some_iff.mp ey'
      have s2 := SL.trans sm (SL.same (Same.new (o := .tup [.int (j : Nat), .int (nm i)]) nt))
      have hL2 : (upd H2 t (.tup [.int (j : Nat), .int (nm i)])) kd = some (.dK (numKvs nm (met.take j))) := Same.new nt _ _ hL
      refine ⟨t, _, rfl, SqT.of upd_same, rfl, _, _, rfl, _, _, rfl, rfl, ?_⟩
      refine ⟨_, rfl, _, _, rfl, rfl, _, rfl, _, rfl, kd, _, rfl, DPut.k (k := Sum.inl (nm i)) hL2 (small1000 (by rw [numKvs_length, List.length_take]; omega)), ?_⟩
      refine ⟨_, _, _, _, _, rfl, s2.put, ?_⟩
      rw [upd_same, numKvs_more inj fu.nd hi]
    rintro σ H2 ⟨v5, v6, v7, v8, v9, rfl, sm, hkd⟩
    rw [List.length_map, List.take_length] at hkd
    have hL2 : H2 L = some (.lst []) := sm _ _ (Ne.symm nkL) sLL
    have hp2 : H2 p1 = some (.lst (met.map fun i => V.int (nm i))) := sm _ _ n1k hp1b
    have sH2 : Same H H2 := SL.whole sHb hk0 sm
    have getn : ∀ {i : Nat}, i ∈ met → ∀ {H3 : Hp}, H3 kd = some (.dK (numKvs nm met)) → DGet H3 kd (.int (nm i)) (some (.int (numberIn met i : Nat))) := fun {i} hi {H3} e => valV_number inj fu.nd hi ▸ DGet.k (k := Sum.inl (nm i)) e
    -- the roots
    refine ⟨_, rfl, sa, _, dx, _, _, rfl, sH2 _ _ r0.ha, T.k_store, T.n_clients, rfl, _, rfl, _, _, rfl, rfl, cl, cvs, _, .ref ca, rfl, rfl, SqL.of (sH2 _ _ r0.hc), at_of (j := n - 1) (by omega) e1, ?_⟩
    refine ⟨ca, nm, ro, b, _, c, rfl, e2.same sH2, wf.cok cm, fun H3 p3 rvs s3 np3 hp3 hrow => ?_⟩
    have hL3 : H3 L = some (.lst []) := s3 _ _ hL2
    have hk3 : H3 kd = some (.dK (numKvs nm met)) := s3 _ _ hkd
    have n3L : p3 ≠ L := Ne.symm (ne_of_none hL2 np3)
    have hp13 := s3 _ _ hp2
    have hsl3 : SL L H3 H3 := SL.refl
    have sH3 : Same H H3 := sH2.trans s3
    refine ⟨p3, rfl, ⟨_, SqL.of hp3⟩, ?_⟩
    refine for_list (K := K) (a := p3) (xs := rvs) (fun j σ H4 => ∃ (v5 v6 v7 v8 v9 : Option V) (acc : List V), σ = [some (.ref sa), some (.int (n : Nat)), some (.ref p1), some (.ref kd), some (.ref L), v5, v6, v7, v8, v9] ∧ SL L H3 H4 ∧ H4 L = some (.lst acc) ∧ Paired (RefAt H4) acc (edgesFrom met 0 ((rootsOf c).take j)))
      ⟨v5, v6, v7, v8, v9, [], rfl, SL.refl, hL3, .nil⟩ (fun j σ H4 _ ⟨_, _, _, _, _, _, _, sm, _⟩ => SqL.of (sm _ _ n3L hp3)) ?_ ?_
    · rintro j x σ H4 hj ⟨v5, v6, v7, v8, v9, acc, rfl, sm, hL, hP⟩
      obtain ⟨⟨ix, va⟩, hva, t, u, rfl, ht, iu⟩ := pair_get' hrow hj
      have tp := sm.tups hL3
      have iu4 := iu.keep tp
      obtain ⟨tu, rfl, htu⟩ := isV_ref iu4
      have hal : acc.length ≤ 18 := by
        rw [Paired.length hP]
        refine Nat.le_trans (edgesFrom_le _ _ _) ?_
        rw [List.length_take]
        omega
      refine ⟨t, _, rfl, SqT.of (tp _ _ ht), rfl, _, _, rfl, _, _, rfl, rfl, ?_⟩
      refine ⟨_, rfl, tu, _, _, _, rfl, rfl, htu, rfl, rfl, _, rfl, ?_⟩
      cases va with
      | nothing =>
        refine iteF ⟨_, _, _, _, _, acc, rfl, sm, hL, ?_⟩
        rw [edges_more hva]
        exact (List.append_nil _).symm ▸ hP
      | number _ =>
        refine iteF ⟨_, _, _, _, _, acc, rfl, sm, hL, ?_⟩
        rw [edges_more hva]
        exact (List.append_nil _).symm ▸ hP
      | object i =>
        have im : i ∈ met := fu2 i (List.mem_map.mpr ⟨_, List.mem_of_getElem? hva, rfl⟩)
        have hk4 : H4 kd = some (.dK (numKvs nm met)) := sm _ _ nkL hk3
        refine iteT ⟨_, rfl, .inl ⟨rfl, _, SqL.of hL⟩, _, rfl, _, rfl, tu, _, _, _, rfl, rfl, htu, rfl, kd, _, rfl, getn im hk4, _, rfl, leLine (by show 2 ≤ 1000; decide), fun lt nlt => ⟨leLine (by show 3 ≤ 1000; decide), fun t4 nt4 => ?_⟩⟩
        have s5 : Same H4 (upd H4 lt (.tup [.int 0, .int (ix : Nat)])) := Same.new nlt
        have s6 := s5.trans (Same.new (o := .tup [.int 0, .int (numberIn met i : Nat), .ref lt]) nt4)
        have hL6 := s6 _ _ hL
        refine ⟨L, acc, _, rfl, rfl, hL6, small1000 (by omega), ?_⟩
        have n4L : t4 ≠ L := ne_of upd_same hL6 (by intro z; cases z)
        have nlL : lt ≠ L := Ne.symm (ne_of_none hL nlt)
        have nlt4 : lt ≠ t4 := ne_of_none upd_same nt4
        refine ⟨_, _, _, _, _, acc ++ [.ref t4], rfl, sm.trans (SL.same s6).put, upd_same, ?_⟩
        have tpw : Tups H4 (upd (upd (upd H4 lt (.tup [.int 0, .int (ix : Nat)])) t4 (.tup [.int 0, .int (numberIn met i : Nat), .ref lt])) L (.lst (acc ++ [.ref t4]))) := (SL.same s6).put.tups hL
        rw [edges_more hva]
        exact pair_snoc (Paired.mapP hP fun _ _ z => z.keep tpw) ⟨t4, lt, rfl, (upd_ne n4L).trans upd_same, (upd_ne nlL).trans ((upd_ne nlt4).trans upd_same)⟩
    rintro σ H4 ⟨v5, v6, v7, v8, v9, acc, rfl, sm4, hL4, hP4⟩
    rw [Paired.length hrow, List.take_length] at hP4
    -- the fields
    have hp14 : H4 p1 = some (.lst (met.map fun i => V.int (nm i))) := sm4 _ _ n1L hp13
    have sH4 : Same H H4 := SL.whole sH3 hL0 sm4
    have hk4 : H4 kd = some (.dK (numKvs nm met)) := sm4 _ _ nkL hk3
    refine ⟨_, rfl, p1, _, rfl, SqL.of hp14, ?_⟩
    have hel0 : (edgesFrom met 0 (rootsOf c)).length ≤ 18 := Nat.le_trans (edgesFrom_le _ _ _) hro
    refine for_it (walk_enum (K := K) (a := p1) (xs := met.map fun i => V.int (nm i))) (fun j σ H5 => ∃ (v5 v6 v7 v8 v9 : Option V) (acc : List V), σ = [some (.ref sa), some (.int (n : Nat)), some (.ref p1), some (.ref kd), some (.ref L), v5, v6, v7, v8, v9] ∧ SL L H4 H5 ∧ H5 L = some (.lst acc) ∧ Paired (RefAt H5) acc (edgesFrom met 0 (rootsOf c) ++ behindEdges S met (met.zipIdx.take j)))
      ⟨v5, v6, v7, v8, v9, acc, rfl, SL.refl, hL4, by rw [List.take_zero]; exact (List.append_nil _).symm ▸ hP4⟩ (fun j σ H5 _ ⟨_, _, _, _, _, _, _, sm, _⟩ => SqL.of (sm _ _ n1L hp14)) ?_ ?_
    · rintro j x σ H5 H6 hj ⟨v5, v6, v7, v8, v9, acc, rfl, sm, hL, hP⟩ ⟨t, x0, y0, rfl, nt, rfl, ex, ey⟩
      cases ex
      have ey' : (met.map fun i => V.int (nm i))[j]? = some y0 := ey
      rw [List.getElem?_map] at ey'
      obtain ⟨i, hi, rfl⟩ := Option.map_eq_some_iff.mp ey'
      have im := List.mem_of_getElem? hi
      have hj2 : j < met.length := (List.getElem?_eq_some_iff.mp hi).1
      obtain ⟨o, om, rfl⟩ := wf.st i (fu.lv i im)
      obtain ⟨ta, tvs, q1, q2, q3, q4⟩ := valV_thing r0.th inj wf.nd om
      rw [← fieldsOf_mem wf.nd om] at q4
      have htv : tvs.length = (fieldsOf S o.id).length := Paired.length q4
      have hf4 := (wf.fields (fu.lv _ im)).1
      have hz : met.zipIdx[j]? = some (o.id, j) := by rw [List.getElem?_zipIdx, hi]; simp
      have s6 : Same H5 (upd H5 t (.tup [.int (j : Nat), .int (nm o.id)])) := Same.new nt
      have hL6 := s6 _ _ hL
      have sH6 : Same H (upd H5 t (.tup [.int (j : Nat), .int (nm o.id)])) := (SL.whole sH4 hL0 sm).trans s6
      refine ⟨t, _, rfl, SqT.of upd_same, rfl, _, _, rfl, _, _, rfl, rfl, ?_⟩
      refine ⟨_, rfl, sa, _, dx, _, _, rfl, sH6 _ _ r0.ha, T.k_store, T.n_things, rfl, _, rfl, td, .ref ta, rfl, q1 ▸ DGet.k (k := Sum.inl (nm o.id)) (sH6 _ _ r0.ht), ta, tvs, rfl, SqL.of (sH6 _ _ q2), ?_⟩
      have hacc : acc.length ≤ 18 + 4 * j := by
        have q := behind_le wf (met := met) (l := met.zipIdx.take j) fun x hx => fu.lv x.1 (List.mem_of_getElem? (List.mem_zipIdx_iff_getElem?.mp (List.mem_of_mem_take hx)))
        rw [List.length_take, List.length_zipIdx] at q
        rw [Paired.length hP, List.length_append]
        omega
      refine for_it (walk_enum (K := K) (a := ta) (xs := tvs)) (fun q σ H7 => ∃ (v8 v9 : Option V) (acc : List V), σ = [some (.ref sa), some (.int (n : Nat)), some (.ref p1), some (.ref kd), some (.ref L), some (.int (j : Nat)), some (.int (nm o.id)), v7, v8, v9] ∧ SL L (upd H5 t (.tup [.int (j : Nat), .int (nm o.id)])) H7 ∧ H7 L = some (.lst acc) ∧
          Paired (RefAt H7) acc (edgesFrom met 0 (rootsOf c) ++ behindEdges S met (met.zipIdx.take j) ++ edgesFrom met (j + 1) ((fieldPairs S o.id).take q)))
        ⟨v8, v9, acc, rfl, SL.refl, hL6, by rw [List.take_zero]; exact (List.append_nil _).symm ▸ Paired.mapP hP fun _ _ z => z.keep (Tups.new nt)⟩
        (fun q σ H7 _ ⟨_, _, _, _, sm7, hL7, _⟩ => SqL.of ((SL.whole sH6 hL0 sm7) _ _ q2)) ?_ ?_
      · rintro q z σ H7 H8 hq ⟨v8, v9, acc7, rfl, sm7, hL7, hP7⟩ ⟨t8, x8, y8, rfl, nt8, rfl, ex8, ey8⟩
        cases ex8
        obtain ⟨va, hva0, iu⟩ := pair_get' q4 (show tvs[q]? = some y8 from ey8)
        have hva : (fieldPairs S o.id)[q]? = some (q, va) := by
          unfold fieldPairs slotPairs
          rw [List.getElem?_map, List.getElem?_zipIdx, hva0]
          simp
        have s8 : Same H7 (upd H7 t8 (.tup [.int (q : Nat), y8])) := Same.new nt8
        have sH8 : Same H (upd H7 t8 (.tup [.int (q : Nat), y8])) := (SL.whole sH6 hL0 sm7).trans s8
        obtain ⟨tu, rfl, htu⟩ := isV_ref (iu.keep (Same.tups sH8))
        have hL8 := s8 _ _ hL7
        have hP8 := Paired.mapP hP7 fun _ _ z => z.keep (Same.tups s8)
        have sm8 := sm7.trans (SL.same s8)
        have hal : acc7.length ≤ 18 + 4 * j + 4 := by
          have q1 := behind_le wf (met := met) (l := met.zipIdx.take j) fun x hx => fu.lv x.1 (List.mem_of_getElem? (List.mem_zipIdx_iff_getElem?.mp (List.mem_of_mem_take hx)))
          rw [List.length_take, List.length_zipIdx] at q1
          have q2 := edgesFrom_le met (j + 1) ((fieldPairs S o.id).take q)
          rw [List.length_take] at q2
          rw [Paired.length hP7, List.length_append, List.length_append]
          omega
        refine ⟨t8, _, rfl, SqT.of upd_same, rfl, _, _, rfl, _, _, rfl, rfl, ?_⟩
        refine ⟨_, rfl, tu, _, _, _, rfl, rfl, htu, rfl, rfl, _, rfl, ?_⟩
        cases va with
        | nothing =>
          refine iteF ⟨_, _, acc7, rfl, sm8, hL8, ?_⟩
          rw [edges_more hva]
          exact (List.append_nil (edgesFrom met (j + 1) ((fieldPairs S o.id).take q))).symm ▸ hP8
        | number _ =>
          refine iteF ⟨_, _, acc7, rfl, sm8, hL8, ?_⟩
          rw [edges_more hva]
          exact (List.append_nil (edgesFrom met (j + 1) ((fieldPairs S o.id).take q))).symm ▸ hP8
        | object i2 =>
          have im2 : i2 ∈ met := fu.cl o.id im i2 (List.mem_of_getElem? hva0)
          have hk8 : (upd H7 t8 (.tup [.int (q : Nat), .ref tu])) kd = some (.dK (numKvs nm met)) := sm8 _ _ nkL (s6 _ _ (sm _ _ nkL hk4))
          refine iteT ⟨_, rfl, .inl ⟨rfl, _, SqL.of hL8⟩, _, rfl, _, _, rfl, rfl, _, rfl, _, rfl, tu, _, _, _, rfl, rfl, htu, rfl, kd, _, rfl, getn im2 hk8, _, rfl, _, _, rfl, rfl, _, rfl, leLine (by show 2 ≤ 1000; decide), fun lt nlt => ⟨leLine (by show 3 ≤ 1000; decide), fun t4 nt4 => ?_⟩⟩
          have s9 : Same (upd H7 t8 (.tup [.int (q : Nat), .ref tu])) (upd (upd H7 t8 (.tup [.int (q : Nat), .ref tu])) lt (.tup [.int ((j : Int) + 1), .int (q : Nat)])) := Same.new nlt
          have s10 := s9.trans (Same.new (o := .tup [.int ((j : Int) + 1), .int (numberIn met i2 : Nat), .ref lt]) nt4)
          have hL10 := s10 _ _ hL8
          refine ⟨L, acc7, _, rfl, rfl, hL10, small1000 (by omega), ?_⟩
          have n4L : t4 ≠ L := ne_of upd_same hL10 (by intro z; cases z)
          have nlL : lt ≠ L := Ne.symm (ne_of_none hL8 nlt)
          have nlt4 : lt ≠ t4 := ne_of_none upd_same nt4
          refine ⟨_, _, acc7 ++ [.ref t4], rfl, sm8.trans (SL.same s10).put, upd_same, ?_⟩
          have tpw := (SL.put (u := .lst (acc7 ++ [.ref t4])) (SL.same (L := L) s10)).tups hL8
          rw [edges_more hva, ← List.append_assoc]
          exact pair_snoc (Paired.mapP hP8 fun _ _ z => z.keep tpw) ⟨t4, lt, rfl, (upd_ne n4L).trans upd_same, (upd_ne nlL).trans ((upd_ne nlt4).trans upd_same)⟩
      · rintro σ H7 ⟨v8, v9, acc7, rfl, sm7, hL7, hP7⟩
        refine ⟨_, _, _, v8, v9, acc7, rfl, (sm.trans (SL.same s6)).trans sm7, hL7, ?_⟩
        rw [behind_more hz, ← List.append_assoc]
        rw [show tvs.length = (fieldPairs S o.id).length by rw [htv]; exact (slotPairs_length _).symm, List.take_length] at hP7
        exact hP7
    · rintro σ H5 ⟨v5, v6, v7, v8, v9, acc, rfl, sm, hL, hP⟩
      rw [List.take_of_length_le (by rw [List.length_zipIdx, List.length_map]; exact Nat.le_refl _)] at hP
      refine ⟨_, rfl, k _ L acc (SL.whole sH4 hL0 sm) hL0 hL ?_⟩
      rw [edgesOf_eq, hmet]
      exact hP
end
end Sh


set_option maxHeartbeats 2000000
namespace Sh
open PySem PySem.Spec PyProof.Rows L2
open Vbxlaa (fieldsOf rootsOf rootValues clientAt edgesFrom edgesOf numberIn stepsFrom residual meetSteps trace toggle)
/-- v is the pair of a step's node and its reference's place -/
def StAt (es : List VE) (H : Hp) (v : V) (st : VS) : Prop := ∃ t pl e, v = .ref t ∧ H t = some (.tup [.int (st.node : Nat), .int (pl : Nat)]) ∧ es[pl]? = some e ∧ ekey e = skey st
theorem StAt.keep {es : List VE} {H H' : Hp} {v : V} {st : VS} (h : StAt es H v st) (t : Tups H H') : StAt es H' v st := by
  obtain ⟨a, pl, e, h1, h2, h3, h4⟩ := h
  exact ⟨a, pl, e, h1, t _ _ h2, h3, h4⟩
theorem steps_more {es : List VE} {u j : Nat} {e : VE} (h : es[j]? = some e) : stepsFrom (es.take (j + 1)) u = stepsFrom (es.take j) u ++ (stepOf e u).toList := by
  obtain ⟨hj, eq⟩ := List.getElem?_eq_some_iff.mp h
  rw [stepsFrom_eq, stepsFrom_eq, List.take_succ_eq_append_getElem hj, eq, List.filterMap_append, List.filterMap_cons]
  cases stepOf e u <;> rfl
def usedL (es : List VE) : List V := es.map fun e => V.bl e.used
section
variable {P : Program} {w : World} {K : PySem.W.Frag} {mg : Str → Option Value} {base : Heap} {ad : Ad}
def spStepsFrom : Sp := fun vs H Q _ => ∃ (ra ua : Addr) (u : Nat) (es : List VE) (rvs : List V), vs = [.ref ra, .ref ua, .int (u : Nat)] ∧ H ra = some (.lst rvs) ∧ Paired (RefAt H) rvs es ∧ H ua = some (.lst (usedL es)) ∧ es.length ≤ 300 ∧
  ∀ H' p svs, Same H H' → H p = none → H' p = some (.lst svs) → Paired (StAt es H') svs (stepsFrom es u) → Q (.ref p) H'
theorem ok_steps_from (T : Tx K mg ad) (D : Df K mg "steps_from" s_steps_from ["references", "used", "point"]) : Ok P w K mg base 1 "steps_from" ["references", "used", "point"] spStepsFrom := by
  refine D.ok c_steps_from (fun vs H Q E h => ?_) (fun f cdv A outer s H vs Q E hr h => ?_)
  · obtain ⟨ra, ua, u, es, rvs, rfl, _⟩ := h
    rfl
  · refine ⟨_,
      (pss_cons (ps_set (i := 3) c_steps_from.nd rfl (Or.inl rfl) (pe_lst pa_nil))
        (pss_cons (ps_for (passes_of rfl) rfl (pi_enum (by rfl) T.b_enumerate (pa_cons (pv 0) pa_nil)) (pg_tup rfl (pgs_cons (pg_name (i := 4) c_steps_from.nd rfl (Or.inl rfl)) (pgs_cons (pg_tup rfl (pgs_cons (pg_name (i := 5) c_steps_from.nd rfl (Or.inl rfl)) (pgs_cons (pg_name (i := 6) c_steps_from.nd rfl (Or.inl rfl)) (pgs_cons (pg_name (i := 7) c_steps_from.nd rfl (Or.inl rfl)) pgs_nil)))) pgs_nil)))
          (pss_cons (ps_if (PW.pt (pw_and (pt_cmpR op_eq (pv 5) (pv 2) (nomark _)) (pw_and1 (pt_not (pt_val (pe_ix ix_list (pv 1) (pv 4) (fun _ _ => rfl))))))) (pss_one (ps_expr (pe_bm PySem.F.plainAttrs_list PySem.F.slot_list_append PySem.F.type_list_append mt_append (pv 3) (pa_cons (pe_tup (pa_cons (pv 6) (pa_cons (pv 4) pa_nil))) pa_nil)))) pss_nil)
          (pss_one (ps_if (PW.pt (pw_and (pt_cmpR op_eq (pv 6) (pv 2) (nomark _)) (pw_and1 (pt_val (pe_ix ix_list (pv 1) (pv 4) (fun _ _ => rfl)))))) (pss_one (ps_expr (pe_bm PySem.F.plainAttrs_list PySem.F.slot_list_append PySem.F.type_list_append mt_append (pv 3) (pa_cons (pe_tup (pa_cons (pv 5) (pa_cons (pv 4) pa_nil))) pa_nil)))) pss_nil))))
        (pss_one (ps_ret (pv 3)))))
      , ?_⟩
    obtain ⟨ra, ua, u, es, rvs, rfl, hra, hR, hua, hle, k⟩ := h
    refine ⟨leLine (by decide), fun L nL => ?_⟩
    have sb : Same H (upd H L (.lst [])) := Same.new nL
    refine ⟨_, rfl, ra, _, rfl, SqL.of (sb _ _ hra), ?_⟩
    refine for_it (walk_enum (K := K) (a := ra) (xs := rvs)) (fun j σ H2 => ∃ (v4 v5 v6 v7 : Option V) (acc : List V), σ = [some (.ref ra), some (.ref ua), some (.int (u : Nat)), some (.ref L), v4, v5, v6, v7] ∧ Bld H L acc H2 ∧ acc.length ≤ j ∧ Paired (StAt es H2) acc (stepsFrom (es.take j) u))
      ⟨none, none, none, none, [], rfl, Bld.start nL, Nat.zero_le _, .nil⟩ (fun j σ H2 _ ⟨_, _, _, _, _, _, hB, _⟩ => SqL.of (hB.sm _ _ hra)) ?_ ?_
    · rintro j x σ H2 H3 hj ⟨v4, v5, v6, v7, acc, rfl, hB, hal, hP⟩ ⟨t, x0, y0, rfl, nt, rfl, ex, ey⟩
      cases ex
      obtain ⟨e, he, te, lt, rfl, d1, d2⟩ := pair_get' hR (show rvs[j]? = some y0 from ey)
      have hj2 : j < es.length := (List.getElem?_eq_some_iff.mp he).1
      have B3 := hB.new (o := .tup [.int (j : Nat), .ref te]) nt
      have hP3 := Paired.mapP hP fun _ _ z => z.keep (Tups.new (o := .tup [.int (j : Nat), .ref te]) nt)
      have hu3 := B3.sm _ _ hua
      have hub : (usedL es)[j]? = some (.bl e.used) := by unfold usedL; rw [List.getElem?_map, he]; rfl
      refine ⟨t, _, rfl, SqT.of upd_same, rfl, _, _, rfl, _, _, rfl, te, _, rfl, SqT.of (B3.sm _ _ d1), rfl, _, _, rfl, _, _, rfl, _, _, rfl, rfl, rfl, ?_⟩
      have put : ∀ (nd : Nat) (H4 : Hp), (stepOf e u).toList = [⟨nd, u, e.source, e.index⟩] → ∀ q, (upd H2 t (.tup [.int (j : Nat), .ref te])) q = none → upd (upd H2 t (.tup [.int (j : Nat), .ref te])) q (.tup [.int (nd : Nat), .int (j : Nat)]) = H4 → H4 L = some (.lst acc) ∧ Bld H L (acc ++ [.ref q]) (upd H4 L (.lst (acc ++ [.ref q]))) ∧ (acc ++ [V.ref q]).length ≤ j + 1 ∧
          Paired (StAt es (upd H4 L (.lst (acc ++ [.ref q])))) (acc ++ [.ref q]) (stepsFrom (es.take (j + 1)) u) := by
        rintro nd H4 hs q nq rfl
        have B4 := B3.new (o := .tup [.int (nd : Nat), .int (j : Nat)]) nq
        have nqL : q ≠ L := ne_of upd_same B4.at_ (by intro z; cases z)
        refine ⟨B4.at_, B4.put nL, by rw [List.length_append, List.length_singleton]; omega, ?_⟩
        rw [steps_more he, hs]
        exact pair_snoc (Paired.mapP hP3 fun _ _ z => z.keep ((Tups.new nq).trans B4.tups)) ⟨q, j, e, rfl, (upd_ne nqL).trans upd_same, he, rfl⟩
      have skip : (stepOf e u).toList = [] → Paired (StAt es (upd H2 t (.tup [.int (j : Nat), .ref te]))) acc (stepsFrom (es.take (j + 1)) u) := fun hs => by
        rw [steps_more he, hs, List.append_nil]
        exact hP3
      refine ⟨_, rfl, _, rfl, rfl, _, rfl, ?_⟩
      cases hus : e.used with
      | true =>
        rw [hus] at hub
        have sec : ∀ c : Prop, ∀ B : Prop, (c → B) → c → B := fun _ _ f x => f x
        by_cases c1 : e.source = u
        · rw [eq_intT (by rw [c1])]
          refine iteT ⟨_, rfl, _, rfl, ua, _, _, _, rfl, rfl, SqL.of hu3, atI_nat hub, _, rfl, iteF ?_⟩
          refine ⟨_, rfl, _, rfl, rfl, _, rfl, ?_⟩
          by_cases c2 : e.target = u
          · rw [eq_intT (by rw [c2])]
            refine iteT ⟨_, rfl, _, rfl, ua, _, _, _, rfl, rfl, SqL.of hu3, atI_nat hub, _, rfl, iteT ?_⟩
            refine ⟨_, rfl, .inl ⟨rfl, _, SqL.of B3.at_⟩, _, rfl, _, rfl, leLine (by show 2 ≤ 1000; decide), fun q nq => ?_⟩
            obtain ⟨z1, z2, z3, z4⟩ := put e.source _ (by unfold stepOf; rw [if_neg (by rw [hus]; simp), if_pos ⟨c2, hus⟩]; rfl) q nq rfl
            exact ⟨L, acc, _, rfl, rfl, z1, small1000 (by omega), _, _, _, _, _, rfl, z2, z3, z4⟩
          · rw [eq_intF (by omega)]
            exact iteF (iteF ⟨_, _, _, _, acc, rfl, B3, by omega, skip (by unfold stepOf; rw [if_neg (by rw [hus]; simp), if_neg (by rintro ⟨z, _⟩; exact c2 z)]; rfl)⟩)
        · rw [eq_intF (by omega)]
          refine iteF (iteF ?_)
          refine ⟨_, rfl, _, rfl, rfl, _, rfl, ?_⟩
          by_cases c2 : e.target = u
          · rw [eq_intT (by rw [c2])]
            refine iteT ⟨_, rfl, _, rfl, ua, _, _, _, rfl, rfl, SqL.of hu3, atI_nat hub, _, rfl, iteT ?_⟩
            refine ⟨_, rfl, .inl ⟨rfl, _, SqL.of B3.at_⟩, _, rfl, _, rfl, leLine (by show 2 ≤ 1000; decide), fun q nq => ?_⟩
            obtain ⟨z1, z2, z3, z4⟩ := put e.source _ (by unfold stepOf; rw [if_neg (by rw [hus]; simp), if_pos ⟨c2, hus⟩]; rfl) q nq rfl
            exact ⟨L, acc, _, rfl, rfl, z1, small1000 (by omega), _, _, _, _, _, rfl, z2, z3, z4⟩
          · rw [eq_intF (by omega)]
            exact iteF (iteF ⟨_, _, _, _, acc, rfl, B3, by omega, skip (by unfold stepOf; rw [if_neg (by rw [hus]; simp), if_neg (by rintro ⟨z, _⟩; exact c2 z)]; rfl)⟩)
      | false =>
        rw [hus] at hub
        by_cases c1 : e.source = u
        · rw [eq_intT (by rw [c1])]
          refine iteT ⟨_, rfl, _, rfl, ua, _, _, _, rfl, rfl, SqL.of hu3, atI_nat hub, _, rfl, iteT ?_⟩
          refine ⟨_, rfl, .inl ⟨rfl, _, SqL.of B3.at_⟩, _, rfl, _, rfl, leLine (by show 2 ≤ 1000; decide), fun q nq => ?_⟩
          obtain ⟨z1, z2, z3, z4⟩ := put e.target _ (by unfold stepOf; rw [if_pos ⟨c1, hus⟩]; rfl) q nq rfl
          refine ⟨L, acc, _, rfl, rfl, z1, small1000 (by omega), ?_⟩
          refine ⟨_, rfl, _, rfl, rfl, _, rfl, ?_⟩
          by_cases c2 : e.target = u
          · rw [eq_intT (by rw [c2])]
            exact iteT ⟨_, rfl, _, rfl, ua, _, _, _, rfl, rfl, SqL.of (z2.sm _ _ hua), atI_nat hub, _, rfl, iteF ⟨_, _, _, _, _, rfl, z2, z3, z4⟩⟩
          · rw [eq_intF (by omega)]
            exact iteF (iteF ⟨_, _, _, _, _, rfl, z2, z3, z4⟩)
        · rw [eq_intF (by omega)]
          refine iteF (iteF ?_)
          refine ⟨_, rfl, _, rfl, rfl, _, rfl, ?_⟩
          have hsk : (stepOf e u).toList = [] := by
            unfold stepOf
            rw [if_neg (by rintro ⟨z, _⟩; exact c1 z), if_neg (by rw [hus]; simp)]
            rfl
          by_cases c2 : e.target = u
          · rw [eq_intT (by rw [c2])]
            exact iteT ⟨_, rfl, _, rfl, ua, _, _, _, rfl, rfl, SqL.of hu3, atI_nat hub, _, rfl, iteF ⟨_, _, _, _, acc, rfl, B3, by omega, skip hsk⟩⟩
          · rw [eq_intF (by omega)]
            exact iteF (iteF ⟨_, _, _, _, acc, rfl, B3, by omega, skip hsk⟩)
    · rintro σ H2 ⟨v4, v5, v6, v7, acc, rfl, hB, hal, hP⟩
      rw [Paired.length hR, List.take_length] at hP
      exact ⟨_, rfl, k _ L acc hB.sm nL hB.at_ hP⟩
end
end Sh


set_option maxHeartbeats 2000000
namespace Sh
open PySem PySem.Spec PyProof.Rows L2
open Vbxlaa (fieldsOf rootsOf rootValues clientAt edgesFrom edgesOf numberIn stepsFrom residual meetSteps trace toggle)
/-- how a point was reached -/
def KAt (es : List VE) (H : Hp) (kv : Key × V) (st : VS) : Prop := kv.1 = .inl (st.node : Int) ∧ ((st.node = 0 ∧ kv.2 = .non) ∨ (st.node ≠ 0 ∧ ∃ t pl e, kv.2 = .ref t ∧ H t = some (.tup [.int (st.previous : Nat), .int (pl : Nat)]) ∧ es[pl]? = some e ∧ ekey e = skey st))
theorem KAt.keep {es : List VE} {H H' : Hp} {kv : Key × V} {st : VS} (h : KAt es H kv st) (t : Tups H H') : KAt es H' kv st := by
  obtain ⟨e, h | ⟨h0, a, pl, d, h1, h2, h3, h4⟩⟩ := h
  · exact ⟨e, .inl h⟩
  · exact ⟨e, .inr ⟨h0, a, pl, d, h1, t _ _ h2, h3, h4⟩⟩
theorem kat_get {es : List VE} {H : Hp} {i : Nat} : ∀ {kvs : List (Key × V)} {F : List VS}, Paired (KAt es H) kvs F →
    (i ∉ F.map (fun s => s.node) ∧ valV kvs (.inl (i : Int)) = none) ∨ ∃ st v, st ∈ F ∧ st.node = i ∧ i ∈ F.map (fun s => s.node) ∧ valV kvs (.inl (i : Int)) = some v ∧ KAt es H (.inl (i : Int), v) st
  | _, _, .nil => .inl ⟨by simp, rfl⟩
  | (k, v) :: kvs, st :: F, .cons r t => by
    by_cases c : st.node = i
    · have e := r.1
      dsimp only at e
      rw [c] at e
      subst e
      exact .inr ⟨st, v, List.mem_cons_self, c, by simp [c], valV_pos (p := (Sum.inl (i : Int), v)) rfl, r⟩
    · have hne : ¬ (k, v).1 = (Sum.inl (i : Int) : Key) := fun z => by
        have e := r.1
        rw [z] at e
        have := Sum.inl.inj e
        omega
      rw [valV_neg hne]
      rcases kat_get (i := i) t with ⟨q1, q2⟩ | ⟨s2, v2, q1, q2, q3, q4⟩
      · refine .inl ⟨?_, q2⟩
        rw [List.map_cons, List.mem_cons]
        rintro (z | z)
        · exact c z.symm
        · exact q1 z
      · exact .inr ⟨s2, v2, List.mem_cons_of_mem _ q1, q2, by rw [List.map_cons]; exact List.mem_cons_of_mem _ q3, q4⟩
structure SWk (es : List VE) (H0 : Hp) (kd wl : Addr) (met : List VS) (kvs : List (Key × V)) (H : Hp) : Prop where
  sm : Same H0 H
  hk : H kd = some (.dK kvs)
  pk : Paired (KAt es H) kvs met
  hw : H wl = some (.lst (nI (met.map fun s => s.node)))
section
variable {es : List VE} {H0 H H' : Hp} {kd wl : Addr} {met : List VS} {kvs : List (Key × V)}
theorem SWk.same (a : SWk es H0 kd wl met kvs H) (s : Same H H') : SWk es H0 kd wl met kvs H' := ⟨a.sm.trans s, s _ _ a.hk, Paired.mapP a.pk fun _ _ z => z.keep (Same.tups s), s _ _ a.hw⟩
theorem SWk.add (a : SWk es H0 kd wl met kvs H) (nk : H0 kd = none) (nw : H0 wl = none) {v : V} {st : VS} (z : KAt es H (.inl (st.node : Int), v) st) (hn : valV kvs (.inl (st.node : Int)) = none) :
    SWk es H0 kd wl (met ++ [st]) (putK kvs (.inl (st.node : Int)) v) (upd (upd H kd (.dK (putK kvs (.inl (st.node : Int)) v))) wl (.lst (nI (met.map fun s => s.node) ++ [.int (st.node : Nat)]))) := by
  have d : kd ≠ wl := ne_of a.hk a.hw (by intro z; cases z)
  have t : Tups H (upd (upd H kd (.dK (putK kvs (.inl (st.node : Int)) v))) wl (.lst (nI (met.map fun s => s.node) ++ [.int (st.node : Nat)]))) := (Tups.write a.hk fun _ z => by cases z).trans (Tups.write ((upd_ne (Ne.symm d)).trans a.hw) fun _ z => by cases z)
  refine ⟨Same.put (Same.put a.sm nk) nw, (upd_ne d).trans upd_same, ?_, ?_⟩
  · rw [putK_new hn] at t ⊢
    exact pair_snoc (Paired.mapP a.pk fun _ _ z => z.keep t) (z.keep t)
  · rw [upd_same, List.map_append]
    unfold nI
    rw [List.map_append]
    rfl
end
section
variable {P : Program} {w : World} {K : PySem.W.Frag} {mg : Str → Option Value} {base : Heap} {ad : Ad}
def spSpread : Sp := fun vs H Q _ => ∃ (ra ua : Addr) (es : List VE) (rvs : List V) (N : Nat), vs = [.ref ra, .ref ua] ∧ H ra = some (.lst rvs) ∧ Paired (RefAt H) rvs es ∧ H ua = some (.lst (usedL es)) ∧ es.length ≤ 300 ∧ (∀ e ∈ es, e.source < N ∧ e.target < N) ∧ 0 < N ∧ N ≤ 60 ∧
  ∀ H' p kvs, Same H H' → H p = none → H' p = some (.dK kvs) → Paired (KAt es H') kvs (residual es N) → Ways es N (residual es N) → Q (.ref p) H'
theorem ok_spread (T : Tx K mg ad) (D : Df K mg "spread" s_spread ["references", "used"]) (G_steps_from : Ok P w K mg base 1 "steps_from" ["references", "used", "point"] spStepsFrom) : Ok P w K mg base 2 "spread" ["references", "used"] spSpread := by
  refine D.ok c_spread (fun vs H Q E h => ?_) (fun f cdv A outer s H vs Q E hr h => ?_)
  · obtain ⟨ra, ua, es, rvs, N, rfl, _⟩ := h
    rfl
  · refine ⟨_,
      (pss_cons (ps_par3 (i := 2) (j := 3) (l := 4) rfl c_spread.nd rfl rfl rfl (by decide) (by decide) (by decide) rfl rfl rfl (pa_cons (pe_disp (pps_cons (pe_ci T.c_SOURCE) pe_non pps_nil) (by rfl) (by rfl) (fun z => by cases z) (by decide)) (pa_cons (pe_lst (pa_cons (pe_ci T.c_SOURCE) pa_nil)) (pa_cons pe_int pa_nil))) (by rfl))
        (pss_cons (ps_while (passes_of rfl) (pt_cmpR op_lt (pv 4) (pe_callB call_len_seq (by rfl) T.b_len (by decide +kernel) (pa_cons (pv 3) pa_nil)) (nomark _))
          (pss_cons (ps_set (i := 5) c_spread.nd rfl (Or.inl rfl) (pe_ix ix_list (pv 3) (pv 4) (fun _ _ => rfl)))
          (pss_cons (ps_for (passes_of rfl) rfl (pi_list (pe_c G_steps_from hr (L2N.takes_of rfl rfl rfl rfl) (pa_cons (pv 0) (pa_cons (pv 1) (pa_cons (pv 5) pa_nil))))) (pg_tup rfl (pgs_cons (pg_name (i := 6) c_spread.nd rfl (Or.inl rfl)) (pgs_cons (pg_name (i := 7) c_spread.nd rfl (Or.inl rfl)) pgs_nil)))
            (pss_one (ps_if (pt_cmp (pc_dnotin (hu_of hr) (pv 6) (pv 2))) (pss_cons (ps_asg (pe_tup (pa_cons (pv 5) (pa_cons (pv 7) pa_nil))) (pg_sub (pv 2) (pv 6) (set_dict (hu_of hr))))
              (pss_one (ps_expr (pe_bm PySem.F.plainAttrs_list PySem.F.slot_list_append PySem.F.type_list_append mt_append (pv 3) (pa_cons (pv 6) pa_nil))))) pss_nil)))
          (pss_one (ps_set (i := 4) c_spread.nd rfl (Or.inl rfl) (pe_op op_add (pv 4) pe_int))))))
        (pss_one (ps_ret (pv 2)))))
      , ?_⟩
    obtain ⟨ra, ua, es, rvs, N, rfl, hra, hR, hua, hle, hE, hN0, hN, k⟩ := h
    intro kd nkd
    have sk : Same H (upd H kd (.dK [])) := Same.new nkd
    refine ⟨upd_same, [(Sum.inl 0, .non)], rfl, by decide, ?_⟩
    have sk2 : Same H (upd (upd H kd (.dK [])) kd (.dK (mergeK [] [(Sum.inl 0, .non)]))) := Same.put sk nkd
    refine ⟨leLine (by show 1 ≤ 1000; decide), fun wl nwl => ⟨_, _, _, rfl, ?_⟩⟩
    have nw0 : H wl = none := sk2.free nwl
    have nkw : kd ≠ wl := ne_of_none upd_same nwl
    have st0 : SWk es H kd wl [⟨0, 0, 0, 0⟩] [(Sum.inl 0, .non)] (upd (upd (upd H kd (.dK [])) kd (.dK (mergeK [] [(Sum.inl 0, .non)]))) wl (.lst [.int 0])) :=
      ⟨sk2.trans (Same.new nwl), (upd_ne nkw).trans upd_same, .cons ⟨rfl, .inl ⟨rfl, rfl⟩⟩ .nil, upd_same⟩
    refine ⟨fun m σ H1 => ∃ (n : Nat) (v5 v6 v7 : Option V) (met : List VS) (kvs : List (Key × V)), m + n = 100 ∧ σ = [some (.ref ra), some (.ref ua), some (.ref kd), some (.ref wl), some (.int n), v5, v6, v7] ∧ SWk es H kd wl met kvs H1 ∧ AtS es N (residual es N) met n,
      ⟨_, 0, none, none, none, _, _, Nat.add_zero 100, rfl, st0, AtS.start hN0⟩, ?_⟩
    rintro m σ H1 ⟨n, v5, v6, v7, met, kvs, hm, rfl, hW, hA⟩
    have hml := hA.wy.len
    refine ⟨_, rfl, _, rfl, wl, _, rfl, .inl (SqL.of hW.hw), _, _, rfl, rfl, _, rfl, ?_⟩
    have hnl : (nI (met.map fun s => s.node)).length = met.length := by rw [nI_length, List.length_map]
    refine ite2 (fun cc => ?_) fun cc => ?_
    · have cc : n < met.length := by have := of_decide_eq_true cc; omega
      obtain ⟨x, hx⟩ : ∃ x, met[n]? = some x := ⟨_, List.getElem?_eq_getElem cc⟩
      refine ⟨_, fun σ' H' h => h, ?_⟩
      have hxi : (nI (met.map fun s => s.node))[n]? = some (.int (x.node : Nat)) := by unfold nI; rw [List.getElem?_map, List.getElem?_map, hx]; rfl
      refine ⟨_, rfl, _, rfl, wl, _, _, .int (x.node : Nat), rfl, rfl, SqL.of hW.hw, atI_nat hxi, ?_⟩
      refine ⟨_, rfl, _, rfl, _, rfl, ra, ua, x.node, es, rvs, rfl, hW.sm _ _ hra, Paired.mapP hR fun _ _ z => z.keep (Same.tups hW.sm), hW.sm _ _ hua, hle, fun H4 p svs s4 np hp hS => ⟨p, rfl, ⟨_, SqL.of hp⟩, ?_⟩⟩
      have W4 := hW.same s4
      have npw : p ≠ wl := Ne.symm (ne_of_none hW.hw np)
      have stepA := hA.step hE hx
      refine for_list (K := K) (a := p) (xs := svs) (fun i σ H5 => ∃ (v6 v7 : Option V) (kvs5 : List (Key × V)), σ = [some (.ref ra), some (.ref ua), some (.ref kd), some (.ref wl), some (.int n), some (.int (x.node : Nat)), v6, v7] ∧ SWk es H kd wl (meetSteps met ((stepsFrom es x.node).take i)) kvs5 H5 ∧ Tups H4 H5 ∧ H5 p = some (.lst svs))
        ⟨v6, v7, kvs, rfl, W4, Tups.refl, hp⟩ (fun i σ H5 _ ⟨_, _, _, _, _, _, hp⟩ => SqL.of hp) ?_ ?_
      · rintro i z σ H5 hi ⟨v6, v7, kvs5, rfl, hW5, tp5, hp5⟩
        obtain ⟨st, hst, t, pl, e, rfl, h1, h2, h3⟩ := pair_get' hS hi
        have hst0 : st ∈ stepsFrom es x.node := List.mem_of_getElem? hst
        have hprev : st.previous = x.node := by
          rw [stepsFrom_eq] at hst0
          obtain ⟨e0, _, he0⟩ := List.mem_filterMap.mp hst0
          exact (stepOf_dir he0).1
        have ms := ms_take (met := met) hst
        have wlen : (meetSteps met ((stepsFrom es x.node).take i)).length ≤ N := by
          have h1 := stepA.wy.len
          have h2 : (stepsFrom es x.node) = (stepsFrom es x.node).take i ++ (stepsFrom es x.node).drop i := (List.take_append_drop ..).symm
          rw [h2, ms_app] at h1
          obtain ⟨more, em, _⟩ := ms_more ((stepsFrom es x.node).drop i) (meetSteps met ((stepsFrom es x.node).take i))
          rw [em, List.length_append] at h1
          omega
        have hkl : kvs5.length = (meetSteps met ((stepsFrom es x.node).take i)).length := Paired.length hW5.pk
        refine ⟨t, _, rfl, SqT.of (tp5 _ _ h1), rfl, _, _, rfl, _, _, rfl, rfl, ?_⟩
        refine ⟨_, rfl, _, rfl, kd, _, rfl, DGet.k (k := Sum.inl (st.node : Int)) hW5.hk, _, rfl, ?_⟩
        rcases kat_get (i := st.node) hW5.pk with ⟨ni, ev⟩ | ⟨s2, v2, _, _, ii, ev, _⟩
        · rw [ev]
          refine iteT ⟨_, rfl, _, rfl, leLine (by show 2 ≤ 1000; decide), fun t6 nt6 => ?_⟩
          have s6 : Same H5 (upd H5 t6 (.tup [.int (x.node : Nat), .int (pl : Nat)])) := Same.new nt6
          have W6 := hW5.same s6
          have hn0 : st.node ≠ 0 := fun z => ni (by
            rw [z]
            obtain ⟨more, em, _⟩ := ms_more ((stepsFrom es x.node).take i) met
            rw [em, List.map_append]
            exact List.mem_append_left _ (List.mem_map.mpr ⟨_, List.mem_of_getElem? hA.wy.hd, rfl⟩))
          refine ⟨_, rfl, _, rfl, kd, _, rfl, DPut.k (k := Sum.inl (st.node : Int)) W6.hk (small1000 (by omega)), ?_⟩
          have dkw : kd ≠ wl := ne_of W6.hk W6.hw (by intro z; cases z)
          have hw7 := (upd_ne (o := .dK (putK kvs5 (Sum.inl (st.node : Int)) (.ref t6))) (Ne.symm dkw)).trans W6.hw
          refine ⟨_, rfl, .inl ⟨rfl, _, SqL.of hw7⟩, _, rfl, wl, _, _, rfl, rfl, hw7, small1000 (by rw [nI_length, List.length_map]; omega), ?_⟩
          have W7 := W6.add nkd nw0 (v := .ref t6) (st := st) ⟨rfl, .inr ⟨hn0, t6, pl, e, rfl, by rw [upd_same, hprev], h2, h3⟩⟩ ev
          rw [if_neg ni] at ms
          refine ⟨_, _, _, rfl, by rw [ms]; exact W7, ?_, ?_⟩
          · exact (tp5.trans (Same.tups s6)).trans ((Tups.write W6.hk fun _ z => by cases z).trans (Tups.write hw7 fun _ z => by cases z))
          · have npk : p ≠ kd := ne_of (s6 _ _ hp5) W6.hk (by intro z; cases z)
            rw [upd_ne npw, upd_ne npk]
            exact s6 _ _ hp5
        · rw [ev]
          rw [if_pos ii] at ms
          exact iteF ⟨_, _, kvs5, rfl, by rw [ms]; exact hW5, tp5, hp5⟩
      · rintro σ H5 ⟨v6, v7, kvs5, rfl, hW5, tp5, hp5⟩
        rw [Paired.length hS, List.take_length] at hW5
        refine ⟨_, rfl, _, _, rfl, rfl, ?_⟩
        exact ⟨m - 1, by omega, n + 1, _, v6, v7, _, kvs5, by omega, rfl, hW5, stepA⟩
    · have cc : met.length ≤ n := by have := of_decide_eq_false (Bool.eq_false_iff.mpr cc); omega
      have ed := hA.done cc
      have pk := hW.pk
      have wy := hA.wy
      rw [ed] at pk wy
      exact ⟨_, rfl, k _ kd kvs hW.sm nkd hW.hk pk wy⟩
end
end Sh


set_option maxHeartbeats 2000000
namespace Sh
open PySem PySem.Spec PyProof.Rows L2
open Vbxlaa (fieldsOf rootsOf rootValues clientAt edgesFrom edgesOf numberIn stepsFrom residual meetSteps trace toggle sourceSide)
section
variable {P : Program} {w : World} {K : PySem.W.Frag} {mg : Str → Option Value} {base : Heap} {ad : Ad}
theorem usedL_set (es : List VE) (i : Nat) (d : VE) : usedL (es.set i d) = (usedL es).set i (.bl d.used) := by unfold usedL; rw [List.map_set]
def spLeadMore : Sp := fun vs H Q _ => ∃ (ua kd : Addr) (tg N : Nat) (es : List VE) (F : List VS) (kvs : List (Key × V)), vs = [.ref ua, .ref kd, .int (tg : Nat)] ∧ H ua = some (.lst (usedL es)) ∧ H kd = some (.dK kvs) ∧ Paired (KAt es H) kvs F ∧ Ways es N F ∧ (es.map ekey).Nodup ∧ tg ∈ F.map (fun s => s.node) ∧
  ∀ H', SL ua H H' → H' ua = some (.lst (usedL (toggle es (trace F F.length tg)))) → Q .non H'
theorem ok_lead_more (T : Tx K mg ad) (D : Df K mg "lead_more" s_lead_more ["used", "reached", "target"]) : Ok P w K mg base 1 "lead_more" ["used", "reached", "target"] spLeadMore := by
  refine D.ok c_lead_more (fun vs H Q E h => ?_) (fun f cdv A outer s H vs Q E hr h => ?_)
  · obtain ⟨ua, kd, tg, N, es, F, kvs, rfl, _⟩ := h
    rfl
  · refine ⟨_,
      (pss_cons (ps_set (i := 3) c_lead_more.nd rfl (Or.inl rfl) (pv 2))
        (pss_one (ps_while (passes_of rfl) (pt_cmpR op_notN (pe_dget (hu_of hr) (pv 1) (pv 3) (fun _ _ => rfl)) pe_non (nomark _))
          (pss_cons (ps_asg (pe_dget (hu_of hr) (pv 1) (pv 3) (fun _ _ => rfl)) (pg_tup rfl (pgs_cons (pg_name (i := 3) c_lead_more.nd rfl (Or.inl rfl)) (pgs_cons (pg_name (i := 4) c_lead_more.nd rfl (Or.inl rfl)) pgs_nil))))
          (pss_one (ps_asg (pe_not (pe_ix ix_list (pv 0) (pv 4) (fun _ _ => rfl))) (pg_sub (pv 0) (pv 4) set_list)))))))
      , ?_⟩
    obtain ⟨ua, kd, tg, N, es, F, kvs, rfl, hua, hkd, hK, wy, nd, htg, k⟩ := h
    obtain ⟨st0, hst0, e0⟩ := List.mem_map.mp htg
    obtain ⟨k0, hk0, ek0⟩ := List.getElem_of_mem hst0
    have nkd : kd ≠ ua := ne_of hkd hua (by intro z; cases z)
    refine ⟨_, rfl, ?_⟩
    refine ⟨fun m σ H1 => ∃ (v4 : Option V) (es1 : List VE) (f p : Nat) (st : VS), m = p + 1 ∧ σ = [some (.ref ua), some (.ref kd), some (.int (tg : Nat)), some (.int (st.node : Nat)), v4] ∧ SL ua H H1 ∧ H1 ua = some (.lst (usedL es1)) ∧ es1.map ekey = es.map ekey ∧ F[p]? = some st ∧ p ≤ f ∧
      toggle es1 (trace F f st.node) = toggle es (trace F F.length tg) ∧ (∀ j sj, j ≤ p → j ≠ 0 → F[j]? = some sj → ∃ e ∈ es1, DirE e sj),
      ⟨_, none, es, F.length, k0, st0, rfl, by rw [e0]; rfl, SL.refl, hua, rfl, (List.getElem?_eq_getElem hk0).trans (congrArg some ek0), Nat.le_of_lt hk0, by rw [e0], fun j sj _ hj0 hj => (wy.pr j sj hj hj0).1⟩, ?_⟩
    rintro m σ H1 ⟨v4, es1, f, p, st, rfl, rfl, sl, hu1, hkeys, hp, hpf, htr, hdir⟩
    have nd1 : (es1.map ekey).Nodup := by rw [hkeys]; exact nd
    have hkd1 : H1 kd = some (.dK kvs) := sl _ _ nkd hkd
    have tp := sl.tups hua
    rcases kat_get (i := st.node) hK with ⟨ni, _⟩ | ⟨s2, v2, hs2, es2, _, ev, hka⟩
    · exact absurd (List.mem_map.mpr ⟨st, List.mem_of_getElem? hp, rfl⟩) ni
    have ess : s2 = st := by
      obtain ⟨j, hj, ej⟩ := List.getElem_of_mem hs2
      have hj2 : F[j]? = some s2 := (List.getElem?_eq_getElem hj).trans (congrArg some ej)
      have g1 : (F.map fun s => s.node)[j]? = some st.node := by rw [List.getElem?_map, hj2, ← es2]; rfl
      have g2 : (F.map fun s => s.node)[p]? = some st.node := by rw [List.getElem?_map, hp]; rfl
      have := nodup_ix' wy.nd g1 g2
      subst this
      rw [hp] at hj2
      exact (Option.some.inj hj2).symm
    subst ess
    refine ⟨_, rfl, _, rfl, kd, v2, rfl, ev ▸ DGet.k (k := Sum.inl (s2.node : Int)) hkd1, rfl, _, rfl, ?_⟩
    rcases hka.2 with ⟨z1, z2⟩ | ⟨z1, t, pl, e, z2, z3, z4, z5⟩
    · have z2 : v2 = .non := z2
      subst z2
      refine iteF ?_
      rw [z1, trace_zero, toggle_nil] at htr
      rw [htr] at hu1
      exact k _ sl hu1
    · have z2 : v2 = .ref t := z2
      subst z2
      refine iteT ⟨_, fun σ' H' h => h, ?_⟩
      have p0 : p ≠ 0 := fun z => z1 ((wy.pos hp).mpr z)
      obtain ⟨_, p2, sp, hp2, hsp, esp⟩ := wy.pr p s2 hp p0
      obtain ⟨d, hd, dd⟩ : ∃ d, es1[pl]? = some d ∧ ekey d = ekey e := by
        have g : (es1.map ekey)[pl]? = some (ekey e) := by rw [hkeys, List.getElem?_map, z4]; rfl
        rw [List.getElem?_map] at g
        obtain ⟨d, q1, q2⟩ := Option.map_eq_some_iff.mp g
        exact ⟨d, q1, q2⟩
      have hub : (usedL es1)[pl]? = some (.bl d.used) := by unfold usedL; rw [List.getElem?_map, hd]; rfl
      have hpl : pl < (usedL es1).length := (List.getElem?_eq_some_iff.mp hub).1
      obtain ⟨f', rfl⟩ : ∃ f', f = f' + 1 := ⟨f - 1, by omega⟩
      have fr := key_fresh (f := f') wy nd1 hp p0 hp2 hsp hdir
      rw [trace_step wy hp p0, ← esp, toggle_cons _ fr] at htr
      have eset : toggle es1 [skey s2] = es1.set pl { d with used := !d.used } := by rw [← z5, ← dd]; exact toggle_one nd1 hd
      refine ⟨_, rfl, _, rfl, kd, .ref t, rfl, ev ▸ DGet.k (k := Sum.inl (s2.node : Int)) hkd1, t, _, rfl, SqT.of (tp _ _ z3), rfl, _, _, rfl, _, _, rfl, rfl, ?_⟩
      refine ⟨_, rfl, _, rfl, ua, _, _, _, rfl, rfl, SqL.of hu1, atI_nat hub, _, rfl, _, rfl, _, rfl, ua, _, _, pl, rfl, rfl, hu1, ?_, ?_⟩
      · unfold ixN
        rw [if_pos (by omega), if_pos (by omega)]
        simp
      · refine ⟨p2 + 1, by omega, _, es1.set pl { d with used := !d.used }, f', p2, sp, rfl, by rw [esp]; rfl, sl.put, by rw [upd_same, usedL_set], by rw [← eset, toggle_keys, hkeys], hsp, by omega, by rw [← eset]; exact htr, ?_⟩
        rw [← eset]
        exact dir_after nd1 wy hp p0 hp2 hdir
end
end Sh


set_option maxHeartbeats 2000000
namespace Sh
open PySem PySem.Spec PyProof.Rows L2
open Vbxlaa (fieldsOf rootsOf rootValues clientAt edgesFrom edgesOf numberIn stepsFrom residual meetSteps trace toggle sourceSide cutOf)
/-- v is the label of a reference -/
def LabAt (H : Hp) (v : V) (e : VE) : Prop := ∃ lt, v = .ref lt ∧ H lt = some (.tup [.int (e.source : Nat), .int (e.index : Nat)])
theorem LabAt.keep {H H' : Hp} {v : V} {e : VE} (h : LabAt H v e) (t : Tups H H') : LabAt H' v e := by
  obtain ⟨l, e, h1⟩ := h
  exact ⟨l, e, t _ _ h1⟩
def keyOf (H : Hp) (v : V) : Int × Int := match v with
  | .ref t => match H t with
    | some (.tup [.int a, .int b]) => (a, b)
    | _ => (0, 0)
  | _ => (0, 0)
theorem LabAt.key {H : Hp} {v : V} {e : VE} (h : LabAt H v e) : keyOf H v = ((e.source : Int), (e.index : Int)) := by
  obtain ⟨l, rfl, h1⟩ := h
  unfold keyOf
  dsimp only
  rw [h1]
theorem pair_mem {α β : Type} {F : α → β → Prop} {x : α} : ∀ {xs : List α} {us : List β}, Paired F xs us → x ∈ xs → ∃ u ∈ us, F x u
  | _, _, .nil, h => by cases h
  | _, _, .cons r t, h => by
    rcases List.mem_cons.mp h with rfl | h
    · exact ⟨_, List.mem_cons_self, r⟩
    · obtain ⟨u, hu, hf⟩ := pair_mem t h
      exact ⟨u, List.mem_cons_of_mem _ hu, hf⟩
theorem pair_mapr {α β : Type} {F : α → β → Prop} {g : β → β} (hg : ∀ x u, F x u → F x (g u)) : ∀ {xs : List α} {us : List β}, Paired F xs us → Paired F xs (us.map g)
  | _, _, .nil => .nil
  | _, _, .cons r t => .cons (hg _ _ r) (pair_mapr hg t)
theorem refs_toggle {H : Hp} {rvs : List V} {es : List VE} (l : List (Nat × Nat)) (h : Paired (RefAt H) rvs es) : Paired (RefAt H) rvs (toggle es l) := by
  rw [toggle_map]
  exact pair_mapr (F := RefAt H) (g := fun e => flip (l.contains (ekey e)) e) (fun v e z => by
    obtain ⟨t, lt, e1, h1, h2⟩ := z
    obtain ⟨f1, f2, f3⟩ := flip_src (l.contains (ekey e)) e
    exact ⟨t, lt, e1, by rw [f1, f2]; exact h1, by rw [f1, f3]; exact h2⟩) h
theorem labs_sorted {H : Hp} : ∀ {xs : List V} {es : List VE}, Paired (LabAt H) xs es → es.Pairwise (fun a b => lexLt (ekey a) (ekey b)) → SrtO.Srtd (ltP (keyOf H)) xs
  | _, _, .nil, _ => .nil
  | x :: xs, e :: es, .cons r t, h => by
    rw [List.pairwise_cons] at h
    refine .cons (fun y hy => ?_) (labs_sorted t h.2)
    obtain ⟨d, hd, dl⟩ := pair_mem t hy
    have := h.1 d hd
    refine SrtO.lexB_no.mpr ?_
    rw [r.key, dl.key]
    unfold lexLt ekey at this
    dsimp only at this ⊢
    omega
def flatE (es : List VE) : List Nat := es.flatMap fun e => [e.source, e.index]
theorem flatE_len : ∀ es : List VE, (flatE es).length = 2 * es.length
  | [] => rfl
  | e :: es => by
    have := flatE_len es
    show (flatE es).length + 2 = 2 * (es.length + 1)
    omega
theorem flatE_more {es : List VE} {j : Nat} {e : VE} (h : es[j]? = some e) : flatE (es.take (j + 1)) = flatE (es.take j) ++ [e.source, e.index] := by
  obtain ⟨hj, eq⟩ := List.getElem?_eq_some_iff.mp h
  unfold flatE
  rw [List.take_succ_eq_append_getElem hj, eq, List.flatMap_append, List.flatMap_cons, List.flatMap_nil, List.append_nil]
section
variable {P : Program} {w : World} {K : PySem.W.Frag} {mg : Str → Option Value} {base : Heap} {ad : Ad}
def cutL (S : VSt) (c : VC) (i : Nat) : List Nat := flatE (cutOf (edgesOf S c) ((Vbxlaa.walk S (rootValues c)).length + 1) (numberIn (Vbxlaa.walk S (rootValues c)) i))
def spCutOf (K : PySem.W.Frag) (ad : Ad) : Sp := fun vs H Q _ => ∃ (sa : Addr) (nm : Nat → Int) (ro : Rm) (b : Bool) (S : VSt) (R : Nat → Prop) (n : Nat) (c : VC) (i : Nat), vs = [.ref sa, .int (n : Nat), .int (nm i)] ∧ StoreAt K ad nm ro H b sa S ∧ Wf S R ∧ 1 ≤ n ∧ S.clients[n - 1]? = some c ∧ i ∈ Vbxlaa.walk S (rootValues c) ∧
  ∀ H' p, Same H H' → H p = none → (cutL S c i).length ≤ 500 → H' p = some (.lst (nI (cutL S c i))) → Q (.ref p) H'
theorem ok_cut_of (T : Tx K mg ad) (D : Df K mg "cut_of" s_cut_of ["store", "number", "name"]) (G_references_of : Ok P w K mg base 4 "references_of" ["store", "number"] (spReferencesOf K ad)) (G_client_walk : Ok P w K mg base 3 "client_walk" ["store", "number"] (spClientWalk K ad))
    (G_spread : Ok P w K mg base 2 "spread" ["references", "used"] spSpread) (G_lead_more : Ok P w K mg base 1 "lead_more" ["used", "reached", "target"] spLeadMore) : Ok P w K mg base 5 "cut_of" ["store", "number", "name"] (spCutOf K ad) := by
  refine D.ok c_cut_of (fun vs H Q E h => ?_) (fun f cdv A outer s H vs Q E hr h => ?_)
  · obtain ⟨sa, nm, ro, b, S, R, n, c, i, rfl, _⟩ := h
    rfl
  · refine ⟨_,
      (pss_cons (ps_set (i := 3) c_cut_of.nd rfl (Or.inl rfl) (pe_c G_references_of hr (L2N.takes_of rfl rfl rfl rfl) (pa_cons (pv 0) (pa_cons (pv 1) pa_nil))))
        (pss_cons (ps_set (i := 4) c_cut_of.nd rfl (Or.inl rfl) (pe_op op_add (pe_bm PySem.F.plainAttrs_list PySem.F.slot_list_index PySem.F.type_list_index mt_index (pe_c G_client_walk hr (L2N.takes_of rfl rfl rfl rfl) (pa_cons (pv 0) (pa_cons (pv 1) pa_nil))) (pa_cons (pv 2) pa_nil)) pe_int))
        (pss_cons (ps_set (i := 5) c_cut_of.nd rfl (Or.inl rfl) (pe_op op_rep (pe_lst (pa_cons pe_bl pa_nil)) (pe_callB call_len_seq (by rfl) T.b_len (by decide +kernel) (pa_cons (pv 3) pa_nil))))
        (pss_cons (ps_set (i := 6) c_cut_of.nd rfl (Or.inr rfl) (pe_c G_spread hr (L2N.takes_of rfl rfl rfl rfl) (pa_cons (pv 3) (pa_cons (pv 5) pa_nil))))
        (pss_cons (ps_while (passes_of rfl) (pt_cmp (pc_din (hu_of hr) (pv 4) (pv 6)))
          (pss_cons (ps_expr (pe_c G_lead_more hr (L2N.takes_of rfl rfl rfl rfl) (pa_cons (pv 5) (pa_cons (pv 6) (pa_cons (pv 4) pa_nil)))))
          (pss_one (ps_set (i := 6) c_cut_of.nd rfl (Or.inr rfl) (pe_c G_spread hr (L2N.takes_of rfl rfl rfl rfl) (pa_cons (pv 3) (pa_cons (pv 5) pa_nil)))))))
        (pss_cons (ps_setLc (i := 8) (own := [("begin", 10), ("end", 11), ("label", 7)]) (g := (gTup K 3 (gCons (gName 10) (gCons (gName 11) (gCons (gName 7) gNil))))) rfl c_cut_of.nd rfl rfl (sw_true rfl rfl rfl (by decide +kernel)) (pi_list (pv 3)) (blkOk_by (own := [("begin", 10), ("end", 11), ("label", 7)]) (N := ["store", "number", "name", "references", "target", "used", "reached", "label", "labels", "found", "begin", "end"]) (sc := defScope s_cut_of) (by decide +kernel)) (fun _ _ _ _ _ => by exact (pg_tup rfl (pgs_cons (pg_name (i := 10) c_cut_of.nd rfl (Or.inl rfl)) (pgs_cons (pg_name (i := 11) c_cut_of.nd rfl (Or.inl rfl)) (pgs_cons (pg_name (i := 7) c_cut_of.nd rfl (Or.inl rfl)) pgs_nil))))) (fun _ _ _ _ _ => by exact (pts_one (PW.pt (pw_and (pt_cmp (pc_din (hu_of hr) (pv 10) (pv 6))) (pw_and1 (pt_cmp (pc_dnotin (hu_of hr) (pv 11) (pv 6)))))))) (fun _ _ _ _ _ => by exact (pv 7)))
        (pss_cons (ps_set (i := 9) c_cut_of.nd rfl (Or.inl rfl) (pe_lst pa_nil))
        (pss_cons (ps_for (passes_of rfl) rfl (pi_list (pe_callB cr_sortedPO (by rfl) T.b_sorted (by decide +kernel) (pa_cons (pv 8) pa_nil))) (pg_name (i := 7) c_cut_of.nd rfl (Or.inl rfl))
          (pss_one (ps_expr (pe_bm PySem.F.plainAttrs_list PySem.F.slot_list_extend PySem.F.type_list_extend mt_extend (pv 9) (pa_cons (pe_lst (pa_cons (pe_ix ix_tup (pv 7) pe_int (fun _ _ => rfl)) (pa_cons (pe_ix ix_tup (pv 7) pe_int (fun _ _ => rfl)) pa_nil))) pa_nil)))))
        (pss_one (ps_ret (pv 9)))))))))))
      , ?_⟩
    obtain ⟨sa, nm, ro, b, S, R, n, c, i, rfl, hS, wf, hn, hcl, him, k⟩ := h
    have cm := List.mem_of_getElem? hcl
    have cok := wf.cok cm
    obtain ⟨_, _, _, _, _, _, _, nk⟩ := hS.raw
    have inj := nk.inj
    obtain ⟨fu, fu2⟩ := walk_full wf (roots_live wf cm)
    have hml := live_len wf fu.nd fu.lv
    have hol := wf.ol
    have hmx := wf.mx
    have hro := roots_le cok
    have hbd := edges_bound wf cm
    have hle0 : (edgesOf S c).length ≤ 210 := by
      have h1 := edgesFrom_le (Vbxlaa.walk S (rootValues c)) 0 (rootsOf c)
      have h2 := behind_le wf (met := Vbxlaa.walk S (rootValues c)) (l := (Vbxlaa.walk S (rootValues c)).zipIdx) fun x hx => fu.lv x.1 (List.mem_of_getElem? (List.mem_zipIdx_iff_getElem?.mp hx))
      rw [List.length_zipIdx] at h2
      rw [edgesOf_eq, List.length_append]
      omega
    unfold cutL at k
    generalize hN : (Vbxlaa.walk S (rootValues c)).length + 1 = N at *
    have htg0 := numberIn_le fu.nd him
    obtain ⟨ji, hji, eji⟩ := List.getElem_of_mem him
    have hji2 : (Vbxlaa.walk S (rootValues c))[ji]? = some i := (List.getElem?_eq_getElem hji).trans (congrArg some eji)
    have etg := numberIn_get fu.nd hji2
    refine ⟨_, rfl, _, rfl, sa, nm, ro, b, S, R, n, c, rfl, hS, wf, hn, hcl, fun H1 p1 rvs s1 np1 hp1 hR => ?_⟩
    refine ⟨_, rfl, _, rfl, sa, nm, ro, b, S, R, n, c, rfl, hS.same s1, wf, hn, hcl, fun H2 p2 s2 np2 hp2 => ?_⟩
    refine ⟨.inl ⟨rfl, _, SqL.of hp2⟩, _, rfl, p2, _, _, ji, .int (nm i), rfl, rfl, SqL.of hp2, rfl, ?_, ?_, ?_, ?_, ?_⟩
    · rw [show ((Vbxlaa.walk S (rootValues c)).map fun i => V.int (nm i)) = ((Vbxlaa.walk S (rootValues c)).map nm).map V.int from by rw [List.map_map]; rfl]
      exact flat_ints _
    · rw [List.getElem?_map, hji2]; rfl
    · show (nm i == nm i) = true
      simp
    · intro m z hm hz
      rw [List.getElem?_map] at hz
      obtain ⟨x, hx, rfl⟩ := Option.map_eq_some_iff.mp hz
      have : x ≠ i := fun e => by
        subst e
        have := nodup_ix' fu.nd hx hji2
        omega
      show (nm x == nm i) = false
      exact beq_eq_false_iff_ne.mpr fun e => this (inj _ _ e)
    refine ⟨_, _, rfl, rfl, ?_⟩
    have etg2 : ((ji : Int) + 1) = ((numberIn (Vbxlaa.walk S (rootValues c)) i : Nat) : Int) := by omega
    generalize htg : numberIn (Vbxlaa.walk S (rootValues c)) i = tg at *
    have hrl : rvs.length = (edgesOf S c).length := Paired.length hR
    have s12 := s1.trans s2
    -- used
    refine ⟨leLine (by show 1 ≤ 1000; decide), fun l0 n0 => ⟨_, rfl, p1, rvs, rfl, .inl (SqL.of (((s2.trans (Same.new n0)) _ _ hp1))), l0, _, _, rfl, rfl, upd_same, by omega, by omega, leLine (by show 1 * _ ≤ 1000; omega), fun ua nua => ?_⟩⟩
    have s3 : Same H2 (upd H2 l0 (.lst [.bl false])) := Same.new n0
    have eused : (List.replicate ((rvs.length : Int)).toNat [V.bl false]).flatten = usedL (edgesOf S c) := by
      rw [rep_flat, Int.toNat_natCast, hrl]
      unfold usedL
      refine (List.eq_replicate_iff.mpr ⟨by rw [List.length_map], fun v hv => ?_⟩).symm
      obtain ⟨e, he, rfl⟩ := List.mem_map.mp hv
      rw [edges_used e he]
    rw [eused]
    have s4 := s3.trans (Same.new (o := .lst (usedL (edgesOf S c))) nua)
    have s04 := s12.trans s4
    have nu0 : H ua = none := (s12.trans s3).free nua
    have npu : p1 ≠ ua := ne_of_none ((s2.trans s3) _ _ hp1) nua
    refine ⟨_, rfl, _, rfl, p1, ua, edgesOf S c, rvs, N, rfl, (s2.trans s4) _ _ hp1, Paired.mapP hR fun _ _ z => z.keep (Same.tups (s2.trans s4)), upd_same, by omega, fun e he => ⟨(hbd e he).1, (hbd e he).2.1⟩, by omega, by omega, fun H5 kd kvs s5 nkd hkd hK wy => ?_⟩
    have s05 := s04.trans s5
    have hp15 := (s2.trans (s4.trans s5)) _ _ hp1
    have hR5 := Paired.mapP hR fun _ _ z => z.keep (Same.tups (s2.trans (s4.trans s5)))
    have hu5 := s5 _ _ (upd_same (H := upd H2 l0 (.lst [.bl false])) (a := ua) (o := .lst (usedL (edgesOf S c))))
    have hc0 : cnt (edgesOf S c) = 0 := by
      unfold cnt
      rw [List.countP_eq_zero]
      intro e he
      rw [edges_used e he]
      simp
    refine ⟨fun m σ H6 => ∃ (es1 : List VE) (kd1 : Addr) (kvs1 : List (Key × V)) (f : Nat) (v7 v8 v9 v10 v11 : Option V), m = f + 1 ∧ σ = [some (.ref sa), some (.int (n : Nat)), some (.int (nm i)), some (.ref p1), some (.int (tg : Nat)), some (.ref ua), some (.ref kd1), v7, v8, v9, v10, v11] ∧ Same H H6 ∧ H6 p1 = some (.lst rvs) ∧
      Paired (RefAt H6) rvs (edgesOf S c) ∧ Paired (RefAt H6) rvs es1 ∧ H6 ua = some (.lst (usedL es1)) ∧ H6 kd1 = some (.dK kvs1) ∧ Paired (KAt es1 H6) kvs1 (residual es1 N) ∧ Ways es1 N (residual es1 N) ∧ es1.map ekey = (edgesOf S c).map ekey ∧ (∀ e ∈ es1, e.source < N ∧ e.target < N ∧ e.target ≠ 0) ∧
      sourceSide N tg f es1 = sourceSide N tg (tot (edgesOf S c)) (edgesOf S c) ∧ f + cnt es1 = tot es1, ⟨_, edgesOf S c, kd, kvs, tot (edgesOf S c), none, none, none, none, none, rfl, by rw [← etg2]; rfl, s05, hp15, hR5, hR5, hu5, hkd, hK, wy, rfl, hbd, rfl, by rw [hc0]; rfl⟩, ?_⟩
    rintro m σ H6 ⟨es1, kd1, kvs1, f, v7, v8, v9, v10, v11, rfl, rfl, s06, hp16, hR6, hR6', hu6, hkd6, hK6, wy6, hkeys, hb6, hside, hfc⟩
    have nd1 : (es1.map ekey).Nodup := by rw [hkeys]; exact edges_nodup cok
    have hel1 : es1.length = (edgesOf S c).length := by have := congrArg List.length hkeys; rwa [List.length_map, List.length_map] at this
    refine ⟨_, rfl, _, rfl, kd1, _, rfl, DGet.k (k := Sum.inl (tg : Int)) hkd6, _, rfl, ?_⟩
    rcases kat_get (i := tg) hK6 with ⟨ni, ev⟩ | ⟨st, v, hst, est, ii, ev, _⟩
    · rw [ev]
      refine iteF ?_
      rw [side_stop ni f] at hside
      have ecut : cutOf (edgesOf S c) N tg = (edgesOf S c).filter fun e => ((residual es1 N).map fun s => s.node).contains e.source && !((residual es1 N).map fun s => s.node).contains e.target := by
        rw [hside]
        rfl
      rw [ecut] at k
      have hmem : ∀ x : Nat, (((residual es1 N).map fun s => s.node).contains x = false ∧ valV kvs1 (.inl (x : Int)) = none) ∨ (((residual es1 N).map fun s => s.node).contains x = true ∧ ∃ v, valV kvs1 (.inl (x : Int)) = some v) := fun x => by
        rcases kat_get (i := x) hK6 with ⟨n1, e1⟩ | ⟨_, v, _, _, n1, e1, _⟩
        · exact .inl ⟨by simpa using n1, e1⟩
        · exact .inr ⟨by simpa using n1, v, e1⟩
      generalize hsd : ((residual es1 N).map fun s => s.node) = side at *
      refine ⟨_, rfl, p1, rfl, ⟨_, SqL.of hp16⟩, fun L nL => lc_list (K := K) (a := p1) (xs := rvs) (fun j H7 => ∃ acc, Bld H6 L acc H7 ∧ acc.length ≤ j ∧ Paired (LabAt H7) acc (((edgesOf S c).take j).filter fun e => side.contains e.source && !side.contains e.target)) ⟨[], Bld.start nL, Nat.zero_le _, .nil⟩ (fun j H7 _ ⟨_, hB, _⟩ => SqL.of (hB.sm _ _ hp16)) ?_ ?_⟩
      · rintro j x H7 hj ⟨acc, hB, hal, hP⟩
        obtain ⟨e, he, t, lt, rfl, d1, d2⟩ := pair_get' hR6 hj
        have hj2 : j < (edgesOf S c).length := (List.getElem?_eq_some_iff.mp he).1
        have et : (edgesOf S c).take (j + 1) = (edgesOf S c).take j ++ [e] := by
          obtain ⟨hq, e1⟩ := List.getElem?_eq_some_iff.mp he
          rw [List.take_succ_eq_append_getElem hq, e1]
        have hk7 := hB.sm _ _ hkd6
        refine ⟨t, _, rfl, SqT.of (hB.sm _ _ d1), rfl, _, _, rfl, _, _, rfl, _, _, rfl, rfl, rfl, ?_⟩
        refine ⟨_, rfl, _, rfl, kd1, _, rfl, DGet.k (k := Sum.inl (e.source : Int)) hk7, _, rfl, ?_⟩
        rcases hmem e.source with ⟨m1, ev1⟩ | ⟨m1, v1, ev1⟩
        · rw [ev1]
          refine iteF (iteF ⟨acc, hB, by omega, ?_⟩)
          rw [et, List.filter_append, List.filter_cons, m1]
          simpa using hP
        · rw [ev1]
          refine iteT ⟨_, rfl, _, rfl, kd1, _, rfl, DGet.k (k := Sum.inl (e.target : Int)) hk7, _, rfl, ?_⟩
          rcases hmem e.target with ⟨m2, ev2⟩ | ⟨m2, v2, ev2⟩
          · rw [ev2]
            refine iteT ⟨_, rfl, acc, hB.at_, small1000 (by omega), acc ++ [.ref lt], hB.put nL, by rw [List.length_append, List.length_singleton]; omega, ?_⟩
            rw [et, List.filter_append, List.filter_cons, m1, m2]
            exact pair_snoc (Paired.mapP hP fun _ _ z => z.keep hB.tups) ⟨lt, rfl, hB.tups _ _ (hB.sm _ _ d2)⟩
          · rw [ev2]
            refine iteF ⟨acc, hB, by omega, ?_⟩
            rw [et, List.filter_append, List.filter_cons, m1, m2]
            simpa using hP
      · rintro H7 ⟨acc, hB, hal, hP⟩
        rw [hrl, List.take_length] at hP
        refine ⟨leLine (by decide), fun L2 nL2 => ?_⟩
        have s08 : Same H (upd H7 L2 (.lst [])) := (s06.trans hB.sm).trans (Same.new nL2)
        have hL8 : (upd H7 L2 (.lst [])) L = some (.lst acc) := Same.new nL2 _ _ hB.at_
        have hP8 := Paired.mapP hP fun _ _ z => z.keep (Tups.new (o := .lst []) nL2)
        have nL20 : H L2 = none := (s06.trans hB.sm).free nL2
        refine ⟨_, rfl, L, acc, keyOf (upd H7 L2 (.lst [])), rfl, SqL.of hL8, fun x hx => ?_, fun ys q srt stb nq => ?_⟩
        · obtain ⟨e, _, he⟩ := pair_mem hP8 hx
          have hk := he.key
          obtain ⟨lt, rfl, h1⟩ := he
          exact ⟨lt, rfl, by rw [hk]; exact h1⟩
        have eys := SrtO.stb_uniq (ltP_swo _) srt (labs_sorted hP8 ((edges_sorted cok).filter _)) stb
        subst eys
        have hcl2 : ys.length ≤ 210 := by rw [Paired.length hP8]; exact Nat.le_trans (List.length_filter_le _ _) hle0
        have s9 : Same (upd H7 L2 (.lst [])) (upd (upd H7 L2 (.lst [])) q (.lst ys)) := Same.new nq
        have nqL : q ≠ L2 := Ne.symm (ne_of_none upd_same nq)
        refine ⟨q, rfl, ⟨_, SqL.of upd_same⟩, ?_⟩
        refine for_list (K := K) (a := q) (xs := ys) (fun j σ H9 => ∃ (v7 v10 v11 : Option V), σ = [some (.ref sa), some (.int (n : Nat)), some (.int (nm i)), some (.ref p1), some (.int (tg : Nat)), some (.ref ua), some (.ref kd1), v7, some (.ref L), some (.ref L2), v10, v11] ∧ SL L2 (upd (upd H7 L2 (.lst [])) q (.lst ys)) H9 ∧
            H9 L2 = some (.lst (nI (flatE (((edgesOf S c).filter fun e => side.contains e.source && !side.contains e.target).take j)))))
          ⟨v7, v10, v11, rfl, SL.refl, s9 _ _ upd_same⟩ (fun j σ H9 _ ⟨_, _, _, _, sl, _⟩ => SqL.of (sl _ _ nqL upd_same)) ?_ ?_
        · rintro j x σ H9 hj ⟨v7, v10, v11, rfl, sl, hL9⟩
          obtain ⟨e, he, lt, rfl, h1⟩ := pair_get' hP8 hj
          have tp := sl.tups (s9 _ _ upd_same)
          have hlt := tp _ _ (s9 _ _ h1)
          have hj2 : j < ys.length := (List.getElem?_eq_some_iff.mp hj).1
          refine ⟨_, rfl, .inl ⟨rfl, _, SqL.of hL9⟩, _, rfl, lt, _, _, _, rfl, rfl, SqT.of hlt, rfl, _, rfl, lt, _, _, _, rfl, rfl, SqT.of hlt, rfl, leLine (by show 2 ≤ 1000; decide), fun q2 nq2 => ?_⟩
          have s10 : Same H9 (upd H9 q2 (.lst [.int (e.source : Nat), .int (e.index : Nat)])) := Same.new nq2
          have hfl := flatE_len (((edgesOf S c).filter fun e => side.contains e.source && !side.contains e.target).take j)
          rw [List.length_take] at hfl
          refine ⟨L2, q2, _, _, rfl, rfl, s10 _ _ hL9, upd_same, leLine (by rw [nI_length]; show _ + 2 ≤ 1000; omega), ?_⟩
          refine ⟨_, _, _, rfl, (sl.trans (SL.same s10)).put, ?_⟩
          rw [upd_same, flatE_more he]
          unfold nI
          rw [List.map_append]
          rfl
        · rintro σ H9 ⟨v7, v10, v11, rfl, sl, hL9⟩
          rw [Paired.length hP8, List.take_length] at hL9
          refine ⟨_, rfl, k _ L2 (SL.whole (s08.trans s9) nL20 sl) nL20 ?_ hL9⟩
          rw [flatE_len]
          exact Nat.le_trans (Nat.mul_le_mul_left 2 (Nat.le_trans (List.length_filter_le _ _) hle0)) (by decide)
    · rw [ev]
      refine iteT ⟨_, fun σ' H' h => h, ?_⟩
      obtain ⟨k0, hk0, ek0⟩ := List.getElem_of_mem hst
      have hk02 : (residual es1 N)[k0]? = some st := (List.getElem?_eq_getElem hk0).trans (congrArg some ek0)
      have htne : tg ≠ 0 := htg0.1
      have hk00 : k0 ≠ 0 := fun z => htne (by rw [← est]; exact (wy6.pos hk02).mpr z)
      have hct := cnt_trace wy6 (residual es1 N).length k0 st es1 nd1 hk02 hk00 (Nat.le_of_lt hk0) (fun j sj _ hj0 hj => (wy6.pr j sj hj hj0).1) (fun e he => (hb6 e he).2.2)
      rw [est] at hct
      have hcl3 := cnt_le (toggle es1 (trace (residual es1 N) (residual es1 N).length tg))
      have htt := tot_toggle es1 (trace (residual es1 N) (residual es1 N).length tg)
      obtain ⟨f', rfl⟩ : ∃ f', f = f' + 1 := ⟨f - 1, by omega⟩
      rw [side_go ii] at hside
      refine ⟨_, rfl, _, rfl, _, rfl, ua, kd1, tg, N, es1, residual es1 N, kvs1, rfl, hu6, hkd6, hK6, wy6, nd1, ii, fun H7 sl7 hu7 => ?_⟩
      have tp7 := sl7.tups hu6
      have s07 : Same H H7 := SL.whole s06 nu0 sl7
      have hR7 := refs_toggle (trace (residual es1 N) (residual es1 N).length tg) (Paired.mapP hR6' fun _ _ z => z.keep tp7)
      have hb7 : ∀ e ∈ toggle es1 (trace (residual es1 N) (residual es1 N).length tg), e.source < N ∧ e.target < N ∧ e.target ≠ 0 := fun e he => by
        rw [toggle_map] at he
        obtain ⟨d, hd, rfl⟩ := List.mem_map.mp he
        obtain ⟨f1, f2, _⟩ := flip_src ((trace (residual es1 N) (residual es1 N).length tg).contains (ekey d)) d
        rw [f1, f2]
        exact hb6 d hd
      have hel2 : (toggle es1 (trace (residual es1 N) (residual es1 N).length tg)).length = es1.length := by rw [toggle_map, List.length_map]
      refine ⟨_, rfl, _, rfl, p1, ua, toggle es1 (trace (residual es1 N) (residual es1 N).length tg), rvs, N, rfl, sl7 _ _ npu hp16, hR7, hu7, by omega, fun e he => ⟨(hb7 e he).1, (hb7 e he).2.1⟩, by omega, by omega, fun H8 kd2 kvs2 s8 nkd2 hkd2 hK8 wy8 => ?_⟩
      refine ⟨f' + 1, by omega, _, kd2, kvs2, f', v7, v8, v9, v10, v11, rfl, rfl, s07.trans s8, s8 _ _ (sl7 _ _ npu hp16), Paired.mapP hR6 fun _ _ z => z.keep (tp7.trans (Same.tups s8)), Paired.mapP hR7 fun _ _ z => z.keep (Same.tups s8), s8 _ _ hu7, hkd2, hK8, wy8, by rw [toggle_keys, hkeys], hb7, hside, by omega⟩
end
end Sh


set_option maxHeartbeats 2000000
/-! R7: own exceptions with one field, in bundles. -/
namespace Sh
open PySem PySem.Spec PyProof.Rows L2
section
variable (P : Program) (w : World) (K : PySem.W.Frag) (mg : Str → Option Value) (base : Heap)
/-- the own exception class x, its __init__ keeping sp -/
structure OkE (k : Nat) (x f : Str) (C fI : Addr) (ps : List Str) (sp : Sp) : Prop where
  cl : EC K mg x f C fI
  ex : ∃ fd, FnOk P w K mg base (L2N.CX P w) k fI fd ps sp ∧ Binds K fd ps []
end
/-- the __init__ of the text -/
structure De (K : PySem.W.Frag) (fI : Addr) (qual : Str) (st : Stmt) (ps : List Str) : Prop where
  ex : ∃ fd, Fun K "__init__" qual st fI fd ∧ Binds K fd ps []
section
variable {P : Program} {w : World} {K : PySem.W.Frag} {mg : Str → Option Value} {base : Heap}
theorem De.ok {x g : Str} {C fI : Addr} {qual : Str} {st : Stmt} {N ps : List Str} {k : Nat} {sp : Sp} (cl : EC K mg x g C fI) (D : De K fI qual st ps) (S : FnScope N ps (defScope st)) (len : ∀ vs H Q E, sp vs H Q E → vs.length = ps.length)
    (hbody : ∀ (f : Addr) (cdv : Value) (A : Around) (outer : List Env) (s : Shared) (H : Hp) (vs : List V) (Q : VK) (E : XK), Room k (A.deeper (envOfC qual (defScope st) s.heap.objs.size f cdv)) → sp vs H Q E →
      ∃ t, PSs (cxOf (L2N.CX P w) P w K mg base N qual (defScope st) f cdv A outer s H E) (defBody st) t ∧ t { nx := fun _ H' => Q .non H', rt := Q } (start N vs) H) : OkE P w K mg base (k + 1) x g C fI ps sp := by
  obtain ⟨fd, F, hb⟩ := D.ex
  exact ⟨cl, fd, fun_okN F S len fun cdv A outer s H vs Q E hr h => hbody fI cdv A outer s H vs Q E hr h, hb⟩
end
section
variable {X : Cx} {e : Expr} {es : List Expr} {ta : TA} {p pos : Pos} {x g : Str} {C fI : Addr} {j k : Nat} {ps : List Str} {sp : Sp}
theorem pmk_ok (G : OkE X.prog X.w X.K X.mg X.base j x g C fI ps sp) (hr : Room (k + 1) X.A) (ha : PA X (e :: es) ta) (hj : j ≤ k := by decide) (hg : Gl X x := by rfl)
    (hdb : (x == ("__debug__" : Str)) = false := by decide) (he : starEach (e :: es) X.env = (false, eval e X.env) :: starEach es X.env := by rfl) (hpl : (backTo pos (starEach es X.env)).any (·.1) = false := by rfl) :
    L2N.PMk X (.Call (.Name x p) (e :: es) [] pos) (tEmk C sp ta) := by
  obtain ⟨fd, F, hb⟩ := G.ex
  exact pmk_e G.cl F (hr.mono (Nat.succ_le_succ hj)) hb pass_none ha hg hdb he hpl
end
/-- what such an __init__ does -/
def spEInit (f : Str) (C : Addr) : Sp := fun vs H Q _ => ∃ a y, vs = [.ref a, y] ∧ H a = some (exo a C none) ∧ ∀ dx, H dx = none → dx ≠ a → Q .non (upd (upd H dx (exd dx [(f, y)])) a (exo a C (some dx)))
/-- the making, told by its end -/
theorem emk_go {f : Str} {C : Addr} {H : Hp} {y : V} {Q : XK} (q : ∀ H' d, Same H H' → H d = none → H' d = some (.xd [(f, y)]) → Q (.ref C) (some d) H') : ∀ a, H a = none → spEInit f C [.ref a, y] (upd H a (exo a C none))
    (fun v H2 => v = .non ∧ ∃ (d : Addr) (fs : List (Str × V)), H2 a = some (exo a C (some d)) ∧ H2 d = some (exd d fs) ∧ H d = none ∧ Q (.ref C) (some d) (upd (del H2 a) d (.xd fs))) (fun _ _ _ => False) := by
  intro a na
  refine ⟨a, y, rfl, upd_same, fun dx nd ne => ⟨rfl, dx, [(f, y)], upd_same, (upd_ne ne).trans upd_same, (upd_ne ne).symm.trans nd, ?_⟩⟩
  refine q _ dx (fun b o e => ?_) ((upd_ne ne).symm.trans nd) upd_same
  have nb : b ≠ a := ne_of_none e na
  have nb2 : b ≠ dx := ne_of_none e ((upd_ne ne).symm.trans nd)
  rw [upd_ne nb2]
  show (if b = a then none else _) = _
  rw [if_neg nb, upd_ne nb, upd_ne nb2, upd_ne nb]
  exact e
section
variable {P : Program} {w : World} {K : PySem.W.Frag} {mg : Str → Option Value} {base : Heap} {ad : Ad}
theorem ok_Unread_init (T : Tx K mg ad) (D : De K ad.unreadI "Unread.__init__" s_Unread_init ["self", "index"]) : OkE P w K mg base 1 "Unread" "index" ad.unread ad.unreadI ["self", "index"] (spEInit "index" ad.unread) := by
  refine D.ok T.unread c_Unread_init (fun vs H Q E h => ?_) (fun f cdv A outer s H vs Q E hr h => ?_)
  · obtain ⟨a, y, rfl, _⟩ := h
    rfl
  · refine ⟨_,
      (pss_cons (ps_expr (pe_ei T.b_Exception T.v_Exception (pa_cons (pv 0) (pa_cons (pv 1) pa_nil))))
        (pss_one (ps_est (pv 0) (pv 1))))
      , ?_⟩
    obtain ⟨a, y, rfl, ha, k⟩ := h
    refine ⟨_, rfl, _, rfl, _, _, a, _, _, [y], rfl, by show 1 ≤ 1000; decide, T.unread, ha, ?_⟩
    exact ⟨_, rfl, _, rfl, _, a, _, _, rfl, T.unread, ha, k⟩
theorem ok_Refused_init (T : Tx K mg ad) (D : De K ad.refusedI "Refused.__init__" s_Refused_init ["self", "code"]) : OkE P w K mg base 1 "Refused" "code" ad.refused ad.refusedI ["self", "code"] (spEInit "code" ad.refused) := by
  refine D.ok T.refused c_Refused_init (fun vs H Q E h => ?_) (fun f cdv A outer s H vs Q E hr h => ?_)
  · obtain ⟨a, y, rfl, _⟩ := h
    rfl
  · refine ⟨_,
      (pss_cons (ps_expr (pe_ei T.b_Exception T.v_Exception (pa_cons (pv 0) (pa_cons (pv 1) pa_nil))))
        (pss_one (ps_est (pv 0) (pv 1))))
      , ?_⟩
    obtain ⟨a, y, rfl, ha, k⟩ := h
    refine ⟨_, rfl, _, rfl, _, _, a, _, _, [y], rfl, by show 1 ≤ 1000; decide, T.refused, ha, ?_⟩
    exact ⟨_, rfl, _, rfl, _, a, _, _, rfl, T.refused, ha, k⟩
end
end Sh

set_option maxHeartbeats 2000000
namespace Sh
open PySem PySem.Spec PyProof.Rows L2
open Vbxlaa (fieldsOf rootsOf readNumber readNat readValue readValues readMessages readClients readObjects)
abbrev VR := Vbxlaa.Reader
def nm0 (i : Nat) : Int := ((i + 1 : Nat) : Int)
/-- the reader over a text -/
structure RdAt (ad : Ad) (H : Hp) (ra dx ta : Addr) (ts : List Int) (cr mo : Nat) (r : VR) : Prop where
  ha : H ra = some (.ins ad.reader dx [("text", .ref ta), ("at", .int (r.index : Nat)), ("created", .int (cr : Nat)), ("most", .int (mo : Nat)), ("met", .int (r.met : Nat))])
  ht : H ta = some (.lst (ts.map V.int))
  rest : r.rest = ts.drop r.index
  le : r.index ≤ ts.length
  tl : ts.length ≤ 700
theorem RdAt.same {ad : Ad} {H H' : Hp} {ra dx ta : Addr} {ts : List Int} {cr mo : Nat} {r : VR} (h : RdAt ad H ra dx ta ts cr mo r) (s : Same H H') : RdAt ad H' ra dx ta ts cr mo r := ⟨s _ _ h.ha, s _ _ h.ht, h.rest, h.le, h.tl⟩
theorem RdAt.ne {ad : Ad} {H : Hp} {ra dx ta : Addr} {ts : List Int} {cr mo : Nat} {r : VR} (h : RdAt ad H ra dx ta ts cr mo r) : ta ≠ ra := ne_of h.ht h.ha (by intro z; cases z)
/-- what reading ends with -/
def Out {α : Type} (x : Except Nat (α × VR)) (okp : α → VR → Prop) (bad : Nat → Prop) : Prop := match x with
  | .ok p => okp p.1 p.2
  | .error i => bad i
def BadU (ad : Ad) (ra : Addr) (H : Hp) (E : XK) (i : Nat) : Prop := ∀ H' d, SL ra H H' → H' d = some (.xd [("index", .int (i : Nat))]) → E (.ref ad.unread) (some d) H'
theorem BadU.later {ad : Ad} {ra : Addr} {H H1 : Hp} {E : XK} {i : Nat} (h : BadU ad ra H E i) (s : SL ra H H1) : BadU ad ra H1 E i := fun H' d s' e => h H' d (s.trans s') e
section
variable {P : Program} {w : World} {K : PySem.W.Frag} {mg : Str → Option Value} {base : Heap} {ad : Ad}
def spReaderInit (ad : Ad) : Sp := fun vs H Q _ => ∃ x dx ta, vs = [.ref x, .ref ta] ∧ H x = some (.ins ad.reader dx []) ∧ ∀ H', (∀ a o, a ≠ x → H a = some o → H' a = some o) →
  H' x = some (.ins ad.reader dx [("text", .ref ta), ("at", .int 0), ("created", .int 0), ("most", .int 0), ("met", .int 0)]) → Q .non H'
theorem ok_Reader_init (T : Tx K mg ad) (D : Di K mg "Reader" ad.reader "Reader.__init__" s_Reader_init ["self", "text"]) : OkI P w K mg base 1 "Reader" ad.reader ["self", "text"] (spReaderInit ad) := by
  refine D.ok c_Reader_init (fun vs H Q E h => ?_) (fun f cdv A outer s H vs Q E hr h => ?_)
  · obtain ⟨x, dx, ta, rfl, _⟩ := h
    rfl
  · refine ⟨_,
      (pss_cons (ps_fld (pv 0) (pv 1) rfl)
        (pss_cons (ps_fld (pv 0) pe_int rfl)
        (pss_cons (ps_fld (pv 0) pe_int rfl)
        (pss_cons (ps_fld (pv 0) pe_int rfl)
        (pss_one (ps_fld (pv 0) pe_int rfl))))))
      , ?_⟩
    obtain ⟨x, dx, ta, rfl, hx, k⟩ := h
    refine ⟨_, rfl, _, rfl, x, _, dx, _, rfl, hx, T.k_reader, T.n_text, by decide, ?_⟩
    refine ⟨_, rfl, x, _, dx, _, rfl, upd_same, T.k_reader, T.n_at, by show 1 < 1000; decide, ?_⟩
    refine ⟨_, rfl, x, _, dx, _, rfl, upd_same, T.k_reader, T.r_created, by show 2 < 1000; decide, ?_⟩
    refine ⟨_, rfl, x, _, dx, _, rfl, upd_same, T.k_reader, T.n_most, by show 3 < 1000; decide, ?_⟩
    refine ⟨_, rfl, x, _, dx, _, rfl, upd_same, T.k_reader, T.n_met, by show 4 < 1000; decide, ?_⟩
    exact k _ (fun a o na e => by rw [upd_ne na, upd_ne na, upd_ne na, upd_ne na, upd_ne na]; exact e) upd_same
def spNumber (ad : Ad) : Sp := fun vs H Q E => ∃ (ra dx ta : Addr) (ts : List Int) (cr mo : Nat) (r : VR) (lo hi : Int), vs = [.ref ra, .int lo, .int hi] ∧ RdAt ad H ra dx ta ts cr mo r ∧
  Out (readNumber lo hi r) (fun z r' => ∀ H', SL ra H H' → RdAt ad H' ra dx ta ts cr mo r' → lo ≤ z → z ≤ hi → Q (.int z) H') (BadU ad ra H E)
theorem ok_Reader_number (T : Tx K mg ad) (D : Dm K ad.reader "number" "Reader.number" s_Reader_number ["self", "low", "high"]) (G_Unread : OkE P w K mg base 1 "Unread" "index" ad.unread ad.unreadI ["self", "index"] (spEInit "index" ad.unread)) :
    OkM P w K mg base 3 ad.reader "number" ["self", "low", "high"] (spNumber ad) := by
  refine D.ok c_Reader_number (fun vs H Q E h => ?_) (fun f cdv A outer s H vs Q E hr h => ?_)
  · obtain ⟨ra, dx, ta, ts, cr, mo, r, lo, hi, rfl, _⟩ := h
    rfl
  · refine ⟨_,
      (pss_cons (ps_if (PW.pt (pw_or (pt_cmpR op_ge (pe_fld (pv 0) rfl) (pe_callB call_len_seq (by rfl) T.b_len (by decide +kernel) (pa_cons (pe_fld (pv 0) rfl) pa_nil)) (nomark _)) (pw_or1 (pt_not (pt_chain op_le op_le (pv 1) (pe_ix ix_list (pe_fld (pv 0) rfl) (pe_fld (pv 0) rfl) (fun _ _ => rfl)) (pv 2)))))) (pss_one (L2N.ps_raise rfl (L2N.takes_of rfl rfl rfl rfl) (pmk_ok G_Unread hr (pa_cons (pe_fld (pv 0) rfl) pa_nil)))) pss_nil)
        (pss_cons (ps_fld (pv 0) (pe_op op_add (pe_fld (pv 0) rfl) pe_int) rfl)
        (pss_one (ps_ret (pe_ix ix_list (pe_fld (pv 0) rfl) (pe_op op_sub (pe_fld (pv 0) rfl) pe_int) (fun _ _ => rfl))))))
      , ?_⟩
    obtain ⟨ra, dx, ta, ts, cr, mo, r, lo, hi, rfl, hR, k⟩ := h
    have hlen : (ts.map V.int).length = ts.length := List.length_map ..
    refine ⟨_, rfl, ra, _, dx, _, _, rfl, hR.ha, T.k_reader, T.n_at, rfl, _, rfl, ra, _, dx, _, _, rfl, hR.ha, T.k_reader, T.n_text, rfl, ta, _, rfl, .inl (SqL.of hR.ht), _, _, rfl, rfl, _, rfl, ite2 (fun c => ?_) fun c => ?_⟩
    · have c : ts.length ≤ r.index := by have := of_decide_eq_true c; omega
      refine iteT ⟨_, rfl, ra, _, dx, _, _, rfl, hR.ha, T.k_reader, T.n_at, rfl, by show 1 ≤ 1000; decide, emk_go fun H' d s n e => ?_⟩
      have hr0 : r.rest = [] := by rw [hR.rest]; exact List.drop_eq_nil_of_le c
      have e0 : readNumber lo hi r = .error r.index := by
        unfold Vbxlaa.readNumber
        rw [hr0]
      rw [e0] at k
      exact k H' d (SL.same s) e
    · have c : r.index < ts.length := by have := of_decide_eq_false (Bool.eq_false_iff.mpr c); omega
      obtain ⟨z, hz⟩ : ∃ z, ts[r.index]? = some z := ⟨_, List.getElem?_eq_getElem c⟩
      have hz2 : (ts.map V.int)[r.index]? = some (.int z) := by rw [List.getElem?_map, hz]; rfl
      have hr0 : r.rest = z :: ts.drop (r.index + 1) := by
        rw [hR.rest, List.drop_eq_getElem_cons c]
        congr 1
        exact Option.some.inj ((List.getElem?_eq_getElem c).symm.trans hz)
      have e0 : readNumber lo hi r = if lo ≤ z ∧ z ≤ hi then .ok (z, ⟨ts.drop (r.index + 1), r.index + 1, r.met⟩) else .error r.index := by
        unfold Vbxlaa.readNumber
        rw [hr0]
      rw [e0] at k
      refine ⟨_, rfl, _, rfl, ra, _, dx, _, _, rfl, hR.ha, T.k_reader, T.n_text, rfl, _, rfl, ra, _, dx, _, _, rfl, hR.ha, T.k_reader, T.n_at, rfl, ta, _, _, .int z, rfl, rfl, SqL.of hR.ht, atI_nat hz2, _, _, rfl, rfl, _, rfl, ?_⟩
      have bad : ¬ (lo ≤ z ∧ z ≤ hi) → ∀ H' d, Same H H' → H d = none → H' d = some (.xd [("index", .int (r.index : Nat))]) → E (.ref ad.unread) (some d) H' := fun n H' d s _ e => by
        rw [if_neg n] at k
        exact k H' d (SL.same s) e
      by_cases c1 : lo ≤ z
      · rw [show decide (lo ≤ z) = true from decide_eq_true c1]
        refine iteT ⟨_, rfl, _, _, rfl, rfl, _, rfl, ?_⟩
        by_cases c2 : z ≤ hi
        · rw [show decide (z ≤ hi) = true from decide_eq_true c2, if_pos ⟨c1, c2⟩] at *
          refine iteF ?_
          refine ⟨_, rfl, ra, _, dx, _, _, rfl, hR.ha, T.k_reader, T.n_at, rfl, _, _, rfl, rfl, _, rfl, ra, _, dx, _, rfl, hR.ha, T.k_reader, T.n_at, by show 5 < 1000; decide, ?_⟩
          have ht2 : (upd H ra (.ins ad.reader dx (putF "at" (.int ((r.index : Int) + 1)) [("text", .ref ta), ("at", .int (r.index : Nat)), ("created", .int (cr : Nat)), ("most", .int (mo : Nat)), ("met", .int (r.met : Nat))]))) ta = some (.lst (ts.map V.int)) := (upd_ne hR.ne).trans hR.ht
          have ei : ((r.index : Int) + 1) - 1 = ((r.index : Nat) : Int) := by omega
          refine ⟨_, rfl, ra, _, dx, _, _, rfl, upd_same, T.k_reader, T.n_text, rfl, _, rfl, ra, _, dx, _, _, rfl, upd_same, T.k_reader, T.n_at, rfl, _, _, rfl, rfl, ta, _, _, .int z, rfl, rfl, SqL.of ht2, by rw [ei]; exact atI_nat hz2, ?_⟩
          exact k _ SL.refl.put ⟨upd_same, ht2, rfl, c, hR.tl⟩ c1 c2
        · rw [show decide (z ≤ hi) = false from decide_eq_false c2]
          exact iteT ⟨_, rfl, ra, _, dx, _, _, rfl, hR.ha, T.k_reader, T.n_at, rfl, by show 1 ≤ 1000; decide, emk_go (bad fun n => c2 n.2)⟩
      · rw [show decide (lo ≤ z) = false from decide_eq_false c1]
        exact iteF ⟨_, rfl, iteT ⟨_, rfl, ra, _, dx, _, _, rfl, hR.ha, T.k_reader, T.n_at, rfl, by show 1 ≤ 1000; decide, emk_go (bad fun n => c1 n.1)⟩⟩
end
end Sh


set_option maxHeartbeats 2000000
namespace Sh
open PySem PySem.Spec PyProof.Rows L2
open Vbxlaa (fieldsOf rootsOf readNumber readNat readValue readValues readMessages readClients readObjects)
def VOk (mo : Nat) (r : VR) (v : VV) : Prop := ∀ i, v = .object i → i < r.met ∧ i < mo
theorem VOk.more {mo : Nat} {r r' : VR} {v : VV} (h : VOk mo r v) (m : r.met ≤ r'.met) : VOk mo r' v := fun i e => ⟨Nat.lt_of_lt_of_le (h i e).1 m, (h i e).2⟩
theorem readNumber_ok {lo hi : Int} {r r' : VR} {z : Int} (h : readNumber lo hi r = .ok (z, r')) : r'.met = r.met ∧ lo ≤ z ∧ z ≤ hi := by
  unfold Vbxlaa.readNumber at h
  cases e : r.rest with
  | nil => rw [e] at h; cases h
  | cons x l =>
    rw [e] at h
    dsimp only at h
    by_cases c : lo ≤ x ∧ x ≤ hi
    · rw [if_pos c] at h
      cases h
      exact ⟨rfl, c⟩
    · rw [if_neg c] at h
      cases h
theorem RdAt.tups {ad : Ad} {H H' : Hp} {ra dx ta : Addr} {ts : List Int} {cr mo : Nat} {r : VR} (h : RdAt ad H ra dx ta ts cr mo r) (s : SL ra H H') : Tups H H' := fun a xs e => s a _ (ne_of e h.ha (by intro z; cases z)) e
section
variable {P : Program} {w : World} {K : PySem.W.Frag} {mg : Str → Option Value} {base : Heap} {ad : Ad}
def spValue (K : PySem.W.Frag) (ad : Ad) : Sp := fun vs H Q E => ∃ (ra dx ta : Addr) (ts : List Int) (cr mo : Nat) (r : VR), vs = [.ref ra] ∧ RdAt ad H ra dx ta ts cr mo r ∧
  Out (readValue mo r) (fun v r' => ∀ H' u, SL ra H H' → RdAt ad H' ra dx ta ts cr mo r' → IsV K nm0 H' u v → VOk mo r' v → r.met ≤ r'.met → Q u H') (BadU ad ra H E)
theorem ok_Reader_value (T : Tx K mg ad) (D : Dm K ad.reader "value" "Reader.value" s_Reader_value ["self"]) (G_Reader_number : OkM P w K mg base 3 ad.reader "number" ["self", "low", "high"] (spNumber ad)) :
    OkM P w K mg base 4 ad.reader "value" ["self"] (spValue K ad) := by
  refine D.ok c_Reader_value (fun vs H Q E h => ?_) (fun f cdv A outer s H vs Q E hr h => ?_)
  · obtain ⟨ra, dx, ta, ts, cr, mo, r, rfl, _⟩ := h
    rfl
  · refine ⟨_,
      (pss_cons (ps_set (i := 1) c_Reader_value.nd rfl (Or.inl rfl) (pe_m (pv 0) T.k_reader G_Reader_number hr (L2N.takes_of rfl rfl rfl rfl) (pa_cons pe_int (pa_cons pe_int pa_nil))))
        (pss_cons (ps_if (pt_cmpR op_eq (pv 1) pe_int (nomark _)) (pss_one (ps_ret (pe_glob (v := .ref ad.nothing) rfl T.g_NOTHING rfl))) pss_nil)
        (pss_cons (ps_if (pt_cmpR op_eq (pv 1) (pe_ci T.c_NUMBER) (nomark _)) (pss_one (ps_ret (pe_tup (pa_cons (pe_ci T.c_NUMBER) (pa_cons (pe_m (pv 0) T.k_reader G_Reader_number hr (L2N.takes_of rfl rfl rfl rfl) (pa_cons (pe_op op_sub pe_int (pe_op op_pow pe_int pe_int)) (pa_cons (pe_op op_pow pe_int pe_int) pa_nil))) pa_nil))))) pss_nil)
        (pss_cons (ps_set (i := 2) c_Reader_value.nd rfl (Or.inl rfl) (pe_m (pv 0) T.k_reader G_Reader_number hr (L2N.takes_of rfl rfl rfl rfl) (pa_cons pe_int (pa_cons (pe_callB (call_min2 rfl) (by rfl) T.b_min (by decide +kernel) (pa_cons (pe_op op_add (pe_fld (pv 0) rfl) pe_int) (pa_cons (pe_fld (pv 0) rfl) pa_nil))) pa_nil))))
        (pss_cons (ps_fld (pv 0) (pe_callB (call_max2 rfl) (by rfl) T.b_max (by decide +kernel) (pa_cons (pe_fld (pv 0) rfl) (pa_cons (pv 2) pa_nil))) rfl)
        (pss_one (ps_ret (pe_tup (pa_cons (pe_ci T.c_REFERENCE) (pa_cons (pv 2) pa_nil))))))))))
      , ?_⟩
    obtain ⟨ra, dx, ta, ts, cr, mo, r, rfl, hR, k⟩ := h
    refine ⟨_, rfl, ra, dx, _, rfl, hR.ha, rfl, ra, dx, ta, ts, cr, mo, r, 0, 2, rfl, hR, ?_⟩
    cases e : readNumber 0 2 r with
    | error i =>
      have ev : readValue mo r = .error i := by
        unfold Vbxlaa.readValue Vbxlaa.readNat
        rw [show ((0 : Nat) : Int) = 0 from rfl, show ((2 : Nat) : Int) = 2 from rfl, e]
        rfl
      rw [ev] at k
      exact k
    | ok p =>
      obtain ⟨z, r1⟩ := p
      obtain ⟨hm1, z0, z2⟩ := readNumber_ok e
      intro H1 s1 hR1 _ _
      have ev : readValue mo r = (if z.toNat = 0 then .ok (.nothing, r1) else if z.toNat = 1 then (readNumber (-Vbxlaa.maxNumber) Vbxlaa.maxNumber r1).map fun y => (.number y.1, y.2)
          else (readNat 1 (min (r1.met + 1) mo) r1).map fun y => (.object (y.1 - 1), { y.2 with met := max y.2.met y.1 })) := by
        unfold Vbxlaa.readValue Vbxlaa.readNat
        rw [show ((0 : Nat) : Int) = 0 from rfl, show ((2 : Nat) : Int) = 2 from rfl, e]
        rfl
      rw [ev] at k
      refine ⟨_, rfl, rfl, _, rfl, ?_⟩
      by_cases c0 : z = 0
      · rw [eq_intT c0]
        refine iteT ?_
        rw [if_pos (by omega)] at k
        exact k H1 _ s1 hR1 ⟨ad.nothing, rfl, .inr T.nothing⟩ (fun i h => by cases h) (by show r.met ≤ r1.met; omega)
      · rw [eq_intF c0]
        refine iteF ⟨_, rfl, rfl, _, rfl, ?_⟩
        rw [if_neg (by omega)] at k
        by_cases c1 : z = 1
        · rw [eq_intT c1]
          rw [if_pos (by omega)] at k
          refine iteT ⟨_, rfl, ra, dx, _, rfl, hR1.ha, rfl, ?_⟩
          refine ⟨_, _, rfl, rfl, ⟨by decide, by decide, by decide⟩, _, _, rfl, rfl, _, _, rfl, rfl, ⟨by decide, by decide, by decide⟩, ra, dx, ta, ts, cr, mo, r1, _, _, rfl, hR1, ?_⟩
          have em : (0 : Int) - (10 : Int) ^ (18 : Int).toNat = -Vbxlaa.maxNumber := by decide
          have em2 : (10 : Int) ^ (18 : Int).toNat = Vbxlaa.maxNumber := by decide
          rw [em, em2]
          cases e2 : readNumber (-Vbxlaa.maxNumber) Vbxlaa.maxNumber r1 with
          | error i =>
            rw [e2] at k
            have k : BadU ad ra H E i := k
            exact k.later s1
          | ok p =>
            obtain ⟨z3, r3⟩ := p
            obtain ⟨hm3, _, _⟩ := readNumber_ok e2
            rw [e2] at k
            intro H2 s2 hR2 _ _
            refine ⟨leLine (by show 2 ≤ 1000; decide), fun t nt => ?_⟩
            exact k _ _ (s1.trans (s2.trans (SL.same (Same.new nt)))) (hR2.same (Same.new nt)) ⟨t, rfl, .inl upd_same⟩ (fun i h => by cases h) (by show r.met ≤ r3.met; omega)
        · rw [eq_intF c1]
          rw [if_neg (by omega)] at k
          refine iteF ⟨_, rfl, ra, dx, _, rfl, hR1.ha, rfl, ?_⟩
          refine ⟨_, rfl, ra, _, dx, _, _, rfl, hR1.ha, T.k_reader, T.n_met, rfl, _, _, rfl, rfl, _, rfl, ra, _, dx, _, _, rfl, hR1.ha, T.k_reader, T.n_most, rfl, _, _, rfl, ra, dx, ta, ts, cr, mo, r1, _, _, rfl, hR1, ?_⟩
          have emin : (if ((mo : Nat) : Int) < ((r1.met : Nat) : Int) + 1 then ((mo : Nat) : Int) else ((r1.met : Nat) : Int) + 1) = ((min (r1.met + 1) mo : Nat) : Int) := by
            by_cases c : ((mo : Nat) : Int) < ((r1.met : Nat) : Int) + 1
            · rw [if_pos c]; omega
            · rw [if_neg c]; omega
          rw [emin]
          unfold Vbxlaa.readNat at k
          cases e2 : readNumber ((1 : Nat) : Int) ((min (r1.met + 1) mo : Nat) : Int) r1 with
          | error i =>
            rw [e2] at k
            have k : BadU ad ra H E i := k
            exact k.later s1
          | ok p =>
            obtain ⟨z3, r3⟩ := p
            obtain ⟨hm3, b1, b2⟩ := readNumber_ok e2
            rw [e2] at k
            intro H2 s2 hR2 _ _
            obtain ⟨q, rfl⟩ : ∃ q : Nat, z3 = ((q + 1 : Nat) : Int) := ⟨z3.toNat - 1, by omega⟩
            refine ⟨_, rfl, ra, _, dx, _, _, rfl, hR2.ha, T.k_reader, T.n_met, rfl, _, rfl, _, _, rfl, _, rfl, ra, _, dx, _, rfl, hR2.ha, T.k_reader, T.n_met, by show 5 < 1000; decide, ?_⟩
            have emax : (if ((q + 1 : Nat) : Int) > ((r3.met : Nat) : Int) then ((q + 1 : Nat) : Int) else ((r3.met : Nat) : Int)) = ((max r3.met (q + 1) : Nat) : Int) := by
              by_cases c : ((q + 1 : Nat) : Int) > ((r3.met : Nat) : Int)
              · rw [if_pos c]; omega
              · rw [if_neg c]; omega
            refine ⟨_, rfl, leLine (by show 2 ≤ 1000; decide), fun t nt => ?_⟩
            have k2 : ∀ H' u, SL ra H H' → RdAt ad H' ra dx ta ts cr mo { r3 with met := max r3.met (q + 1) } → IsV K nm0 H' u (.object q) → VOk mo { r3 with met := max r3.met (q + 1) } (.object q) → r.met ≤ max r3.met (q + 1) → Q u H' := k
            refine k2 _ _ (s1.trans (s2.trans (SL.refl.put.trans (SL.same (Same.new nt))))) (RdAt.same ⟨?_, (upd_ne hR2.ne).trans hR2.ht, hR2.rest, hR2.le, hR2.tl⟩ (Same.new nt)) ⟨t, rfl, .inl upd_same⟩ (fun i h => by cases h; exact ⟨by show q < max r3.met (q + 1); omega, by omega⟩) (by omega)
            rw [upd_same]
            show some (HO.ins ad.reader dx [("text", .ref ta), ("at", .int (r3.index : Nat)), ("created", .int (cr : Nat)), ("most", .int (mo : Nat)), ("met", .int (if ((q + 1 : Nat) : Int) > ((r3.met : Nat) : Int) then ((q + 1 : Nat) : Int) else ((r3.met : Nat) : Int)))]) = _
            rw [emax]
end
end Sh


set_option maxHeartbeats 2000000
namespace Sh
open PySem PySem.Spec PyProof.Rows L2
open Vbxlaa (fieldsOf rootsOf readNumber readNat readValue readValues readMessages readClients readObjects)
theorem Out.ok_ {α : Type} {x : Except Nat (α × VR)} {okp : α → VR → Prop} {bad : Nat → Prop} {a : α} {r : VR} (h : Out x okp bad) (e : x = .ok (a, r)) : okp a r := by subst e; exact h
theorem Out.bad_ {α : Type} {x : Except Nat (α × VR)} {okp : α → VR → Prop} {bad : Nat → Prop} {i : Nat} (h : Out x okp bad) (e : x = .error i) : bad i := by subst e; exact h
/-- the rest of a row after some values -/
def Rest (mo n : Nat) (r : VR) (j : Nat) (l : List VV) (rj : VR) : Prop := j ≤ n ∧ l.length = j ∧ readValues mo n r = (readValues mo (n - j) rj).map fun y => (l ++ y.1, y.2)
theorem Rest.start (mo n : Nat) (r : VR) : Rest mo n r 0 [] r := ⟨Nat.zero_le _, rfl, by
  rw [Nat.sub_zero]
  cases readValues mo n r <;> rfl⟩
theorem Rest.bad {mo n : Nat} {r : VR} {j : Nat} {l : List VV} {rj : VR} {i : Nat} (h : Rest mo n r j l rj) (hj : j < n) (e : readValue mo rj = .error i) : readValues mo n r = .error i := by
  obtain ⟨_, _, h⟩ := h
  rw [h, show n - j = (n - (j + 1)) + 1 by omega]
  show ((readValue mo rj).bind fun x => (readValues mo (n - (j + 1)) x.2).map fun y => (x.1 :: y.1, y.2)).map _ = _
  rw [e]
  rfl
theorem Rest.step {mo n : Nat} {r : VR} {j : Nat} {l : List VV} {rj r' : VR} {v : VV} (h : Rest mo n r j l rj) (hj : j < n) (e : readValue mo rj = .ok (v, r')) : Rest mo n r (j + 1) (l ++ [v]) r' := by
  obtain ⟨_, hl, h⟩ := h
  refine ⟨hj, by rw [List.length_append, hl]; rfl, ?_⟩
  rw [h, show n - j = (n - (j + 1)) + 1 by omega]
  show ((readValue mo rj).bind fun x => (readValues mo (n - (j + 1)) x.2).map fun y => (x.1 :: y.1, y.2)).map _ = _
  rw [e]
  show ((readValues mo (n - (j + 1)) r').map fun y => (v :: y.1, y.2)).map _ = _
  cases readValues mo (n - (j + 1)) r' with
  | error i => rfl
  | ok p =>
    show Except.ok (l ++ v :: p.1, p.2) = Except.ok ((l ++ [v]) ++ p.1, p.2)
    rw [show l ++ v :: p.1 = (l ++ [v]) ++ p.1 by simp]
theorem Rest.fin {mo n : Nat} {r : VR} {l : List VV} {rj : VR} (h : Rest mo n r n l rj) : readValues mo n r = .ok (l, rj) := by
  obtain ⟨_, _, h⟩ := h
  rw [h, Nat.sub_self]
  show Except.ok (l ++ [], rj) = _
  rw [List.append_nil]
section
variable {P : Program} {w : World} {K : PySem.W.Frag} {mg : Str → Option Value} {base : Heap} {ad : Ad}
def spRow (K : PySem.W.Frag) (ad : Ad) : Sp := fun vs H Q E => ∃ (ra dx ta : Addr) (ts : List Int) (cr mo : Nat) (r : VR) (n : Nat), vs = [.ref ra, .int (n : Nat)] ∧ n ≤ 100 ∧ RdAt ad H ra dx ta ts cr mo r ∧
  Out (readValues mo n r) (fun l r' => ∀ H' p rvs, SL ra H H' → RdAt ad H' ra dx ta ts cr mo r' → H p = none → H' p = some (.lst rvs) → Row K nm0 H' rvs l → (∀ v ∈ l, VOk mo r' v) → r.met ≤ r'.met → l.length = n → Q (.ref p) H') (BadU ad ra H E)
theorem ok_Reader_row (T : Tx K mg ad) (D : Dm K ad.reader "row" "Reader.row" s_Reader_row ["self", "many"]) (G_Reader_value : OkM P w K mg base 4 ad.reader "value" ["self"] (spValue K ad)) :
    OkM P w K mg base 5 ad.reader "row" ["self", "many"] (spRow K ad) := by
  refine D.ok c_Reader_row (fun vs H Q E h => ?_) (fun f cdv A outer s H vs Q E hr h => ?_)
  · obtain ⟨ra, dx, ta, ts, cr, mo, r, n, rfl, _⟩ := h
    rfl
  · refine ⟨_,
      (pss_one (ps_ret (pe_lcX (own := [("number", 2)]) (g := (gName 2)) (Ex := E) rfl rfl rfl c_Reader_row.nd (L2N.takes_of rfl rfl rfl rfl) (pi_range1 rfl T.b_range (pa_cons (pv 1) pa_nil)) (blkOk_by (own := [("number", 2)]) (N := ["self", "many", "number"]) (sc := defScope s_Reader_row) (by decide +kernel))
        (fun _ _ _ _ _ _ => by exact (pg_name (i := 2) c_Reader_row.nd rfl (Or.inl rfl))) (fun _ _ _ _ _ _ hp => by exact (pe_m0E (pv 0) T.k_reader G_Reader_value hr hp)))))
      , ?_⟩
    obtain ⟨ra, dx, ta, ts, cr, mo, r, n, rfl, hn, hR, k⟩ := h
    refine ⟨_, rfl, _, rfl, by omega, by omega, fun L nL => lc_range (lo := 0) (n := n) (fun j H2 => ∃ (acc : List V) (l : List VV) (rj : VR), SL ra H H2 ∧ RdAt ad H2 ra dx ta ts cr mo rj ∧ H2 L = some (.lst acc) ∧ Row K nm0 H2 acc l ∧ (∀ v ∈ l, VOk mo rj v) ∧ r.met ≤ rj.met ∧ Rest mo n r j l rj)
      ⟨[], [], r, SL.same (Same.new nL), hR.same (Same.new nL), upd_same, .nil, (fun _ h => by cases h), Nat.le_refl _, Rest.start mo n r⟩ ?_ ?_⟩
    · rintro j H2 hj ⟨acc, l, rj, sl, hRj, hL, hrow, hv, hm, hrest⟩
      have hal : acc.length = j := (Paired.length hrow).trans hrest.2.1
      have nrL : ra ≠ L := ne_of hRj.ha hL (by intro z; cases z)
      have ntL : ta ≠ L := ne_of_none hR.ht nL
      refine ⟨rfl, yes ?_⟩
      refine ⟨_, rfl, ra, dx, _, rfl, hRj.ha, rfl, ra, dx, ta, ts, cr, mo, rj, rfl, hRj, ?_⟩
      cases e : readValue mo rj with
      | error i => exact (k.bad_ (hrest.bad hj e)).later sl
      | ok p =>
        obtain ⟨v, r'⟩ := p
        intro H3 u s3 hR3 iu vo hm2
        have hL3 := s3 _ _ (Ne.symm nrL) hL
        have tp : Tups H2 (upd H3 L (.lst (acc ++ [u]))) := (hRj.tups s3).trans (Tups.write hL3 fun _ z => by cases z)
        refine ⟨acc, hL3, small1000 (by omega), acc ++ [u], l ++ [v], r', fun a o na ea => ?_, ⟨(upd_ne nrL).trans hR3.ha, (upd_ne ntL).trans hR3.ht, hR3.rest, hR3.le, hR3.tl⟩, upd_same, pair_snoc (Row.keep hrow tp) (iu.keep (Tups.write hL3 fun _ z => by cases z)), fun x hx => ?_, Nat.le_trans hm hm2, hrest.step hj e⟩
        · rw [upd_ne (ne_of_none ea nL)]
          exact s3 _ _ na (sl _ _ na ea)
        · rcases List.mem_append.mp hx with hx | hx
          · exact (hv x hx).more hm2
          · rw [List.mem_singleton] at hx
            subst hx
            exact vo
    · rintro H2 ⟨acc, l, rj, sl, hRj, hL, hrow, hv, hm, hrest⟩
      exact k.ok_ hrest.fin H2 L acc sl hRj nL hL hrow hv hm hrest.2.1
end
end Sh


set_option maxHeartbeats 2000000
namespace Sh
open PySem PySem.Spec PyProof.Rows L2
open Vbxlaa (fieldsOf rootsOf readNumber readNat readValue readValues readMessages readClients readObjects)
theorem readNat_ok {lo hi : Nat} {r r' : VR} {z : Int} (e : readNumber lo hi r = .ok (z, r')) : readNat lo hi r = .ok (z.toNat, r') := by unfold Vbxlaa.readNat; rw [e]; rfl
theorem readNat_bad {lo hi : Nat} {r : VR} {i : Nat} (e : readNumber lo hi r = .error i) : readNat lo hi r = .error i := by unfold Vbxlaa.readNat; rw [e]; rfl
/-- one message -/
def readMsg (mo : Nat) (r : VR) : Except Nat (List VV × VR) := (readNat 1 3 r).bind fun k => readValues mo k.1 k.2
theorem readMessages_succ (mo n : Nat) (r : VR) : readMessages mo (n + 1) r = (readMsg mo r).bind fun x => (readMessages mo n x.2).map fun y => (x.1 :: y.1, y.2) := by
  show ((readNat 1 Vbxlaa.maxMessage r).bind fun k => (readValues mo k.1 k.2).bind fun x => (readMessages mo n x.2).map fun y => (x.1 :: y.1, y.2)) = _
  unfold readMsg
  show ((readNat 1 3 r).bind fun k => (readValues mo k.1 k.2).bind fun x => (readMessages mo n x.2).map fun y => (x.1 :: y.1, y.2)) = _
  cases readNat 1 3 r <;> rfl
/-- one client -/
def readCl (mo : Nat) (r : VR) : Except Nat (VC × VR) := (readValues mo 6 r).bind fun x => (readNat 0 4 x.2).bind fun k => (readMessages mo k.1 k.2).map fun m => (⟨x.1, m.1⟩, m.2)
theorem readClients_succ (mo n : Nat) (r : VR) : readClients mo (n + 1) r = (readCl mo r).bind fun x => (readClients mo n x.2).map fun y => (x.1 :: y.1, y.2) := by
  show ((readValues mo 6 r).bind fun x => (readNat 0 4 x.2).bind fun k => (readMessages mo k.1 k.2).bind fun m => (readClients mo n m.2).map fun y => (⟨x.1, m.1⟩ :: y.1, y.2)) = _
  unfold readCl
  cases readValues mo 6 r with
  | error i => rfl
  | ok p =>
    show ((readNat 0 4 p.2).bind fun k => (readMessages mo k.1 k.2).bind fun m => (readClients mo n m.2).map fun y => (⟨p.1, m.1⟩ :: y.1, y.2)) = ((readNat 0 4 p.2).bind fun k => (readMessages mo k.1 k.2).map fun m => ((⟨p.1, m.1⟩ : VC), m.2)).bind _
    cases readNat 0 4 p.2 with
    | error i => rfl
    | ok q =>
      show ((readMessages mo q.1 q.2).bind fun m => (readClients mo n m.2).map fun y => (⟨p.1, m.1⟩ :: y.1, y.2)) = ((readMessages mo q.1 q.2).map fun m => ((⟨p.1, m.1⟩ : VC), m.2)).bind _
      cases readMessages mo q.1 q.2 <;> rfl
/-- the rest of a list after some of it -/
def RestL {α : Type} (one : VR → Except Nat (α × VR)) (all : Nat → VR → Except Nat (List α × VR)) (n : Nat) (r : VR) (j : Nat) (l : List α) (rj : VR) : Prop := j ≤ n ∧ l.length = j ∧ all n r = (all (n - j) rj).map fun y => (l ++ y.1, y.2)
section
variable {α : Type} {one : VR → Except Nat (α × VR)} {all : Nat → VR → Except Nat (List α × VR)}
theorem RestL.start (n : Nat) (r : VR) : RestL one all n r 0 [] r := ⟨Nat.zero_le _, rfl, by
  rw [Nat.sub_zero]
  cases all n r <;> rfl⟩
theorem RestL.bad (hs : ∀ n r, all (n + 1) r = (one r).bind fun x => (all n x.2).map fun y => (x.1 :: y.1, y.2)) {n : Nat} {r : VR} {j : Nat} {l : List α} {rj : VR} {i : Nat} (h : RestL one all n r j l rj) (hj : j < n) (e : one rj = .error i) : all n r = .error i := by
  obtain ⟨_, _, h⟩ := h
  rw [h, show n - j = (n - (j + 1)) + 1 by omega, hs, e]
  rfl
theorem RestL.step (hs : ∀ n r, all (n + 1) r = (one r).bind fun x => (all n x.2).map fun y => (x.1 :: y.1, y.2)) {n : Nat} {r : VR} {j : Nat} {l : List α} {rj r' : VR} {v : α} (h : RestL one all n r j l rj) (hj : j < n) (e : one rj = .ok (v, r')) : RestL one all n r (j + 1) (l ++ [v]) r' := by
  obtain ⟨_, hl, h⟩ := h
  refine ⟨hj, by rw [List.length_append, hl]; rfl, ?_⟩
  rw [h, show n - j = (n - (j + 1)) + 1 by omega, hs, e]
  show ((all (n - (j + 1)) r').map fun y => (v :: y.1, y.2)).map _ = _
  cases all (n - (j + 1)) r' with
  | error i => rfl
  | ok p =>
    show Except.ok (l ++ v :: p.1, p.2) = Except.ok ((l ++ [v]) ++ p.1, p.2)
    rw [show l ++ v :: p.1 = (l ++ [v]) ++ p.1 by simp]
theorem RestL.fin (h0 : ∀ r, all 0 r = .ok ([], r)) {n : Nat} {r : VR} {l : List α} {rj : VR} (h : RestL one all n r n l rj) : all n r = .ok (l, rj) := by
  obtain ⟨_, _, h⟩ := h
  rw [h, Nat.sub_self, h0]
  show Except.ok (l ++ [], rj) = _
  rw [List.append_nil]
end
/-- a client that was read -/
structure ClOk (mo : Nat) (r : VR) (c : VC) : Prop where
  sl : c.slots.length = 6
  ib : c.inbox.length ≤ 4
  ms : ∀ m ∈ c.inbox, 1 ≤ m.length ∧ m.length ≤ 3
  vs : ∀ v ∈ c.slots, VOk mo r v
  vm : ∀ m ∈ c.inbox, ∀ v ∈ m, VOk mo r v
theorem ClOk.more {mo : Nat} {r r' : VR} {c : VC} (h : ClOk mo r c) (m : r.met ≤ r'.met) : ClOk mo r' c := ⟨h.sl, h.ib, h.ms, fun v hv => (h.vs v hv).more m, fun x hx v hv => (h.vm x hx v hv).more m⟩
section
variable {P : Program} {w : World} {K : PySem.W.Frag} {mg : Str → Option Value} {base : Heap} {ad : Ad}
/-- a client that was laid -/
def ClNew (K : PySem.W.Frag) (ad : Ad) (H H' : Hp) (y : Addr) (c : VC) : Prop := ∃ dy sl ib svs ims, H y = none ∧ H sl = none ∧ H ib = none ∧ y ≠ sl ∧ y ≠ ib ∧ sl ≠ ib ∧ H' y = some (.ins ad.client dy [("slots", .ref sl), ("inbox", .ref ib)]) ∧ H' sl = some (.lst svs) ∧ Row K nm0 H' svs c.slots ∧ H' ib = some (.lst ims) ∧
  Paired (fun v m => MsgNew K nm0 H ib H' v m ∧ ∀ ma, v = .ref ma → ma ≠ sl ∧ ma ≠ y) ims c.inbox
def spClient (K : PySem.W.Frag) (ad : Ad) : Sp := fun vs H Q E => ∃ (ra dx ta : Addr) (ts : List Int) (cr mo : Nat) (r : VR), vs = [.ref ra] ∧ RdAt ad H ra dx ta ts cr mo r ∧
  Out (readCl mo r) (fun c r' => ∀ H' y, SL ra H H' → RdAt ad H' ra dx ta ts cr mo r' → ClNew K ad H H' y c → ClOk mo r' c → r.met ≤ r'.met → Q (.ref y) H') (BadU ad ra H E)
theorem ok_Reader_client (T : Tx K mg ad) (D : Dm K ad.reader "client" "Reader.client" s_Reader_client ["self"]) (G_Client : OkI P w K mg base 1 "Client" ad.client ["self"] (spClientInit ad)) (G_Reader_row : OkM P w K mg base 5 ad.reader "row" ["self", "many"] (spRow K ad)) (G_Reader_number : OkM P w K mg base 3 ad.reader "number" ["self", "low", "high"] (spNumber ad)) :
    OkM P w K mg base 6 ad.reader "client" ["self"] (spClient K ad) := by
  refine D.ok c_Reader_client (fun vs H Q E h => ?_) (fun f cdv A outer s H vs Q E hr h => ?_)
  · obtain ⟨ra, dx, ta, ts, cr, mo, r, rfl, _⟩ := h
    rfl
  · refine ⟨_,
      (pss_cons (ps_set (i := 1) c_Reader_client.nd rfl (Or.inl rfl) (pe_i0 G_Client hr))
        (pss_cons (ps_fld (pv 1) (pe_m (pv 0) T.k_reader G_Reader_row hr (L2N.takes_of rfl rfl rfl rfl) (pa_cons (pe_ci T.c_SLOTS) pa_nil)) rfl)
        (pss_cons (ps_for (passes_of rfl) rfl (pi_range1 rfl T.b_range (pa_cons (pe_m (pv 0) T.k_reader G_Reader_number hr (L2N.takes_of rfl rfl rfl rfl) (pa_cons pe_int (pa_cons (pe_ci T.c_MOST_MESSAGES) pa_nil))) pa_nil)) (pg_name (i := 2) c_Reader_client.nd rfl (Or.inl rfl))
          (pss_one (ps_expr (pe_bm PySem.F.plainAttrs_list PySem.F.slot_list_append PySem.F.type_list_append mt_append (pe_fld (pv 1) rfl) (pa_cons (pe_m (pv 0) T.k_reader G_Reader_row hr (L2N.takes_of rfl rfl rfl rfl) (pa_cons (pe_m (pv 0) T.k_reader G_Reader_number hr (L2N.takes_of rfl rfl rfl rfl) (pa_cons pe_int (pa_cons (pe_ci T.c_MOST_IN) pa_nil))) pa_nil)) pa_nil)))))
        (pss_one (ps_ret (pv 1))))))
      , ?_⟩
    obtain ⟨ra, dx, ta, ts, cr, mo, r, rfl, hR, k⟩ := h
    intro y dy ny nd nyd
    have sz : Same H (upd (upd H dy (.own y)) y (.ins ad.client dy [])) := (Same.new nd).trans (Same.new ((upd_ne (Ne.symm nyd)).trans ny))
    refine ⟨y, dy, rfl, upd_same, fun H1 sl0 ib m1 m2 kp e1 e2 e3 => ⟨rfl, ?_⟩⟩
    have s1 : Same H H1 := fun a o e => kp a o (ne_of_none e ny) (sz a o e)
    have nib : H ib = none := sz.free m2
    have nyi : y ≠ ib := ne_of e1 e3 (by intro z; cases z)
    have hR1 := hR.same s1
    have nry : ra ≠ y := ne_of_none hR.ha ny
    have nri : ra ≠ ib := ne_of_none hR.ha nib
    have nty : ta ≠ y := ne_of_none hR.ht ny
    have nti : ta ≠ ib := ne_of_none hR.ht nib
    refine ⟨_, rfl, ra, dx, _, rfl, hR1.ha, rfl, ra, dx, ta, ts, cr, mo, r, 6, rfl, by decide, hR1, ?_⟩
    cases er : readValues mo 6 r with
    | error i =>
      have ek : readCl mo r = .error i := by unfold readCl; rw [er]; rfl
      exact (k.bad_ ek).later (SL.same s1)
    | ok p =>
      obtain ⟨sv, r1⟩ := p
      intro H2 l2 svs sl2 hR2 nl2 hl2 hrow2 hv2 hm2 hlen2
      have hm2 : r.met ≤ r1.met := hm2
      have ek2 : readCl mo r = (readNat 0 4 r1).bind fun k => (readMessages mo k.1 k.2).map fun m => ((⟨sv, m.1⟩ : VC), m.2) := by unfold readCl; rw [er]; rfl
      rw [ek2] at k
      have hy2 := sl2 _ _ (Ne.symm nry) e1
      have hib2 := sl2 _ _ (Ne.symm nri) e3
      have nyl : y ≠ l2 := ne_of_none e1 nl2
      have nil : ib ≠ l2 := ne_of_none e3 nl2
      refine ⟨_, rfl, y, _, dy, _, rfl, hy2, T.k_client, T.n_slots, by show 2 < 1000; decide, ?_⟩
      have hRy : RdAt ad (upd H2 y (.ins ad.client dy (putF "slots" (.ref l2) [("slots", .ref sl0), ("inbox", .ref ib)]))) ra dx ta ts cr mo r1 := ⟨(upd_ne nry).trans hR2.ha, (upd_ne nty).trans hR2.ht, hR2.rest, hR2.le, hR2.tl⟩
      have slY : SL ra H (upd H2 y (.ins ad.client dy (putF "slots" (.ref l2) [("slots", .ref sl0), ("inbox", .ref ib)]))) := fun a o na e => by
        rw [upd_ne (ne_of_none e ny)]
        exact sl2 a o na (s1 a o e)
      have hy3 : (upd H2 y (.ins ad.client dy (putF "slots" (.ref l2) [("slots", .ref sl0), ("inbox", .ref ib)]))) y = some (.ins ad.client dy [("slots", .ref l2), ("inbox", .ref ib)]) := upd_same
      have hl3 : (upd H2 y (.ins ad.client dy (putF "slots" (.ref l2) [("slots", .ref sl0), ("inbox", .ref ib)]))) l2 = some (.lst svs) := (upd_ne (Ne.symm nyl)).trans hl2
      have hib3 : (upd H2 y (.ins ad.client dy (putF "slots" (.ref l2) [("slots", .ref sl0), ("inbox", .ref ib)]))) ib = some (.lst []) := (upd_ne (Ne.symm nyi)).trans hib2
      have tp3 : Tups H2 (upd H2 y (.ins ad.client dy (putF "slots" (.ref l2) [("slots", .ref sl0), ("inbox", .ref ib)]))) := Tups.write hy2 fun _ z => by cases z
      have hrow3 := Row.keep hrow2 tp3
      have nl20 : H l2 = none := s1.free nl2
      generalize upd H2 y (.ins ad.client dy (putF "slots" (.ref l2) [("slots", .ref sl0), ("inbox", .ref ib)])) = H3 at *
      have nrl : ra ≠ l2 := ne_of_none hR.ha nl20
      refine ⟨_, rfl, ra, dx, _, rfl, hRy.ha, rfl, ra, dx, ta, ts, cr, mo, r1, 0, 4, rfl, hRy, ?_⟩
      cases en : readNumber 0 4 r1 with
      | error i =>
        rw [show readNat 0 4 r1 = .error i from readNat_bad (lo := 0) (hi := 4) en] at k
        exact BadU.later (show BadU ad ra H E i from k) slY
      | ok p =>
        obtain ⟨z, r2⟩ := p
        obtain ⟨hm3, z0, z4⟩ := readNumber_ok en
        rw [show readNat 0 4 r1 = .ok (z.toNat, r2) from readNat_ok (lo := 0) (hi := 4) en] at k
        have k : Out ((readMessages mo z.toNat r2).map fun m => ((⟨sv, m.1⟩ : VC), m.2)) _ (BadU ad ra H E) := k
        intro H4 sl4 hR4 _ _
        have z4 : z ≤ 4 := z4
        refine ⟨_, rfl, by show _ ≤ z; omega, by show z < _; omega, ?_⟩
        have slH4 : SL ra H H4 := slY.trans sl4
        have hy4 := sl4 _ _ (Ne.symm nry) hy3
        have hl4 := sl4 _ _ (Ne.symm nrl) hl3
        have hib4 := sl4 _ _ (Ne.symm nri) hib3
        have tp4 := hRy.tups sl4
        have hrow4 := Row.keep hrow3 tp4
        refine for_range (lo := 0) (n := z.toNat) (fun j σ H5 => ∃ (v2 : Option V) (ims : List V) (ml : List (List VV)) (rj : VR), σ = [some (.ref ra), some (.ref y), v2] ∧ SL ra H H5 ∧ RdAt ad H5 ra dx ta ts cr mo rj ∧ H5 y = some (.ins ad.client dy [("slots", .ref l2), ("inbox", .ref ib)]) ∧ H5 l2 = some (.lst svs) ∧ H5 ib = some (.lst ims) ∧ Row K nm0 H5 svs sv ∧
            Paired (fun v m => MsgNew K nm0 H ib H5 v m ∧ ∀ ma, v = .ref ma → ma ≠ l2 ∧ ma ≠ y) ims ml ∧ (∀ m ∈ ml, (1 ≤ m.length ∧ m.length ≤ 3) ∧ ∀ v ∈ m, VOk mo rj v) ∧ r2.met ≤ rj.met ∧ RestL (readMsg mo) (readMessages mo) z.toNat r2 j ml rj)
          ⟨none, [], [], r2, rfl, slH4, hR4, hy4, hl4, hib4, hrow4, .nil, (fun _ h => by cases h), Nat.le_refl _, RestL.start _ _⟩ ?_ ?_
        · rintro j σ H5 hj ⟨v2, ims, ml, rj, rfl, sl5, hR5, hy5, hl5, hib5, hrow5, hP, hml, hmm, hrest⟩
          have himl : ims.length = j := (Paired.length hP).trans hrest.2.1
          refine ⟨_, rfl, y, _, dy, _, _, rfl, hy5, T.k_client, T.n_inbox, rfl, .inl ⟨rfl, _, SqL.of hib5⟩, ?_⟩
          refine ⟨_, rfl, ra, dx, _, rfl, hR5.ha, rfl, _, rfl, ra, dx, _, rfl, hR5.ha, rfl, ra, dx, ta, ts, cr, mo, rj, 1, 3, rfl, hR5, ?_⟩
          have badall : ∀ i, readMsg mo rj = .error i → BadU ad ra H E i := fun i e => by
            have := hrest.bad (readMessages_succ mo) hj e
            rw [this] at k
            exact k
          cases e1n : readNumber 1 3 rj with
          | error i =>
            exact BadU.later (badall i (by unfold readMsg; rw [show readNat 1 3 rj = .error i from readNat_bad (lo := 1) (hi := 3) e1n]; rfl)) sl5
          | ok p =>
            obtain ⟨q, r3⟩ := p
            obtain ⟨hm6, q1, q3⟩ := readNumber_ok e1n
            intro H6 sl6 hR6 _ _
            obtain ⟨qn, rfl⟩ : ∃ qn : Nat, q = (qn : Int) := ⟨q.toNat, by omega⟩
            have emsg : readMsg mo rj = readValues mo qn r3 := by
              unfold readMsg
              rw [show readNat 1 3 rj = .ok ((qn : Int).toNat, r3) from readNat_ok (lo := 1) (hi := 3) e1n]
              rfl
            refine ⟨ra, dx, ta, ts, cr, mo, r3, qn, rfl, by omega, hR6, ?_⟩
            cases ev : readValues mo qn r3 with
            | error i => exact BadU.later (badall i (emsg.trans ev)) (sl5.trans sl6)
            | ok p =>
              obtain ⟨mv, r4⟩ := p
              intro H7 p7 mvs sl7 hR7 np7 hp7 hrow7 hv7 hm7 hlen7
              have hm7 : r3.met ≤ r4.met := hm7
              have hlen7 : mv.length = qn := hlen7
              have sl57 := sl6.trans sl7
              have tp57 := hR5.tups sl57
              have hib7 := sl57 _ _ (Ne.symm nri) hib5
              have np5 : H5 p7 = none := by
                cases q : H5 p7 with
                | none => rfl
                | some o =>
                  by_cases c : p7 = ra
                  · rw [c, hR6.ha] at np7; cases np7
                  · rw [sl6 _ _ c q] at np7; cases np7
              have np0 : H p7 = none := by
                cases q : H p7 with
                | none => rfl
                | some o =>
                  by_cases c : p7 = ra
                  · rw [c, hR6.ha] at np7; cases np7
                  · rw [sl5 _ _ c q] at np5; cases np5
              have npi : p7 ≠ ib := fun z => by rw [z, hib5] at np5; cases np5
              have npl : p7 ≠ l2 := fun z => by rw [z, hl5] at np5; cases np5
              have npy : p7 ≠ y := fun z => by rw [z, hy5] at np5; cases np5
              refine ⟨ib, ims, _, rfl, rfl, hib7, small1000 (by omega), ?_⟩
              have tpw : Tups H7 (upd H7 ib (.lst (ims ++ [.ref p7]))) := Tups.write hib7 fun _ z => by cases z
              have hmet : rj.met ≤ r4.met := by omega
              refine ⟨_, ims ++ [.ref p7], ml ++ [mv], r4, rfl, fun a o na ea => ?_, ⟨(upd_ne nri).trans hR7.ha, (upd_ne nti).trans hR7.ht, hR7.rest, hR7.le, hR7.tl⟩, (upd_ne nyi).trans (sl57 _ _ (Ne.symm nry) hy5), (upd_ne (Ne.symm nil)).trans (sl57 _ _ (Ne.symm nrl) hl5), upd_same, (hrow5.keep tp57).keep tpw, ?_, fun m hm => ?_, by omega, hrest.step (readMessages_succ mo) hj (emsg.trans ev)⟩
              · rw [upd_ne (ne_of_none ea nib)]
                exact sl57 _ _ na (sl5 _ _ na ea)
              · refine pair_snoc (Paired.mapP hP fun v m h => ⟨h.1.keep (tp57.trans tpw) fun a o na n0 e => ?_, h.2⟩) ⟨⟨p7, mvs, rfl, (upd_ne npi).trans hp7, npi, np0, hrow7.keep tpw⟩, fun ma e => by cases e; exact ⟨npl, npy⟩⟩
                rw [upd_ne na]
                exact sl57 _ _ (fun z => by rw [z, hR.ha] at n0; cases n0) e
              · rcases List.mem_append.mp hm with hm | hm
                · exact ⟨(hml m hm).1, fun v hv => ((hml m hm).2 v hv).more hmet⟩
                · rw [List.mem_singleton] at hm
                  subst hm
                  exact ⟨by omega, hv7⟩
        · rintro σ H5 ⟨v2, ims, ml, rj, rfl, sl5, hR5, hy5, hl5, hib5, hrow5, hP, hml, hmm, hrest⟩
          have ef := hrest.fin (fun _ => rfl)
          rw [ef] at k
          have hzn := hrest.2.1
          refine ⟨_, rfl, ?_⟩
          exact k H5 y sl5 hR5 ⟨dy, l2, ib, svs, ims, ny, nl20, nib, nyl, nyi, Ne.symm nil, hy5, hl5, hrow5, hib5, hP⟩
            ⟨hlen2, by show ml.length ≤ 4; omega, fun m hm => (hml m hm).1, fun v hv => (hv2 v hv).more (by show r1.met ≤ rj.met; omega), fun m hm => (hml m hm).2⟩ (by show r.met ≤ rj.met; omega)
end
end Sh


set_option maxHeartbeats 2000000
namespace Sh
open PySem PySem.Spec PyProof.Rows L2
open Vbxlaa (fieldsOf rootsOf readNumber readNat readValue readValues readMessages readClients readObjects load)
def readObj (mo k : Nat) (r : VR) : Except Nat (List VV × VR) := if r.met < k then .error r.index else (readNat 0 4 r).bind fun x => readValues mo x.1 x.2
theorem readObjects_succ (mo n k : Nat) (r : VR) : readObjects mo (n + 1) k r = (readObj mo k r).bind fun y => (readObjects mo n (k + 1) y.2).map fun z => (⟨k - 1, y.1⟩ :: z.1, z.2) := by
  show (if r.met < k then .error r.index else (readNat 0 4 r).bind fun x => (readValues mo x.1 x.2).bind fun y => (readObjects mo n (k + 1) y.2).map fun z => (⟨k - 1, y.1⟩ :: z.1, z.2)) = _
  unfold readObj
  by_cases c : r.met < k
  · rw [if_pos c, if_pos c]
    rfl
  · rw [if_neg c, if_neg c]
    cases readNat 0 4 r <;> rfl
/-- the rest of the objects after some of them -/
def RestO (mo n : Nat) (r : VR) (j : Nat) (l : List VO) (rj : VR) : Prop := j ≤ n ∧ (l.map fun o => o.id) = List.range j ∧ readObjects mo n 1 r = (readObjects mo (n - j) (j + 1) rj).map fun y => (l ++ y.1, y.2)
theorem RestO.start (mo n : Nat) (r : VR) : RestO mo n r 0 [] r := ⟨Nat.zero_le _, rfl, by
  rw [Nat.sub_zero]
  cases readObjects mo n 1 r <;> rfl⟩
theorem RestO.bad {mo n : Nat} {r : VR} {j : Nat} {l : List VO} {rj : VR} {i : Nat} (h : RestO mo n r j l rj) (hj : j < n) (e : readObj mo (j + 1) rj = .error i) : readObjects mo n 1 r = .error i := by
  obtain ⟨_, _, h⟩ := h
  rw [h, show n - j = (n - (j + 1)) + 1 by omega, readObjects_succ, e]
  rfl
theorem RestO.step {mo n : Nat} {r : VR} {j : Nat} {l : List VO} {rj r' : VR} {v : List VV} (h : RestO mo n r j l rj) (hj : j < n) (e : readObj mo (j + 1) rj = .ok (v, r')) : RestO mo n r (j + 1) (l ++ [⟨j, v⟩]) r' := by
  obtain ⟨_, hl, h⟩ := h
  refine ⟨hj, by rw [List.map_append, hl, List.range_succ]; rfl, ?_⟩
  rw [h, show n - j = (n - (j + 1)) + 1 by omega, readObjects_succ, e]
  show ((readObjects mo (n - (j + 1)) (j + 1 + 1) r').map fun z => ((⟨j + 1 - 1, v⟩ : VO) :: z.1, z.2)).map _ = _
  rw [show j + 1 - 1 = j by omega]
  cases readObjects mo (n - (j + 1)) (j + 1 + 1) r' with
  | error i => rfl
  | ok p =>
    show Except.ok (l ++ (⟨j, v⟩ : VO) :: p.1, p.2) = Except.ok ((l ++ [⟨j, v⟩]) ++ p.1, p.2)
    rw [show l ++ (⟨j, v⟩ : VO) :: p.1 = (l ++ [⟨j, v⟩]) ++ p.1 by simp]
theorem RestO.fin {mo n : Nat} {r : VR} {l : List VO} {rj : VR} (h : RestO mo n r n l rj) : readObjects mo n 1 r = .ok (l, rj) := by
  obtain ⟨_, _, h⟩ := h
  rw [h, Nat.sub_self]
  show Except.ok (l ++ [], rj) = _
  rw [List.append_nil]
def load4 (made : Nat) (cs : List VC) (os : List VO) (r : VR) : Except Nat VSt := match r.rest with
  | [] => .ok ⟨made, os, cs⟩
  | _ :: _ => .error r.index
def load3 (made : Nat) (cs : List VC) (n : Nat) (r : VR) : Except Nat VSt := (readObjects n n 1 r).bind fun o => load4 made cs o.1 o.2
def load2 (made : Nat) (cs : List VC) (r : VR) : Except Nat VSt := (readNat r.met (if r.met = 0 then 0 else made) r).bind fun n => load3 made cs n.1 n.2
def load1 (made : Nat) (r : VR) : Except Nat VSt := (readNat 1 4 r).bind fun count => (readClients made count.1 count.2).bind fun c => load2 made c.1 c.2
theorem load_eq (ts : List Int) : load ts = (readNat 0 48 ⟨ts, 0, 0⟩).bind fun made => load1 made.1 made.2 := rfl
/-- names of a store that was read: n objects, c made -/
def nmf (n c i : Nat) : Int := if i < n then ((i + 1 : Nat) : Int) else if i < c then -((i + 1 : Nat) : Int) else (n : Int) + 1 + ((i - c : Nat) : Int)
theorem nmf_ok {n c : Nat} (h : n ≤ c) : NmOk (nmf n c) c n := by
  refine ⟨fun i j e => ?_, fun i hi => ?_⟩
  · unfold nmf at e
    by_cases a : i < n <;> by_cases b : j < n <;> by_cases a2 : i < c <;> by_cases b2 : j < c <;> simp only [a, b, a2, b2, if_true, if_false] at e <;> omega
  · unfold nmf
    rw [if_neg (by omega), if_neg (by omega)]
theorem IsV.rename {K : PySem.W.Frag} {nm nm' : Nat → Int} {H : Hp} {v : V} {x : VV} (h : IsV K nm H v x) (e : ∀ i, x = .object i → nm' i = nm i) : IsV K nm' H v x := by
  obtain ⟨t, e1, z⟩ := h
  refine ⟨t, e1, ?_⟩
  cases x with
  | nothing => exact z
  | number _ => exact z
  | object i =>
    show TupAt K H t [.int 2, .int (nm' i)]
    rw [e i rfl]
    exact z
theorem Row.rename {K : PySem.W.Frag} {nm nm' : Nat → Int} {H : Hp} : ∀ {vs : List V} {xs : List VV}, Row K nm H vs xs → (∀ x ∈ xs, ∀ i, x = .object i → nm' i = nm i) → Row K nm' H vs xs
  | _, _, .nil, _ => .nil
  | _, _, .cons r t, h => .cons (r.rename (h _ List.mem_cons_self)) (Row.rename t fun x m => h x (List.mem_cons_of_mem _ m))
theorem pair_memr {α β : Type} {F G : α → β → Prop} : ∀ {xs : List α} {us : List β}, Paired F xs us → (∀ x u, u ∈ us → F x u → G x u) → Paired G xs us
  | _, _, .nil, _ => .nil
  | _, _, .cons r t, h => .cons (h _ _ List.mem_cons_self r) (pair_memr t fun x u m => h x u (List.mem_cons_of_mem _ m))
theorem Raw.rename {K : PySem.W.Frag} {ad : Ad} {nm nm' : Nat → Int} {ro : Rm} {H : Hp} {b : Bool} {sa dx cl td : Addr} {cs : List VC} {os : List VO} {made last : Int} {cvs : List V} {kvs : List (Key × V)} (r : Raw K ad nm ro H b sa dx cl td cs os made last cvs kvs)
    (hc : ∀ c ∈ cs, (∀ x ∈ c.slots, ∀ i, x = .object i → nm' i = nm i) ∧ ∀ m ∈ c.inbox, ∀ x ∈ m, ∀ i, x = .object i → nm' i = nm i) (ho : ∀ o ∈ os, nm' o.id = nm o.id ∧ ∀ x ∈ o.fields, ∀ i, x = .object i → nm' i = nm i) : Raw K ad nm' ro H b sa dx cl td cs os made last cvs kvs := by
  refine ⟨r.ha, r.ra, r.hc, r.rc, r.ln, fun i c e => ?_, r.ht, r.rt, pair_memr r.th fun kv o m h => ?_⟩
  · obtain ⟨ca, q1, dx, sl, ib, svs, ims, h1, h2, h3, h4, h5, h6, h7, h8⟩ := r.ct i c e
    obtain ⟨g1, g2⟩ := hc c (List.mem_of_getElem? e)
    refine ⟨ca, q1, dx, sl, ib, svs, ims, h1, h2, h3, h4, h5.rename g1, h6, h7, pair_memr h8 fun v m mm z => ?_⟩
    obtain ⟨ma, mvs, z1, z2, z3, z4⟩ := z
    exact ⟨ma, mvs, z1, z2, z3, z4.rename (g2 m mm)⟩
  · obtain ⟨e, ta, tvs, h1, h2, h3, h4⟩ := h
    obtain ⟨g1, g2⟩ := ho o m
    exact ⟨by rw [e, g1], ta, tvs, h1, h2, h3, h4.rename g2⟩
theorem ClNew.at {K : PySem.W.Frag} {ad : Ad} {H0 H H' : Hp} {y : Addr} {c : VC} {ro : Rm} {b : Bool} {j : Nat} (h : ClNew K ad H H' y c) (f : Fs H0 ro) (s0 : ∀ a, H a = none → H0 a = none) : ∃ ro', ClientAt K ad nm0 ro' H' b j y c ∧ Fs H0 ro' ∧ RoN H ro ro' := by
  obtain ⟨dy, sl, ib, svs, ims, ny, ns, ni, d1, d2, d3, h1, h2, h3, h4, h5⟩ := h
  have inacc : ∀ a, V.ref a ∈ ims → H a = none ∧ a ≠ ib ∧ a ≠ sl ∧ a ≠ y := fun a ha => by
    obtain ⟨m, _, ⟨ma, mvs, e, _, q1, q2, _⟩, q3⟩ := pair_mem h5 ha
    cases e
    obtain ⟨q4, q5⟩ := q3 a rfl
    exact ⟨q2, q1, q4, q5⟩
  have oy : V.ref y ∉ ims := fun z => (inacc y z).2.2.2 rfl
  have os : V.ref sl ∉ ims := fun z => (inacc sl z).2.2.1 rfl
  have oi : V.ref ib ∉ ims := fun z => (inacc ib z).2.1 rfl
  refine ⟨immR (upR (upR (upR ro y (.client b j)) sl (.slots b j)) ib (.inbox b j)) ims, ?_, fun a r q => ?_, fun a o e => ?_⟩
  · refine ⟨dy, sl, ib, svs, ims, h1, by rw [immR_out oy, upR_ne d2, upR_ne d1, upR_same], h2, by rw [immR_out os, upR_ne d3, upR_same], h3, h4, by rw [immR_out oi, upR_same], ?_⟩
    refine pair_of_get (Paired.length h5) fun i v m hv hm => ?_
    obtain ⟨m', hm', ⟨ma, mvs, e, q0, q1, q2, q3⟩, _⟩ := pair_get' h5 hv
    rw [hm] at hm'
    cases hm'
    exact ⟨ma, mvs, e, q0, immR_in (e ▸ List.mem_of_getElem? hv), q3⟩
  · by_cases z : V.ref a ∈ ims
    · exact s0 a (inacc a z).1
    · rw [immR_out z] at q
      exact (((f.up (s0 _ ny)).up (s0 _ ns)).up (s0 _ ni)) a r q
  · rw [immR_out fun z => by rw [(inacc a z).1] at e; cases e]
    exact (((RoN.refl.up ny).up ns).up ni) a o e
section
variable {P : Program} {w : World} {K : PySem.W.Frag} {mg : Str → Option Value} {base : Heap} {ad : Ad}
def spThing (K : PySem.W.Frag) (ad : Ad) : Sp := fun vs H Q E => ∃ (ra dx ta : Addr) (ts : List Int) (cr mo : Nat) (r : VR) (kk : Nat), vs = [.ref ra, .int (kk : Nat)] ∧ RdAt ad H ra dx ta ts cr mo r ∧
  Out (readObj mo kk r) (fun l r' => ∀ H' p tvs, SL ra H H' → RdAt ad H' ra dx ta ts cr mo r' → (∀ o, H p = some o → p = ra) → H' p = some (.lst tvs) → Row K nm0 H' tvs l → (∀ v ∈ l, VOk mo r' v) → r.met ≤ r'.met → l.length ≤ 4 → Q (.ref p) H') (BadU ad ra H E)
theorem ok_Reader_thing (T : Tx K mg ad) (D : Dm K ad.reader "thing" "Reader.thing" s_Reader_thing ["self", "name"]) (G_Unread : OkE P w K mg base 1 "Unread" "index" ad.unread ad.unreadI ["self", "index"] (spEInit "index" ad.unread)) (G_Reader_row : OkM P w K mg base 5 ad.reader "row" ["self", "many"] (spRow K ad))
    (G_Reader_number : OkM P w K mg base 3 ad.reader "number" ["self", "low", "high"] (spNumber ad)) : OkM P w K mg base 6 ad.reader "thing" ["self", "name"] (spThing K ad) := by
  refine D.ok c_Reader_thing (fun vs H Q E h => ?_) (fun f cdv A outer s H vs Q E hr h => ?_)
  · obtain ⟨ra, dx, ta, ts, cr, mo, r, kk, rfl, _⟩ := h
    rfl
  · refine ⟨_,
      (pss_cons (ps_if (pt_cmpR op_gt (pv 1) (pe_fld (pv 0) rfl) (nomark _)) (pss_one (L2N.ps_raise rfl (L2N.takes_of rfl rfl rfl rfl) (pmk_ok G_Unread hr (pa_cons (pe_fld (pv 0) rfl) pa_nil)))) pss_nil)
        (pss_one (ps_ret (pe_m (pv 0) T.k_reader G_Reader_row hr (L2N.takes_of rfl rfl rfl rfl) (pa_cons (pe_m (pv 0) T.k_reader G_Reader_number hr (L2N.takes_of rfl rfl rfl rfl) (pa_cons pe_int (pa_cons (pe_ci T.c_MOST_FIELDS) pa_nil))) pa_nil)))))
      , ?_⟩
    obtain ⟨ra, dx, ta, ts, cr, mo, r, kk, rfl, hR, k⟩ := h
    refine ⟨_, rfl, _, rfl, ra, _, dx, _, _, rfl, hR.ha, T.k_reader, T.n_met, rfl, _, _, rfl, rfl, _, rfl, ite2 (fun c => ?_) fun c => ?_⟩
    · have c : r.met < kk := by have := of_decide_eq_true c; omega
      have e : readObj mo kk r = .error r.index := if_pos c
      exact ⟨_, rfl, ra, _, dx, _, _, rfl, hR.ha, T.k_reader, T.n_at, rfl, by show 1 ≤ 1000; decide, emk_go fun H' d s _ e2 => (k.bad_ e) H' d (SL.same s) e2⟩
    · have c : ¬ r.met < kk := by have := of_decide_eq_false (Bool.eq_false_iff.mpr c); omega
      have e : readObj mo kk r = (readNat 0 4 r).bind fun x => readValues mo x.1 x.2 := if_neg c
      refine ⟨_, rfl, ra, dx, _, rfl, hR.ha, rfl, _, rfl, ra, dx, _, rfl, hR.ha, rfl, ra, dx, ta, ts, cr, mo, r, 0, 4, rfl, hR, ?_⟩
      cases en : readNumber 0 4 r with
      | error i => exact k.bad_ (by rw [e, show readNat 0 4 r = .error i from readNat_bad (lo := 0) (hi := 4) en]; rfl)
      | ok p =>
        obtain ⟨z, r2⟩ := p
        obtain ⟨hm3, z0, z4⟩ := readNumber_ok en
        have e2 : readObj mo kk r = readValues mo z.toNat r2 := by
          rw [e, show readNat 0 4 r = .ok (z.toNat, r2) from readNat_ok (lo := 0) (hi := 4) en]
          rfl
        intro H4 sl4 hR4 _ _
        obtain ⟨zn, rfl⟩ : ∃ zn : Nat, z = (zn : Int) := ⟨z.toNat, by omega⟩
        refine ⟨ra, dx, ta, ts, cr, mo, r2, zn, rfl, by omega, hR4, ?_⟩
        have e3 : readObj mo kk r = readValues mo zn r2 := e2
        cases ev : readValues mo zn r2 with
        | error i => exact (k.bad_ (e3.trans ev)).later sl4
        | ok p =>
          obtain ⟨l, r4⟩ := p
          intro H7 p7 mvs sl7 hR7 np7 hp7 hrow7 hv7 hm7 hlen7
          have hm7 : r2.met ≤ r4.met := hm7
          have hlen7 : l.length = zn := hlen7
          refine k.ok_ (e3.trans ev) H7 p7 mvs (sl4.trans sl7) hR7 (fun o q => ?_) hp7 hrow7 hv7 (by omega) (by omega)
          by_cases c : p7 = ra
          · exact c
          · rw [sl4 _ _ c q] at np7; cases np7
end
end Sh


set_option maxHeartbeats 2000000
namespace Sh
open PySem PySem.Spec PyProof.Rows L2
open Vbxlaa (fieldsOf rootsOf readNumber readNat readValue readValues readMessages readClients readObjects load)
section
variable {P : Program} {w : World} {K : PySem.W.Frag} {mg : Str → Option Value} {base : Heap} {ad : Ad}
theorem ife {K : PySem.W.Frag} {i : Nat} {f : Str} {σ : L2.St} {H : Hp} {Q : VK} {c : Bool} {a b : Int} (hA : ∀ Q : VK, Q (.int a) H → tFld K (tVar i) f σ H Q) (h : Q (.int (if c = true then a else b)) H) : if c = true then tFld K (tVar i) f σ H Q else L2.tC (.int b) σ H Q := by
  cases c with
  | true => exact iteT (hA Q h)
  | false => exact iteF h
def LRes (K : PySem.W.Frag) (ad : Ad) (b : Bool) (H : Hp) (Q : VK) (E : XK) (x : Except Nat VSt) : Prop := match x with
  | .ok S => ∀ H' p ro nm R, Same H H' → Fs H ro → StoreAt K ad nm ro H' b p S → Wf S R → Q (.ref p) H'
  | .error i => ∀ H' d, Same H H' → H' d = some (.xd [("index", .int (i : Nat))]) → E (.ref ad.unread) (some d) H'
theorem LRes.bad {b : Bool} {H H1 : Hp} {Q : VK} {E : XK} {x : Except Nat VSt} {ra : Addr} {i : Nat} (h : LRes K ad b H Q E x) (e : x = .error i) (n : H ra = none) (s : Same H H1) : BadU ad ra H1 E i := by
  subst e
  exact fun H' d sl e => h H' d (fun a o ea => sl a o (ne_of_none ea n) (s a o ea)) e
def spReadStore (K : PySem.W.Frag) (ad : Ad) : Sp := fun vs H Q E => ∃ (ta : Addr) (ts : List Int) (b : Bool), vs = [.ref ta] ∧ H ta = some (.lst (ts.map V.int)) ∧ ts.length ≤ 700 ∧ LRes K ad b H Q E (load ts)
theorem ok_read_store (T : Tx K mg ad) (D : Df K mg "read_store" s_read_store ["text"]) (G_Reader : OkI P w K mg base 1 "Reader" ad.reader ["self", "text"] (spReaderInit ad)) (G_Store : OkI P w K mg base 3 "Store" ad.store ["self", "many"] (spStoreInit K ad))
    (G_Reader_number : OkM P w K mg base 3 ad.reader "number" ["self", "low", "high"] (spNumber ad)) (G_Reader_client : OkM P w K mg base 6 ad.reader "client" ["self"] (spClient K ad)) (G_Reader_thing : OkM P w K mg base 6 ad.reader "thing" ["self", "name"] (spThing K ad))
    (G_Unread : OkE P w K mg base 1 "Unread" "index" ad.unread ad.unreadI ["self", "index"] (spEInit "index" ad.unread)) : Ok P w K mg base 7 "read_store" ["text"] (spReadStore K ad) := by
  refine D.ok c_read_store (fun vs H Q E h => ?_) (fun f cdv A outer s H vs Q E hr h => ?_)
  · obtain ⟨ta, ts, b, rfl, _⟩ := h
    rfl
  · refine ⟨_,
      (pss_cons (ps_set (i := 1) c_read_store.nd rfl (Or.inl rfl) (pe_i G_Reader hr (pa_cons (pv 0) pa_nil)))
        (pss_cons (ps_set (i := 2) c_read_store.nd rfl (Or.inl rfl) (pe_i G_Store hr (pa_cons pe_int pa_nil)))
        (pss_cons (ps_fld (pv 1) (pe_m (pv 1) T.k_reader G_Reader_number hr (L2N.takes_of rfl rfl rfl rfl) (pa_cons pe_int (pa_cons (pe_ci T.c_MOST_CREATED) pa_nil))) rfl)
        (pss_cons (ps_fld (pv 1) (pe_fld (pv 1) rfl) rfl)
        (pss_cons (ps_for (passes_of rfl) rfl (pi_range1 rfl T.b_range (pa_cons (pe_m (pv 1) T.k_reader G_Reader_number hr (L2N.takes_of rfl rfl rfl rfl) (pa_cons pe_int (pa_cons (pe_ci T.c_MOST_CLIENTS) pa_nil))) pa_nil)) (pg_name (i := 3) c_read_store.nd rfl (Or.inl rfl))
          (pss_one (ps_expr (pe_bm PySem.F.plainAttrs_list PySem.F.slot_list_append PySem.F.type_list_append mt_append (pe_fld (pv 2) rfl) (pa_cons (pe_m0 (pv 1) T.k_reader G_Reader_client hr (L2N.takes_of rfl rfl rfl rfl)) pa_nil)))))
        (pss_cons (ps_set (i := 4) c_read_store.nd rfl (Or.inl rfl) (pe_m (pv 1) T.k_reader G_Reader_number hr (L2N.takes_of rfl rfl rfl rfl) (pa_cons (pe_fld (pv 1) rfl) (pa_cons (pe_ifExp (pt_cmpR op_gt (pe_fld (pv 1) rfl) pe_int (nomark _)) (pe_fld (pv 1) rfl) pe_int) pa_nil))))
        (pss_cons (ps_fld (pv 1) (pv 4) rfl)
        (pss_cons (ps_for (passes_of rfl) rfl (pi_range2 rfl T.b_range (pa_cons pe_int (pa_cons (pe_op op_add (pv 4) pe_int) pa_nil))) (pg_name (i := 5) c_read_store.nd rfl (Or.inl rfl))
          (pss_one (ps_asg (pe_m (pv 1) T.k_reader G_Reader_thing hr (L2N.takes_of rfl rfl rfl rfl) (pa_cons (pv 5) pa_nil)) (pg_sub (pe_fld (pv 2) rfl) (pv 5) (set_dict (hu_of hr))))))
        (pss_cons (ps_if (pt_cmpR op_lt (pe_fld (pv 1) rfl) (pe_callB call_len_seq (by rfl) T.b_len (by decide +kernel) (pa_cons (pv 0) pa_nil)) (nomark _)) (pss_one (L2N.ps_raise rfl (L2N.takes_of rfl rfl rfl rfl) (pmk_ok G_Unread hr (pa_cons (pe_fld (pv 1) rfl) pa_nil)))) pss_nil)
        (pss_cons (ps_fld (pv 2) (pe_fld (pv 1) rfl) rfl)
        (pss_cons (ps_fld (pv 2) (pv 4) rfl)
        (pss_one (ps_ret (pv 2))))))))))))))
      , ?_⟩
    obtain ⟨ta, ts, b, rfl, hta, htl, k⟩ := h
    -- reader = Reader(text)
    refine ⟨_, rfl, ?_⟩
    intro ra dx nra ndx ndr
    have s0 : Same H (upd (upd H dx (.own ra)) ra (.ins ad.reader dx [])) := (Same.new ndx).trans (Same.new ((upd_ne (Ne.symm ndr)).trans nra))
    refine ⟨ra, dx, ta, rfl, upd_same, fun H1 kp1 e1 => ⟨rfl, ?_⟩⟩
    have s1 : Same H H1 := fun a o e => kp1 a o (ne_of_none e nra) (s0 a o e)
    have hR1 : RdAt ad H1 ra dx ta ts 0 0 ⟨ts, 0, 0⟩ := ⟨e1, s1 _ _ hta, rfl, Nat.zero_le _, htl⟩
    -- store = Store(0)
    intro sa sx nsa nsx nsxa
    have sz : Same H1 (upd (upd H1 sx (.own sa)) sa (.ins ad.store sx [])) := (Same.new nsx).trans (Same.new ((upd_ne (Ne.symm nsxa)).trans nsa))
    refine ⟨sa, sx, 0, nm0, b, rfl, by decide, upd_same, fun H2 ro2 cl td cvs2 kp2 fs2 raw2 => ⟨rfl, ?_⟩⟩
    have s2 : Same H1 H2 := fun a o e => kp2 a o (ne_of_none e nsa) (sz a o e)
    have f2 : Fs H1 ro2 := fun a r q => by
      have z := fs2 a r q
      by_cases c : a = sa
      · rw [c]; exact nsa
      · exact sz.free ((if_neg c).symm.trans z)
    have hR2 := hR1.same s2
    have ne1 : ∀ {a : Addr} {ro : Rm} {r : Ro}, Fs H1 ro → ro a = some r → a ≠ ra ∧ a ≠ ta := fun f q => ⟨(fun z => by have := f _ _ q; rw [z, e1] at this; cases this), (fun z => by have := f _ _ q; rw [z, s1 _ _ hta] at this; cases this)⟩
    -- kept by what leaves all but the reader
    have kraw : ∀ {ro ro' : Rm} {H5 H6 : Hp} {cs os made last cvs kvs}, Raw K ad nm0 ro H5 b sa sx cl td cs os made last cvs kvs → Fs H1 ro → Tups H5 H6 → SL ra H5 H6 → RoN H5 ro ro' → Raw K ad nm0 ro' H6 b sa sx cl td cs os made last cvs kvs := fun {ro ro' H5 H6 cs os made last cvs kvs} r f t s n =>
      r.keep ⟨t, fun a o q e h _ => ⟨s a o (ne1 f h).1 e, (n a o e).trans h⟩⟩
    -- reader.created = reader.number(0, MOST_CREATED)
    refine ⟨_, rfl, ra, dx, _, rfl, hR2.ha, rfl, ra, dx, ta, ts, 0, 0, _, 0, 48, rfl, hR2, ?_⟩
    rw [load_eq] at k
    cases en : readNumber 0 48 ⟨ts, 0, 0⟩ with
    | error i => exact (k.bad (by rw [show readNat 0 48 ⟨ts, 0, 0⟩ = .error i from readNat_bad (lo := 0) (hi := 48) en]; rfl) nra (s1.trans s2))
    | ok p =>
      obtain ⟨z, r3⟩ := p
      obtain ⟨hm3, z0, z48⟩ := readNumber_ok en
      obtain ⟨cr, rfl⟩ : ∃ cr : Nat, z = (cr : Int) := ⟨z.toNat, by omega⟩
      have k3 : LRes K ad b H Q E (load1 cr r3) := by
        rw [show readNat 0 48 ⟨ts, 0, 0⟩ = .ok ((cr : Int).toNat, r3) from readNat_ok (lo := 0) (hi := 48) en] at k
        exact k
      intro H3 sl3 hR3 _ _
      have hm3 : r3.met = 0 := hm3
      refine ⟨_, rfl, ra, _, dx, _, rfl, hR3.ha, T.k_reader, T.r_created, by show 5 < 1000; decide, ?_⟩
      refine ⟨_, rfl, ra, _, dx, _, _, rfl, upd_same, T.k_reader, T.r_created, rfl, _, rfl, ra, _, dx, _, rfl, upd_same, T.k_reader, T.n_most, by show 5 < 1000; decide, ?_⟩
      have hR4 : RdAt ad (upd (upd H3 ra (.ins ad.reader dx [("text", .ref ta), ("at", .int (r3.index : Nat)), ("created", .int (cr : Nat)), ("most", .int (0 : Nat)), ("met", .int (r3.met : Nat))])) ra (.ins ad.reader dx [("text", .ref ta), ("at", .int (r3.index : Nat)), ("created", .int (cr : Nat)), ("most", .int (cr : Nat)), ("met", .int (r3.met : Nat))])) ra dx ta ts cr cr r3 :=
        ⟨upd_same, (upd_ne hR3.ne).trans ((upd_ne hR3.ne).trans hR3.ht), hR3.rest, hR3.le, hR3.tl⟩
      have tp4 : Tups H3 (upd (upd H3 ra (.ins ad.reader dx [("text", .ref ta), ("at", .int (r3.index : Nat)), ("created", .int (cr : Nat)), ("most", .int (0 : Nat)), ("met", .int (r3.met : Nat))])) ra (.ins ad.reader dx [("text", .ref ta), ("at", .int (r3.index : Nat)), ("created", .int (cr : Nat)), ("most", .int (cr : Nat)), ("met", .int (r3.met : Nat))])) :=
        hR3.tups (SL.refl.put.put)
      have sl24 : SL ra H2 (upd (upd H3 ra (.ins ad.reader dx [("text", .ref ta), ("at", .int (r3.index : Nat)), ("created", .int (cr : Nat)), ("most", .int (0 : Nat)), ("met", .int (r3.met : Nat))])) ra (.ins ad.reader dx [("text", .ref ta), ("at", .int (r3.index : Nat)), ("created", .int (cr : Nat)), ("most", .int (cr : Nat)), ("met", .int (r3.met : Nat))])) := sl3.put.put
      have raw4 := kraw raw2 f2 ((hR2.tups sl3).trans tp4) sl24 RoN.refl
      have sl14 := SL.trans (SL.same s2) sl24
      have whole : ∀ {H5 : Hp}, SL ra H1 H5 → Same H H5 := fun s => SL.whole s1 nra s
      -- the clients
      refine ⟨_, rfl, ra, dx, _, rfl, hR4.ha, rfl, ra, dx, ta, ts, cr, cr, r3, 1, 4, rfl, hR4, ?_⟩
      cases ec : readNumber 1 4 r3 with
      | error i => exact k3.bad (by unfold load1; rw [show readNat 1 4 r3 = .error i from readNat_bad (lo := 1) (hi := 4) ec]; rfl) nra (whole sl14)
      | ok p =>
        obtain ⟨z, r5⟩ := p
        obtain ⟨hm5, z1, z4⟩ := readNumber_ok ec
        obtain ⟨cn, rfl⟩ : ∃ cn : Nat, z = (cn : Int) := ⟨z.toNat, by omega⟩
        have k5 : LRes K ad b H Q E ((readClients cr cn r5).bind fun c => load2 cr c.1 c.2) := by
          unfold load1 at k3
          rw [show readNat 1 4 r3 = .ok ((cn : Int).toNat, r5) from readNat_ok (lo := 1) (hi := 4) ec] at k3
          exact k3
        intro H5 sl5 hR5 _ _
        have hm5 : r5.met = r3.met := hm5
        have z4 : (cn : Int) ≤ 4 := z4
        have z1 : (1 : Int) ≤ cn := z1
        have raw5 := kraw raw4 f2 (hR4.tups sl5) sl5 RoN.refl
        refine ⟨_, rfl, by show _ ≤ (cn : Int); omega, by show (cn : Int) < _; omega, ?_⟩
        have ecv : cvs2.length = 0 := raw2.ln
        refine for_range (lo := 0) (n := cn) (fun j σ H6 => ∃ (v3 v4 v5 : Option V) (ro : Rm) (cs : List VC) (cvs : List V) (rj : VR), σ = [some (.ref ta), some (.ref ra), some (.ref sa), v3, v4, v5] ∧ SL ra H1 H6 ∧ RdAt ad H6 ra dx ta ts cr cr rj ∧ Fs H1 ro ∧ Raw K ad nm0 ro H6 b sa sx cl td cs [] 0 0 cvs [] ∧
            (∀ c ∈ cs, ClOk cr rj c) ∧ RestL (readCl cr) (readClients cr) cn r5 j cs rj)
          ⟨none, none, none, ro2, [], cvs2, r5, rfl, sl14.trans sl5, hR5, f2, raw5, (fun _ h => by cases h), RestL.start _ _⟩ ?_ ?_
        · rintro j σ H6 hj ⟨v3, v4, v5, ro, cs, cvs, rj, rfl, sl6, hR6, f6, raw6, hcs, hrest⟩
          have hcv : cvs.length = j := raw6.ln.trans hrest.2.1
          refine ⟨_, rfl, sa, _, sx, _, _, rfl, raw6.ha, T.k_store, T.n_clients, rfl, .inl ⟨rfl, _, SqL.of raw6.hc⟩, _, rfl, ra, dx, _, rfl, hR6.ha, rfl, ra, dx, ta, ts, cr, cr, rj, rfl, hR6, ?_⟩
          cases eo : readCl cr rj with
          | error i => exact (k5.bad (by rw [hrest.bad (readClients_succ cr) hj eo]; rfl) nra (whole sl6))
          | ok p =>
            obtain ⟨c, r'⟩ := p
            intro H7 y sl7 hR7 hnew hok hmm
            obtain ⟨ro', cat, fs', rn⟩ := hnew.at (b := b) (j := cs.length) f6 (fun a n => by
              cases q : H1 a with
              | none => rfl
              | some o =>
                by_cases ca : a = ra
                · rw [ca, hR6.ha] at n; cases n
                · rw [sl6 _ _ ca q] at n; cases n)
            have raw7 := kraw raw6 f6 (hR6.tups sl7) sl7 rn
            refine ⟨cl, cvs, _, rfl, rfl, raw7.hc, small1000 (by omega), ?_⟩
            obtain ⟨q1, q2⟩ := ne1 fs' raw7.rc
            refine ⟨_, _, _, ro', cs ++ [c], cvs ++ [.ref y], r', rfl, fun a o na e => ?_, ⟨(upd_ne (Ne.symm q1)).trans hR7.ha, (upd_ne (Ne.symm q2)).trans hR7.ht, hR7.rest, hR7.le, hR7.tl⟩, fs', raw7.addC cat, fun x hx => ?_, hrest.step (readClients_succ cr) hj eo⟩
            · rw [upd_ne (ne_of_none e (fs' _ _ raw7.rc))]
              exact sl7 _ _ na (sl6 _ _ na e)
            · rcases List.mem_append.mp hx with hx | hx
              · exact (hcs x hx).more hmm
              · rw [List.mem_singleton] at hx
                subst hx
                exact hok
        rintro σ H6 ⟨v3, v4, v5, ro, cs, cvs, r6, rfl, sl6, hR6, f6, raw6, hcs, hrest⟩
        have k6 : LRes K ad b H Q E (load2 cr cs r6) := by
          rw [hrest.fin (fun _ => rfl)] at k5
          exact k5
        have hcn := hrest.2.1
        -- many
        refine ⟨_, rfl, ra, dx, _, rfl, hR6.ha, rfl, _, rfl, ra, _, dx, _, _, rfl, hR6.ha, T.k_reader, T.n_met, rfl, _, rfl, ra, _, dx, _, _, rfl, hR6.ha, T.k_reader, T.n_met, rfl, _, _, rfl, rfl, _, rfl, ?_⟩
        refine ife (a := (cr : Int)) (fun Q h => ⟨_, rfl, ra, _, dx, _, _, rfl, hR6.ha, T.k_reader, T.r_created, rfl, h⟩) ?_
        have ehi : (if decide (((r6.met : Nat) : Int) > 0) = true then (cr : Int) else 0) = ((if r6.met = 0 then 0 else cr : Nat) : Int) := by
          by_cases c : r6.met = 0
          · rw [if_pos c, if_neg (by rw [c]; decide)]; rfl
          · rw [if_neg c, if_pos (decide_eq_true (by omega))]
        refine ⟨ra, dx, ta, ts, cr, cr, r6, _, _, rfl, hR6, ?_⟩
        rw [ehi]
        cases em : readNumber ((r6.met : Nat) : Int) ((if r6.met = 0 then 0 else cr : Nat) : Int) r6 with
        | error i => exact k6.bad (by unfold load2; rw [readNat_bad em]; rfl) nra (whole sl6)
        | ok p =>
          obtain ⟨z, r7⟩ := p
          obtain ⟨hm7, y1, y2⟩ := readNumber_ok em
          obtain ⟨n, rfl⟩ : ∃ n : Nat, z = (n : Int) := ⟨z.toNat, by omega⟩
          have k7 : LRes K ad b H Q E ((readObjects n n 1 r7).bind fun o => load4 cr cs o.1 o.2) := by
            unfold load2 at k6
            rw [readNat_ok em] at k6
            exact k6
          have y1 : r6.met ≤ n := by omega
          have y2 : n ≤ cr := by
            by_cases c : r6.met = 0
            · rw [if_pos c] at y2; omega
            · rw [if_neg c] at y2; omega
          intro H7 sl7 hR7 _ _
          have raw7 := kraw raw6 f6 (hR6.tups sl7) sl7 RoN.refl
          refine ⟨_, rfl, _, rfl, ra, _, dx, _, rfl, hR7.ha, T.k_reader, T.n_most, by show 5 < 1000; decide, ?_⟩
          have hR8 : RdAt ad (upd H7 ra (.ins ad.reader dx [("text", .ref ta), ("at", .int (r7.index : Nat)), ("created", .int (cr : Nat)), ("most", .int (n : Nat)), ("met", .int (r7.met : Nat))])) ra dx ta ts cr n r7 := ⟨upd_same, (upd_ne hR7.ne).trans hR7.ht, hR7.rest, hR7.le, hR7.tl⟩
          have raw8 := kraw raw7 f6 (hR7.tups (SL.refl.put (u := .ins ad.reader dx [("text", .ref ta), ("at", .int (r7.index : Nat)), ("created", .int (cr : Nat)), ("most", .int (n : Nat)), ("met", .int (r7.met : Nat))]))) SL.refl.put RoN.refl
          have sl8 : SL ra H1 (upd H7 ra (.ins ad.reader dx [("text", .ref ta), ("at", .int (r7.index : Nat)), ("created", .int (cr : Nat)), ("most", .int (n : Nat)), ("met", .int (r7.met : Nat))])) := (sl6.trans sl7).put
          have cr48 : cr ≤ 48 := by omega
          refine ⟨_, rfl, _, _, rfl, rfl, _, _, rfl, ⟨by omega, by omega, by omega, by omega⟩, ?_⟩
          rw [show ((n : Int) + 1 - 1).toNat = n by omega]
          refine for_range (lo := 1) (n := n) (fun j σ H9 => ∃ (v3 v5 : Option V) (ro : Rm) (os : List VO) (kvs : List (Key × V)) (rj : VR), σ = [some (.ref ta), some (.ref ra), some (.ref sa), v3, some (.int (n : Nat)), v5] ∧ SL ra H1 H9 ∧ RdAt ad H9 ra dx ta ts cr n rj ∧ Fs H1 ro ∧ Raw K ad nm0 ro H9 b sa sx cl td cs os 0 0 cvs kvs ∧
              (∀ o ∈ os, o.fields.length ≤ 4 ∧ ∀ v ∈ o.fields, VOk n rj v) ∧ RestO n n r7 j os rj)
            ⟨v3, v5, ro, [], [], r7, rfl, sl8, hR8, f6, raw8, (fun _ h => by cases h), RestO.start _ _ _⟩ ?_ ?_
          · rintro j σ H9 hj ⟨v3, v5, ro, os, kvs, rj, rfl, sl9, hR9, f9, raw9, hos, hrest9⟩
            have hol : os.length = j := by have := congrArg List.length hrest9.2.1; rwa [List.length_map, List.length_range] at this
            have hkv : kvs.length = j := (Paired.length raw9.th).trans hol
            have e1j : (1 : Int) + (j : Int) = nm0 j := by unfold nm0; omega
            rw [e1j]
            refine ⟨_, rfl, ra, dx, _, rfl, hR9.ha, rfl, _, rfl, ra, dx, ta, ts, cr, n, rj, j + 1, rfl, hR9, ?_⟩
            cases eo : readObj n (j + 1) rj with
            | error i => exact k7.bad (by rw [hrest9.bad hj eo]; rfl) nra (whole sl9)
            | ok p =>
              obtain ⟨l, r'⟩ := p
              intro H10 p10 tvs sl10 hR10 np10 hp10 hrow10 hv10 hm10 hl10
              have hm10 : rj.met ≤ r'.met := hm10
              have hpra : p10 ≠ ra := ne_of hp10 hR10.ha (by intro z; cases z)
              have np9 : H9 p10 = none := by
                cases q : H9 p10 with
                | none => rfl
                | some o => exact absurd (np10 o q) hpra
              have np1 : H1 p10 = none := by
                cases q : H1 p10 with
                | none => rfl
                | some o => rw [sl9 _ _ hpra q] at np9; cases np9
              have raw10 := kraw raw9 f9 (hR9.tups sl10) sl10 (RoN.refl.up (r := .thing b j) np9)
              have f10 := f9.up (r := .thing b j) np1
              refine ⟨_, rfl, sa, _, sx, _, _, rfl, raw10.ha, T.k_store, T.n_things, rfl, _, rfl, td, _, rfl, DPut.k (k := Sum.inl (nm0 j)) raw10.ht (small1000 (by omega)), ?_⟩
              have nokv : valV kvs (.inl (nm0 j)) = none := valV_thing_none (fun i j e => by unfold nm0 at e; omega) raw9.th fun o m e => by
                have : o.id ∈ os.map fun o => o.id := List.mem_map.mpr ⟨o, m, rfl⟩
                rw [hrest9.2.1, List.mem_range] at this
                omega
              rw [putK_new nokv]
              obtain ⟨q1, q2⟩ := ne1 f10 raw10.rt
              refine ⟨_, _, upR ro p10 (.thing b j), os ++ [⟨j, l⟩], _, r', rfl, fun a o na e => ?_, ⟨(upd_ne (Ne.symm q1)).trans hR10.ha, (upd_ne (Ne.symm q2)).trans hR10.ht, hR10.rest, hR10.le, hR10.tl⟩, f10, raw10.addT ⟨rfl, p10, tvs, rfl, hp10, upR_same, hrow10⟩, fun o ho => ?_, hrest9.step hj eo⟩
              · rw [upd_ne (ne_of_none e (f10 _ _ raw10.rt))]
                exact sl10 _ _ na (sl9 _ _ na e)
              · rcases List.mem_append.mp ho with ho | ho
                · exact ⟨(hos o ho).1, fun v hv => ((hos o ho).2 v hv).more hm10⟩
                · rw [List.mem_singleton] at ho
                  subst ho
                  exact ⟨hl10, hv10⟩
          rintro σ H9 ⟨v3, v5, ro, os, kvs, r9, rfl, sl9, hR9, f9, raw9, hos, hrest9⟩
          have k9 : LRes K ad b H Q E (load4 cr cs os r9) := by
            rw [hrest9.fin] at k7
            exact k7
          have hlen : (ts.map V.int).length = ts.length := List.length_map ..
          refine ⟨_, rfl, ra, _, dx, _, _, rfl, hR9.ha, T.k_reader, T.n_at, rfl, _, rfl, ta, _, rfl, .inl (SqL.of hR9.ht), _, _, rfl, rfl, _, rfl, ite2 (fun c => ?_) fun c => ?_⟩
          · have c : r9.index < ts.length := by have := of_decide_eq_true c; omega
            have el : load4 cr cs os r9 = .error r9.index := by
              unfold load4
              rw [hR9.rest, List.drop_eq_getElem_cons c]
            exact ⟨_, rfl, ra, _, dx, _, _, rfl, hR9.ha, T.k_reader, T.n_at, rfl, by show 1 ≤ 1000; decide, emk_go fun H' d s _ e => (k9.bad el nra (whole sl9)) H' d (SL.same s) e⟩
          · have c : ts.length ≤ r9.index := by have := of_decide_eq_false (Bool.eq_false_iff.mpr c); omega
            have el : load4 cr cs os r9 = .ok ⟨cr, os, cs⟩ := by
              unfold load4
              rw [hR9.rest, List.drop_eq_nil_of_le c]
            rw [el] at k9
            refine ⟨_, rfl, ra, _, dx, _, _, rfl, hR9.ha, T.k_reader, T.r_created, rfl, _, rfl, sa, _, sx, _, rfl, raw9.ha, T.k_store, T.n_created, by show 4 < 1000; decide, ?_⟩
            have raw10 := raw9.nums (made' := cr) (last' := 0) rfl
            refine ⟨_, rfl, _, rfl, sa, _, sx, _, rfl, upd_same, T.k_store, T.n_last, by show 4 < 1000; decide, ?_⟩
            have raw11 := raw10.nums (made' := cr) (last' := n) rfl
            have hnm : ∀ i, i < n → nmf n cr i = nm0 i := fun i hi => if_pos hi
            have hidn : ∀ o ∈ os, o.id < n := fun o ho => by
              have : o.id ∈ os.map fun o => o.id := List.mem_map.mpr ⟨o, ho, rfl⟩
              rw [hrest9.2.1, List.mem_range] at this
              exact this
            have hoslen : os.length = n := by have := congrArg List.length hrest9.2.1; rwa [List.length_map, List.length_range] at this
            have raw12 := raw11.rename (nm' := nmf n cr) (fun c hc => ⟨fun x hx i e => hnm i (Nat.lt_of_lt_of_le ((hcs c hc).vs x hx i e).1 y1), fun m hm x hx i e => hnm i (Nat.lt_of_lt_of_le ((hcs c hc).vm m hm x hx i e).1 y1)⟩) (fun o ho => ⟨hnm _ (hidn o ho), fun x hx i e => hnm i ((hos o ho).2 x hx i e).2⟩)
            have whole9 := Same.put (Same.put (whole sl9) (u := .ins ad.store sx [("clients", .ref cl), ("things", .ref td), ("created", .int (cr : Nat)), ("last", .int 0)]) (s1.free nsa)) (u := .ins ad.store sx [("clients", .ref cl), ("things", .ref td), ("created", .int (cr : Nat)), ("last", .int (n : Nat))]) (s1.free nsa)
            refine ⟨_, rfl, ?_⟩
            refine k9 _ sa ro (nmf n cr) (fun i => i < n) whole9 (fun a r q => s1.free (f9 a r q)) (Raw.store (S := ⟨cr, os, cs⟩) raw12 (nmf_ok y2)) ?_
            refine ⟨by show 1 ≤ cs.length; omega, by show cs.length ≤ 4; omega, fun c hc => (hcs c hc).sl, fun c hc => (hcs c hc).ib, fun c hc => (hcs c hc).ms, fun o ho => (hos o ho).1, by show (os.map fun o => o.id).Nodup; rw [hrest9.2.1]; exact List.nodup_range, fun o ho => Nat.lt_of_lt_of_le (hidn o ho) y2, by show os.length ≤ cr; omega, cr48,
              fun c hc v hv i e => Nat.lt_of_lt_of_le ((hcs c hc).vs v hv i e).1 y1, fun c hc m hm v hv i e => Nat.lt_of_lt_of_le ((hcs c hc).vm m hm v hv i e).1 y1, fun i hi => ?_, fun o ho _ v hv i e => ((hos o ho).2 v hv i e).2⟩
            have : i ∈ os.map fun o => o.id := by rw [hrest9.2.1, List.mem_range]; exact hi
            obtain ⟨o, ho, e⟩ := List.mem_map.mp this
            exact ⟨o, ho, e⟩
end
end Sh


set_option maxHeartbeats 2000000
namespace Sh
open PySem PySem.Spec PyProof.Rows L2
open Vbxlaa (fieldsOf rootsOf clientAt valueAtPlace)
def RefE (ad : Ad) (H : Hp) (E : XK) (c : Int) : Prop := ∀ H' d, Same H H' → H' d = some (.xd [("code", .int c)]) → E (.ref ad.refused) (some d) H'
theorem RefE.later {ad : Ad} {H H1 : Hp} {E : XK} {c : Int} (h : RefE ad H E c) (s : Same H H1) : RefE ad H1 E c := fun H' d s' e => h H' d (s.trans s') e
section
variable {P : Program} {w : World} {K : PySem.W.Frag} {mg : Str → Option Value} {base : Heap} {ad : Ad}
def spDeskInit (ad : Ad) : Sp := fun vs H Q _ => ∃ x dx, vs = [.ref x] ∧ H x = some (.ins ad.desk dx []) ∧ ∀ H', (∀ a o, a ≠ x → H a = some o → H' a = some o) → H' x = some (.ins ad.desk dx [("store", .non), ("marked", .non)]) → Q .non H'
theorem ok_Desk_init (T : Tx K mg ad) (D : Di K mg "Desk" ad.desk "Desk.__init__" s_Desk_init ["self"]) : OkI P w K mg base 1 "Desk" ad.desk ["self"] (spDeskInit ad) := by
  refine D.ok c_Desk_init (fun vs H Q E h => ?_) (fun f cdv A outer s H vs Q E hr h => ?_)
  · obtain ⟨x, dx, rfl, _⟩ := h
    rfl
  · refine ⟨_,
      (pss_cons (ps_fld (pv 0) pe_non rfl)
        (pss_one (ps_fld (pv 0) pe_non rfl)))
      , ?_⟩
    obtain ⟨x, dx, rfl, hx, k⟩ := h
    refine ⟨_, rfl, x, _, dx, _, rfl, hx, T.k_desk, T.d_store, by decide, ?_⟩
    refine ⟨_, rfl, x, _, dx, _, rfl, upd_same, T.k_desk, T.n_marked, by show 1 < 1000; decide, ?_⟩
    exact k _ (fun a o na e => by rw [upd_ne na, upd_ne na]; exact e) upd_same
def spRefuse (ad : Ad) : Sp := fun vs H Q E => ∃ (b : Bool) (c : Int), vs = [.bl b, .int c] ∧ (b = true → Q .non H) ∧ (b = false → RefE ad H E c)
theorem ok_refuse_unless (T : Tx K mg ad) (D : Df K mg "refuse_unless" s_refuse_unless ["is_right", "code"]) (G_Refused : OkE P w K mg base 1 "Refused" "code" ad.refused ad.refusedI ["self", "code"] (spEInit "code" ad.refused)) : Ok P w K mg base 3 "refuse_unless" ["is_right", "code"] (spRefuse ad) := by
  refine D.ok c_refuse_unless (fun vs H Q E h => ?_) (fun f cdv A outer s H vs Q E hr h => ?_)
  · obtain ⟨b, c, rfl, _⟩ := h
    rfl
  · refine ⟨_,
      (pss_one (ps_if (pt_not (pt_val (pv 0))) (pss_one (L2N.ps_raise rfl (L2N.takes_of rfl rfl rfl rfl) (pmk_ok G_Refused hr (pa_cons (pv 1) pa_nil)))) pss_nil))
      , ?_⟩
    obtain ⟨b, c, rfl, k1, k2⟩ := h
    cases b with
    | true => exact ⟨_, rfl, _, rfl, iteF (k1 rfl)⟩
    | false => exact ⟨_, rfl, _, rfl, iteT ⟨_, rfl, by show 1 ≤ 1000; decide, emk_go fun H' d s _ e => k2 rfl H' d s e⟩⟩
def spNeed (ad : Ad) : Sp := fun vs H Q E => ∃ (z lo hi : Int), vs = [.int z, .int lo, .int hi] ∧ (lo ≤ z ∧ z ≤ hi → Q .non H) ∧ (¬ (lo ≤ z ∧ z ≤ hi) → RefE ad H E (-1))
theorem ok_need (T : Tx K mg ad) (D : Df K mg "need" s_need ["number", "low", "high"]) (G_refuse_unless : Ok P w K mg base 3 "refuse_unless" ["is_right", "code"] (spRefuse ad)) : Ok P w K mg base 4 "need" ["number", "low", "high"] (spNeed ad) := by
  refine D.ok c_need (fun vs H Q E h => ?_) (fun f cdv A outer s H vs Q E hr h => ?_)
  · obtain ⟨z, lo, hi, rfl, _⟩ := h
    rfl
  · refine ⟨_,
      (pss_one (ps_expr (pe_c G_refuse_unless hr (L2N.takes_of rfl rfl rfl rfl) (pa_cons (pe_chain op_le op_le (pv 1) (pv 0) (pv 2)) (pa_cons (pe_un un_neg pe_int) pa_nil)))))
      , ?_⟩
    obtain ⟨z, lo, hi, rfl, k1, k2⟩ := h
    refine ⟨_, rfl, _, rfl, _, _, rfl, rfl, _, rfl, ite2 (fun c => ?_) fun c => ?_⟩
    · have c : lo ≤ z := of_decide_eq_true c
      refine ⟨_, rfl, _, _, rfl, rfl, _, rfl, _, _, rfl, fun e => ?_, fun e => ?_⟩
      · exact k1 ⟨c, of_decide_eq_true e⟩
      · exact k2 fun n => of_decide_eq_false e n.2
    · have c : ¬ lo ≤ z := of_decide_eq_false (Bool.eq_false_iff.mpr c)
      exact ⟨_, rfl, _, _, rfl, (fun e => by cases e), fun _ => k2 fun n => c n.1⟩
end
end Sh


set_option maxHeartbeats 2000000
namespace Sh
open PySem PySem.Spec PyProof.Rows L2
open Vbxlaa (fieldsOf rootsOf clientAt valueAtPlace)
section
variable {P : Program} {w : World} {K : PySem.W.Frag} {mg : Str → Option Value} {base : Heap} {ad : Ad}
theorem ok_need_slot (T : Tx K mg ad) (D : Df K mg "need_slot" s_need_slot ["number"]) (G_need : Ok P w K mg base 4 "need" ["number", "low", "high"] (spNeed ad)) :
    Ok P w K mg base 5 "need_slot" ["number"] (fun vs H Q E => ∃ z : Int, vs = [.int z] ∧ (0 ≤ z ∧ z ≤ 5 → Q .non H) ∧ (¬ (0 ≤ z ∧ z ≤ 5) → RefE ad H E (-1))) := by
  refine D.ok c_need_slot (fun vs H Q E h => ?_) (fun f cdv A outer s H vs Q E hr h => ?_)
  · obtain ⟨z, rfl, _⟩ := h
    rfl
  · refine ⟨_,
      (pss_one (ps_expr (pe_c G_need hr (L2N.takes_of rfl rfl rfl rfl) (pa_cons (pv 0) (pa_cons pe_int (pa_cons (pe_ci T.c_MOST_SLOT) pa_nil))))))
      , ?_⟩
    obtain ⟨z, rfl, k1, k2⟩ := h
    exact ⟨_, rfl, _, _, _, rfl, k1, k2⟩
def RowOk (l : List Int) (least most high : Int) : Prop := least ≤ (l.length : Int) ∧ (l.length : Int) ≤ most ∧ ∀ z ∈ l, 0 ≤ z ∧ z ≤ high
def spNeedRow (ad : Ad) : Sp := fun vs H Q E => ∃ (la : Addr) (l : List Int) (least most high : Int), vs = [.ref la, .int least, .int most, .int high] ∧ H la = some (.lst (l.map V.int)) ∧ (RowOk l least most high → Q .non H) ∧ (¬ RowOk l least most high → RefE ad H E (-1))
theorem ok_need_row (T : Tx K mg ad) (D : Df K mg "need_row" s_need_row ["row", "least", "most", "high"]) (G_need : Ok P w K mg base 4 "need" ["number", "low", "high"] (spNeed ad)) : Ok P w K mg base 5 "need_row" ["row", "least", "most", "high"] (spNeedRow ad) := by
  refine D.ok c_need_row (fun vs H Q E h => ?_) (fun f cdv A outer s H vs Q E hr h => ?_)
  · obtain ⟨la, l, least, most, high, rfl, _⟩ := h
    rfl
  · refine ⟨_,
      (pss_cons (ps_expr (pe_c G_need hr (L2N.takes_of rfl rfl rfl rfl) (pa_cons (pe_callB call_len_seq (by rfl) T.b_len (by decide +kernel) (pa_cons (pv 0) pa_nil)) (pa_cons (pv 1) (pa_cons (pv 2) pa_nil)))))
        (pss_one (ps_for (passes_of rfl) rfl (pi_list (pv 0)) (pg_name (i := 4) c_need_row.nd rfl (Or.inl rfl))
          (pss_one (ps_expr (pe_c G_need hr (L2N.takes_of rfl rfl rfl rfl) (pa_cons (pv 4) (pa_cons pe_int (pa_cons (pv 3) pa_nil)))))))))
      , ?_⟩
    obtain ⟨la, l, least, most, high, rfl, hla, k1, k2⟩ := h
    have hlen : (l.map V.int).length = l.length := List.length_map ..
    refine ⟨_, rfl, la, _, rfl, .inl (SqL.of hla), _, rfl, _, rfl, _, _, _, rfl, fun c1 => ?_, fun n => k2 fun q => n (by rw [hlen]; exact ⟨q.1, q.2.1⟩)⟩
    rw [hlen] at c1
    refine ⟨_, rfl, la, rfl, ⟨_, SqL.of hla⟩, ?_⟩
    refine for_list (K := K) (a := la) (xs := l.map V.int) (fun j σ H2 => ∃ v4 : Option V, σ = [some (.ref la), some (.int least), some (.int most), some (.int high), v4] ∧ H2 = H ∧ ∀ z ∈ l.take j, 0 ≤ z ∧ z ≤ high)
      ⟨none, rfl, rfl, fun _ h => by cases h⟩ (fun j σ H2 _ ⟨_, _, e, _⟩ => e ▸ SqL.of hla) ?_ ?_
    · rintro j x σ H2 hj ⟨v4, rfl, rfl, ha⟩
      rw [List.getElem?_map] at hj
      obtain ⟨z, hz, rfl⟩ := Option.map_eq_some_iff.mp hj
      refine ⟨_, rfl, _, rfl, _, _, _, rfl, fun c => ⟨_, rfl, rfl, fun y hy => ?_⟩, fun n => k2 fun q => n (q.2.2 z (List.mem_of_getElem? hz))⟩
      obtain ⟨hq, e⟩ := List.getElem?_eq_some_iff.mp hz
      rw [List.take_succ_eq_append_getElem hq, e] at hy
      rcases List.mem_append.mp hy with hy | hy
      · exact ha y hy
      · rw [List.mem_singleton] at hy
        subst hy
        exact c
    · rintro σ H2 ⟨v4, rfl, rfl, ha⟩
      rw [hlen, List.take_length] at ha
      exact k1 ⟨c1.1, c1.2, ha⟩
def spOpened (ad : Ad) : Sp := fun vs H Q E => ∃ (da dx : Addr) (sv mv : V), vs = [.ref da] ∧ H da = some (.ins ad.desk dx [("store", sv), ("marked", mv)]) ∧ ((sv = .non ∧ RefE ad H E (-2)) ∨ ∃ sa, sv = .ref sa ∧ Q (.ref sa) H)
theorem ok_opened (T : Tx K mg ad) (D : Df K mg "opened" s_opened ["desk"]) (G_refuse_unless : Ok P w K mg base 3 "refuse_unless" ["is_right", "code"] (spRefuse ad)) : Ok P w K mg base 4 "opened" ["desk"] (spOpened ad) := by
  refine D.ok c_opened (fun vs H Q E h => ?_) (fun f cdv A outer s H vs Q E hr h => ?_)
  · obtain ⟨da, dx, sv, mv, rfl, _⟩ := h
    rfl
  · refine ⟨_,
      (pss_cons (ps_expr (pe_c G_refuse_unless hr (L2N.takes_of rfl rfl rfl rfl) (pa_cons (pe_cmpR op_notN (pe_fld (pv 0) rfl) pe_non (nomark _)) (pa_cons (pe_un un_neg pe_int) pa_nil))))
        (pss_one (ps_ret (pe_fld (pv 0) rfl))))
      , ?_⟩
    obtain ⟨da, dx, sv, mv, rfl, hd, h⟩ := h
    refine ⟨_, rfl, da, _, dx, _, _, rfl, hd, T.k_desk, T.d_store, rfl, rfl, _, rfl, ?_⟩
    rcases h with ⟨rfl, hr⟩ | ⟨sa, rfl, hq⟩
    · exact ⟨_, _, rfl, (fun e => by cases e), fun _ => hr⟩
    · exact ⟨_, _, rfl, fun _ => ⟨_, rfl, da, _, dx, _, _, rfl, hd, T.k_desk, T.d_store, rfl, hq⟩, (fun e => by cases e)⟩
def spNeedClient (K : PySem.W.Frag) (ad : Ad) : Sp := fun vs H Q E => ∃ (sa dx cl td : Addr) (nm : Nat → Int) (ro : Rm) (b : Bool) (cs : List VC) (os : List VO) (made last : Int) (cvs : List V) (kvs : List (Key × V)) (n : Nat), vs = [.ref sa, .int (n : Nat)] ∧ Raw K ad nm ro H b sa dx cl td cs os made last cvs kvs ∧
  (n ≤ cs.length → Q .non H) ∧ (cs.length < n → RefE ad H E (-8))
theorem ok_need_client (T : Tx K mg ad) (D : Df K mg "need_client" s_need_client ["store", "number"]) (G_refuse_unless : Ok P w K mg base 3 "refuse_unless" ["is_right", "code"] (spRefuse ad)) : Ok P w K mg base 4 "need_client" ["store", "number"] (spNeedClient K ad) := by
  refine D.ok c_need_client (fun vs H Q E h => ?_) (fun f cdv A outer s H vs Q E hr h => ?_)
  · obtain ⟨sa, dx, cl, td, nm, ro, b, cs, os, made, last, cvs, kvs, n, rfl, _⟩ := h
    rfl
  · refine ⟨_,
      (pss_one (ps_expr (pe_c G_refuse_unless hr (L2N.takes_of rfl rfl rfl rfl) (pa_cons (pe_cmpR op_le (pv 1) (pe_callB call_len_seq (by rfl) T.b_len (by decide +kernel) (pa_cons (pe_fld (pv 0) rfl) pa_nil)) (nomark _)) (pa_cons (pe_un un_neg pe_int) pa_nil)))))
      , ?_⟩
    obtain ⟨sa, dx, cl, td, nm, ro, b, cs, os, made, last, cvs, kvs, n, rfl, r, k1, k2⟩ := h
    refine ⟨_, rfl, _, rfl, sa, _, dx, _, _, rfl, r.ha, T.k_store, T.n_clients, rfl, cl, cvs, rfl, .inl (SqL.of r.hc), _, _, rfl, rfl, _, rfl, _, _, rfl, fun e => k1 ?_, fun e => k2 ?_⟩
    · have := of_decide_eq_true e
      rw [r.ln] at this
      omega
    · have := of_decide_eq_false e
      rw [r.ln] at this
      omega
def spClientOf (K : PySem.W.Frag) (ad : Ad) : Sp := fun vs H Q E => ∃ (da dd : Addr) (sv mv : V) (n : Nat), vs = [.ref da, .int (n : Nat)] ∧ H da = some (.ins ad.desk dd [("store", sv), ("marked", mv)]) ∧ 1 ≤ n ∧ ((sv = .non ∧ RefE ad H E (-2)) ∨
  ∃ (sa dx cl td : Addr) (nm : Nat → Int) (ro : Rm) (b : Bool) (cs : List VC) (os : List VO) (made last : Int) (cvs : List V) (kvs : List (Key × V)), sv = .ref sa ∧ Raw K ad nm ro H b sa dx cl td cs os made last cvs kvs ∧ (∀ ca, n ≤ cs.length → cvs[n - 1]? = some (.ref ca) → Q (.ref ca) H) ∧ (cs.length < n → RefE ad H E (-8)))
theorem ok_client_of (T : Tx K mg ad) (D : Df K mg "client_of" s_client_of ["desk", "number"]) (G_opened : Ok P w K mg base 4 "opened" ["desk"] (spOpened ad)) (G_need_client : Ok P w K mg base 4 "need_client" ["store", "number"] (spNeedClient K ad)) :
    Ok P w K mg base 5 "client_of" ["desk", "number"] (spClientOf K ad) := by
  refine D.ok c_client_of (fun vs H Q E h => ?_) (fun f cdv A outer s H vs Q E hr h => ?_)
  · obtain ⟨da, dd, sv, mv, n, rfl, _⟩ := h
    rfl
  · refine ⟨_,
      (pss_cons (ps_set (i := 2) c_client_of.nd rfl (Or.inl rfl) (pe_c G_opened hr (L2N.takes_of rfl rfl rfl rfl) (pa_cons (pv 0) pa_nil)))
        (pss_cons (ps_expr (pe_c G_need_client hr (L2N.takes_of rfl rfl rfl rfl) (pa_cons (pv 2) (pa_cons (pv 1) pa_nil))))
        (pss_one (ps_ret (pe_ix ix_list (pe_fld (pv 2) rfl) (pe_op op_sub (pv 1) pe_int) (fun _ _ => rfl))))))
      , ?_⟩
    obtain ⟨da, dd, sv, mv, n, rfl, hd, hn, h⟩ := h
    refine ⟨_, rfl, da, dd, sv, mv, rfl, hd, ?_⟩
    rcases h with h | ⟨sa, dx, cl, td, nm, ro, b, cs, os, made, last, cvs, kvs, rfl, r, k1, k2⟩
    · exact .inl h
    · refine .inr ⟨sa, rfl, ?_⟩
      refine ⟨_, rfl, _, rfl, sa, dx, cl, td, nm, ro, b, cs, os, made, last, cvs, kvs, n, rfl, r, fun hle => ?_, k2⟩
      obtain ⟨c, hc⟩ : ∃ c, cs[n - 1]? = some c := ⟨_, List.getElem?_eq_getElem (by omega)⟩
      obtain ⟨ca, q1, q2⟩ := r.ct _ _ hc
      exact ⟨_, rfl, sa, _, dx, _, _, rfl, r.ha, T.k_store, T.n_clients, rfl, _, rfl, _, _, rfl, rfl, cl, cvs, _, .ref ca, rfl, rfl, SqL.of r.hc, at_of (j := n - 1) (by omega) q1, k1 ca hle q1⟩
def spCounted : Sp := fun vs H Q _ => ∃ (a : Addr) (xs : List V), vs = [.ref a] ∧ H a = some (.lst xs) ∧ xs.length ≤ 950 ∧ ∀ H' p, Same H H' → H p = none → H' p = some (.lst (.int (xs.length : Nat) :: xs)) → Q (.ref p) H'
theorem ok_counted (T : Tx K mg ad) (D : Df K mg "counted" s_counted ["row"]) : Ok P w K mg base 1 "counted" ["row"] spCounted := by
  refine D.ok c_counted (fun vs H Q E h => ?_) (fun f cdv A outer s H vs Q E hr h => ?_)
  · obtain ⟨a, xs, rfl, _⟩ := h
    rfl
  · refine ⟨_,
      (pss_one (ps_ret (pe_op op_cat (pe_lst (pa_cons (pe_callB call_len_seq (by rfl) T.b_len (by decide +kernel) (pa_cons (pv 0) pa_nil)) pa_nil)) (pv 0))))
      , ?_⟩
    obtain ⟨a, xs, rfl, ha, hl, k⟩ := h
    refine ⟨_, rfl, a, xs, rfl, .inl (SqL.of ha), leLine (by show 1 ≤ 1000; decide), fun q nq => ?_⟩
    have s1 : Same H (upd H q (.lst [.int (xs.length : Nat)])) := Same.new nq
    refine ⟨_, rfl, q, a, _, _, rfl, rfl, upd_same, s1 _ _ ha, leLine (by show 1 + _ ≤ 1000; omega), fun p np => ?_⟩
    exact k _ p (s1.trans (Same.new np)) (s1.free np) upd_same
def spTold : Sp := fun vs H Q _ => ∃ v, vs = [v] ∧ ((v = .non ∧ ∀ H' p, Same H H' → H p = none → H' p = some (.lst [.int 1, .int 0]) → Q (.ref p) H') ∨
  ∃ a l, v = .ref a ∧ H a = some (.lst (nI l)) ∧ l.length ≤ 900 ∧ ∀ H' p, Same H H' → H p = none → H' p = some (.lst (.int 0 :: .int (l.length : Nat) :: nI l)) → Q (.ref p) H')
theorem ok_told (T : Tx K mg ad) (D : Df K mg "told" s_told ["found"]) (G_counted : Ok P w K mg base 1 "counted" ["row"] spCounted) : Ok P w K mg base 2 "told" ["found"] spTold := by
  refine D.ok c_told (fun vs H Q E h => ?_) (fun f cdv A outer s H vs Q E hr h => ?_)
  · obtain ⟨v, rfl, _⟩ := h
    rfl
  · refine ⟨_,
      (pss_one (ps_ret (pe_ifExp (pt_cmpR op_isN (pv 0) pe_non (nomark _)) (pe_lst (pa_cons pe_int (pa_cons pe_int pa_nil))) (pe_op op_cat (pe_lst (pa_cons pe_int pa_nil)) (pe_c G_counted hr (L2N.takes_of rfl rfl rfl rfl) (pa_cons (pv 0) pa_nil))))))
      , ?_⟩
    obtain ⟨v, rfl, ⟨rfl, k⟩ | ⟨a, l, rfl, ha, hl, k⟩⟩ := h
    · exact ⟨_, rfl, rfl, _, rfl, iteT ⟨leLine (by show 2 ≤ 1000; decide), fun p np => k _ p (Same.new np) np upd_same⟩⟩
    · refine ⟨_, rfl, rfl, _, rfl, iteF ⟨leLine (by show 1 ≤ 1000; decide), fun q nq => ?_⟩⟩
      have s1 : Same H (upd H q (.lst [.int 0])) := Same.new nq
      refine ⟨_, rfl, a, nI l, rfl, s1 _ _ ha, by rw [nI_length]; omega, fun H2 p2 s2 np2 hp2 => ?_⟩
      refine ⟨q, p2, _, _, rfl, rfl, s2 _ _ upd_same, hp2, leLine (by show 1 + ((nI l).length + 1) ≤ 1000; rw [nI_length]; omega), fun p np => ?_⟩
      refine k _ p ((s1.trans s2).trans (Same.new np)) ((s1.trans s2).free np) ?_
      rw [upd_same, nI_length]
      rfl
def spRangeOf (K : PySem.W.Frag) (ad : Ad) : Sp := fun vs H Q _ => ∃ (sa dx cl td : Addr) (nm : Nat → Int) (ro : Rm) (b : Bool) (cs : List VC) (os : List VO) (made last : Int) (cvs : List V) (kvs : List (Key × V)), vs = [.ref sa] ∧ Raw K ad nm ro H b sa dx cl td cs os made last cvs kvs ∧ cs.length ≤ 4 ∧
  ∀ H' p, Same H H' → H p = none → H' p = some (.lst (nI (numsTo cs.length))) → Q (.ref p) H'
theorem ok_range_of (T : Tx K mg ad) (D : Df K mg "range_of" s_range_of ["store"]) : Ok P w K mg base 1 "range_of" ["store"] (spRangeOf K ad) := by
  refine D.ok c_range_of (fun vs H Q E h => ?_) (fun f cdv A outer s H vs Q E hr h => ?_)
  · obtain ⟨sa, dx, cl, td, nm, ro, b, cs, os, made, last, cvs, kvs, rfl, _⟩ := h
    rfl
  · refine ⟨_,
      (pss_one (ps_ret (pe_listRg rfl rfl T.b_list (prg_2 rfl T.b_range pe_int (pe_op op_add (pe_callB call_len_seq (by rfl) T.b_len (by decide +kernel) (pa_cons (pe_fld (pv 0) rfl) pa_nil)) pe_int)))))
      , ?_⟩
    obtain ⟨sa, dx, cl, td, nm, ro, b, cs, os, made, last, cvs, kvs, rfl, r, h4, k⟩ := h
    refine ⟨_, rfl, sa, _, dx, _, _, rfl, r.ha, T.k_store, T.n_clients, rfl, cl, cvs, rfl, .inl (SqL.of r.hc), _, _, rfl, rfl, _, _, rfl, rfl, RgOk.of_le (by decide) (by have := r.ln; omega) (by decide) (by omega), fun l1 nl1 => ?_⟩
    rw [rgV_nums, r.ln]
    exact k _ l1 (Same.new nl1) nl1 upd_same
def spNeedField (K : PySem.W.Frag) (ad : Ad) : Sp := fun vs H Q E => ∃ (sa : Addr) (ov : V) (nm : Nat → Int) (ro : Rm) (b : Bool) (S : VSt) (R : Nat → Prop) (x : VV) (f : Nat), vs = [.ref sa, ov, .int (f : Nat)] ∧ StoreAt K ad nm ro H b sa S ∧ Wf S R ∧ IsV K nm H ov x ∧ Lv R x ∧
  (∀ i v, x = .object i → (fieldsOf S i)[f]? = some v → Q .non H) ∧ ((∀ i, x ≠ .object i) → RefE ad H E (-3)) ∧ (∀ i, x = .object i → (fieldsOf S i)[f]? = none → RefE ad H E (-4))
theorem ok_need_field (T : Tx K mg ad) (D : Df K mg "need_field" s_need_field ["store", "own", "field"]) (G_refuse_unless : Ok P w K mg base 3 "refuse_unless" ["is_right", "code"] (spRefuse ad)) (G_field_at : Ok P w K mg base 1 "field_at" ["store", "own", "field"] (spFieldAt K ad)) :
    Ok P w K mg base 4 "need_field" ["store", "own", "field"] (spNeedField K ad) := by
  refine D.ok c_need_field (fun vs H Q E h => ?_) (fun f cdv A outer s H vs Q E hr h => ?_)
  · obtain ⟨sa, ov, nm, ro, b, S, R, x, f, rfl, _⟩ := h
    rfl
  · refine ⟨_,
      (pss_cons (ps_expr (pe_c G_refuse_unless hr (L2N.takes_of rfl rfl rfl rfl) (pa_cons (pe_cmpR op_eq (pe_ix ix_tup (pv 1) pe_int (fun _ _ => rfl)) (pe_ci T.c_REFERENCE) (nomark _)) (pa_cons (pe_un un_neg pe_int) pa_nil))))
        (pss_one (ps_expr (pe_c G_refuse_unless hr (L2N.takes_of rfl rfl rfl rfl) (pa_cons (pe_cmpR op_notN (pe_c G_field_at hr (L2N.takes_of rfl rfl rfl rfl) (pa_cons (pv 0) (pa_cons (pv 1) (pa_cons (pv 2) pa_nil)))) pe_non (nomark _)) (pa_cons (pe_un un_neg pe_int) pa_nil))))))
      , ?_⟩
    obtain ⟨sa, ov, nm, ro, b, S, R, x, fi, rfl, hS, wf, iv, lv, k1, k2, k3⟩ := h
    obtain ⟨t, rfl, ht⟩ := isV_ref iv
    refine ⟨_, rfl, t, _, _, _, rfl, rfl, ht, rfl, rfl, _, rfl, _, _, rfl, fun e => ?_, fun e => k2 fun i ex => ?_⟩
    · obtain ⟨i, rfl⟩ : ∃ i, x = .object i := by
        have e := V.int.inj (of_decide_eq_true e)
        cases x with
        | nothing => cases e
        | number _ => cases e
        | object i => exact ⟨i, rfl⟩
      refine ⟨_, rfl, _, rfl, _, rfl, sa, .ref t, nm, ro, b, S, R, .object i, fi, rfl, hS, wf, iv, lv, fun v io => ?_⟩
      refine ⟨rfl, _, rfl, ?_⟩
      have es : stepF S (some (.object i)) fi = (fieldsOf S i)[fi]? := rfl
      rw [es] at io
      cases ef : (fieldsOf S i)[fi]? with
      | none =>
        rw [ef] at io
        cases io
        exact ⟨_, _, rfl, (fun e => by cases e), fun _ => k3 i rfl ef⟩
      | some y =>
        rw [ef] at io
        obtain ⟨t2, rfl, _⟩ := isV_ref io
        exact ⟨_, _, rfl, fun _ => k1 i y rfl ef, (fun e => by cases e)⟩
    · subst ex
      exact of_decide_eq_false e rfl
def spThingAt (K : PySem.W.Frag) (ad : Ad) : Sp := fun vs H Q E => ∃ (sa pa : Addr) (nm : Nat → Int) (ro : Rm) (b : Bool) (S : VSt) (R : Nat → Prop) (p : List Nat), vs = [.ref sa, .ref pa] ∧ StoreAt K ad nm ro H b sa S ∧ Wf S R ∧ SqL K H pa (nI p) ∧
  (∀ i, valueAtPlace S p = some (.object i) → ∀ H', Same H H' → R i → Q (.int (nm i)) H') ∧ (valueAtPlace S p = none → RefE ad H E (-7)) ∧ (∀ x, valueAtPlace S p = some x → (∀ i, x ≠ .object i) → RefE ad H E (-3))
theorem ok_thing_at (T : Tx K mg ad) (D : Df K mg "thing_at" s_thing_at ["store", "place"]) (G_refuse_unless : Ok P w K mg base 3 "refuse_unless" ["is_right", "code"] (spRefuse ad)) (G_value_at_place : Ok P w K mg base 3 "value_at_place" ["store", "place"] (spValueAtPlace K ad)) :
    Ok P w K mg base 4 "thing_at" ["store", "place"] (spThingAt K ad) := by
  refine D.ok c_thing_at (fun vs H Q E h => ?_) (fun f cdv A outer s H vs Q E hr h => ?_)
  · obtain ⟨sa, pa, nm, ro, b, S, R, p, rfl, _⟩ := h
    rfl
  · refine ⟨_,
      (pss_cons (ps_set (i := 2) c_thing_at.nd rfl (Or.inl rfl) (pe_c G_value_at_place hr (L2N.takes_of rfl rfl rfl rfl) (pa_cons (pv 0) (pa_cons (pv 1) pa_nil))))
        (pss_cons (ps_expr (pe_c G_refuse_unless hr (L2N.takes_of rfl rfl rfl rfl) (pa_cons (pe_cmpR op_notN (pv 2) pe_non (nomark _)) (pa_cons (pe_un un_neg pe_int) pa_nil))))
        (pss_cons (ps_expr (pe_c G_refuse_unless hr (L2N.takes_of rfl rfl rfl rfl) (pa_cons (pe_cmpR op_eq (pe_ix ix_tup (pv 2) pe_int (fun _ _ => rfl)) (pe_ci T.c_REFERENCE) (nomark _)) (pa_cons (pe_un un_neg pe_int) pa_nil))))
        (pss_one (ps_ret (pe_ix ix_tup (pv 2) pe_int (fun _ _ => rfl)))))))
      , ?_⟩
    obtain ⟨sa, pa, nm, ro, b, S, R, p, rfl, hS, wf, hp, k1, k2, k3⟩ := h
    refine ⟨_, rfl, _, rfl, sa, pa, nm, ro, b, S, R, p, rfl, hS, wf, hp, fun H1 v s1 lv io => ?_⟩
    refine ⟨_, rfl, rfl, _, rfl, ?_⟩
    cases ev : valueAtPlace S p with
    | none =>
      rw [ev] at io
      cases io
      exact ⟨_, _, rfl, (fun e => by cases e), fun _ => (k2 ev).later s1⟩
    | some x =>
      rw [ev] at io
      obtain ⟨t, rfl, ht⟩ := isV_ref io
      refine ⟨_, _, rfl, fun _ => ?_, (fun e => by cases e)⟩
      refine ⟨_, rfl, t, _, _, _, rfl, rfl, ht, rfl, rfl, _, rfl, _, _, rfl, fun e => ?_, fun e => (k3 x ev fun i ex => ?_).later s1⟩
      · obtain ⟨i, rfl⟩ : ∃ i, x = .object i := by
          have e := V.int.inj (of_decide_eq_true e)
          cases x with
          | nothing => cases e
          | number _ => cases e
          | object i => exact ⟨i, rfl⟩
        exact ⟨_, rfl, t, _, _, _, rfl, rfl, ht, rfl, k1 i ev _ s1 (lv _ ev i rfl)⟩
      · subst ex
        exact of_decide_eq_false e rfl
end
end Sh


set_option maxHeartbeats 2000000
/-! W30: the desk; what an operation ends with. -/
namespace Sh
open PySem PySem.Spec PyProof.Rows L2
open Vbxlaa (fieldsOf clientAt stepRows setSlot setClient)
abbrev VSs := Vbxlaa.State
def HasStore (K : PySem.W.Frag) (ad : Ad) (ro : Rm) (H : Hp) (b : Bool) (v : V) (o : Option VSt) : Prop := match o with
  | none => v = .non
  | some S => ∃ sa nm R, v = .ref sa ∧ StoreAt K ad nm ro H b sa S ∧ Wf S R
structure DeskAt (K : PySem.W.Frag) (ad : Ad) (ro : Rm) (H : Hp) (da : Addr) (x : VSs) : Prop where
  ex : ∃ dd sv mv, H da = some (.ins ad.desk dd [("store", sv), ("marked", mv)]) ∧ HasStore K ad ro H false sv x.store ∧ HasStore K ad ro H true mv x.mark
  rd : ro da = some .desk
def Fr (H : Hp) (ro : Rm) (H' : Hp) (ro' : Rm) : Prop := ∀ a o, H a = some o → ro a = none → H' a = some o ∧ ro' a = none
section
variable {K : PySem.W.Frag} {ad : Ad} {ro ro' : Rm} {H H' : Hp} {da : Addr} {x : VSs}
theorem HasStore.keep {b : Bool} {v : V} {o : Option VSt} (h : HasStore K ad ro H b v o) (k : Kept ro ro' H H' b) : HasStore K ad ro' H' b v o := by
  cases o with
  | none => exact h
  | some S =>
    obtain ⟨sa, nm, R, e, h1, h2⟩ := h
    exact ⟨sa, nm, R, e, h1.keep k, h2⟩
theorem DeskAt.same (h : DeskAt K ad ro H da x) (s : Same H H') : DeskAt K ad ro H' da x := by
  obtain ⟨dd, sv, mv, h1, h2, h3⟩ := h.ex
  exact ⟨⟨dd, sv, mv, s _ _ h1, h2.keep (Kept.same s), h3.keep (Kept.same s)⟩, h.rd⟩
theorem Fr.same (s : Same H H') : Fr H ro H' ro := fun a o e q => ⟨s a o e, q⟩
theorem Ch.fr (c : Ch false H H' ro ro') : Fr H ro H' ro' := fun a o e q => ⟨c.old a o e fun r z => by (rw [q] at z; cases z), (c.rn a o e).trans q⟩
theorem own_two {r : Ro} (h : r.own true = true) : r = .imm ∨ r.own false = false := by
  cases r <;> simp [Ro.own] at h ⊢ <;> exact h
theorem Ch.kept (c : Ch false H H' ro ro') : Kept ro ro' H H' true := ⟨c.tp, fun a o r e q z => ⟨c.old a o e fun r2 z2 => by (rw [q] at z2; cases z2; exact own_two z), (c.rn a o e).trans q⟩⟩
/-- the desk after a change of its store -/
theorem DeskAt.ch (h : DeskAt K ad ro H da x) (c : Ch false H H' ro ro') {S' : VSt} (n : ∀ dd sv mv, H da = some (.ins ad.desk dd [("store", sv), ("marked", mv)]) → HasStore K ad ro' H' false sv (some S')) : DeskAt K ad ro' H' da ⟨some S', x.mark⟩ := by
  obtain ⟨dd, sv, mv, h1, h2, h3⟩ := h.ex
  refine ⟨⟨dd, sv, mv, c.old _ _ h1 fun r z => ?_, n dd sv mv h1, h3.keep c.kept⟩, (c.rn _ _ h1).trans h.rd⟩
  rw [h.rd] at z
  cases z
  exact .inr rfl
end
def Fin (K : PySem.W.Frag) (ad : Ad) (H : Hp) (ro : Rm) (da : Addr) (Q : VK) (E : XK) (y : VSs × List Int) : Prop :=
  (∀ H' ro' p, Fr H ro H' ro' → DeskAt K ad ro' H' da y.1 → H p = none → H' p = some (.lst (y.2.map V.int)) → Q (.ref p) H') ∧
  ∀ c, y.2 = [c] → ∀ H' ro' d, Fr H ro H' ro' → DeskAt K ad ro' H' da y.1 → H' d = some (.xd [("code", .int c)]) → E (.ref ad.refused) (some d) H'
section
variable {K : PySem.W.Frag} {ad : Ad} {ro ro' : Rm} {H H' : Hp} {da : Addr} {x : VSs} {Q : VK} {E : XK} {y : VSs × List Int}
theorem Fin.ref (f : Fin K ad H ro da Q E y) (h : DeskAt K ad ro H da x) {c : Int} (e : y = (x, [c])) : RefE ad H E c := by
  subst e
  exact fun H' d s z => f.2 c rfl H' ro d (Fr.same s) (h.same s) z
theorem Fin.ret (f : Fin K ad H ro da Q E y) (h : DeskAt K ad ro H da x) {res : List Int} (e : y = (x, res)) {H' : Hp} {p : Addr} (s : Same H H') (n : H p = none) (z : H' p = some (.lst (res.map V.int))) : Q (.ref p) H' := by
  subst e
  exact f.1 H' ro p (Fr.same s) (h.same s) n z
theorem Fin.chg (f : Fin K ad H ro da Q E y) {x' : VSs} {res : List Int} (e : y = (x', res)) {H' : Hp} {ro' : Rm} {p : Addr} (c : Fr H ro H' ro') (h : DeskAt K ad ro' H' da x') (n : H p = none) (z : H' p = some (.lst (res.map V.int))) : Q (.ref p) H' := by
  subst e
  exact f.1 H' ro' p c h n z
end
def Lim (g : List Int) : Prop := ∀ z ∈ g, -1000000000000000000 ≤ z ∧ z ≤ 1000000000000000000
/-- the promise of the operation p: n numbers, and a list or none -/
def spOp (K : PySem.W.Frag) (ad : Ad) (p : Int) (n : Nat) (listed : Bool) : Sp := fun vs H Q E => ∃ (da ga la : Addr) (ro : Rm) (x : VSs) (g l : List Int), vs = [.ref da, .ref ga, .ref la] ∧ DeskAt K ad ro H da x ∧ H ga = some (.lst (g.map V.int)) ∧ H la = some (.lst (l.map V.int)) ∧ ro ga = none ∧ ro la = none ∧
  g.length = n ∧ Lim g ∧ l.length ≤ 700 ∧ Fin K ad H ro da Q E (stepRows x (if listed = true then [p :: g, l] else [p :: g]))
/-- the slots of a client -/
theorem Raw.slots {K : PySem.W.Frag} {ad : Ad} {nm : Nat → Int} {ro : Rm} {H : Hp} {b : Bool} {sa dx cl td : Addr} {cs : List VC} {os : List VO} {made last : Int} {cvs : List V} {kvs : List (Key × V)} (r : Raw K ad nm ro H b sa dx cl td cs os made last cvs kvs) {i : Nat} {c : VC} (hi : cs[i]? = some c) :
    ∃ (ca dy sl ib : Addr) (svs ims : List V), cvs[i]? = some (.ref ca) ∧ H ca = some (.ins ad.client dy [("slots", .ref sl), ("inbox", .ref ib)]) ∧ H sl = some (.lst svs) ∧ ro sl = some (.slots b i) ∧ Row K nm H svs c.slots ∧ H ib = some (.lst ims) ∧ ro ib = some (.inbox b i) ∧ Paired (MsgAt K nm ro H) ims c.inbox ∧ ro ca = some (.client b i) ∧
      ∀ j v x, IsV K nm H v x → Raw K ad nm ro (upd H sl (.lst (svs.set j v))) b sa dx cl td (cs.set i { c with slots := c.slots.set j x }) os made last cvs kvs ∧ Ch b H (upd H sl (.lst (svs.set j v))) ro ro := by
  obtain ⟨ca, q1, dy, sl, ib, svs, ims, h1, h2, h3, h4, h5, h6, h7, h8⟩ := r.ct i c hi
  refine ⟨ca, dy, sl, ib, svs, ims, q1, h1, h3, h4, h5, h6, h7, h8, h2, fun j v x iv => ?_⟩
  have t : Tups H (upd H sl (.lst (svs.set j v))) := Tups.write h3 fun _ z => by cases z
  have ch : Ch b H (upd H sl (.lst (svs.set j v))) ro ro := Ch.wr h3 h4 (by simp [Ro.own]) (by simp) (fun _ z => by cases z)
  refine ⟨r.client (ro' := ro) hi q1 t (fun a o q e z _ _ n _ => wr_keep h4 e z n) ?_, ch⟩
  refine ⟨dy, sl, ib, _, ims, (wr_keep h4 h1 h2 (by simp)).1, h2, upd_same, h4, Row.keep (pair_set iv j h5) t, (wr_keep h4 h6 h7 (by simp)).1, h7, Paired.mapP h8 fun _ _ z => z.keep' t fun a o e q => wr_keep h4 e q (by simp)⟩
theorem Wf.setC {S : VSt} {R : Nat → Prop} (w : Wf S R) {i : Nat} {c' : VC} (h1 : c'.slots.length = 6) (h2 : c'.inbox.length ≤ 4) (h3 : ∀ m ∈ c'.inbox, 1 ≤ m.length ∧ m.length ≤ 3) (h4 : ∀ v ∈ c'.slots, Lv R v) (h5 : ∀ m ∈ c'.inbox, ∀ v ∈ m, Lv R v) :
    Wf { S with clients := S.clients.set i c' } R := by
  have hm : ∀ c ∈ S.clients.set i c', c ∈ S.clients ∨ c = c' := fun c hc => (List.mem_or_eq_of_mem_set hc)
  refine ⟨by show 1 ≤ (S.clients.set i c').length; rw [List.length_set]; exact w.c1, by show (S.clients.set i c').length ≤ 4; rw [List.length_set]; exact w.c4, fun c hc => ?_, fun c hc => ?_, fun c hc => ?_, w.fl, w.nd, w.lt, w.ol, w.mx, fun c hc => ?_, fun c hc => ?_, w.st, w.lf⟩
  · rcases hm c hc with h | rfl
    · exact w.sl c h
    · exact h1
  · rcases hm c hc with h | rfl
    · exact w.ib c h
    · exact h2
  · rcases hm c hc with h | rfl
    · exact w.ms c h
    · exact h3
  · rcases hm c hc with h | rfl
    · exact w.ls c h
    · exact h4
  · rcases hm c hc with h | rfl
    · exact w.lm c h
    · exact h5
theorem Wf.slot {S : VSt} {R : Nat → Prop} (w : Wf S R) {i j : Nat} {c : VC} {x : VV} (hi : S.clients[i]? = some c) (hx : Lv R x) : Wf { S with clients := S.clients.set i { c with slots := c.slots.set j x } } R := by
  have cm := List.mem_of_getElem? hi
  refine w.setC (by show (c.slots.set j x).length = 6; rw [List.length_set]; exact w.sl c cm) (w.ib c cm) (w.ms c cm) (fun v hv => ?_) (w.lm c cm)
  rcases List.mem_or_eq_of_mem_set hv with h | rfl
  · exact w.ls c cm v h
  · exact hx
end Sh

set_option maxHeartbeats 2000000
namespace Sh
open PySem PySem.Spec PyProof.Rows L2
open Vbxlaa (fieldsOf clientAt stepRows setSlot setClient isClient isSlot within emptyStore)
theorem within_iff {z lo hi : Int} : within z lo hi = true ↔ lo ≤ z ∧ z ≤ hi := by unfold Vbxlaa.within; simp
theorem within_no {z lo hi : Int} (h : ¬ (lo ≤ z ∧ z ≤ hi)) : within z lo hi = false := by
  cases e : within z lo hi with
  | false => rfl
  | true => exact absurd (within_iff.mp e) h
theorem callIf_no {b : Bool} {c : Vbxlaa.Call} (h : b = false) : Vbxlaa.callIf b c = none := by rw [h]; rfl
theorem callIf_yes {b : Bool} {c : Vbxlaa.Call} (h : b = true) : Vbxlaa.callIf b c = some c := by rw [h]; rfl
theorem sr_none {x : VSs} {c : List (List Int)} (h : Vbxlaa.callOf c = none) : stepRows x c = (x, [-1]) := by unfold Vbxlaa.stepRows; rw [h]
theorem sr_some {x : VSs} {c : List (List Int)} {k : Vbxlaa.Call} (h : Vbxlaa.callOf c = some k) : stepRows x c = Vbxlaa.step x k := by unfold Vbxlaa.stepRows; rw [h]
/-- a call of a client -/
theorem step_client {x : VSs} {k : Vbxlaa.Call} {n : Nat} (h : Vbxlaa.clientOf k = some n) : Vbxlaa.step x k = match x.store with
    | none => (x, [-2])
    | some S => match clientAt S n with
      | none => (x, [-8])
      | some d => (⟨some (Vbxlaa.onClient S n d k).1, x.mark⟩, (Vbxlaa.onClient S n d k).2) := by
  have key : ∀ S, Vbxlaa.onStore S k = match clientAt S n with
      | none => (S, [-8])
      | some d => Vbxlaa.onClient S n d k := fun S => by
    unfold Vbxlaa.onStore
    rw [h]
    dsimp only
    cases clientAt S n <;> rfl
  have e0 : Vbxlaa.step x k = match x.store with
      | none => (x, [-2])
      | some S => (⟨some (Vbxlaa.onStore S k).1, x.mark⟩, (Vbxlaa.onStore S k).2) := by
    cases k <;> first | rfl | (cases h)
  rw [e0]
  obtain ⟨st, mk⟩ := x
  cases st with
  | none => rfl
  | some S =>
    dsimp only
    rw [key S]
    cases clientAt S n <;> rfl
section
variable {P : Program} {w : World} {K : PySem.W.Frag} {mg : Str → Option Value} {base : Heap} {ad : Ad}
theorem get3 {α : Type} {g : List α} (h : g.length = 3) : ∃ a b c, g = [a, b, c] := by
  match g, h with
  | [a, b, c], _ => exact ⟨a, b, c, rfl⟩
theorem get2 {α : Type} {g : List α} (h : g.length = 2) : ∃ a b, g = [a, b] := by
  match g, h with
  | [a, b], _ => exact ⟨a, b, rfl⟩
theorem get1 {α : Type} {g : List α} (h : g.length = 1) : ∃ a, g = [a] := List.length_eq_one_iff.mp h
theorem get4 {α : Type} {g : List α} (h : g.length = 4) : ∃ a b c d, g = [a, b, c, d] := by
  match g, h with
  | [a, b, c, d], _ => exact ⟨a, b, c, d, rfl⟩
theorem Fr.trans {H H1 H2 : Hp} {ro ro1 ro2 : Rm} (a : Fr H ro H1 ro1) (b : Fr H1 ro1 H2 ro2) : Fr H ro H2 ro2 := fun x o e q => let ⟨z1, z2⟩ := a x o e q; b x o z1 z2
/-- a slot is written -/
theorem slot_fin {ro : Rm} {H H1 : Hp} {da sa dx cl td dd : Addr} {mv v : V} {x : VSs} {S : VSt} {R : Nat → Prop} {nm : Nat → Int} {cvs : List V} {kvs : List (Key × V)} {last : Int} {i j n : Nat} {c : VC} {y : VV} (hD : DeskAt K ad ro H da x) (h1 : H da = some (.ins ad.desk dd [("store", .ref sa), ("marked", mv)]))
    (r : Raw K ad nm ro H false sa dx cl td S.clients S.objects S.made last cvs kvs) (nk : NmOk nm S.made last) (wf : Wf S R) (hi : S.clients[i]? = some c) (en : n - 1 = i) (s1 : Same H H1) (iv : IsV K nm H1 v y) (lv : Lv R y) :
    ∃ (ca dy sl ib : Addr) (svs : List V), cvs[i]? = some (.ref ca) ∧ H ca = some (.ins ad.client dy [("slots", .ref sl), ("inbox", .ref ib)]) ∧ H sl = some (.lst svs) ∧ Row K nm H svs c.slots ∧ Fr H ro (upd H1 sl (.lst (svs.set j v))) ro ∧ DeskAt K ad ro (upd H1 sl (.lst (svs.set j v))) da ⟨some (setSlot S n c j y), x.mark⟩ := by
  obtain ⟨ca, dy, sl, ib, svs, ims, q1, q2, q3, q4, q5, _, _, _, _, _⟩ := r.slots hi
  have r1 := r.keep (Kept.same s1)
  obtain ⟨ca2, dy2, sl2, ib2, svs2, ims2, w1, w2, w3, w4, w5, _, _, _, _, w6⟩ := r1.slots hi
  rw [q1] at w1
  cases w1
  rw [s1 _ _ q2] at w2
  cases w2
  rw [s1 _ _ q3] at w3
  cases w3
  obtain ⟨r2, ch⟩ := w6 j v y iv
  refine ⟨ca, dy, sl, ib, svs, q1, q2, q3, q5, (Fr.same s1).trans ch.fr, (hD.same s1).ch ch fun dd2 sv2 mv2 e => ?_⟩
  rw [s1 _ _ h1] at e
  cases e
  subst en
  exact ⟨sa, nm, R, rfl, r2.store nk, wf.slot hi lv⟩
theorem ok_set_number (T : Tx K mg ad) (D : Df K mg "set_number" s_set_number ["desk", "given", "row"]) (G_need : Ok P w K mg base 4 "need" ["number", "low", "high"] (spNeed ad)) (G_need_slot : Ok P w K mg base 5 "need_slot" ["number"] (fun vs H Q E => ∃ z : Int, vs = [.int z] ∧ (0 ≤ z ∧ z ≤ 5 → Q .non H) ∧ (¬ (0 ≤ z ∧ z ≤ 5) → RefE ad H E (-1))))
    (G_client_of : Ok P w K mg base 5 "client_of" ["desk", "number"] (spClientOf K ad)) : Ok P w K mg base 6 "set_number" ["desk", "given", "row"] (spOp K ad 2 3 false) := by
  refine D.ok c_set_number (fun vs H Q E h => ?_) (fun f cdv A outer s H vs Q E hr h => ?_)
  · obtain ⟨da, ga, la, ro, x, g, l, rfl, _⟩ := h
    rfl
  · refine ⟨_,
      (pss_cons (ps_asg (pv 1) (pg_lst rfl (pgs_cons (pg_name (i := 3) c_set_number.nd rfl (Or.inl rfl)) (pgs_cons (pg_name (i := 4) c_set_number.nd rfl (Or.inl rfl)) (pgs_cons (pg_name (i := 5) c_set_number.nd rfl (Or.inl rfl)) pgs_nil)))))
        (pss_cons (ps_expr (pe_c G_need hr (L2N.takes_of rfl rfl rfl rfl) (pa_cons (pv 3) (pa_cons pe_int (pa_cons (pe_ci T.c_MOST_CLIENT) pa_nil)))))
        (pss_cons (ps_expr (pe_c G_need_slot hr (L2N.takes_of rfl rfl rfl rfl) (pa_cons (pv 4) pa_nil)))
        (pss_cons (ps_asg (pe_tup (pa_cons (pe_ci T.c_NUMBER) (pa_cons (pv 5) pa_nil))) (pg_sub (pe_fld (pe_c G_client_of hr (L2N.takes_of rfl rfl rfl rfl) (pa_cons (pv 0) (pa_cons (pv 3) pa_nil))) rfl) (pv 4) set_list))
        (pss_one (ps_ret (pe_lst (pa_cons pe_int pa_nil))))))))
      , ?_⟩
    obtain ⟨da, ga, la, ro, x, g, l, rfl, hD, hg, hl, _, _, hn, hlim, _, k⟩ := h
    obtain ⟨a, b, c, rfl⟩ := get3 hn
    obtain ⟨dd, sv, mv, h1, h2, h3⟩ := hD.ex
    refine ⟨_, rfl, ga, _, rfl, SqL.of hg, rfl, _, _, rfl, _, _, rfl, _, _, rfl, rfl, ?_⟩
    have ecall : Vbxlaa.callOf [[2, a, b, c]] = Vbxlaa.callIf (isClient a && (isSlot b && within c (-Vbxlaa.maxNumber) Vbxlaa.maxNumber)) (.setNumber a.toNat b.toNat c) := rfl
    have hc : within c (-Vbxlaa.maxNumber) Vbxlaa.maxNumber = true := within_iff.mpr (hlim c (by simp))
    refine ⟨_, rfl, _, _, _, rfl, fun ca => ?_, fun na => k.ref hD (sr_none (by rw [show (if false = true then [2 :: [a, b, c], l] else [2 :: [a, b, c]]) = [[2, a, b, c]] from rfl, ecall, show isClient a = false from within_no na]; rfl))⟩
    refine ⟨_, rfl, _, rfl, fun cb => ?_, fun nb => k.ref hD (sr_none (by rw [show (if false = true then [2 :: [a, b, c], l] else [2 :: [a, b, c]]) = [[2, a, b, c]] from rfl, ecall, show isSlot b = false from within_no nb, show isClient a = true from within_iff.mpr ca]; rfl))⟩
    have e1 : stepRows x [[2, a, b, c]] = Vbxlaa.step x (.setNumber a.toNat b.toNat c) := sr_some (by rw [ecall, show isClient a = true from within_iff.mpr ca, show isSlot b = true from within_iff.mpr cb, hc]; rfl)
    rw [show (if false = true then [2 :: [a, b, c], l] else [2 :: [a, b, c]]) = [[2, a, b, c]] from rfl, e1, step_client (n := a.toNat) rfl] at k
    obtain ⟨an, rfl⟩ : ∃ an : Nat, a = (an : Int) := ⟨a.toNat, by omega⟩
    obtain ⟨bn, rfl⟩ : ∃ bn : Nat, b = (bn : Int) := ⟨b.toNat, by omega⟩
    rw [Int.toNat_natCast, Int.toNat_natCast] at k
    refine ⟨_, rfl, leLine (by show 2 ≤ 1000; decide), fun t nt => ?_⟩
    have s1 : Same H (upd H t (.tup [.int 1, .int c])) := Same.new nt
    refine ⟨_, rfl, _, rfl, da, dd, sv, mv, an, rfl, s1 _ _ h1, by omega, ?_⟩
    obtain ⟨st, mk⟩ := x
    cases st with
    | none => exact .inl ⟨h2, (k.ref hD rfl).later s1⟩
    | some S =>
      obtain ⟨sa, nm, R, rfl, hS, wf⟩ := h2
      obtain ⟨dx, cl, td, cvs, kvs, last, r, nk⟩ := hS.raw
      refine .inr ⟨sa, dx, cl, td, nm, ro, false, _, _, _, _, cvs, kvs, rfl, r.keep (Kept.same s1), fun cad hle hcv => ?_, fun hlt => (k.ref hD (by dsimp only; rw [client_none (.inr hlt)])).later s1⟩
      obtain ⟨cc, hc1, hc2⟩ := client_some (S := S) (by omega) hle
      obtain ⟨ca2, dy, sl, ib, svs, q1, q2, q3, q4, fr, hD2⟩ := slot_fin (j := bn) (y := .number c) hD h1 r nk wf hc2 rfl s1 ⟨t, rfl, .inl upd_same⟩ (fun i e => by cases e)
      rw [q1] at hcv
      cases hcv
      have hsl : bn < svs.length := by rw [Paired.length q4, wf.sl cc (List.mem_of_getElem? hc2)]; omega
      refine ⟨_, _, dy, _, _, rfl, s1 _ _ q2, T.k_client, T.n_slots, rfl, _, rfl, sl, svs, _, bn, rfl, rfl, s1 _ _ q3, ?_, ?_⟩
      · unfold ixN
        rw [if_pos (by omega), if_pos (by omega)]
        simp
      · refine ⟨leLine (by show 1 ≤ 1000; decide), fun p np => ?_⟩
        have s2 : Same (upd (upd H t (.tup [.int 1, .int c])) sl (.lst (svs.set bn (.ref t)))) (upd (upd (upd H t (.tup [.int 1, .int c])) sl (.lst (svs.set bn (.ref t)))) p (.lst [.int 0])) := Same.new np
        have np0 : H p = none := by
          cases q : H p with
          | none => rfl
          | some o =>
            by_cases cs : p = sl
            · rw [cs, upd_same] at np; cases np
            · rw [upd_ne cs, s1 _ _ q] at np; cases np
        exact k.chg (x' := ⟨some (setSlot S an cc bn (.number c)), mk⟩) (res := [0]) (by dsimp only; rw [hc1]; rfl) (fr.trans (Fr.same s2)) (hD2.same s2) np0 upd_same
end
end Sh


set_option maxHeartbeats 2000000
namespace Sh
open PySem PySem.Spec PyProof.Rows L2
open Vbxlaa (fieldsOf clientAt stepRows setSlot setClient isClient isSlot isField within emptyStore slotOf)
section
variable {P : Program} {w : World} {K : PySem.W.Frag} {mg : Str → Option Value} {base : Heap} {ad : Ad}
abbrev spNeedSlot (ad : Ad) : Sp := fun vs H Q E => ∃ z : Int, vs = [.int z] ∧ (0 ≤ z ∧ z ≤ 5 → Q .non H) ∧ (¬ (0 ≤ z ∧ z ≤ 5) → RefE ad H E (-1))
theorem ixN_ok {m j : Nat} (h : j < m) : ixN m ((j : Nat) : Int) = some j := by
  unfold ixN
  rw [if_pos (by omega), if_pos (by omega)]
  simp
/-- the list [0] behind a change -/
theorem zero_end {ro : Rm} {H H2 : Hp} {da : Addr} {Q : VK} {E : XK} {y : VSs × List Int} {x' : VSs} (k : Fin K ad H ro da Q E y) (e : y = (x', [0])) (s0 : ∀ a o, H a = some o → ∃ o', H2 a = some o') (fr : Fr H ro H2 ro) (hD2 : DeskAt K ad ro H2 da x') : ∀ p, H2 p = none → Q (.ref p) (upd H2 p (.lst [.int 0])) := fun p np => by
  have s2 : Same H2 (upd H2 p (.lst [.int 0])) := Same.new np
  have np0 : H p = none := by
    cases q : H p with
    | none => rfl
    | some o =>
      obtain ⟨o', e'⟩ := s0 p o q
      rw [e'] at np
      cases np
  exact k.chg e (fr.trans (Fr.same s2)) (hD2.same s2) np0 upd_same
theorem upd_all {H H1 : Hp} {a : Addr} {u : HO} (s : Same H H1) : ∀ b o, H b = some o → ∃ o', upd H1 a u b = some o' := fun b o e => by
  by_cases c : b = a
  · exact ⟨u, c ▸ upd_same⟩
  · exact ⟨o, (upd_ne c).trans (s b o e)⟩
theorem ok_clear_slot (T : Tx K mg ad) (D : Df K mg "clear_slot" s_clear_slot ["desk", "given", "row"]) (G_need : Ok P w K mg base 4 "need" ["number", "low", "high"] (spNeed ad)) (G_need_slot : Ok P w K mg base 5 "need_slot" ["number"] (spNeedSlot ad))
    (G_client_of : Ok P w K mg base 5 "client_of" ["desk", "number"] (spClientOf K ad)) : Ok P w K mg base 6 "clear_slot" ["desk", "given", "row"] (spOp K ad 3 2 false) := by
  refine D.ok c_clear_slot (fun vs H Q E h => ?_) (fun f cdv A outer s H vs Q E hr h => ?_)
  · obtain ⟨da, ga, la, ro, x, g, l, rfl, _⟩ := h
    rfl
  · refine ⟨_,
      (pss_cons (ps_asg (pv 1) (pg_lst rfl (pgs_cons (pg_name (i := 3) c_clear_slot.nd rfl (Or.inl rfl)) (pgs_cons (pg_name (i := 4) c_clear_slot.nd rfl (Or.inl rfl)) pgs_nil))))
        (pss_cons (ps_expr (pe_c G_need hr (L2N.takes_of rfl rfl rfl rfl) (pa_cons (pv 3) (pa_cons pe_int (pa_cons (pe_ci T.c_MOST_CLIENT) pa_nil)))))
        (pss_cons (ps_expr (pe_c G_need_slot hr (L2N.takes_of rfl rfl rfl rfl) (pa_cons (pv 4) pa_nil)))
        (pss_cons (ps_asg (pe_glob (v := .ref ad.nothing) rfl T.g_NOTHING rfl) (pg_sub (pe_fld (pe_c G_client_of hr (L2N.takes_of rfl rfl rfl rfl) (pa_cons (pv 0) (pa_cons (pv 3) pa_nil))) rfl) (pv 4) set_list))
        (pss_one (ps_ret (pe_lst (pa_cons pe_int pa_nil))))))))
      , ?_⟩
    obtain ⟨da, ga, la, ro, x, g, l, rfl, hD, hg, hl, _, _, hn, hlim, _, k⟩ := h
    obtain ⟨a, b, rfl⟩ := get2 hn
    obtain ⟨dd, sv, mv, h1, h2, h3⟩ := hD.ex
    refine ⟨_, rfl, ga, _, rfl, SqL.of hg, rfl, _, _, rfl, _, _, rfl, rfl, ?_⟩
    have ecall : Vbxlaa.callOf [[3, a, b]] = Vbxlaa.callIf (isClient a && isSlot b) (.clear a.toNat b.toNat) := rfl
    rw [show (if false = true then [3 :: [a, b], l] else [3 :: [a, b]]) = [[3, a, b]] from rfl] at k
    refine ⟨_, rfl, _, _, _, rfl, fun ca => ?_, fun na => k.ref hD (sr_none (by rw [ecall, show isClient a = false from within_no na]; rfl))⟩
    refine ⟨_, rfl, _, rfl, fun cb => ?_, fun nb => k.ref hD (sr_none (by rw [ecall, show isSlot b = false from within_no nb, Bool.and_false]; rfl))⟩
    have e1 : stepRows x [[3, a, b]] = Vbxlaa.step x (.clear a.toNat b.toNat) := sr_some (by rw [ecall, show isClient a = true from within_iff.mpr ca, show isSlot b = true from within_iff.mpr cb]; rfl)
    rw [e1, step_client (n := a.toNat) rfl] at k
    obtain ⟨an, rfl⟩ : ∃ an : Nat, a = (an : Int) := ⟨a.toNat, by omega⟩
    obtain ⟨bn, rfl⟩ : ∃ bn : Nat, b = (bn : Int) := ⟨b.toNat, by omega⟩
    rw [Int.toNat_natCast, Int.toNat_natCast] at k
    refine ⟨_, rfl, _, rfl, da, dd, sv, mv, an, rfl, h1, by omega, ?_⟩
    obtain ⟨st, mk⟩ := x
    cases st with
    | none => exact .inl ⟨h2, k.ref hD rfl⟩
    | some S =>
      obtain ⟨sa, nm, R, rfl, hS, wf⟩ := h2
      obtain ⟨dx, cl, td, cvs, kvs, last, r, nk⟩ := hS.raw
      refine .inr ⟨sa, dx, cl, td, nm, ro, false, _, _, _, _, cvs, kvs, rfl, r, fun cad hle hcv => ?_, fun hlt => k.ref hD (by dsimp only; rw [client_none (.inr hlt)])⟩
      obtain ⟨cc, hc1, hc2⟩ := client_some (S := S) (by omega) hle
      obtain ⟨ca2, dy, sl, ib, svs, q1, q2, q3, q4, fr, hD2⟩ := slot_fin (j := bn) (y := .nothing) (v := .ref ad.nothing) hD h1 r nk wf hc2 rfl (Same.refl H) ⟨ad.nothing, rfl, .inr T.nothing⟩ (fun i e => by cases e)
      rw [q1] at hcv
      cases hcv
      have hsl : bn < svs.length := by rw [Paired.length q4, wf.sl cc (List.mem_of_getElem? hc2)]; omega
      refine ⟨_, _, dy, _, _, rfl, q2, T.k_client, T.n_slots, rfl, _, rfl, sl, svs, _, bn, rfl, rfl, q3, ixN_ok hsl, ?_⟩
      exact ⟨leLine (by show 1 ≤ 1000; decide), zero_end k (x' := ⟨some (setSlot S an cc bn .nothing), mk⟩) (by dsimp only; rw [hc1]; rfl) (upd_all (Same.refl H)) fr hD2⟩
theorem slotOf_get {c : VC} {j : Nat} {v : VV} (h : c.slots[j]? = some v) : slotOf c j = v := by unfold Vbxlaa.slotOf; rw [List.getD_eq_getElem?_getD, h]; rfl
theorem ok_copy_slot (T : Tx K mg ad) (D : Df K mg "copy_slot" s_copy_slot ["desk", "given", "row"]) (G_need : Ok P w K mg base 4 "need" ["number", "low", "high"] (spNeed ad)) (G_need_slot : Ok P w K mg base 5 "need_slot" ["number"] (spNeedSlot ad))
    (G_client_of : Ok P w K mg base 5 "client_of" ["desk", "number"] (spClientOf K ad)) : Ok P w K mg base 6 "copy_slot" ["desk", "given", "row"] (spOp K ad 4 3 false) := by
  refine D.ok c_copy_slot (fun vs H Q E h => ?_) (fun f cdv A outer s H vs Q E hr h => ?_)
  · obtain ⟨da, ga, la, ro, x, g, l, rfl, _⟩ := h
    rfl
  · refine ⟨_,
      (pss_cons (ps_asg (pv 1) (pg_lst rfl (pgs_cons (pg_name (i := 3) c_copy_slot.nd rfl (Or.inl rfl)) (pgs_cons (pg_name (i := 4) c_copy_slot.nd rfl (Or.inl rfl)) (pgs_cons (pg_name (i := 5) c_copy_slot.nd rfl (Or.inl rfl)) pgs_nil)))))
        (pss_cons (ps_expr (pe_c G_need hr (L2N.takes_of rfl rfl rfl rfl) (pa_cons (pv 3) (pa_cons pe_int (pa_cons (pe_ci T.c_MOST_CLIENT) pa_nil)))))
        (pss_cons (ps_expr (pe_c G_need_slot hr (L2N.takes_of rfl rfl rfl rfl) (pa_cons (pv 4) pa_nil)))
        (pss_cons (ps_expr (pe_c G_need_slot hr (L2N.takes_of rfl rfl rfl rfl) (pa_cons (pv 5) pa_nil)))
        (pss_cons (ps_set (i := 6) c_copy_slot.nd rfl (Or.inl rfl) (pe_c G_client_of hr (L2N.takes_of rfl rfl rfl rfl) (pa_cons (pv 0) (pa_cons (pv 3) pa_nil))))
        (pss_cons (ps_asg (pe_ix ix_list (pe_fld (pv 6) rfl) (pv 4) (fun _ _ => rfl)) (pg_sub (pe_fld (pv 6) rfl) (pv 5) set_list))
        (pss_one (ps_ret (pe_lst (pa_cons pe_int pa_nil))))))))))
      , ?_⟩
    obtain ⟨da, ga, la, ro, x, g, l, rfl, hD, hg, hl, _, _, hn, hlim, _, k⟩ := h
    obtain ⟨a, b, c, rfl⟩ := get3 hn
    obtain ⟨dd, sv, mv, h1, h2, h3⟩ := hD.ex
    refine ⟨_, rfl, ga, _, rfl, SqL.of hg, rfl, _, _, rfl, _, _, rfl, _, _, rfl, rfl, ?_⟩
    have ecall : Vbxlaa.callOf [[4, a, b, c]] = Vbxlaa.callIf (isClient a && (isSlot b && isSlot c)) (.copy a.toNat b.toNat c.toNat) := rfl
    rw [show (if false = true then [4 :: [a, b, c], l] else [4 :: [a, b, c]]) = [[4, a, b, c]] from rfl] at k
    refine ⟨_, rfl, _, _, _, rfl, fun ca => ?_, fun na => k.ref hD (sr_none (by rw [ecall, show isClient a = false from within_no na]; rfl))⟩
    refine ⟨_, rfl, _, rfl, fun cb => ?_, fun nb => k.ref hD (sr_none (by rw [ecall, show isSlot b = false from within_no nb, Bool.false_and, Bool.and_false]; rfl))⟩
    refine ⟨_, rfl, _, rfl, fun cc0 => ?_, fun nb => k.ref hD (sr_none (by rw [ecall, show isSlot c = false from within_no nb, Bool.and_false, Bool.and_false]; rfl))⟩
    have e1 : stepRows x [[4, a, b, c]] = Vbxlaa.step x (.copy a.toNat b.toNat c.toNat) := sr_some (by rw [ecall, show isClient a = true from within_iff.mpr ca, show isSlot b = true from within_iff.mpr cb, show isSlot c = true from within_iff.mpr cc0]; rfl)
    rw [e1, step_client (n := a.toNat) rfl] at k
    obtain ⟨an, rfl⟩ : ∃ an : Nat, a = (an : Int) := ⟨a.toNat, by omega⟩
    obtain ⟨bn, rfl⟩ : ∃ bn : Nat, b = (bn : Int) := ⟨b.toNat, by omega⟩
    obtain ⟨cn, rfl⟩ : ∃ cn : Nat, c = (cn : Int) := ⟨c.toNat, by omega⟩
    rw [Int.toNat_natCast, Int.toNat_natCast, Int.toNat_natCast] at k
    refine ⟨_, rfl, _, rfl, da, dd, sv, mv, an, rfl, h1, by omega, ?_⟩
    obtain ⟨st, mk⟩ := x
    cases st with
    | none => exact .inl ⟨h2, k.ref hD rfl⟩
    | some S =>
      obtain ⟨sa, nm, R, rfl, hS, wf⟩ := h2
      obtain ⟨dx, cl, td, cvs, kvs, last, r, nk⟩ := hS.raw
      refine .inr ⟨sa, dx, cl, td, nm, ro, false, _, _, _, _, cvs, kvs, rfl, r, fun cad hle hcv => ?_, fun hlt => k.ref hD (by dsimp only; rw [client_none (.inr hlt)])⟩
      obtain ⟨cc, hc1, hc2⟩ := client_some (S := S) (by omega) hle
      have cm := List.mem_of_getElem? hc2
      obtain ⟨vv, hvv⟩ : ∃ vv, cc.slots[bn]? = some vv := ⟨_, List.getElem?_eq_getElem (by rw [wf.sl cc cm]; omega)⟩
      obtain ⟨ca1, dy1, sl1, ib1, svs1, ims1, p1, p2, p3, p4, p5, _⟩ := r.slots hc2
      obtain ⟨u, hu, iu⟩ := pair_get p5 hvv
      obtain ⟨ca2, dy, sl, ib, svs, q1, q2, q3, q4, fr, hD2⟩ := slot_fin (j := cn) (y := vv) (v := u) hD h1 r nk wf hc2 rfl (Same.refl H) iu (wf.ls cc cm vv (List.mem_of_getElem? hvv))
      rw [p1] at q1
      cases q1
      rw [p2] at q2
      cases q2
      rw [p3] at q3
      cases q3
      rw [p1] at hcv
      cases hcv
      have hsl : cn < svs1.length := by rw [Paired.length q4, wf.sl cc cm]; omega
      refine ⟨_, rfl, _, _, dy1, _, _, rfl, p2, T.k_client, T.n_slots, rfl, _, rfl, sl1, svs1, _, u, rfl, rfl, SqL.of p3, atI_nat hu, ?_⟩
      refine ⟨_, rfl, _, _, dy1, _, _, rfl, p2, T.k_client, T.n_slots, rfl, _, rfl, sl1, svs1, _, cn, rfl, rfl, p3, ixN_ok hsl, ?_⟩
      exact ⟨leLine (by show 1 ≤ 1000; decide), zero_end k (x' := ⟨some (setSlot S an cc cn vv), mk⟩) (by dsimp only; rw [hc1]; show (_, _) = _; rw [show Vbxlaa.onClient S an cc (.copy an bn cn) = (setSlot S an cc cn (slotOf cc bn), [0]) from rfl, slotOf_get hvv]) (upd_all (Same.refl H)) fr hD2⟩
end
end Sh


set_option maxHeartbeats 2000000
namespace Sh
open PySem PySem.Spec PyProof.Rows L2
open Vbxlaa (fieldsOf clientAt stepRows setSlot setClient isClient isSlot isField within emptyStore slotOf)
section
variable {P : Program} {w : World} {K : PySem.W.Frag} {mg : Str → Option Value} {base : Heap} {ad : Ad}
theorem ok_inspect (T : Tx K mg ad) (D : Df K mg "inspect" s_inspect ["desk", "given", "row"]) (G_need : Ok P w K mg base 4 "need" ["number", "low", "high"] (spNeed ad)) (G_need_slot : Ok P w K mg base 5 "need_slot" ["number"] (spNeedSlot ad)) (G_client_of : Ok P w K mg base 5 "client_of" ["desk", "number"] (spClientOf K ad)) (G_detail : Ok P w K mg base 1 "detail" ["store", "own"] (spDetail K ad)) : Ok P w K mg base 6 "inspect" ["desk", "given", "row"] (spOp K ad 7 2 false) := by
  refine D.ok c_inspect (fun vs H Q E h => ?_) (fun f cdv A outer s H vs Q E hr h => ?_)
  · obtain ⟨da, ga, la, ro, x, g, l, rfl, _⟩ := h
    rfl
  · refine ⟨_,
      (pss_cons (ps_asg (pv 1) (pg_lst rfl (pgs_cons (pg_name (i := 3) c_inspect.nd rfl (Or.inl rfl)) (pgs_cons (pg_name (i := 4) c_inspect.nd rfl (Or.inl rfl)) pgs_nil))))
        (pss_cons (ps_expr (pe_c G_need hr (L2N.takes_of rfl rfl rfl rfl) (pa_cons (pv 3) (pa_cons pe_int (pa_cons (pe_ci T.c_MOST_CLIENT) pa_nil)))))
        (pss_cons (ps_expr (pe_c G_need_slot hr (L2N.takes_of rfl rfl rfl rfl) (pa_cons (pv 4) pa_nil)))
        (pss_cons (ps_set (i := 5) c_inspect.nd rfl (Or.inl rfl) (pe_c G_client_of hr (L2N.takes_of rfl rfl rfl rfl) (pa_cons (pv 0) (pa_cons (pv 3) pa_nil))))
        (pss_one (ps_ret (pe_c G_detail hr (L2N.takes_of rfl rfl rfl rfl) (pa_cons (pe_fld (pv 0) rfl) (pa_cons (pe_ix ix_list (pe_fld (pv 5) rfl) (pv 4) (fun _ _ => rfl)) pa_nil)))))))))
      , ?_⟩
    obtain ⟨da, ga, la, ro, x, g, l, rfl, hD, hg, hl, hga, hla, hn, hlim, hl7, k⟩ := h
    obtain ⟨dd, sv, mv, h1, h2, h3⟩ := hD.ex
    obtain ⟨a, b, rfl⟩ := get2 hn
    refine ⟨_, rfl, ga, _, rfl, SqL.of hg, rfl, _, _, rfl, _, _, rfl, rfl, ?_⟩
    have ecall : Vbxlaa.callOf [[7, a, b]] = Vbxlaa.callIf (isClient a && isSlot b) (.inspect a.toNat b.toNat) := rfl
    rw [show (if false = true then [7 :: [a, b], l] else [7 :: [a, b]]) = [[7, a, b]] from rfl] at k
    refine ⟨_, rfl, _, _, _, rfl, fun ca => ?_, fun na => k.ref hD (sr_none (by rw [ecall, show isClient a = false from within_no na]; simp [Vbxlaa.callIf]))⟩
    refine ⟨_, rfl, _, rfl, fun cb => ?_, fun nb => k.ref hD (sr_none (by rw [ecall, show isSlot b = false from within_no nb]; simp [Vbxlaa.callIf]))⟩
    have e1 : stepRows x [[7, a, b]] = Vbxlaa.step x (.inspect a.toNat b.toNat) := sr_some (by rw [ecall, show isClient a = true from within_iff.mpr ca, show isSlot b = true from within_iff.mpr cb]; rfl)
    rw [e1, step_client (n := a.toNat) rfl] at k
    obtain ⟨an, rfl⟩ : ∃ an : Nat, a = (an : Int) := ⟨a.toNat, by omega⟩
    obtain ⟨bn, rfl⟩ : ∃ bn : Nat, b = (bn : Int) := ⟨b.toNat, by omega⟩
    simp only [Int.toNat_natCast] at k
    refine ⟨_, rfl, _, rfl, da, dd, sv, mv, an, rfl, h1, by omega, ?_⟩
    obtain ⟨st, mk⟩ := x
    cases st with
    | none => exact .inl ⟨h2, k.ref hD rfl⟩
    | some S =>
      obtain ⟨sa, nm, R, rfl, hS, wf⟩ := h2
      obtain ⟨dx, cl, td, cvs, kvs, last, r, nk⟩ := hS.raw
      refine .inr ⟨sa, dx, cl, td, nm, ro, false, _, _, _, _, cvs, kvs, rfl, r, fun cad hle hcv => ?_, fun hlt => k.ref hD (by dsimp only; rw [client_none (.inr hlt)])⟩
      obtain ⟨cc, hc1, hc2⟩ := client_some (S := S) (by omega) hle
      have cm := List.mem_of_getElem? hc2
      dsimp only at k
      rw [hc1] at k
      dsimp only at k
      obtain ⟨ca1, dy1, sl1, ib1, svs1, ims1, p1, p2, p3, p4, p5, p6, p7, p8, p9, p10⟩ := r.slots hc2
      rw [p1] at hcv
      obtain rfl : ca1 = cad := by cases hcv; rfl
      obtain ⟨vv, hvv⟩ : ∃ vv, cc.slots[bn]? = some vv := ⟨_, List.getElem?_eq_getElem (by rw [wf.sl cc cm]; omega)⟩
      obtain ⟨u, hu, iu⟩ := pair_get p5 hvv
      refine ⟨_, rfl, da, _, dd, _, _, rfl, h1, T.k_desk, T.d_store, rfl, _, rfl, ca1, _, dy1, _, _, rfl, p2, T.k_client, T.n_slots, rfl, _, rfl, sl1, svs1, _, u, rfl, rfl, SqL.of p3, atI_nat hu, ?_⟩
      refine ⟨sa, u, nm, ro, false, S, R, vv, rfl, hS, wf, iu, wf.ls cc cm vv (List.mem_of_getElem? hvv), fun H2 p s2 np hp => ?_⟩
      exact k.ret hD (res := [(Vbxlaa.describe S vv).1, (Vbxlaa.describe S vv).2]) (by rw [← slotOf_get hvv]; rfl) s2 np hp
theorem ok_same (T : Tx K mg ad) (D : Df K mg "same" s_same ["desk", "given", "row"]) (G_need : Ok P w K mg base 4 "need" ["number", "low", "high"] (spNeed ad)) (G_need_slot : Ok P w K mg base 5 "need_slot" ["number"] (spNeedSlot ad)) (G_client_of : Ok P w K mg base 5 "client_of" ["desk", "number"] (spClientOf K ad)) : Ok P w K mg base 6 "same" ["desk", "given", "row"] (spOp K ad 8 3 false) := by
  refine D.ok c_same (fun vs H Q E h => ?_) (fun f cdv A outer s H vs Q E hr h => ?_)
  · obtain ⟨da, ga, la, ro, x, g, l, rfl, _⟩ := h
    rfl
  · refine ⟨_,
      (pss_cons (ps_asg (pv 1) (pg_lst rfl (pgs_cons (pg_name (i := 3) c_same.nd rfl (Or.inl rfl)) (pgs_cons (pg_name (i := 4) c_same.nd rfl (Or.inl rfl)) (pgs_cons (pg_name (i := 5) c_same.nd rfl (Or.inl rfl)) pgs_nil)))))
        (pss_cons (ps_expr (pe_c G_need hr (L2N.takes_of rfl rfl rfl rfl) (pa_cons (pv 3) (pa_cons pe_int (pa_cons (pe_ci T.c_MOST_CLIENT) pa_nil)))))
        (pss_cons (ps_expr (pe_c G_need_slot hr (L2N.takes_of rfl rfl rfl rfl) (pa_cons (pv 4) pa_nil)))
        (pss_cons (ps_expr (pe_c G_need_slot hr (L2N.takes_of rfl rfl rfl rfl) (pa_cons (pv 5) pa_nil)))
        (pss_cons (ps_set (i := 6) c_same.nd rfl (Or.inl rfl) (pe_c G_client_of hr (L2N.takes_of rfl rfl rfl rfl) (pa_cons (pv 0) (pa_cons (pv 3) pa_nil))))
        (pss_one (ps_ret (pe_lst (pa_cons (pe_callTy call_int1 (by rfl) T.b_int (by decide +kernel) (pa_cons (pe_cmpR (op_eqD hr.units) (pe_ix ix_list (pe_fld (pv 6) rfl) (pv 4) (fun _ _ => rfl)) (pe_ix ix_list (pe_fld (pv 6) rfl) (pv 5) (fun _ _ => rfl)) (nomark _)) pa_nil)) pa_nil)))))))))
      , ?_⟩
    obtain ⟨da, ga, la, ro, x, g, l, rfl, hD, hg, hl, hga, hla, hn, hlim, hl7, k⟩ := h
    obtain ⟨dd, sv, mv, h1, h2, h3⟩ := hD.ex
    obtain ⟨a, b, c, rfl⟩ := get3 hn
    refine ⟨_, rfl, ga, _, rfl, SqL.of hg, rfl, _, _, rfl, _, _, rfl, _, _, rfl, rfl, ?_⟩
    have ecall : Vbxlaa.callOf [[8, a, b, c]] = Vbxlaa.callIf (isClient a && (isSlot b && isSlot c)) (.same a.toNat b.toNat c.toNat) := rfl
    rw [show (if false = true then [8 :: [a, b, c], l] else [8 :: [a, b, c]]) = [[8, a, b, c]] from rfl] at k
    refine ⟨_, rfl, _, _, _, rfl, fun ca => ?_, fun na => k.ref hD (sr_none (by rw [ecall, show isClient a = false from within_no na]; simp [Vbxlaa.callIf]))⟩
    refine ⟨_, rfl, _, rfl, fun cb => ?_, fun nb => k.ref hD (sr_none (by rw [ecall, show isSlot b = false from within_no nb]; simp [Vbxlaa.callIf]))⟩
    refine ⟨_, rfl, _, rfl, fun cc => ?_, fun nc => k.ref hD (sr_none (by rw [ecall, show isSlot c = false from within_no nc]; simp [Vbxlaa.callIf]))⟩
    have e1 : stepRows x [[8, a, b, c]] = Vbxlaa.step x (.same a.toNat b.toNat c.toNat) := sr_some (by rw [ecall, show isClient a = true from within_iff.mpr ca, show isSlot b = true from within_iff.mpr cb, show isSlot c = true from within_iff.mpr cc]; rfl)
    rw [e1, step_client (n := a.toNat) rfl] at k
    obtain ⟨an, rfl⟩ : ∃ an : Nat, a = (an : Int) := ⟨a.toNat, by omega⟩
    obtain ⟨bn, rfl⟩ : ∃ bn : Nat, b = (bn : Int) := ⟨b.toNat, by omega⟩
    obtain ⟨cn, rfl⟩ : ∃ cn : Nat, c = (cn : Int) := ⟨c.toNat, by omega⟩
    simp only [Int.toNat_natCast] at k
    refine ⟨_, rfl, _, rfl, da, dd, sv, mv, an, rfl, h1, by omega, ?_⟩
    obtain ⟨st, mk⟩ := x
    cases st with
    | none => exact .inl ⟨h2, k.ref hD rfl⟩
    | some S =>
      obtain ⟨sa, nm, R, rfl, hS, wf⟩ := h2
      obtain ⟨dx, cl, td, cvs, kvs, last, r, nk⟩ := hS.raw
      refine .inr ⟨sa, dx, cl, td, nm, ro, false, _, _, _, _, cvs, kvs, rfl, r, fun cad hle hcv => ?_, fun hlt => k.ref hD (by dsimp only; rw [client_none (.inr hlt)])⟩
      obtain ⟨cc, hc1, hc2⟩ := client_some (S := S) (by omega) hle
      have cm := List.mem_of_getElem? hc2
      dsimp only at k
      rw [hc1] at k
      dsimp only at k
      obtain ⟨ca1, dy1, sl1, ib1, svs1, ims1, p1, p2, p3, p4, p5, p6, p7, p8, p9, p10⟩ := r.slots hc2
      rw [p1] at hcv
      obtain rfl : ca1 = cad := by cases hcv; rfl
      obtain ⟨vv, hvv⟩ : ∃ vv, cc.slots[bn]? = some vv := ⟨_, List.getElem?_eq_getElem (by rw [wf.sl cc cm]; omega)⟩
      obtain ⟨u, hu, iu⟩ := pair_get p5 hvv
      obtain ⟨ww, hww⟩ : ∃ ww, cc.slots[cn]? = some ww := ⟨_, List.getElem?_eq_getElem (by rw [wf.sl cc cm]; omega)⟩
      obtain ⟨u2, hu2, iu2⟩ := pair_get p5 hww
      refine ⟨_, rfl, ca1, _, dy1, _, _, rfl, p2, T.k_client, T.n_slots, rfl, _, rfl, sl1, svs1, _, u, rfl, rfl, SqL.of p3, atI_nat hu, _, rfl, ca1, _, dy1, _, _, rfl, p2, T.k_client, T.n_slots, rfl, _, rfl, sl1, svs1, _, u2, rfl, rfl, SqL.of p3, atI_nat hu2, ?_⟩
      refine ⟨_, _, isV_dp iu, isV_dp iu2, rfl, rfl, .inr ⟨_, rfl, leLine (by show 1 ≤ 1000; decide), fun p np => ?_⟩⟩
      refine k.ret hD (res := [if PyData.eqv (.tuple [.int (vk vv), .int (vp nm vv)]) (.tuple [.int (vk ww), .int (vp nm ww)]) then 1 else 0]) ?_ (Same.new np) np upd_same
      rw [eqv_pair]
      show ((⟨some S, mk⟩ : VSs), [if slotOf cc bn = slotOf cc cn then (1 : Int) else 0]) = (⟨some S, mk⟩, _)
      rw [slotOf_get hvv, slotOf_get hww]
      by_cases exy : vv = ww
      · rw [exy, if_pos rfl]
        simp
      · rw [if_neg exy]
        by_cases hk1 : vk vv = vk ww
        · rw [decide_eq_true hk1, decide_eq_false fun z => exy (vk_vp_inj nk.inj hk1 z)]
          simp
        · rw [decide_eq_false hk1]
          simp
theorem ok_read_field (T : Tx K mg ad) (D : Df K mg "read_field" s_read_field ["desk", "given", "row"]) (G_need : Ok P w K mg base 4 "need" ["number", "low", "high"] (spNeed ad)) (G_need_slot : Ok P w K mg base 5 "need_slot" ["number"] (spNeedSlot ad)) (G_client_of : Ok P w K mg base 5 "client_of" ["desk", "number"] (spClientOf K ad)) (G_need_field : Ok P w K mg base 4 "need_field" ["store", "own", "field"] (spNeedField K ad)) (G_field_at : Ok P w K mg base 1 "field_at" ["store", "own", "field"] (spFieldAt K ad)) : Ok P w K mg base 6 "read_field" ["desk", "given", "row"] (spOp K ad 5 4 false) := by
  refine D.ok c_read_field (fun vs H Q E h => ?_) (fun f cdv A outer s H vs Q E hr h => ?_)
  · obtain ⟨da, ga, la, ro, x, g, l, rfl, _⟩ := h
    rfl
  · refine ⟨_,
      (pss_cons (ps_asg (pv 1) (pg_lst rfl (pgs_cons (pg_name (i := 3) c_read_field.nd rfl (Or.inl rfl)) (pgs_cons (pg_name (i := 4) c_read_field.nd rfl (Or.inl rfl)) (pgs_cons (pg_name (i := 5) c_read_field.nd rfl (Or.inl rfl)) (pgs_cons (pg_name (i := 6) c_read_field.nd rfl (Or.inl rfl)) pgs_nil))))))
        (pss_cons (ps_expr (pe_c G_need hr (L2N.takes_of rfl rfl rfl rfl) (pa_cons (pv 3) (pa_cons pe_int (pa_cons (pe_ci T.c_MOST_CLIENT) pa_nil)))))
        (pss_cons (ps_expr (pe_c G_need_slot hr (L2N.takes_of rfl rfl rfl rfl) (pa_cons (pv 4) pa_nil)))
        (pss_cons (ps_expr (pe_c G_need hr (L2N.takes_of rfl rfl rfl rfl) (pa_cons (pv 5) (pa_cons pe_int (pa_cons (pe_ci T.c_MOST_FIELD) pa_nil)))))
        (pss_cons (ps_expr (pe_c G_need_slot hr (L2N.takes_of rfl rfl rfl rfl) (pa_cons (pv 6) pa_nil)))
        (pss_cons (ps_set (i := 7) c_read_field.nd rfl (Or.inl rfl) (pe_c G_client_of hr (L2N.takes_of rfl rfl rfl rfl) (pa_cons (pv 0) (pa_cons (pv 3) pa_nil))))
        (pss_cons (ps_expr (pe_c G_need_field hr (L2N.takes_of rfl rfl rfl rfl) (pa_cons (pe_fld (pv 0) rfl) (pa_cons (pe_ix ix_list (pe_fld (pv 7) rfl) (pv 4) (fun _ _ => rfl)) (pa_cons (pv 5) pa_nil)))))
        (pss_cons (ps_asg (pe_c G_field_at hr (L2N.takes_of rfl rfl rfl rfl) (pa_cons (pe_fld (pv 0) rfl) (pa_cons (pe_ix ix_list (pe_fld (pv 7) rfl) (pv 4) (fun _ _ => rfl)) (pa_cons (pv 5) pa_nil)))) (pg_sub (pe_fld (pv 7) rfl) (pv 6) set_list))
        (pss_one (ps_ret (pe_lst (pa_cons pe_int pa_nil))))))))))))
      , ?_⟩
    obtain ⟨da, ga, la, ro, x, g, l, rfl, hD, hg, hl, hga, hla, hn, hlim, hl7, k⟩ := h
    obtain ⟨dd, sv, mv, h1, h2, h3⟩ := hD.ex
    obtain ⟨a, b, c, e, rfl⟩ := get4 hn
    refine ⟨_, rfl, ga, _, rfl, SqL.of hg, rfl, _, _, rfl, _, _, rfl, _, _, rfl, _, _, rfl, rfl, ?_⟩
    have ecall : Vbxlaa.callOf [[5, a, b, c, e]] = Vbxlaa.callIf (isClient a && (isSlot b && (isField c && isSlot e))) (.read a.toNat b.toNat c.toNat e.toNat) := rfl
    rw [show (if false = true then [5 :: [a, b, c, e], l] else [5 :: [a, b, c, e]]) = [[5, a, b, c, e]] from rfl] at k
    refine ⟨_, rfl, _, _, _, rfl, fun ca => ?_, fun na => k.ref hD (sr_none (by rw [ecall, show isClient a = false from within_no na]; simp [Vbxlaa.callIf]))⟩
    refine ⟨_, rfl, _, rfl, fun cb => ?_, fun nb => k.ref hD (sr_none (by rw [ecall, show isSlot b = false from within_no nb]; simp [Vbxlaa.callIf]))⟩
    refine ⟨_, rfl, _, _, _, rfl, fun cc => ?_, fun nc => k.ref hD (sr_none (by rw [ecall, show isField c = false from within_no nc]; simp [Vbxlaa.callIf]))⟩
    refine ⟨_, rfl, _, rfl, fun ce => ?_, fun ne => k.ref hD (sr_none (by rw [ecall, show isSlot e = false from within_no ne]; simp [Vbxlaa.callIf]))⟩
    have e1 : stepRows x [[5, a, b, c, e]] = Vbxlaa.step x (.read a.toNat b.toNat c.toNat e.toNat) := sr_some (by rw [ecall, show isClient a = true from within_iff.mpr ca, show isSlot b = true from within_iff.mpr cb, show isField c = true from within_iff.mpr cc, show isSlot e = true from within_iff.mpr ce]; rfl)
    rw [e1, step_client (n := a.toNat) rfl] at k
    obtain ⟨an, rfl⟩ : ∃ an : Nat, a = (an : Int) := ⟨a.toNat, by omega⟩
    obtain ⟨bn, rfl⟩ : ∃ bn : Nat, b = (bn : Int) := ⟨b.toNat, by omega⟩
    obtain ⟨cn, rfl⟩ : ∃ cn : Nat, c = (cn : Int) := ⟨c.toNat, by omega⟩
    obtain ⟨en, rfl⟩ : ∃ en : Nat, e = (en : Int) := ⟨e.toNat, by omega⟩
    simp only [Int.toNat_natCast] at k
    refine ⟨_, rfl, _, rfl, da, dd, sv, mv, an, rfl, h1, by omega, ?_⟩
    obtain ⟨st, mk⟩ := x
    cases st with
    | none => exact .inl ⟨h2, k.ref hD rfl⟩
    | some S =>
      obtain ⟨sa, nm, R, rfl, hS, wf⟩ := h2
      obtain ⟨dx, cl, td, cvs, kvs, last, r, nk⟩ := hS.raw
      refine .inr ⟨sa, dx, cl, td, nm, ro, false, _, _, _, _, cvs, kvs, rfl, r, fun cad hle hcv => ?_, fun hlt => k.ref hD (by dsimp only; rw [client_none (.inr hlt)])⟩
      obtain ⟨cc, hc1, hc2⟩ := client_some (S := S) (by omega) hle
      have cm := List.mem_of_getElem? hc2
      dsimp only at k
      rw [hc1] at k
      dsimp only at k
      obtain ⟨ca1, dy1, sl1, ib1, svs1, ims1, p1, p2, p3, p4, p5, p6, p7, p8, p9, p10⟩ := r.slots hc2
      rw [p1] at hcv
      obtain rfl : ca1 = cad := by cases hcv; rfl
      obtain ⟨vv, hvv⟩ : ∃ vv, cc.slots[bn]? = some vv := ⟨_, List.getElem?_eq_getElem (by rw [wf.sl cc cm]; omega)⟩
      obtain ⟨u, hu, iu⟩ := pair_get p5 hvv
      have lvv := wf.ls cc cm vv (List.mem_of_getElem? hvv)
      have eon : Vbxlaa.onClient S an cc (.read an bn cn en) = match vv with
          | .object id => (match (fieldsOf S id)[cn]? with
            | some v => (setSlot S an cc en v, [0])
            | none => (S, [-4]))
          | _ => (S, [-3]) := by
        show (match slotOf cc bn with
          | .object id => (match (fieldsOf S id)[cn]? with
            | some v => (setSlot S an cc en v, [0])
            | none => (S, [-4]))
          | _ => (S, [-3])) = _
        rw [slotOf_get hvv]
        cases vv with
        | nothing => rfl
        | number _ => rfl
        | object i => rfl
      rw [eon] at k
      refine ⟨_, rfl, da, _, dd, _, _, rfl, h1, T.k_desk, T.d_store, rfl, _, rfl, ca1, _, dy1, _, _, rfl, p2, T.k_client, T.n_slots, rfl, _, rfl, sl1, svs1, _, u, rfl, rfl, SqL.of p3, atI_nat hu, _, rfl, ?_⟩
      refine ⟨sa, u, nm, ro, false, S, R, vv, cn, rfl, hS, wf, iu, lvv, fun i v ei ef => ?_, fun hno => k.ref hD ?_, fun i ei ef => k.ref hD ?_⟩
      · subst ei
        dsimp only at k
        rw [ef] at k
        dsimp only at k
        refine ⟨_, rfl, da, _, dd, _, _, rfl, h1, T.k_desk, T.d_store, rfl, _, rfl, ca1, _, dy1, _, _, rfl, p2, T.k_client, T.n_slots, rfl, _, rfl, sl1, svs1, _, u, rfl, rfl, SqL.of p3, atI_nat hu, _, rfl, ?_⟩
        refine ⟨sa, u, nm, ro, false, S, R, .object i, cn, rfl, hS, wf, iu, lvv, fun y io => ?_⟩
        rw [show stepF S (some (.object i)) cn = (fieldsOf S i)[cn]? from rfl, ef] at io
        have lv2 : Lv R v := (wf.fields (lvv i rfl)).2 v (List.mem_of_getElem? ef)
        obtain ⟨ca2, dy, sl, ib, svs, q1, q2, q3, q4, fr, hD2⟩ := slot_fin (j := en) (y := v) (v := y) hD h1 r nk wf hc2 rfl (Same.refl H) io lv2
        rw [p1] at q1
        obtain rfl : ca1 = ca2 := by cases q1; rfl
        rw [p2] at q2
        obtain ⟨rfl, rfl⟩ : sl1 = sl ∧ dy1 = dy := by cases q2; exact ⟨rfl, rfl⟩
        rw [p3] at q3
        obtain rfl : svs1 = svs := by cases q3; rfl
        have hsl : en < svs1.length := by rw [Paired.length q4, wf.sl cc cm]; omega
        refine ⟨_, rfl, ca1, _, dy1, _, _, rfl, p2, T.k_client, T.n_slots, rfl, _, rfl, sl1, svs1, _, en, rfl, rfl, p3, ixN_ok hsl, ?_⟩
        exact ⟨leLine (by show 1 ≤ 1000; decide), zero_end k (x' := ⟨some (setSlot S an cc en v), mk⟩) rfl (upd_all (Same.refl H)) fr hD2⟩
      · cases vv with
        | nothing => rfl
        | number _ => rfl
        | object i => exact absurd rfl (hno i)
      · subst ei
        dsimp only
        rw [ef]
end
end Sh


set_option maxHeartbeats 2000000
namespace Sh
open PySem PySem.Spec PyProof.Rows L2
open Vbxlaa (fieldsOf clientAt stepRows setSlot setClient isClient isSlot isField within emptyStore slotOf)
theorem get0 {α : Type} {g : List α} (h : g.length = 0) : g = [] := List.length_eq_zero_iff.mp h
section
variable {P : Program} {w : World} {K : PySem.W.Frag} {mg : Str → Option Value} {base : Heap} {ad : Ad}
theorem ok_view_all (T : Tx K mg ad) (D : Df K mg "view_all" s_view_all ["desk", "given", "row"]) (G_counted : Ok P w K mg base 1 "counted" ["row"] spCounted) (G_store_view : Ok P w K mg base 5 "store_view" ["store"] (spStoreView K ad)) (G_opened : Ok P w K mg base 4 "opened" ["desk"] (spOpened ad)) : Ok P w K mg base 6 "view_all" ["desk", "given", "row"] (spOp K ad 13 0 false) := by
  refine D.ok c_view_all (fun vs H Q E h => ?_) (fun f cdv A outer s H vs Q E hr h => ?_)
  · obtain ⟨da, ga, la, ro, x, g, l, rfl, _⟩ := h
    rfl
  · refine ⟨_,
      (pss_one (ps_ret (pe_c G_counted hr (L2N.takes_of rfl rfl rfl rfl) (pa_cons (pe_c G_store_view hr (L2N.takes_of rfl rfl rfl rfl) (pa_cons (pe_c G_opened hr (L2N.takes_of rfl rfl rfl rfl) (pa_cons (pv 0) pa_nil)) pa_nil)) pa_nil))))
      , ?_⟩
    obtain ⟨da, ga, la, ro, x, g, l, rfl, hD, hg, hl, hga, hla, hn, hlim, hl7, k⟩ := h
    obtain ⟨dd, sv, mv, h1, h2, h3⟩ := hD.ex
    obtain rfl := get0 hn
    rw [show (if false = true then [13 :: [], l] else [13 :: []]) = [[13]] from rfl, sr_some (k := .viewAll) rfl] at k
    refine ⟨_, rfl, da, dd, sv, mv, rfl, h1, ?_⟩
    obtain ⟨st, mk⟩ := x
    cases st with
    | none => exact .inl ⟨h2, k.ref hD rfl⟩
    | some S =>
      obtain ⟨sa, nm, R, rfl, hS, wf⟩ := h2
      refine .inr ⟨sa, rfl, ?_⟩
      refine ⟨sa, nm, ro, false, S, R, rfl, hS, wf, fun H1 p s1 np hp => ?_⟩
      have hlen : (Vbxlaa.viewAll S).length ≤ 800 := by
        obtain ⟨fu, _⟩ := walk_full wf (all_live wf)
        have l1 := flat_len (Vbxlaa.clientText (Vbxlaa.reachable S)) 60 (l := S.clients) fun x hx => clientText_le (wf.cok hx)
        have l2 : (Vbxlaa.objectsText S (Vbxlaa.reachable S)).length ≤ 500 := objectsText_le wf fu
        have h4 := wf.c4
        show (S.clients.flatMap (Vbxlaa.clientText (Vbxlaa.reachable S)) ++ Vbxlaa.objectsText S (Vbxlaa.reachable S)).length + 1 + 1 ≤ 800
        rw [List.length_append]
        omega
      refine ⟨p, _, rfl, hp, by rw [List.length_map]; omega, fun H2 q s2 nq hq => ?_⟩
      refine k.ret hD (res := Vbxlaa.sized (Vbxlaa.viewAll S)) rfl (s1.trans s2) (s1.free nq) ?_
      rw [hq, List.length_map]
      rfl
theorem ok_garbage (T : Tx K mg ad) (D : Df K mg "garbage" s_garbage ["desk", "given", "row"]) (G_unreached : Ok P w K mg base 5 "unreached" ["store"] (spUnreached K ad)) (G_opened : Ok P w K mg base 4 "opened" ["desk"] (spOpened ad)) : Ok P w K mg base 6 "garbage" ["desk", "given", "row"] (spOp K ad 23 0 false) := by
  refine D.ok c_garbage (fun vs H Q E h => ?_) (fun f cdv A outer s H vs Q E hr h => ?_)
  · obtain ⟨da, ga, la, ro, x, g, l, rfl, _⟩ := h
    rfl
  · refine ⟨_,
      (pss_one (ps_ret (pe_lst (pa_cons (pe_callB call_len_seq (by rfl) T.b_len (by decide +kernel) (pa_cons (pe_c G_unreached hr (L2N.takes_of rfl rfl rfl rfl) (pa_cons (pe_c G_opened hr (L2N.takes_of rfl rfl rfl rfl) (pa_cons (pv 0) pa_nil)) pa_nil)) pa_nil)) pa_nil))))
      , ?_⟩
    obtain ⟨da, ga, la, ro, x, g, l, rfl, hD, hg, hl, hga, hla, hn, hlim, hl7, k⟩ := h
    obtain ⟨dd, sv, mv, h1, h2, h3⟩ := hD.ex
    obtain rfl := get0 hn
    rw [show (if false = true then [23 :: [], l] else [23 :: []]) = [[23]] from rfl, sr_some (k := .garbage) rfl] at k
    refine ⟨_, rfl, da, dd, sv, mv, rfl, h1, ?_⟩
    obtain ⟨st, mk⟩ := x
    cases st with
    | none => exact .inl ⟨h2, k.ref hD rfl⟩
    | some S =>
      obtain ⟨sa, nm, R, rfl, hS, wf⟩ := h2
      refine .inr ⟨sa, rfl, ?_⟩
      refine ⟨sa, nm, ro, false, S, R, rfl, hS, wf, fun H1 p s1 np hp => ?_⟩
      refine ⟨p, _, rfl, .inl (SqL.of hp), leLine (by show 1 ≤ 1000; decide), fun q nq => ?_⟩
      refine k.ret hD (res := [((Vbxlaa.unreachable S).length : Int)]) rfl (s1.trans (Same.new nq)) (s1.free nq) ?_
      rw [upd_same, List.length_map]
      rfl
theorem ok_compare_clients (T : Tx K mg ad) (D : Df K mg "compare_clients" s_compare_clients ["desk", "given", "row"]) (G_need : Ok P w K mg base 4 "need" ["number", "low", "high"] (spNeed ad)) (G_client_of : Ok P w K mg base 5 "client_of" ["desk", "number"] (spClientOf K ad)) (G_told : Ok P w K mg base 2 "told" ["found"] spTold) (G_clients_difference : Ok P w K mg base 4 "clients_difference" ["store", "number", "other"] (spClientsDifference K ad)) : Ok P w K mg base 6 "compare_clients" ["desk", "given", "row"] (spOp K ad 15 2 false) := by
  refine D.ok c_compare_clients (fun vs H Q E h => ?_) (fun f cdv A outer s H vs Q E hr h => ?_)
  · obtain ⟨da, ga, la, ro, x, g, l, rfl, _⟩ := h
    rfl
  · refine ⟨_,
      (pss_cons (ps_asg (pv 1) (pg_lst rfl (pgs_cons (pg_name (i := 3) c_compare_clients.nd rfl (Or.inl rfl)) (pgs_cons (pg_name (i := 4) c_compare_clients.nd rfl (Or.inl rfl)) pgs_nil))))
        (pss_cons (ps_expr (pe_c G_need hr (L2N.takes_of rfl rfl rfl rfl) (pa_cons (pv 3) (pa_cons pe_int (pa_cons (pe_ci T.c_MOST_CLIENT) pa_nil)))))
        (pss_cons (ps_expr (pe_c G_need hr (L2N.takes_of rfl rfl rfl rfl) (pa_cons (pv 4) (pa_cons pe_int (pa_cons (pe_ci T.c_MOST_CLIENT) pa_nil)))))
        (pss_cons (ps_expr (pe_c G_client_of hr (L2N.takes_of rfl rfl rfl rfl) (pa_cons (pv 0) (pa_cons (pv 3) pa_nil))))
        (pss_cons (ps_expr (pe_c G_client_of hr (L2N.takes_of rfl rfl rfl rfl) (pa_cons (pv 0) (pa_cons (pv 4) pa_nil))))
        (pss_one (ps_ret (pe_c G_told hr (L2N.takes_of rfl rfl rfl rfl) (pa_cons (pe_c G_clients_difference hr (L2N.takes_of rfl rfl rfl rfl) (pa_cons (pe_fld (pv 0) rfl) (pa_cons (pv 3) (pa_cons (pv 4) pa_nil)))) pa_nil)))))))))
      , ?_⟩
    obtain ⟨da, ga, la, ro, x, g, l, rfl, hD, hg, hl, hga, hla, hn, hlim, hl7, k⟩ := h
    obtain ⟨dd, sv, mv, h1, h2, h3⟩ := hD.ex
    obtain ⟨a, b, rfl⟩ := get2 hn
    refine ⟨_, rfl, ga, _, rfl, SqL.of hg, rfl, _, _, rfl, _, _, rfl, rfl, ?_⟩
    have ecall : Vbxlaa.callOf [[15, a, b]] = Vbxlaa.callIf (isClient a && isClient b) (.compareClients a.toNat b.toNat) := rfl
    rw [show (if false = true then [15 :: [a, b], l] else [15 :: [a, b]]) = [[15, a, b]] from rfl] at k
    refine ⟨_, rfl, _, _, _, rfl, fun ca => ?_, fun na => k.ref hD (sr_none (by rw [ecall, show isClient a = false from within_no na]; simp [Vbxlaa.callIf]))⟩
    refine ⟨_, rfl, _, _, _, rfl, fun cb => ?_, fun nb => k.ref hD (sr_none (by rw [ecall, show isClient b = false from within_no nb]; simp [Vbxlaa.callIf]))⟩
    have e1 : stepRows x [[15, a, b]] = Vbxlaa.step x (.compareClients a.toNat b.toNat) := sr_some (by rw [ecall, show isClient a = true from within_iff.mpr ca, show isClient b = true from within_iff.mpr cb]; rfl)
    rw [e1, step_client (n := a.toNat) rfl] at k
    obtain ⟨an, rfl⟩ : ∃ an : Nat, a = (an : Int) := ⟨a.toNat, by omega⟩
    obtain ⟨bn, rfl⟩ : ∃ bn : Nat, b = (bn : Int) := ⟨b.toNat, by omega⟩
    simp only [Int.toNat_natCast] at k
    refine ⟨_, rfl, _, rfl, da, dd, sv, mv, an, rfl, h1, by omega, ?_⟩
    obtain ⟨st, mk⟩ := x
    cases st with
    | none => exact .inl ⟨h2, k.ref hD rfl⟩
    | some S =>
      obtain ⟨sa, nm, R, rfl, hS, wf⟩ := h2
      obtain ⟨dx, cl, td, cvs, kvs, last, r, nk⟩ := hS.raw
      refine .inr ⟨sa, dx, cl, td, nm, ro, false, _, _, _, _, cvs, kvs, rfl, r, fun cad hle hcv => ?_, fun hlt => k.ref hD (by dsimp only; rw [client_none (.inr hlt)])⟩
      obtain ⟨cc, hc1, hc2⟩ := client_some (S := S) (by omega) hle
      have cm := List.mem_of_getElem? hc2
      dsimp only at k
      rw [hc1] at k
      dsimp only at k
      obtain ⟨ca1, dy1, sl1, ib1, svs1, ims1, p1, p2, p3, p4, p5, p6, p7, p8, p9, p10⟩ := r.slots hc2
      rw [p1] at hcv
      obtain rfl : ca1 = cad := by cases hcv; rfl
      have eon : Vbxlaa.onClient S an cc (.compareClients an bn) = match clientAt S bn with
          | none => (S, [-8])
          | some d => (S, Vbxlaa.testFound (Vbxlaa.clientDifference S cc d)) := by
        show (match clientAt S bn with
          | none => (S, [-8])
          | some d => (S, Vbxlaa.testFound (Vbxlaa.clientDifference S cc d))) = _
        cases clientAt S bn <;> rfl
      rw [eon] at k
      refine ⟨_, rfl, _, rfl, da, dd, _, mv, bn, rfl, h1, by omega, .inr ⟨sa, dx, cl, td, nm, ro, false, _, _, _, _, cvs, kvs, rfl, r, fun cad2 hle2 hcv2 => ?_, fun hlt => k.ref hD (by rw [client_none (.inr hlt)])⟩⟩
      obtain ⟨c2, hd1, hd2⟩ := client_some (S := S) (by omega) hle2
      rw [hd1] at k
      dsimp only at k
      refine ⟨_, rfl, da, _, dd, _, _, rfl, h1, T.k_desk, T.d_store, rfl, _, rfl, _, rfl, sa, nm, ro, false, S, R, an, bn, rfl, hS, wf, by omega, hle, by omega, hle2, ?_⟩
      rw [cAt_eq hc2, cAt_eq hd2]
      cases ed : Vbxlaa.clientDifference S cc c2 with
      | none =>
        rw [ed] at k
        intro H1 s1
        exact ⟨.non, rfl, .inl ⟨rfl, fun H2 p s2 np hp => k.ret hD (res := [1, 0]) rfl (s1.trans s2) (s1.free np) hp⟩⟩
      | some l2 =>
        rw [ed] at k
        intro hl H1 p1 s1 np1 hp1
        refine ⟨_, rfl, .inr ⟨p1, l2, rfl, hp1, hl, fun H2 p s2 np hp => k.ret hD (res := 0 :: Vbxlaa.sized (Vbxlaa.ints l2)) rfl (s1.trans s2) (s1.free np) ?_⟩⟩
        rw [hp]
        unfold Vbxlaa.sized Vbxlaa.ints nI
        rw [List.map_cons, List.map_cons, List.length_map, List.map_map]
        rfl
end
end Sh


set_option maxHeartbeats 2000000
namespace Sh
open PySem PySem.Spec PyProof.Rows L2
open Vbxlaa (fieldsOf clientAt stepRows setSlot setClient isClient isSlot isField within emptyStore slotOf emptyClient)
section
variable {P : Program} {w : World} {K : PySem.W.Frag} {mg : Str → Option Value} {base : Heap} {ad : Ad}
theorem ok_view (T : Tx K mg ad) (D : Df K mg "view" s_view ["desk", "given", "row"]) (G_need : Ok P w K mg base 4 "need" ["number", "low", "high"] (spNeed ad)) (G_client_of : Ok P w K mg base 5 "client_of" ["desk", "number"] (spClientOf K ad)) (G_counted : Ok P w K mg base 1 "counted" ["row"] spCounted) (G_client_view : Ok P w K mg base 4 "client_view" ["store", "number"] (spClientView K ad)) : Ok P w K mg base 6 "view" ["desk", "given", "row"] (spOp K ad 12 1 false) := by
  refine D.ok c_view (fun vs H Q E h => ?_) (fun f cdv A outer s H vs Q E hr h => ?_)
  · obtain ⟨da, ga, la, ro, x, g, l, rfl, _⟩ := h
    rfl
  · refine ⟨_,
      (pss_cons (ps_expr (pe_c G_need hr (L2N.takes_of rfl rfl rfl rfl) (pa_cons (pe_ix ix_list (pv 1) pe_int (fun _ _ => rfl)) (pa_cons pe_int (pa_cons (pe_ci T.c_MOST_CLIENT) pa_nil)))))
        (pss_cons (ps_expr (pe_c G_client_of hr (L2N.takes_of rfl rfl rfl rfl) (pa_cons (pv 0) (pa_cons (pe_ix ix_list (pv 1) pe_int (fun _ _ => rfl)) pa_nil))))
        (pss_one (ps_ret (pe_c G_counted hr (L2N.takes_of rfl rfl rfl rfl) (pa_cons (pe_c G_client_view hr (L2N.takes_of rfl rfl rfl rfl) (pa_cons (pe_fld (pv 0) rfl) (pa_cons (pe_ix ix_list (pv 1) pe_int (fun _ _ => rfl)) pa_nil))) pa_nil))))))
      , ?_⟩
    obtain ⟨da, ga, la, ro, x, g, l, rfl, hD, hg, hl, hga, hla, hn, hlim, hl7, k⟩ := h
    obtain ⟨dd, sv, mv, h1, h2, h3⟩ := hD.ex
    obtain ⟨a, rfl⟩ := get1 hn
    have ecall : Vbxlaa.callOf [[12, a]] = Vbxlaa.callIf (isClient a) (.view a.toNat) := rfl
    rw [show (if false = true then [12 :: [a], l] else [12 :: [a]]) = [[12, a]] from rfl] at k
    refine ⟨_, rfl, ga, _, _, .int a, rfl, rfl, SqL.of hg, at_of (j := 0) rfl rfl, _, _, _, rfl, fun ca => ?_, fun na => k.ref hD (sr_none (by rw [ecall, show isClient a = false from within_no na]; simp [Vbxlaa.callIf]))⟩
    have e1 : stepRows x [[12, a]] = Vbxlaa.step x (.view a.toNat) := sr_some (by rw [ecall, show isClient a = true from within_iff.mpr ca]; rfl)
    rw [e1, step_client (n := a.toNat) rfl] at k
    obtain ⟨an, rfl⟩ : ∃ an : Nat, a = (an : Int) := ⟨a.toNat, by omega⟩
    simp only [Int.toNat_natCast] at k
    refine ⟨_, rfl, _, rfl, ga, _, _, .int (an : Nat), rfl, rfl, SqL.of hg, at_of (j := 0) rfl rfl, da, dd, sv, mv, an, rfl, h1, by omega, ?_⟩
    obtain ⟨st, mk⟩ := x
    cases st with
    | none => exact .inl ⟨h2, k.ref hD rfl⟩
    | some S =>
      obtain ⟨sa, nm, R, rfl, hS, wf⟩ := h2
      obtain ⟨dx, cl, td, cvs, kvs, last, r, nk⟩ := hS.raw
      refine .inr ⟨sa, dx, cl, td, nm, ro, false, _, _, _, _, cvs, kvs, rfl, r, fun cad hle hcv => ?_, fun hlt => k.ref hD (by dsimp only; rw [client_none (.inr hlt)])⟩
      obtain ⟨cc, hc1, hc2⟩ := client_some (S := S) (by omega) hle
      have cm := List.mem_of_getElem? hc2
      dsimp only at k
      rw [hc1] at k
      dsimp only at k
      obtain ⟨ca1, dy1, sl1, ib1, svs1, ims1, p1, p2, p3, p4, p5, p6, p7, p8, p9, p10⟩ := r.slots hc2
      rw [p1] at hcv
      obtain rfl : ca1 = cad := by cases hcv; rfl
      refine ⟨_, rfl, da, _, dd, _, _, rfl, h1, T.k_desk, T.d_store, rfl, _, rfl, ga, _, _, .int (an : Nat), rfl, rfl, SqL.of hg, at_of (j := 0) rfl rfl, sa, nm, ro, false, S, R, an, cc, rfl, hS, wf, by omega, hc2, fun H1 p s1 np hp => ?_⟩
      have hlen : (Vbxlaa.viewOf S cc).length ≤ 800 := by
        obtain ⟨fu, _⟩ := walk_full wf (roots_live wf cm)
        have l1 := clientText_le (met := Vbxlaa.walk S (Vbxlaa.rootValues cc)) (wf.cok cm)
        have l2 := objectsText_le wf fu
        show (Vbxlaa.clientText (Vbxlaa.walk S (Vbxlaa.rootValues cc)) cc ++ Vbxlaa.objectsText S (Vbxlaa.walk S (Vbxlaa.rootValues cc))).length ≤ 800
        rw [List.length_append]
        omega
      refine ⟨p, _, rfl, hp, by rw [List.length_map]; omega, fun H2 q s2 nq hq => ?_⟩
      refine k.ret hD (res := Vbxlaa.sized (Vbxlaa.viewOf S cc)) rfl (s1.trans s2) (s1.free nq) ?_
      rw [hq, List.length_map]
      rfl
theorem ok_waiting (T : Tx K mg ad) (D : Df K mg "waiting" s_waiting ["desk", "given", "row"]) (G_need : Ok P w K mg base 4 "need" ["number", "low", "high"] (spNeed ad)) (G_client_of : Ok P w K mg base 5 "client_of" ["desk", "number"] (spClientOf K ad)) (G_counted : Ok P w K mg base 1 "counted" ["row"] spCounted) : Ok P w K mg base 6 "waiting" ["desk", "given", "row"] (spOp K ad 11 1 false) := by
  refine D.ok c_waiting (fun vs H Q E h => ?_) (fun f cdv A outer s H vs Q E hr h => ?_)
  · obtain ⟨da, ga, la, ro, x, g, l, rfl, _⟩ := h
    rfl
  · refine ⟨_,
      (pss_cons (ps_expr (pe_c G_need hr (L2N.takes_of rfl rfl rfl rfl) (pa_cons (pe_ix ix_list (pv 1) pe_int (fun _ _ => rfl)) (pa_cons pe_int (pa_cons (pe_ci T.c_MOST_CLIENT) pa_nil)))))
        (pss_one (ps_ret (pe_c G_counted hr (L2N.takes_of rfl rfl rfl rfl) (pa_cons (pe_lc (own := [("message", 3)]) (g := (gName 3)) (tt := tYes) rfl c_waiting.nd (pi_list (pe_fld (pe_c G_client_of hr (L2N.takes_of rfl rfl rfl rfl) (pa_cons (pv 0) (pa_cons (pe_ix ix_list (pv 1) pe_int (fun _ _ => rfl)) pa_nil))) rfl)) (blkOk_by (own := [("message", 3)]) (N := ["desk", "given", "row", "message"]) (sc := defScope s_waiting) (by decide +kernel)) (fun _ _ _ _ _ => by exact (pg_name (i := 3) c_waiting.nd rfl (Or.inl rfl))) (fun _ _ _ _ _ => by exact pts_nil) (fun _ _ _ _ _ => by exact (pe_callB (call_len_seqK (K := K)) (by rfl) T.b_len (by decide +kernel) (by exact (pa_cons (pv 3) pa_nil))))) pa_nil)))))
      , ?_⟩
    obtain ⟨da, ga, la, ro, x, g, l, rfl, hD, hg, hl, hga, hla, hn, hlim, hl7, k⟩ := h
    obtain ⟨dd, sv, mv, h1, h2, h3⟩ := hD.ex
    obtain ⟨a, rfl⟩ := get1 hn
    have ecall : Vbxlaa.callOf [[11, a]] = Vbxlaa.callIf (isClient a) (.waiting a.toNat) := rfl
    rw [show (if false = true then [11 :: [a], l] else [11 :: [a]]) = [[11, a]] from rfl] at k
    refine ⟨_, rfl, ga, _, _, .int a, rfl, rfl, SqL.of hg, at_of (j := 0) rfl rfl, _, _, _, rfl, fun ca => ?_, fun na => k.ref hD (sr_none (by rw [ecall, show isClient a = false from within_no na]; simp [Vbxlaa.callIf]))⟩
    have e1 : stepRows x [[11, a]] = Vbxlaa.step x (.waiting a.toNat) := sr_some (by rw [ecall, show isClient a = true from within_iff.mpr ca]; rfl)
    rw [e1, step_client (n := a.toNat) rfl] at k
    obtain ⟨an, rfl⟩ : ∃ an : Nat, a = (an : Int) := ⟨a.toNat, by omega⟩
    simp only [Int.toNat_natCast] at k
    refine ⟨_, rfl, _, rfl, ga, _, _, .int (an : Nat), rfl, rfl, SqL.of hg, at_of (j := 0) rfl rfl, da, dd, sv, mv, an, rfl, h1, by omega, ?_⟩
    obtain ⟨st, mk⟩ := x
    cases st with
    | none => exact .inl ⟨h2, k.ref hD rfl⟩
    | some S =>
      obtain ⟨sa, nm, R, rfl, hS, wf⟩ := h2
      obtain ⟨dx, cl, td, cvs, kvs, last, r, nk⟩ := hS.raw
      refine .inr ⟨sa, dx, cl, td, nm, ro, false, _, _, _, _, cvs, kvs, rfl, r, fun cad hle hcv => ?_, fun hlt => k.ref hD (by dsimp only; rw [client_none (.inr hlt)])⟩
      obtain ⟨cc, hc1, hc2⟩ := client_some (S := S) (by omega) hle
      have cm := List.mem_of_getElem? hc2
      dsimp only at k
      rw [hc1] at k
      dsimp only at k
      obtain ⟨ca1, dy1, sl1, ib1, svs1, ims1, p1, p2, p3, p4, p5, p6, p7, p8, p9, p10⟩ := r.slots hc2
      rw [p1] at hcv
      obtain rfl : ca1 = cad := by cases hcv; rfl
      have hims : ims1.length = cc.inbox.length := Paired.length p8
      have hib := wf.ib cc cm
      refine ⟨ca1, _, dy1, _, _, rfl, p2, T.k_client, T.n_inbox, rfl, ib1, rfl, ⟨_, SqL.of p6⟩, fun L nL => lc_list (K := K) (a := ib1) (xs := ims1) (fun j H2 => Bld H L (((cc.inbox.take j).map fun m => (m.length : Int)).map V.int) H2) (Bld.start nL) (fun j H2 _ hB => SqL.of (hB.sm _ _ p6)) ?_ ?_⟩
      · rintro j y H2 hj hB
        obtain ⟨m, hm, ma, mvs, rfl, m1, m2, m3⟩ := pair_get' p8 hj
        refine ⟨rfl, yes ?_⟩
        refine ⟨_, rfl, ma, mvs, rfl, .inl (SqL.of (hB.sm _ _ m1)), _, hB.at_, small1000 (by rw [List.length_map, List.length_map, List.length_take]; omega), ?_⟩
        obtain ⟨hq, eq⟩ := List.getElem?_eq_some_iff.mp hm
        rw [List.take_succ_eq_append_getElem hq, eq, List.map_append, List.map_append, Paired.length m3]
        exact hB.put nL
      · rintro H2 hB
        rw [hims, List.take_length] at hB
        refine ⟨L, _, rfl, hB.at_, by rw [List.length_map, List.length_map]; omega, fun H3 q s3 nq hq => ?_⟩
        refine k.ret hD (res := Vbxlaa.sized (cc.inbox.map fun m => (m.length : Int))) rfl (hB.sm.trans s3) (hB.sm.free nq) ?_
        rw [hq, List.length_map, List.length_map]
        unfold Vbxlaa.sized
        rw [List.map_cons, List.length_map]
theorem ok_counts (T : Tx K mg ad) (D : Df K mg "counts" s_counts ["desk", "given", "row"]) (G_opened : Ok P w K mg base 4 "opened" ["desk"] (spOpened ad)) (G_store_walk : Ok P w K mg base 4 "store_walk" ["store"] (spStoreWalk K ad)) : Ok P w K mg base 6 "counts" ["desk", "given", "row"] (spOp K ad 25 0 false) := by
  refine D.ok c_counts (fun vs H Q E h => ?_) (fun f cdv A outer s H vs Q E hr h => ?_)
  · obtain ⟨da, ga, la, ro, x, g, l, rfl, _⟩ := h
    rfl
  · refine ⟨_,
      (pss_cons (ps_set (i := 3) c_counts.nd rfl (Or.inl rfl) (pe_c G_opened hr (L2N.takes_of rfl rfl rfl rfl) (pa_cons (pv 0) pa_nil)))
        (pss_one (ps_ret (pe_lst (pa_cons (pe_fld (pv 3) rfl) (pa_cons (pe_callB call_len_seq (by rfl) T.b_len (by decide +kernel) (pa_cons (pe_c G_store_walk hr (L2N.takes_of rfl rfl rfl rfl) (pa_cons (pv 3) pa_nil)) pa_nil)) (pa_cons (pe_callB (cr_sum rfl) (by rfl) T.b_sum (by decide +kernel) (pa_cons (pe_lc (own := [("client", 4)]) (g := (gName 4)) (tt := tYes) rfl c_counts.nd (pi_list (pe_fld (pv 3) rfl)) (blkOk_by (own := [("client", 4)]) (N := ["desk", "given", "row", "store", "client"]) (sc := defScope s_counts) (by decide +kernel)) (fun _ _ _ _ _ => by exact (pg_name (i := 4) c_counts.nd rfl (Or.inl rfl))) (fun _ _ _ _ _ => by exact pts_nil) (fun _ _ _ _ _ => by exact (pe_callB (call_len_seqK (K := K)) (by rfl) T.b_len (by decide +kernel) (by exact (pa_cons (pe_fldK (K := K) (pv 4) rfl) pa_nil))))) pa_nil)) pa_nil)))))))
      , ?_⟩
    obtain ⟨da, ga, la, ro, x, g, l, rfl, hD, hg, hl, hga, hla, hn, hlim, hl7, k⟩ := h
    obtain ⟨dd, sv, mv, h1, h2, h3⟩ := hD.ex
    obtain rfl := get0 hn
    rw [show (if false = true then [25 :: [], l] else [25 :: []]) = [[25]] from rfl, sr_some (k := .counts) rfl] at k
    refine ⟨_, rfl, da, dd, sv, mv, rfl, h1, ?_⟩
    obtain ⟨st, mk⟩ := x
    cases st with
    | none => exact .inl ⟨h2, k.ref hD rfl⟩
    | some S =>
      obtain ⟨sa, nm, R, rfl, hS, wf⟩ := h2
      refine .inr ⟨sa, rfl, ?_⟩
      obtain ⟨dx, cl, td, cvs, kvs, last, r, nk⟩ := hS.raw
      have hc4 := wf.c4
      refine ⟨_, rfl, sa, _, dx, _, _, rfl, r.ha, T.k_store, T.n_created, rfl, _, rfl, sa, nm, ro, false, S, R, rfl, hS, wf, fun H1 p s1 np hp => ?_⟩
      refine ⟨p, _, rfl, .inl (SqL.of hp), _, rfl, sa, _, dx, _, _, rfl, s1 _ _ r.ha, T.k_store, T.n_clients, rfl, cl, rfl, ⟨_, SqL.of (s1 _ _ r.hc)⟩, fun L nL => lc_list (K := K) (a := cl) (xs := cvs) (fun j H2 => Bld H1 L (((S.clients.take j).map fun d => (d.inbox.length : Int)).map V.int) H2) (Bld.start nL) (fun j H2 _ hB => SqL.of (hB.sm _ _ (s1 _ _ r.hc))) ?_ ?_⟩
      · rintro j y H2 hj hB
        have hj2 : j < S.clients.length := by rw [← r.ln]; exact (List.getElem?_eq_some_iff.mp hj).1
        obtain ⟨c, hc⟩ : ∃ c, S.clients[j]? = some c := ⟨_, List.getElem?_eq_getElem hj2⟩
        obtain ⟨ca, q1, dy, sl, ib, svs, ims, z1, z2, z3, z4, z5, z6, z7, z8⟩ := r.ct j c hc
        rw [hj] at q1
        cases q1
        have s2 := s1.trans hB.sm
        refine ⟨rfl, yes ?_⟩
        refine ⟨_, rfl, ca, _, dy, _, _, rfl, s2 _ _ z1, T.k_client, T.n_inbox, rfl, ib, ims, rfl, .inl (SqL.of (s2 _ _ z6)), _, hB.at_, small1000 (by rw [List.length_map, List.length_map, List.length_take]; omega), ?_⟩
        obtain ⟨hq, eq⟩ := List.getElem?_eq_some_iff.mp hc
        rw [List.take_succ_eq_append_getElem hq, eq, List.map_append, List.map_append, Paired.length z8]
        exact hB.put nL
      · rintro H2 hB
        rw [r.ln, List.take_length] at hB
        refine ⟨L, _, rfl, SqL.of hB.at_, leLine (by show 3 ≤ 1000; decide), fun q nq => ?_⟩
        refine k.ret hD (res := Vbxlaa.ints [S.made, (Vbxlaa.reachable S).length, (S.clients.map fun d => d.inbox.length).foldr (fun a b => a + b) 0]) rfl ((s1.trans hB.sm).trans (Same.new nq)) ((s1.trans hB.sm).free nq) ?_
        have esum : ∀ l : List VC, (l.map fun d => (d.inbox.length : Int)).sum = (((l.map fun d => d.inbox.length).foldr (fun a b => a + b) 0 : Nat) : Int) := fun l => by
          induction l with
          | nil => rfl
          | cons a l ih => rw [List.map_cons, List.sum_cons, ih]; simp
        rw [upd_same, esum, List.length_map]
        rfl
theorem ok_compare_mark (T : Tx K mg ad) (D : Df K mg "compare_mark" s_compare_mark ["desk", "given", "row"]) (G_opened : Ok P w K mg base 4 "opened" ["desk"] (spOpened ad)) (G_refuse_unless : Ok P w K mg base 3 "refuse_unless" ["is_right", "code"] (spRefuse ad)) (G_told : Ok P w K mg base 2 "told" ["found"] spTold) (G_stores_difference : Ok P w K mg base 4 "stores_difference" ["store", "other"] (spStoresDifference K ad)) : Ok P w K mg base 6 "compare_mark" ["desk", "given", "row"] (spOp K ad 17 0 false) := by
  refine D.ok c_compare_mark (fun vs H Q E h => ?_) (fun f cdv A outer s H vs Q E hr h => ?_)
  · obtain ⟨da, ga, la, ro, x, g, l, rfl, _⟩ := h
    rfl
  · refine ⟨_,
      (pss_cons (ps_set (i := 3) c_compare_mark.nd rfl (Or.inl rfl) (pe_c G_opened hr (L2N.takes_of rfl rfl rfl rfl) (pa_cons (pv 0) pa_nil)))
        (pss_cons (ps_expr (pe_c G_refuse_unless hr (L2N.takes_of rfl rfl rfl rfl) (pa_cons (pe_cmpR op_notN (pe_fld (pv 0) rfl) pe_non (nomark _)) (pa_cons (pe_un un_neg pe_int) pa_nil))))
        (pss_one (ps_ret (pe_c G_told hr (L2N.takes_of rfl rfl rfl rfl) (pa_cons (pe_c G_stores_difference hr (L2N.takes_of rfl rfl rfl rfl) (pa_cons (pv 3) (pa_cons (pe_fld (pv 0) rfl) pa_nil))) pa_nil))))))
      , ?_⟩
    obtain ⟨da, ga, la, ro, x, g, l, rfl, hD, hg, hl, hga, hla, hn, hlim, hl7, k⟩ := h
    obtain ⟨dd, sv, mv, h1, h2, h3⟩ := hD.ex
    obtain rfl := get0 hn
    rw [show (if false = true then [17 :: [], l] else [17 :: []]) = [[17]] from rfl, sr_some (k := .compareMark) rfl] at k
    refine ⟨_, rfl, da, dd, sv, mv, rfl, h1, ?_⟩
    obtain ⟨st, mk⟩ := x
    cases st with
    | none => exact .inl ⟨h2, k.ref hD rfl⟩
    | some S =>
      obtain ⟨sa, nm, R, rfl, hS, wf⟩ := h2
      refine .inr ⟨sa, rfl, ?_⟩
      refine ⟨_, rfl, da, _, dd, _, _, rfl, h1, T.k_desk, T.n_marked, rfl, rfl, _, rfl, ?_⟩
      cases mk with
      | none =>
        cases h3
        exact ⟨_, _, rfl, (fun e => by cases e), fun _ => k.ref hD rfl⟩
      | some M =>
        obtain ⟨sb, nm2, R2, rfl, hM, wf2⟩ := h3
        refine ⟨_, _, rfl, fun _ => ?_, (fun e => by cases e)⟩
        refine ⟨_, rfl, _, rfl, da, _, dd, _, _, rfl, h1, T.k_desk, T.n_marked, rfl, sa, sb, nm, nm2, ro, ro, false, true, S, M, R, R2, rfl, hS, wf, hM, wf2, ?_⟩
        cases ed : Vbxlaa.storeDifference S M with
        | none =>
          have k2 : Fin K ad H ro da Q E (⟨some S, some M⟩, [1, 0]) := by
            have e : Vbxlaa.step ⟨some S, some M⟩ .compareMark = (⟨some S, some M⟩, Vbxlaa.testFound (Vbxlaa.storeDifference S M)) := rfl
            rw [e, ed] at k
            exact k
          intro H1 s1
          exact ⟨.non, rfl, .inl ⟨rfl, fun H2 p s2 np hp => k2.ret hD (res := [1, 0]) rfl (s1.trans s2) (s1.free np) hp⟩⟩
        | some l2 =>
          have k2 : Fin K ad H ro da Q E (⟨some S, some M⟩, 0 :: Vbxlaa.sized (Vbxlaa.ints l2)) := by
            have e : Vbxlaa.step ⟨some S, some M⟩ .compareMark = (⟨some S, some M⟩, Vbxlaa.testFound (Vbxlaa.storeDifference S M)) := rfl
            rw [e, ed] at k
            exact k
          intro hl H1 p1 s1 np1 hp1
          refine ⟨_, rfl, .inr ⟨p1, l2, rfl, hp1, hl, fun H2 p s2 np hp => k2.ret hD (res := 0 :: Vbxlaa.sized (Vbxlaa.ints l2)) rfl (s1.trans s2) (s1.free np) ?_⟩⟩
          rw [hp]
          unfold Vbxlaa.sized Vbxlaa.ints nI
          rw [List.map_cons, List.map_cons, List.length_map, List.map_map]
          rfl
end
end Sh


set_option maxHeartbeats 2000000
namespace Sh
open PySem PySem.Spec PyProof.Rows L2
open Vbxlaa (fieldsOf clientAt stepRows setSlot setClient isClient isSlot isField within emptyStore slotOf emptyClient)
section
variable {P : Program} {w : World} {K : PySem.W.Frag} {mg : Str → Option Value} {base : Heap} {ad : Ad}
/-- the desk's fields are written -/
theorem desk_wr {ro ro2 : Rm} {H H1 : Hp} {da dd : Addr} {sv mv : V} {s1 s2 : Option VSt} {u : HO} (hd : H da = some u) (hr : ro da = some .desk) (hu : ∀ xs, u ≠ .tup xs) (s : Same H H1) (hs : HasStore K ad (mrg H ro ro2) H1 false sv s1) (hm : HasStore K ad (mrg H ro ro2) H1 true mv s2) :
    DeskAt K ad (mrg H ro ro2) (upd H1 da (.ins ad.desk dd [("store", sv), ("marked", mv)])) da ⟨s1, s2⟩ ∧ Fr H ro (upd H1 da (.ins ad.desk dd [("store", sv), ("marked", mv)])) (mrg H ro ro2) := by
  have hd1 := s _ _ hd
  have rda : mrg H ro ro2 da = some .desk := (mrg_old hd).trans hr
  have kp : ∀ b, Kept (mrg H ro ro2) (mrg H ro ro2) H1 (upd H1 da (.ins ad.desk dd [("store", sv), ("marked", mv)])) b := fun b => ⟨Tups.write hd1 hu, fun a o r e q z => ⟨(upd_ne fun c => by
    rw [c, rda] at q
    cases q
    cases z).trans e, q⟩⟩
  refine ⟨⟨⟨dd, sv, mv, upd_same, hs.keep (kp false), hm.keep (kp true)⟩, rda⟩, fun a o e q => ⟨(upd_ne fun c => by
    rw [c, hr] at q
    cases q).trans (s _ _ e), (mrg_old e).trans q⟩⟩
theorem Wf.empty {n : Nat} (h1 : 1 ≤ n) (h4 : n ≤ 4) : Wf (emptyStore n) fun _ => False := by
  have hm : ∀ c ∈ (emptyStore n).clients, c = emptyClient := fun c hc => List.eq_of_mem_replicate hc
  have nom : ∀ c ∈ (emptyStore n).clients, ∀ m ∈ c.inbox, False := fun c hc m hmm => by
    have e := hm c hc
    subst e
    cases hmm
  refine { c1 := ?_, c4 := ?_, sl := fun c hc => (by rw [hm c hc]; rfl), ib := fun c hc => (by rw [hm c hc]; decide), ms := fun c hc m hmm => (nom c hc m hmm).elim, fl := (fun o ho => by cases ho), nd := List.nodup_nil, lt := (fun o ho => by cases ho), ol := Nat.le_refl _, mx := Nat.zero_le _, ls := fun c hc v hv i e => ?_, lm := fun c hc m hmm => (nom c hc m hmm).elim, st := fun i h => h.elim, lf := (fun o ho => by cases ho) }
  · show 1 ≤ (List.replicate n emptyClient).length
    rw [List.length_replicate]
    exact h1
  · show (List.replicate n emptyClient).length ≤ 4
    rw [List.length_replicate]
    exact h4
  · have e0 := hm c hc
    subst e0
    have := List.eq_of_mem_replicate hv
    rw [this] at e
    cases e
theorem ok_mark (T : Tx K mg ad) (D : Df K mg "mark" s_mark ["desk", "given", "row"]) (G_opened : Ok P w K mg base 4 "opened" ["desk"] (spOpened ad)) (G_Store_duplicate : OkM P w K mg base 5 ad.store "duplicate" ["self"] (spDuplicate K ad)) : Ok P w K mg base 6 "mark" ["desk", "given", "row"] (spOp K ad 16 0 false) := by
  refine D.ok c_mark (fun vs H Q E h => ?_) (fun f cdv A outer s H vs Q E hr h => ?_)
  · obtain ⟨da, ga, la, ro, x, g, l, rfl, _⟩ := h
    rfl
  · refine ⟨_,
      (pss_cons (ps_fld (pv 0) (pe_m0 (pe_c G_opened hr (L2N.takes_of rfl rfl rfl rfl) (pa_cons (pv 0) pa_nil)) T.k_store G_Store_duplicate hr (L2N.takes_of rfl rfl rfl rfl)) rfl)
        (pss_one (ps_ret (pe_lst (pa_cons pe_int pa_nil)))))
      , ?_⟩
    obtain ⟨da, ga, la, ro, x, g, l, rfl, hD, hg, hl, hga, hla, hn, hlim, hl7, k⟩ := h
    obtain ⟨dd, sv, mv, h1, h2, h3⟩ := hD.ex
    obtain rfl := get0 hn
    rw [show (if false = true then [16 :: [], l] else [16 :: []]) = [[16]] from rfl, sr_some (k := .mark) rfl] at k
    refine ⟨_, rfl, da, dd, sv, mv, rfl, h1, ?_⟩
    obtain ⟨st, mk⟩ := x
    cases st with
    | none => exact .inl ⟨h2, k.ref hD rfl⟩
    | some S =>
      obtain ⟨sa, nm, R, rfl, hS, wf⟩ := h2
      refine .inr ⟨sa, rfl, ?_⟩
      obtain ⟨dx, cl, td, cvs, kvs, last, r, nk⟩ := hS.raw
      refine ⟨sa, dx, _, rfl, r.ha, rfl, sa, nm, ro, false, true, S, R, rfl, hS, wf, fun H1 ro2 p s1 fs hst => ?_⟩
      refine ⟨_, rfl, da, _, dd, _, rfl, s1 _ _ h1, T.k_desk, T.n_marked, by show 2 < 1000; decide, ?_⟩
      obtain ⟨hD2, fr⟩ := desk_wr (ro2 := ro2) (dd := dd) (sv := .ref sa) (mv := .ref p) (s1 := some S) (s2 := some S) h1 hD.rd (fun _ z => by cases z) s1 ⟨sa, nm, R, rfl, hS.keep (Kept.of s1 RoN.mrg), wf⟩ ⟨p, nm, R, rfl, hst.keep (Kept.mrg fs), wf⟩
      refine ⟨leLine (by show 1 ≤ 1000; decide), fun q nq => ?_⟩
      have s3 : Same (upd H1 da (.ins ad.desk dd [("store", .ref sa), ("marked", .ref p)])) (upd (upd H1 da (.ins ad.desk dd [("store", .ref sa), ("marked", .ref p)])) q (.lst [.int 0])) := Same.new nq
      have nq0 : H q = none := by
        cases e : H q with
        | none => rfl
        | some u =>
          obtain ⟨u2, hu2⟩ := upd_all (a := da) (u := .ins ad.desk dd [("store", .ref sa), ("marked", .ref p)]) s1 q u e
          have nq' : (upd H1 da (.ins ad.desk dd [("store", .ref sa), ("marked", .ref p)])) q = none := nq
          rw [hu2] at nq'
          cases nq'
      exact k.chg (x' := ⟨some S, some S⟩) (res := [0]) rfl (fr.trans (Fr.same s3)) (hD2.same s3) nq0 upd_same
theorem ok_open_store (T : Tx K mg ad) (D : Df K mg "open_store" s_open_store ["desk", "given", "row"]) (G_need : Ok P w K mg base 4 "need" ["number", "low", "high"] (spNeed ad)) (G_Store : OkI P w K mg base 3 "Store" ad.store ["self", "many"] (spStoreInit K ad)) : Ok P w K mg base 6 "open_store" ["desk", "given", "row"] (spOp K ad 0 1 false) := by
  refine D.ok c_open_store (fun vs H Q E h => ?_) (fun f cdv A outer s H vs Q E hr h => ?_)
  · obtain ⟨da, ga, la, ro, x, g, l, rfl, _⟩ := h
    rfl
  · refine ⟨_,
      (pss_cons (ps_expr (pe_c G_need hr (L2N.takes_of rfl rfl rfl rfl) (pa_cons (pe_ix ix_list (pv 1) pe_int (fun _ _ => rfl)) (pa_cons pe_int (pa_cons (pe_ci T.c_MOST_CLIENT) pa_nil)))))
        (pss_cons (ps_fld (pv 0) (pe_i G_Store hr (pa_cons (pe_ix ix_list (pv 1) pe_int (fun _ _ => rfl)) pa_nil)) rfl)
        (pss_cons (ps_fld (pv 0) pe_non rfl)
        (pss_one (ps_ret (pe_lst (pa_cons pe_int pa_nil)))))))
      , ?_⟩
    obtain ⟨da, ga, la, ro, x, g, l, rfl, hD, hg, hl, hga, hla, hn, hlim, hl7, k⟩ := h
    obtain ⟨dd, sv, mv, h1, h2, h3⟩ := hD.ex
    obtain ⟨a, rfl⟩ := get1 hn
    have ecall : Vbxlaa.callOf [[0, a]] = Vbxlaa.callIf (isClient a) (.openStore a.toNat) := rfl
    rw [show (if false = true then [0 :: [a], l] else [0 :: [a]]) = [[0, a]] from rfl] at k
    refine ⟨_, rfl, ga, _, _, .int a, rfl, rfl, SqL.of hg, at_of (j := 0) rfl rfl, _, _, _, rfl, fun ca => ?_, fun na => k.ref hD (sr_none (by rw [ecall, show isClient a = false from within_no na]; simp [Vbxlaa.callIf]))⟩
    have e1 : stepRows x [[0, a]] = Vbxlaa.step x (.openStore a.toNat) := sr_some (by rw [ecall, show isClient a = true from within_iff.mpr ca]; rfl)
    rw [e1] at k
    obtain ⟨an, rfl⟩ : ∃ an : Nat, a = (an : Int) := ⟨a.toNat, by omega⟩
    simp only [Int.toNat_natCast] at k
    refine ⟨_, rfl, ga, _, _, .int (an : Nat), rfl, rfl, SqL.of hg, at_of (j := 0) rfl rfl, ?_⟩
    intro sa sx nsa nsx nsxa
    have sz : Same H (upd (upd H sx (.own sa)) sa (.ins ad.store sx [])) := (Same.new nsx).trans (Same.new ((upd_ne (Ne.symm nsxa)).trans nsa))
    refine ⟨sa, sx, an, nm0, false, rfl, by omega, upd_same, fun H1 ro2 cl td cvs kp fs raw => ⟨rfl, ?_⟩⟩
    have s1 : Same H H1 := fun a o e => kp a o (ne_of_none e nsa) (sz a o e)
    have f2 : Fs H ro2 := fun a r q => by
      have z := fs a r q
      by_cases c : a = sa
      · rw [c]; exact nsa
      · exact sz.free ((if_neg c).symm.trans z)
    refine ⟨_, rfl, da, _, dd, _, rfl, s1 _ _ h1, T.k_desk, T.d_store, by show 2 < 1000; decide, ?_⟩
    refine ⟨_, rfl, da, _, dd, _, rfl, upd_same, T.k_desk, T.n_marked, by show 2 < 1000; decide, ?_⟩
    have hnk : NmOk nm0 0 0 := ⟨fun i j e => by unfold nm0 at e; omega, fun i _ => by unfold nm0; omega⟩
    have hst : StoreAt K ad nm0 ro2 H1 false sa (emptyStore an) := Raw.store (S := emptyStore an) raw hnk
    obtain ⟨hD2, fr⟩ := desk_wr (ro2 := ro2) (dd := dd) (sv := .ref sa) (mv := .non) (s1 := some (emptyStore an)) (s2 := none) h1 hD.rd (fun _ z => by cases z) s1 ⟨sa, nm0, _, rfl, hst.keep (Kept.mrg f2), Wf.empty (by omega) (by omega)⟩ rfl
    have ew : upd (upd H1 da (.ins ad.desk dd (putF "store" (.ref sa) [("store", sv), ("marked", mv)]))) da (.ins ad.desk dd (putF "marked" .non (putF "store" (.ref sa) [("store", sv), ("marked", mv)]))) = upd H1 da (.ins ad.desk dd [("store", .ref sa), ("marked", .non)]) := by
      funext b
      by_cases c : b = da
      · rw [c, upd_same, upd_same]; rfl
      · rw [upd_ne c, upd_ne c, upd_ne c]
    rw [ew]
    refine ⟨leLine (by show 1 ≤ 1000; decide), fun q nq => ?_⟩
    have s3 : Same (upd H1 da (.ins ad.desk dd [("store", .ref sa), ("marked", .non)])) (upd (upd H1 da (.ins ad.desk dd [("store", .ref sa), ("marked", .non)])) q (.lst [.int 0])) := Same.new nq
    have nq0 : H q = none := by
      cases e : H q with
      | none => rfl
      | some u =>
        obtain ⟨u2, hu2⟩ := upd_all (a := da) (u := .ins ad.desk dd [("store", .ref sa), ("marked", .non)]) s1 q u e
        rw [hu2] at nq
        cases nq
    exact k.chg (x' := ⟨some (emptyStore an), none⟩) (res := [0]) rfl (fr.trans (Fr.same s3)) (hD2.same s3) nq0 upd_same
end
end Sh


set_option maxHeartbeats 2000000
namespace Sh
open PySem PySem.Spec PyProof.Rows L2
open Vbxlaa (fieldsOf clientAt stepRows setSlot setClient isClient isSlot isField within emptyStore slotOf emptyClient writeField)
theorem Wf.made {S : VSt} {R : Nat → Prop} (w : Wf S R) {n : Nat} (hm : S.made < 48) (hn : n ≤ 4) : Wf (made1 S n) fun i => R i ∨ i = S.made := by
  have hmem : ∀ o ∈ (made1 S n).objects, o ∈ S.objects ∨ o = ⟨S.made, List.replicate n .nothing⟩ := fun o ho => by
    rcases List.mem_append.mp ho with h | h
    · exact .inl h
    · exact .inr (List.mem_singleton.mp h)
  refine { c1 := w.c1, c4 := w.c4, sl := w.sl, ib := w.ib, ms := w.ms, fl := fun o ho => ?_, nd := ?_, lt := fun o ho => ?_, ol := ?_, mx := hm, ls := fun c hc v hv i e => .inl (w.ls c hc v hv i e), lm := fun c hc m hmm v hv i e => .inl (w.lm c hc m hmm v hv i e), st := fun i hi => ?_, lf := fun o ho hr v hv i e => ?_ }
  · rcases hmem o ho with h | rfl
    · exact w.fl o h
    · show (List.replicate n Vbxlaa.Value.nothing).length ≤ 4
      rw [List.length_replicate]
      exact hn
  · show ((S.objects ++ [(⟨S.made, List.replicate n .nothing⟩ : VO)]).map fun o => o.id).Nodup
    rw [List.map_append, List.nodup_append]
    refine ⟨w.nd, by simp, fun a ha b hb e => ?_⟩
    rw [List.map_cons, List.map_nil, List.mem_singleton] at hb
    obtain ⟨o, ho, rfl⟩ := List.mem_map.mp ha
    have := w.lt o ho
    rw [hb] at e
    exact Nat.lt_irrefl _ (e ▸ this)
  · rcases hmem o ho with h | rfl
    · exact Nat.lt_succ_of_lt (w.lt o h)
    · exact Nat.lt_succ_self _
  · show (S.objects ++ [_]).length ≤ S.made + 1
    rw [List.length_append]
    have := w.ol
    simp
    exact this
  · rcases hi with hi | rfl
    · obtain ⟨o, ho, e⟩ := w.st i hi
      exact ⟨o, List.mem_append_left _ ho, e⟩
    · exact ⟨_, List.mem_append_right _ List.mem_cons_self, rfl⟩
  · rcases hmem o ho with h | rfl
    · rcases hr with hr | hr
      · exact .inl (w.lf o h hr v hv i e)
      · exact absurd hr (Nat.ne_of_lt (w.lt o h))
    · have := List.eq_of_mem_replicate hv
      rw [this] at e
      cases e
section
variable {P : Program} {w : World} {K : PySem.W.Frag} {mg : Str → Option Value} {base : Heap} {ad : Ad}
theorem ok_make (T : Tx K mg ad) (D : Df K mg "make" s_make ["desk", "given", "row"]) (G_need : Ok P w K mg base 4 "need" ["number", "low", "high"] (spNeed ad)) (G_need_slot : Ok P w K mg base 5 "need_slot" ["number"] (spNeedSlot ad)) (G_client_of : Ok P w K mg base 5 "client_of" ["desk", "number"] (spClientOf K ad)) (G_refuse_unless : Ok P w K mg base 3 "refuse_unless" ["is_right", "code"] (spRefuse ad)) (G_Store_make : OkM P w K mg base 1 ad.store "make" ["self", "many"] (spMake K ad)) : Ok P w K mg base 6 "make" ["desk", "given", "row"] (spOp K ad 1 3 false) := by
  refine D.ok c_make (fun vs H Q E h => ?_) (fun f cdv A outer s H vs Q E hr h => ?_)
  · obtain ⟨da, ga, la, ro, x, g, l, rfl, _⟩ := h
    rfl
  · refine ⟨_,
      (pss_cons (ps_asg (pv 1) (pg_lst rfl (pgs_cons (pg_name (i := 3) c_make.nd rfl (Or.inl rfl)) (pgs_cons (pg_name (i := 4) c_make.nd rfl (Or.inl rfl)) (pgs_cons (pg_name (i := 5) c_make.nd rfl (Or.inl rfl)) pgs_nil)))))
        (pss_cons (ps_expr (pe_c G_need hr (L2N.takes_of rfl rfl rfl rfl) (pa_cons (pv 3) (pa_cons pe_int (pa_cons (pe_ci T.c_MOST_CLIENT) pa_nil)))))
        (pss_cons (ps_expr (pe_c G_need_slot hr (L2N.takes_of rfl rfl rfl rfl) (pa_cons (pv 4) pa_nil)))
        (pss_cons (ps_expr (pe_c G_need hr (L2N.takes_of rfl rfl rfl rfl) (pa_cons (pv 5) (pa_cons pe_int (pa_cons pe_int pa_nil)))))
        (pss_cons (ps_set (i := 6) c_make.nd rfl (Or.inl rfl) (pe_c G_client_of hr (L2N.takes_of rfl rfl rfl rfl) (pa_cons (pv 0) (pa_cons (pv 3) pa_nil))))
        (pss_cons (ps_expr (pe_c G_refuse_unless hr (L2N.takes_of rfl rfl rfl rfl) (pa_cons (pe_cmpR op_lt (pe_fld (pe_fld (pv 0) rfl) rfl) (pe_ci T.c_MOST_CREATED) (nomark _)) (pa_cons (pe_un un_neg pe_int) pa_nil))))
        (pss_cons (ps_asg (pe_tup (pa_cons (pe_ci T.c_REFERENCE) (pa_cons (pe_m (pe_fld (pv 0) rfl) T.k_store G_Store_make hr (L2N.takes_of rfl rfl rfl rfl) (pa_cons (pv 5) pa_nil)) pa_nil))) (pg_sub (pe_fld (pv 6) rfl) (pv 4) set_list))
        (pss_one (ps_ret (pe_lst (pa_cons pe_int pa_nil)))))))))))
      , ?_⟩
    obtain ⟨da, ga, la, ro, x, g, l, rfl, hD, hg, hl, hga, hla, hn, hlim, hl7, k⟩ := h
    obtain ⟨dd, sv, mv, h1, h2, h3⟩ := hD.ex
    obtain ⟨a, b, c, rfl⟩ := get3 hn
    refine ⟨_, rfl, ga, _, rfl, SqL.of hg, rfl, _, _, rfl, _, _, rfl, _, _, rfl, rfl, ?_⟩
    have ecall : Vbxlaa.callOf [[1, a, b, c]] = Vbxlaa.callIf (isClient a && (isSlot b && within c 0 4)) (.make a.toNat b.toNat c.toNat) := rfl
    rw [show (if false = true then [1 :: [a, b, c], l] else [1 :: [a, b, c]]) = [[1, a, b, c]] from rfl] at k
    refine ⟨_, rfl, _, _, _, rfl, fun ca => ?_, fun na => k.ref hD (sr_none (by rw [ecall, show isClient a = false from within_no na]; simp [Vbxlaa.callIf]))⟩
    refine ⟨_, rfl, _, rfl, fun cb => ?_, fun nb => k.ref hD (sr_none (by rw [ecall, show isSlot b = false from within_no nb]; simp [Vbxlaa.callIf]))⟩
    refine ⟨_, rfl, _, _, _, rfl, fun cc => ?_, fun nc => k.ref hD (sr_none (by rw [ecall, show within c 0 4 = false from within_no nc]; simp [Vbxlaa.callIf]))⟩
    have e1 : stepRows x [[1, a, b, c]] = Vbxlaa.step x (.make a.toNat b.toNat c.toNat) := sr_some (by rw [ecall, show isClient a = true from within_iff.mpr ca, show isSlot b = true from within_iff.mpr cb, show within c 0 4 = true from within_iff.mpr cc]; rfl)
    rw [e1, step_client (n := a.toNat) rfl] at k
    obtain ⟨an, rfl⟩ : ∃ an : Nat, a = (an : Int) := ⟨a.toNat, by omega⟩
    obtain ⟨bn, rfl⟩ : ∃ bn : Nat, b = (bn : Int) := ⟨b.toNat, by omega⟩
    obtain ⟨cn, rfl⟩ : ∃ cn : Nat, c = (cn : Int) := ⟨c.toNat, by omega⟩
    simp only [Int.toNat_natCast] at k
    refine ⟨_, rfl, _, rfl, da, dd, sv, mv, an, rfl, h1, by omega, ?_⟩
    obtain ⟨st, mk⟩ := x
    cases st with
    | none => exact .inl ⟨h2, k.ref hD rfl⟩
    | some S =>
      obtain ⟨sa, nm, R, rfl, hS, wf⟩ := h2
      obtain ⟨dx, cl, td, cvs, kvs, last, r, nk⟩ := hS.raw
      refine .inr ⟨sa, dx, cl, td, nm, ro, false, _, _, _, _, cvs, kvs, rfl, r, fun cad hle hcv => ?_, fun hlt => k.ref hD (by dsimp only; rw [client_none (.inr hlt)])⟩
      obtain ⟨cc, hc1, hc2⟩ := client_some (S := S) (by omega) hle
      have cm := List.mem_of_getElem? hc2
      dsimp only at k
      rw [hc1] at k
      dsimp only at k
      obtain ⟨ca1, dy1, sl1, ib1, svs1, ims1, p1, p2, p3, p4, p5, p6, p7, p8, p9, p10⟩ := r.slots hc2
      rw [p1] at hcv
      obtain rfl : ca1 = cad := by cases hcv; rfl
      have eon : Vbxlaa.onClient S an cc (.make an bn cn) = if 48 ≤ S.made then (S, [-5]) else (setSlot (made1 S cn) an cc bn (.object S.made), [0]) := rfl
      rw [eon] at k
      refine ⟨_, rfl, da, _, dd, _, _, rfl, h1, T.k_desk, T.d_store, rfl, sa, _, dx, _, _, rfl, r.ha, T.k_store, T.n_created, rfl, _, _, rfl, rfl, _, rfl, _, _, rfl, fun e => ?_, fun e => k.ref hD ?_⟩
      · have hlt : S.made < 48 := by have := of_decide_eq_true e; omega
        rw [if_neg (by omega)] at k
        refine ⟨_, rfl, da, _, dd, _, _, rfl, h1, T.k_desk, T.d_store, rfl, sa, dx, _, rfl, r.ha, rfl, _, rfl, sa, dx, cl, td, nm, ro, false, S, R, cn, cvs, kvs, last, rfl, r, nk, wf, by omega, fun H1 ro1 kvs1 last1 ch hk r1 nk1 => ?_⟩
        have wf1 := wf.made hlt (n := cn) (by omega)
        have h1d : H1 da = some (.ins ad.desk dd [("store", .ref sa), ("marked", mv)]) := ch.old _ _ h1 fun q z => by
          rw [hD.rd] at z
          cases z
          exact .inr rfl
        have hD1 : DeskAt K ad ro1 H1 da ⟨some (made1 S cn), mk⟩ := hD.ch ch fun dd2 sv2 mv2 e => by
          rw [h1] at e
          cases e
          exact ⟨sa, nm, _, rfl, Raw.store (S := made1 S cn) r1 nk1, wf1⟩
        refine ⟨leLine (by show 2 ≤ 1000; decide), fun t nt => ?_⟩
        have s1 : Same H1 (upd H1 t (.tup [.int 2, .int (nm S.made)])) := Same.new nt
        obtain ⟨ca2, dy, sl, ib, svs, q1, q2, q3, q4, fr, hD2⟩ := slot_fin (S := made1 S cn) (j := bn) (n := an) (y := .object S.made) (v := .ref t) hD1 h1d r1 nk1 wf1 hc2 rfl s1 ⟨t, rfl, .inl upd_same⟩ (fun i e => by cases e; exact .inr rfl)
        rw [p1] at q1
        obtain rfl : ca1 = ca2 := by cases q1; rfl
        rw [hk _ _ (an - 1) p2 (.inl p9)] at q2
        obtain ⟨rfl, rfl⟩ : sl1 = sl ∧ dy1 = dy := by cases q2; exact ⟨rfl, rfl⟩
        rw [hk _ _ (an - 1) p3 (.inr (.inl p4))] at q3
        obtain rfl : svs1 = svs := by cases q3; rfl
        have hsl : bn < svs1.length := by rw [Paired.length q4, wf.sl cc cm]; omega
        refine ⟨_, rfl, ca1, _, dy1, _, _, rfl, s1 _ _ (hk _ _ (an - 1) p2 (.inl p9)), T.k_client, T.n_slots, rfl, _, rfl, sl1, svs1, _, bn, rfl, rfl, s1 _ _ (hk _ _ (an - 1) p3 (.inr (.inl p4))), ixN_ok hsl, ?_⟩
        refine ⟨leLine (by show 1 ≤ 1000; decide), fun p np => ?_⟩
        have s2 := Same.new (o := .lst [.int 0]) np
        have np0 : H p = none := by
          cases q : H p with
          | none => rfl
          | some o =>
            obtain ⟨o1, e1⟩ := ch.al p o q
            obtain ⟨o2, e2⟩ := upd_all (a := sl1) (u := .lst (svs1.set bn (.ref t))) s1 p o1 e1
            rw [e2] at np
            cases np
        exact k.chg (x' := ⟨some (setSlot (made1 S cn) an cc bn (.object S.made)), mk⟩) (res := [0]) rfl ((ch.fr.trans fr).trans (Fr.same s2)) (hD2.same s2) np0 upd_same
      · have hge : 48 ≤ S.made := by have := of_decide_eq_false e; omega
        rw [if_pos hge]
theorem valV_at {nm : Nat → Int} {ro : Rm} {H : Hp} {b : Bool} (inj : ∀ i j, nm i = nm j → i = j) : ∀ {kvs : List (Key × V)} {os : List VO} {j : Nat} {kv : Key × V} {o : VO}, Paired (ThingAt K nm ro H b) kvs os → (os.map fun o => o.id).Nodup → kvs[j]? = some kv → os[j]? = some o → valV kvs (.inl (nm o.id)) = some kv.2
  | _, _, _, _, _, .nil, _, h, _ => by simp at h
  | kv0 :: kvs, p :: os, 0, kv, o, .cons r t, nd, h, h2 => by
    simp at h h2
    subst h h2
    exact valV_pos r.1
  | kv0 :: kvs, p :: os, j + 1, kv, o, .cons r t, nd, h, h2 => by
    rw [List.map_cons, List.nodup_cons] at nd
    have h' : kvs[j]? = some kv := by simpa using h
    have h2' : os[j]? = some o := by simpa using h2
    refine (valV_neg fun z => ?_).trans (valV_at inj t nd.2 h' h2')
    rw [r.1] at z
    refine nd.1 ?_
    rw [inj _ _ (Sum.inl.inj z)]
    exact List.mem_map.mpr ⟨o, List.mem_of_getElem? h2', rfl⟩
/-- a field is written -/
theorem Raw.thingW {nm : Nat → Int} {ro : Rm} {H : Hp} {b : Bool} {sa dx cl td : Addr} {cs : List VC} {os : List VO} {made last : Int} {cvs : List V} {kvs : List (Key × V)} (r : Raw K ad nm ro H b sa dx cl td cs os made last cvs kvs) (inj : ∀ i j, nm i = nm j → i = j) (nd : (os.map fun o => o.id).Nodup) {o : VO} (om : o ∈ os) :
    ∃ (ta : Addr) (tvs : List V), valV kvs (.inl (nm o.id)) = some (.ref ta) ∧ H ta = some (.lst tvs) ∧ Row K nm H tvs o.fields ∧ ∀ fi v y, IsV K nm H v y →
      Raw K ad nm ro (upd H ta (.lst (tvs.set fi v))) b sa dx cl td cs (os.map fun p => if p.id = o.id then { p with fields := p.fields.set fi y } else p) made last cvs kvs ∧ Ch b H (upd H ta (.lst (tvs.set fi v))) ro ro := by
  obtain ⟨ta, tvs, q1, q2, q3, q4⟩ := valV_thing r.th inj nd om
  refine ⟨ta, tvs, q1, q2, q4, fun fi v y iv => ?_⟩
  have t : Tups H (upd H ta (.lst (tvs.set fi v))) := Tups.write q2 fun _ z => by cases z
  refine ⟨⟨(wr_keep q3 r.ha r.ra (by simp)).1, r.ra, (wr_keep q3 r.hc r.rc (by simp)).1, r.rc, r.ln, fun i c e => ?_, (wr_keep q3 r.ht r.rt (by simp)).1, r.rt, ?_⟩, Ch.wr q2 q3 (by simp [Ro.own]) (by simp) (fun _ z => by cases z)⟩
  · obtain ⟨ca, z1, z2⟩ := r.ct i c e
    exact ⟨ca, z1, z2.keep' t fun a u q e h d => wr_keep q3 e h (by rcases d with rfl | rfl | rfl | rfl <;> simp)⟩
  · refine pair_of_get (by rw [List.length_map]; exact Paired.length r.th) fun j kv p hkv hp => ?_
    rw [List.getElem?_map] at hp
    obtain ⟨p0, hp0, rfl⟩ := Option.map_eq_some_iff.mp hp
    obtain ⟨p1, hp1, hth⟩ := pair_get' r.th hkv
    rw [hp0] at hp1
    cases hp1
    by_cases c : p0.id = o.id
    · rw [if_pos c]
      have hv := valV_at inj r.th nd hkv hp0
      rw [c, q1] at hv
      obtain ⟨e, ta2, tvs2, g1, g2, g3, g4⟩ := hth
      rw [g1] at hv
      cases hv
      rw [q2] at g2
      cases g2
      exact ⟨e, ta, _, g1, upd_same, g3, Row.keep (pair_set iv fi g4) t⟩
    · rw [if_neg c]
      exact hth.keep' t fun a u e h => wr_keep q3 e h (by simp [c])
theorem Wf.writeF {S : VSt} {R : Nat → Prop} (w : Wf S R) {i fi : Nat} {y : VV} (hy : Lv R y) : Wf (writeField S i fi y) R := by
  have hm : ∀ o ∈ (writeField S i fi y).objects, ∃ p ∈ S.objects, o.id = p.id ∧ o.fields.length = p.fields.length ∧ ∀ v ∈ o.fields, v ∈ p.fields ∨ v = y := fun o ho => by
    obtain ⟨p, hp, rfl⟩ := List.mem_map.mp ho
    refine ⟨p, hp, ?_⟩
    by_cases c : p.id = i
    · rw [if_pos c]
      exact ⟨rfl, List.length_set, fun v hv => List.mem_or_eq_of_mem_set hv⟩
    · rw [if_neg c]
      exact ⟨rfl, rfl, fun v hv => .inl hv⟩
  have hids : ((writeField S i fi y).objects.map fun o => o.id) = S.objects.map fun o => o.id := by
    show (S.objects.map _).map _ = _
    rw [List.map_map]
    refine List.map_congr_left fun p _ => ?_
    show (if p.id = i then ({ p with fields := p.fields.set fi y } : VO) else p).id = p.id
    by_cases c : p.id = i
    · rw [if_pos c]
    · rw [if_neg c]
  refine { c1 := w.c1, c4 := w.c4, sl := w.sl, ib := w.ib, ms := w.ms, fl := fun o ho => ?_, nd := by rw [hids]; exact w.nd, lt := fun o ho => ?_, ol := by show (S.objects.map _).length ≤ _; rw [List.length_map]; exact w.ol, mx := w.mx, ls := w.ls, lm := w.lm, st := fun j hj => ?_, lf := fun o ho hr v hv j e => ?_ }
  · obtain ⟨p, hp, e1, e2, _⟩ := hm o ho
    rw [e2]
    exact w.fl p hp
  · obtain ⟨p, hp, e1, e2, _⟩ := hm o ho
    rw [e1]
    exact w.lt p hp
  · obtain ⟨p, hp, e⟩ := w.st j hj
    have : j ∈ (writeField S i fi y).objects.map fun o => o.id := by rw [hids]; exact List.mem_map.mpr ⟨p, hp, e⟩
    obtain ⟨o, ho, e2⟩ := List.mem_map.mp this
    exact ⟨o, ho, e2⟩
  · obtain ⟨p, hp, e1, e2, e3⟩ := hm o ho
    rcases e3 v hv with h | rfl
    · exact w.lf p hp (e1 ▸ hr) v h j e
    · exact hy j e
theorem ok_write_field (T : Tx K mg ad) (D : Df K mg "write_field" s_write_field ["desk", "given", "row"]) (G_need : Ok P w K mg base 4 "need" ["number", "low", "high"] (spNeed ad)) (G_need_slot : Ok P w K mg base 5 "need_slot" ["number"] (spNeedSlot ad)) (G_client_of : Ok P w K mg base 5 "client_of" ["desk", "number"] (spClientOf K ad)) (G_need_field : Ok P w K mg base 4 "need_field" ["store", "own", "field"] (spNeedField K ad)) : Ok P w K mg base 6 "write_field" ["desk", "given", "row"] (spOp K ad 6 4 false) := by
  refine D.ok c_write_field (fun vs H Q E h => ?_) (fun f cdv A outer s H vs Q E hr h => ?_)
  · obtain ⟨da, ga, la, ro, x, g, l, rfl, _⟩ := h
    rfl
  · refine ⟨_,
      (pss_cons (ps_asg (pv 1) (pg_lst rfl (pgs_cons (pg_name (i := 3) c_write_field.nd rfl (Or.inl rfl)) (pgs_cons (pg_name (i := 4) c_write_field.nd rfl (Or.inl rfl)) (pgs_cons (pg_name (i := 5) c_write_field.nd rfl (Or.inl rfl)) (pgs_cons (pg_name (i := 6) c_write_field.nd rfl (Or.inl rfl)) pgs_nil))))))
        (pss_cons (ps_expr (pe_c G_need hr (L2N.takes_of rfl rfl rfl rfl) (pa_cons (pv 3) (pa_cons pe_int (pa_cons (pe_ci T.c_MOST_CLIENT) pa_nil)))))
        (pss_cons (ps_expr (pe_c G_need_slot hr (L2N.takes_of rfl rfl rfl rfl) (pa_cons (pv 4) pa_nil)))
        (pss_cons (ps_expr (pe_c G_need hr (L2N.takes_of rfl rfl rfl rfl) (pa_cons (pv 5) (pa_cons pe_int (pa_cons (pe_ci T.c_MOST_FIELD) pa_nil)))))
        (pss_cons (ps_expr (pe_c G_need_slot hr (L2N.takes_of rfl rfl rfl rfl) (pa_cons (pv 6) pa_nil)))
        (pss_cons (ps_set (i := 7) c_write_field.nd rfl (Or.inl rfl) (pe_c G_client_of hr (L2N.takes_of rfl rfl rfl rfl) (pa_cons (pv 0) (pa_cons (pv 3) pa_nil))))
        (pss_cons (ps_expr (pe_c G_need_field hr (L2N.takes_of rfl rfl rfl rfl) (pa_cons (pe_fld (pv 0) rfl) (pa_cons (pe_ix ix_list (pe_fld (pv 7) rfl) (pv 4) (fun _ _ => rfl)) (pa_cons (pv 5) pa_nil)))))
        (pss_cons (ps_asg (pe_ix ix_list (pe_fld (pv 7) rfl) (pv 6) (fun _ _ => rfl)) (pg_sub (pe_dget (hu_of hr) (pe_fld (pe_fld (pv 0) rfl) rfl) (pe_ix ix_tup (pe_ix ix_list (pe_fld (pv 7) rfl) (pv 4) (fun _ _ => rfl)) pe_int (fun _ _ => rfl)) (fun _ _ => rfl)) (pv 5) set_list))
        (pss_one (ps_ret (pe_lst (pa_cons pe_int pa_nil))))))))))))
      , ?_⟩
    obtain ⟨da, ga, la, ro, x, g, l, rfl, hD, hg, hl, hga, hla, hn, hlim, hl7, k⟩ := h
    obtain ⟨dd, sv, mv, h1, h2, h3⟩ := hD.ex
    obtain ⟨a, b, c, e, rfl⟩ := get4 hn
    refine ⟨_, rfl, ga, _, rfl, SqL.of hg, rfl, _, _, rfl, _, _, rfl, _, _, rfl, _, _, rfl, rfl, ?_⟩
    have ecall : Vbxlaa.callOf [[6, a, b, c, e]] = Vbxlaa.callIf (isClient a && (isSlot b && (isField c && isSlot e))) (.write a.toNat b.toNat c.toNat e.toNat) := rfl
    rw [show (if false = true then [6 :: [a, b, c, e], l] else [6 :: [a, b, c, e]]) = [[6, a, b, c, e]] from rfl] at k
    refine ⟨_, rfl, _, _, _, rfl, fun ca => ?_, fun na => k.ref hD (sr_none (by rw [ecall, show isClient a = false from within_no na]; simp [Vbxlaa.callIf]))⟩
    refine ⟨_, rfl, _, rfl, fun cb => ?_, fun nb => k.ref hD (sr_none (by rw [ecall, show isSlot b = false from within_no nb]; simp [Vbxlaa.callIf]))⟩
    refine ⟨_, rfl, _, _, _, rfl, fun cc => ?_, fun nc => k.ref hD (sr_none (by rw [ecall, show isField c = false from within_no nc]; simp [Vbxlaa.callIf]))⟩
    refine ⟨_, rfl, _, rfl, fun ce => ?_, fun ne => k.ref hD (sr_none (by rw [ecall, show isSlot e = false from within_no ne]; simp [Vbxlaa.callIf]))⟩
    have e1 : stepRows x [[6, a, b, c, e]] = Vbxlaa.step x (.write a.toNat b.toNat c.toNat e.toNat) := sr_some (by rw [ecall, show isClient a = true from within_iff.mpr ca, show isSlot b = true from within_iff.mpr cb, show isField c = true from within_iff.mpr cc, show isSlot e = true from within_iff.mpr ce]; rfl)
    rw [e1, step_client (n := a.toNat) rfl] at k
    obtain ⟨an, rfl⟩ : ∃ an : Nat, a = (an : Int) := ⟨a.toNat, by omega⟩
    obtain ⟨bn, rfl⟩ : ∃ bn : Nat, b = (bn : Int) := ⟨b.toNat, by omega⟩
    obtain ⟨cn, rfl⟩ : ∃ cn : Nat, c = (cn : Int) := ⟨c.toNat, by omega⟩
    obtain ⟨en, rfl⟩ : ∃ en : Nat, e = (en : Int) := ⟨e.toNat, by omega⟩
    simp only [Int.toNat_natCast] at k
    refine ⟨_, rfl, _, rfl, da, dd, sv, mv, an, rfl, h1, by omega, ?_⟩
    obtain ⟨st, mk⟩ := x
    cases st with
    | none => exact .inl ⟨h2, k.ref hD rfl⟩
    | some S =>
      obtain ⟨sa, nm, R, rfl, hS, wf⟩ := h2
      obtain ⟨dx, cl, td, cvs, kvs, last, r, nk⟩ := hS.raw
      refine .inr ⟨sa, dx, cl, td, nm, ro, false, _, _, _, _, cvs, kvs, rfl, r, fun cad hle hcv => ?_, fun hlt => k.ref hD (by dsimp only; rw [client_none (.inr hlt)])⟩
      obtain ⟨cc, hc1, hc2⟩ := client_some (S := S) (by omega) hle
      have cm := List.mem_of_getElem? hc2
      dsimp only at k
      rw [hc1] at k
      dsimp only at k
      obtain ⟨ca1, dy1, sl1, ib1, svs1, ims1, p1, p2, p3, p4, p5, p6, p7, p8, p9, p10⟩ := r.slots hc2
      rw [p1] at hcv
      obtain rfl : ca1 = cad := by cases hcv; rfl
      obtain ⟨vv, hvv⟩ : ∃ vv, cc.slots[bn]? = some vv := ⟨_, List.getElem?_eq_getElem (by rw [wf.sl cc cm]; omega)⟩
      obtain ⟨u, hu, iu⟩ := pair_get p5 hvv
      obtain ⟨ww, hww⟩ : ∃ ww, cc.slots[en]? = some ww := ⟨_, List.getElem?_eq_getElem (by rw [wf.sl cc cm]; omega)⟩
      obtain ⟨u2, hu2, iu2⟩ := pair_get p5 hww
      have lvv := wf.ls cc cm vv (List.mem_of_getElem? hvv)
      have lww := wf.ls cc cm ww (List.mem_of_getElem? hww)
      have eon : Vbxlaa.onClient S an cc (.write an bn cn en) = match vv with
          | .object id => if (fieldsOf S id).length ≤ cn then (S, [-4]) else (writeField S id cn ww, [0])
          | _ => (S, [-3]) := by
        show (match slotOf cc bn with
          | .object id => if (fieldsOf S id).length ≤ cn then (S, [-4]) else (writeField S id cn (slotOf cc en), [0])
          | _ => (S, [-3])) = _
        rw [slotOf_get hvv, slotOf_get hww]
        cases vv <;> rfl
      rw [eon] at k
      refine ⟨_, rfl, da, _, dd, _, _, rfl, h1, T.k_desk, T.d_store, rfl, _, rfl, ca1, _, dy1, _, _, rfl, p2, T.k_client, T.n_slots, rfl, _, rfl, sl1, svs1, _, u, rfl, rfl, SqL.of p3, atI_nat hu, _, rfl, ?_⟩
      refine ⟨sa, u, nm, ro, false, S, R, vv, cn, rfl, hS, wf, iu, lvv, fun i v ei ef => ?_, fun hno => k.ref hD ?_, fun i ei ef => k.ref hD ?_⟩
      · subst ei
        dsimp only at k
        have hlf : cn < (fieldsOf S i).length := (List.getElem?_eq_some_iff.mp ef).1
        rw [if_neg (by omega)] at k
        obtain ⟨o, om, rfl⟩ := wf.st i (lvv i rfl)
        obtain ⟨ta, tvs, q1, q2, q3, q4⟩ := r.thingW nk.inj wf.nd om
        obtain ⟨r2, ch⟩ := q4 cn u2 ww iu2
        obtain ⟨tu, rfl, htu⟩ := isV_ref iu
        have htl : cn < tvs.length := by rw [Paired.length q3, ← fieldsOf_mem wf.nd om]; exact hlf
        refine ⟨_, rfl, ca1, _, dy1, _, _, rfl, p2, T.k_client, T.n_slots, rfl, _, rfl, sl1, svs1, _, u2, rfl, rfl, SqL.of p3, atI_nat hu2, ?_⟩
        refine ⟨_, rfl, da, _, dd, _, _, rfl, h1, T.k_desk, T.d_store, rfl, sa, _, dx, _, _, rfl, r.ha, T.k_store, T.n_things, rfl, _, rfl, ca1, _, dy1, _, _, rfl, p2, T.k_client, T.n_slots, rfl, _, rfl, sl1, svs1, _, .ref tu, rfl, rfl, SqL.of p3, atI_nat hu, tu, _, _, _, rfl, rfl, htu, rfl, td, .ref ta, rfl, q1 ▸ DGet.k (k := Sum.inl (nm o.id)) r.ht, _, rfl, ta, tvs, _, cn, rfl, rfl, q2, ixN_ok htl, ?_⟩
        have hD2 : DeskAt K ad ro (upd H ta (.lst (tvs.set cn u2))) da ⟨some (writeField S o.id cn ww), mk⟩ := hD.ch ch fun dd2 sv2 mv2 e => by
          rw [h1] at e
          cases e
          exact ⟨sa, nm, R, rfl, Raw.store (S := writeField S o.id cn ww) r2 nk, wf.writeF lww⟩
        exact ⟨leLine (by show 1 ≤ 1000; decide), zero_end k rfl (upd_all (Same.refl H)) ch.fr hD2⟩
      · cases vv with
        | nothing => rfl
        | number _ => rfl
        | object i => exact absurd rfl (hno i)
      · subst ei
        dsimp only
        have : (fieldsOf S i).length ≤ cn := List.getElem?_eq_none_iff.mp ef
        rw [if_pos this]
end
end Sh


set_option maxHeartbeats 2000000
namespace Sh
open PySem PySem.Spec PyProof.Rows L2
open Vbxlaa (fieldsOf clientAt stepRows setSlot setClient isClient isSlot isField within emptyStore slotOf emptyClient writeField nats)
theorem rowOk_slots {l : List Int} : RowOk l 1 3 5 ↔ (decide (1 ≤ l.length) && (decide (l.length ≤ Vbxlaa.maxMessage) && l.all isSlot)) = true := by
  unfold RowOk Vbxlaa.isSlot
  have e3 : Vbxlaa.maxMessage = 3 := rfl
  rw [e3]
  simp only [Bool.and_eq_true, decide_eq_true_eq, List.all_eq_true, within_iff]
  constructor
  · rintro ⟨a, b, c⟩
    exact ⟨by omega, by omega, c⟩
  · rintro ⟨a, b, c⟩
    exact ⟨by omega, by omega, c⟩
section
variable {P : Program} {w : World} {K : PySem.W.Frag} {mg : Str → Option Value} {base : Heap} {ad : Ad}
theorem ok_send (T : Tx K mg ad) (D : Df K mg "send" s_send ["desk", "given", "row"]) (G_need : Ok P w K mg base 4 "need" ["number", "low", "high"] (spNeed ad)) (G_need_row : Ok P w K mg base 5 "need_row" ["row", "least", "most", "high"] (spNeedRow ad)) (G_client_of : Ok P w K mg base 5 "client_of" ["desk", "number"] (spClientOf K ad)) (G_refuse_unless : Ok P w K mg base 3 "refuse_unless" ["is_right", "code"] (spRefuse ad)) : Ok P w K mg base 6 "send" ["desk", "given", "row"] (spOp K ad 9 2 true) := by
  refine D.ok c_send (fun vs H Q E h => ?_) (fun f cdv A outer s H vs Q E hr h => ?_)
  · obtain ⟨da, ga, la, ro, x, g, l, rfl, _⟩ := h
    rfl
  · refine ⟨_,
      (pss_cons (ps_asg (pv 1) (pg_lst rfl (pgs_cons (pg_name (i := 3) c_send.nd rfl (Or.inl rfl)) (pgs_cons (pg_name (i := 4) c_send.nd rfl (Or.inl rfl)) pgs_nil))))
        (pss_cons (ps_expr (pe_c G_need hr (L2N.takes_of rfl rfl rfl rfl) (pa_cons (pv 3) (pa_cons pe_int (pa_cons (pe_ci T.c_MOST_CLIENT) pa_nil)))))
        (pss_cons (ps_expr (pe_c G_need hr (L2N.takes_of rfl rfl rfl rfl) (pa_cons (pv 4) (pa_cons pe_int (pa_cons (pe_ci T.c_MOST_CLIENT) pa_nil)))))
        (pss_cons (ps_expr (pe_c G_need_row hr (L2N.takes_of rfl rfl rfl rfl) (pa_cons (pv 2) (pa_cons pe_int (pa_cons pe_int (pa_cons (pe_ci T.c_MOST_SLOT) pa_nil))))))
        (pss_cons (ps_set (i := 5) c_send.nd rfl (Or.inr rfl) (pe_c G_client_of hr (L2N.takes_of rfl rfl rfl rfl) (pa_cons (pv 0) (pa_cons (pv 3) pa_nil))))
        (pss_cons (ps_set (i := 6) c_send.nd rfl (Or.inl rfl) (pe_fld (pe_c G_client_of hr (L2N.takes_of rfl rfl rfl rfl) (pa_cons (pv 0) (pa_cons (pv 4) pa_nil))) rfl))
        (pss_cons (ps_expr (pe_c G_refuse_unless hr (L2N.takes_of rfl rfl rfl rfl) (pa_cons (pe_cmpR op_lt (pe_callB call_len_seq (by rfl) T.b_len (by decide +kernel) (pa_cons (pv 6) pa_nil)) (pe_ci T.c_MOST_MESSAGES) (nomark _)) (pa_cons (pe_un un_neg pe_int) pa_nil))))
        (pss_cons (ps_expr (pe_bm PySem.F.plainAttrs_list PySem.F.slot_list_append PySem.F.type_list_append mt_append (pv 6) (pa_cons (pe_lc (own := [("slot", 7)]) (g := (gName 7)) (tt := tYes) rfl c_send.nd (pi_list (pv 2)) (blkOk_by (own := [("slot", 7)]) (N := ["desk", "given", "row", "number", "receiver", "client", "inbox", "slot"]) (sc := defScope s_send) (by decide +kernel)) (fun _ _ _ _ _ => by exact (pg_name (i := 7) c_send.nd rfl (Or.inl rfl))) (fun _ _ _ _ _ => by exact pts_nil) (fun _ _ _ _ _ => by exact (pe_ix (ix_listK (K := K)) (pe_fldK (K := K) (pv 5) rfl) (pv 7) (fun _ _ => rfl)))) pa_nil)))
        (pss_one (ps_ret (pe_lst (pa_cons (pe_callB call_len_seq (by rfl) T.b_len (by decide +kernel) (pa_cons (pv 6) pa_nil)) pa_nil))))))))))))
      , ?_⟩
    obtain ⟨da, ga, la, ro, x, g, l, rfl, hD, hg, hl, hga, hla, hn, hlim, hl7, k⟩ := h
    obtain ⟨dd, sv, mv, h1, h2, h3⟩ := hD.ex
    obtain ⟨a, b, rfl⟩ := get2 hn
    refine ⟨_, rfl, ga, _, rfl, SqL.of hg, rfl, _, _, rfl, _, _, rfl, rfl, ?_⟩
    have ecall : Vbxlaa.callOf [[9, a, b], l] = Vbxlaa.callIf (isClient a && (isClient b && (decide (1 ≤ l.length) && (decide (l.length ≤ Vbxlaa.maxMessage) && l.all isSlot)))) (.send a.toNat b.toNat (nats l)) := rfl
    rw [show (if true = true then [9 :: [a, b], l] else [9 :: [a, b]]) = [[9, a, b], l] from rfl] at k
    refine ⟨_, rfl, _, _, _, rfl, fun ca => ?_, fun na => k.ref hD (sr_none (by rw [ecall, show isClient a = false from within_no na]; simp [Vbxlaa.callIf]))⟩
    refine ⟨_, rfl, _, _, _, rfl, fun cb => ?_, fun nb => k.ref hD (sr_none (by rw [ecall, show isClient b = false from within_no nb]; simp [Vbxlaa.callIf]))⟩
    refine ⟨_, rfl, la, l, 1, 3, 5, rfl, hl, fun cr => ?_, fun nr => k.ref hD (sr_none (by rw [ecall, show (decide (1 ≤ l.length) && (decide (l.length ≤ Vbxlaa.maxMessage) && l.all isSlot)) = false from Bool.eq_false_iff.mpr fun z => nr (rowOk_slots.mpr z)]; simp [Vbxlaa.callIf]))⟩
    have e1 : stepRows x [[9, a, b], l] = Vbxlaa.step x (.send a.toNat b.toNat (nats l)) := sr_some (by rw [ecall, rowOk_slots.mp cr, show isClient a = true from within_iff.mpr ca, show isClient b = true from within_iff.mpr cb]; rfl)
    rw [e1, step_client (n := a.toNat) rfl] at k
    obtain ⟨an, rfl⟩ : ∃ an : Nat, a = (an : Int) := ⟨a.toNat, by omega⟩
    obtain ⟨bn, rfl⟩ : ∃ bn : Nat, b = (bn : Int) := ⟨b.toNat, by omega⟩
    simp only [Int.toNat_natCast] at k
    refine ⟨_, rfl, _, rfl, da, dd, sv, mv, an, rfl, h1, by omega, ?_⟩
    obtain ⟨st, mk⟩ := x
    cases st with
    | none => exact .inl ⟨h2, k.ref hD rfl⟩
    | some S =>
      obtain ⟨sa, nm, R, rfl, hS, wf⟩ := h2
      obtain ⟨dx, cl, td, cvs, kvs, last, r, nk⟩ := hS.raw
      refine .inr ⟨sa, dx, cl, td, nm, ro, false, _, _, _, _, cvs, kvs, rfl, r, fun cad hle hcv => ?_, fun hlt => k.ref hD (by dsimp only; rw [client_none (.inr hlt)])⟩
      obtain ⟨cc, hc1, hc2⟩ := client_some (S := S) (by omega) hle
      have cm := List.mem_of_getElem? hc2
      dsimp only at k
      rw [hc1] at k
      dsimp only at k
      obtain ⟨ca1, dy1, sl1, ib1, svs1, ims1, p1, p2, p3, p4, p5, p6, p7, p8, p9, p10⟩ := r.slots hc2
      rw [p1] at hcv
      obtain rfl : ca1 = cad := by cases hcv; rfl
      refine ⟨_, rfl, _, rfl, da, dd, _, mv, bn, rfl, h1, by omega, .inr ⟨sa, dx, cl, td, nm, ro, false, _, _, _, _, cvs, kvs, rfl, r, fun cad2 hle2 hcv2 => ?_, fun hlt => k.ref hD ?_⟩⟩
      rotate_left
      · show (_, _) = _
        rw [show Vbxlaa.onClient S an cc (.send an bn (nats l)) = (S, [-8]) from by
          show (match clientAt S bn with
            | none => (S, [-8])
            | some d => _) = _
          rw [client_none (.inr hlt)]]
      obtain ⟨c2, hd1, hd2⟩ := client_some (S := S) (by omega) hle2
      have cm2 := List.mem_of_getElem? hd2
      obtain ⟨ca2, dy2, sl2, ib2, svs2, ims2, w1, w2, w3, w4, w5, w6, w7, w8, w9, _⟩ := r.slots hd2
      rw [w1] at hcv2
      obtain rfl : ca2 = cad2 := by cases hcv2; rfl
      have eon : Vbxlaa.onClient S an cc (.send an bn (nats l)) = if 4 ≤ c2.inbox.length then (S, [-5]) else (setClient S bn { c2 with inbox := c2.inbox ++ [(nats l).map (slotOf cc)] }, [((c2.inbox.length + 1 : Nat) : Int)]) := by
        show (match clientAt S bn with
          | none => (S, [-8])
          | some d => if 4 ≤ d.inbox.length then (S, [-5]) else (setClient S bn { d with inbox := d.inbox ++ [(nats l).map (slotOf cc)] }, [((d.inbox.length + 1 : Nat) : Int)])) = _
        rw [hd1]
      rw [eon] at k
      have hims : ims2.length = c2.inbox.length := Paired.length w8
      have hib := wf.ib c2 cm2
      refine ⟨ca2, _, dy2, _, _, rfl, w2, T.k_client, T.n_inbox, rfl, ?_⟩
      refine ⟨_, rfl, ib2, ims2, rfl, .inl (SqL.of w6), _, _, rfl, rfl, _, rfl, _, _, rfl, fun e => ?_, fun e => k.ref hD ?_⟩
      rotate_left
      · have : 4 ≤ c2.inbox.length := by have := of_decide_eq_false e; omega
        rw [if_pos this]
      have hlt4 : c2.inbox.length < 4 := by have := of_decide_eq_true e; omega
      rw [if_neg (by omega)] at k
      have hsl6 := wf.sl cc cm
      have hlv : svs1.length = 6 := (Paired.length p5).trans hsl6
      refine ⟨_, rfl, .inl ⟨rfl, _, SqL.of w6⟩, _, rfl, la, rfl, ⟨_, SqL.of hl⟩, fun L nL => lc_list (K := K) (a := la) (xs := l.map V.int) (fun j H2 => ∃ acc, Bld H L acc H2 ∧ Row K nm H2 acc ((nats (l.take j)).map (slotOf cc))) ⟨[], Bld.start nL, .nil⟩ (fun j H2 _ ⟨_, hB, _⟩ => SqL.of (hB.sm _ _ hl)) ?_ ?_⟩
      · rintro j y H2 hj ⟨acc, hB, hP⟩
        rw [List.getElem?_map] at hj
        obtain ⟨z, hz, rfl⟩ := Option.map_eq_some_iff.mp hj
        have hz5 := cr.2.2 z (List.mem_of_getElem? hz)
        obtain ⟨zn, rfl⟩ : ∃ zn : Nat, z = (zn : Int) := ⟨z.toNat, by omega⟩
        obtain ⟨vv, hvv⟩ : ∃ vv, cc.slots[zn]? = some vv := ⟨_, List.getElem?_eq_getElem (by rw [hsl6]; omega)⟩
        obtain ⟨u, hu, iu⟩ := pair_get p5 hvv
        have hal : acc.length ≤ 3 := by
          have h3 := cr.2.1
          rw [Paired.length hP, List.length_map]
          show ((l.take j).map Int.toNat).length ≤ 3
          rw [List.length_map, List.length_take]
          omega
        refine ⟨rfl, yes ?_⟩
        refine ⟨_, rfl, ca1, _, dy1, _, _, rfl, hB.sm _ _ p2, T.k_client, T.n_slots, rfl, _, rfl, sl1, svs1, _, u, rfl, rfl, SqL.of (hB.sm _ _ p3), atI_nat hu, acc, hB.at_, small1000 (by omega), _, hB.put nL, ?_⟩
        obtain ⟨hq, eq⟩ := List.getElem?_eq_some_iff.mp hz
        have en : nats (l.take (j + 1)) = nats (l.take j) ++ [zn] := by
          unfold Vbxlaa.nats
          rw [List.take_succ_eq_append_getElem hq, eq, List.map_append]
          rfl
        rw [en, List.map_append]
        exact pair_snoc (Row.keep hP hB.tups) ((slotOf_get hvv).symm ▸ (iu.keep ((Same.tups hB.sm).trans hB.tups)))
      · rintro H2 ⟨acc, hB, hP⟩
        rw [List.length_map, List.take_length] at hP
        have s1 := hB.sm
        have nLi : L ≠ ib2 := Ne.symm (ne_of_none w6 nL)
        refine ⟨ib2, ims2, _, rfl, rfl, s1 _ _ w6, small1000 (by omega), ?_⟩
        have w6' : (upd H2 ib2 (.lst (ims2 ++ [.ref L]))) ib2 = some (.lst (ims2 ++ [.ref L])) := upd_same
        refine ⟨_, rfl, ib2, _, rfl, .inl (SqL.of w6'), leLine (by show 1 ≤ 1000; decide), fun p np => ?_⟩
        have rn : RoN H ro (upR ro L .imm) := RoN.refl.up nL
        have tp : Tups H2 (upd H2 ib2 (.lst (ims2 ++ [.ref L]))) := Tups.write (s1 _ _ w6) fun _ z => by cases z
        have r1 := r.keep (Kept.of s1 rn)
        have ch : Ch false H (upd H2 ib2 (.lst (ims2 ++ [.ref L]))) ro (upR ro L .imm) :=
          (Ch.same s1 rn).trans (Ch.wr (r := .inbox false (bn - 1)) (s1 _ _ w6) ((rn _ _ w6).trans w7) (by simp [Ro.own]) (by simp) (fun _ z => by cases z))
        have rib : upR ro L .imm ib2 = some (.inbox false (bn - 1)) := (rn _ _ w6).trans w7
        have kp : ∀ a o q, H2 a = some o → upR ro L .imm a = some q → q ≠ .inbox false (bn - 1) → (upd H2 ib2 (.lst (ims2 ++ [.ref L]))) a = some o ∧ upR ro L .imm a = some q := fun a o q e z d => wr_keep rib e z d
        have hL2 := hB.at_
        have cnew : ClientAt K ad nm (upR ro L .imm) (upd H2 ib2 (.lst (ims2 ++ [.ref L]))) false (bn - 1) ca2 { c2 with inbox := c2.inbox ++ [(nats l).map (slotOf cc)] } := by
          refine ⟨dy2, sl2, ib2, svs2, ims2 ++ [.ref L], (kp _ _ _ (s1 _ _ w2) ((rn _ _ w2).trans w9) (by simp)).1, (rn _ _ w2).trans w9, (kp _ _ _ (s1 _ _ w3) ((rn _ _ w3).trans w4) (by simp)).1, (rn _ _ w3).trans w4, Row.keep w5 ((Same.tups s1).trans tp), upd_same, rib, ?_⟩
          refine pair_snoc (Paired.mapP w8 fun v m h => ?_) ⟨L, acc, rfl, (upd_ne nLi).trans hL2, upR_same, Row.keep hP tp⟩
          exact (h.keep' (ro' := upR ro L .imm) (Same.tups s1) fun a o e q => ⟨s1 _ _ e, (rn _ _ e).trans q⟩).keep' tp fun a o e q => kp a o _ e q (by simp)
        have r2 := r1.client (ro' := upR ro L .imm) hd2 w1 tp (fun a o q e z _ _ _ n => kp a o q e z n) cnew
        have wf2 : Wf (setClient S bn { c2 with inbox := c2.inbox ++ [(nats l).map (slotOf cc)] }) R := by
          have hml : ((nats l).map (slotOf cc)).length = l.length := by unfold Vbxlaa.nats; rw [List.length_map, List.length_map]
          refine wf.setC (wf.sl c2 cm2) (by show (c2.inbox ++ [_]).length ≤ 4; rw [List.length_append]; show c2.inbox.length + 1 ≤ 4; omega) (fun m hm => ?_) (wf.ls c2 cm2) (fun m hm v hv => ?_)
          · rcases List.mem_append.mp hm with hm | hm
            · exact wf.ms c2 cm2 m hm
            · rw [List.mem_singleton] at hm
              rw [hm, hml]
              have := cr.1
              have := cr.2.1
              omega
          · rcases List.mem_append.mp hm with hm | hm
            · exact wf.lm c2 cm2 m hm v hv
            · rw [List.mem_singleton] at hm
              subst hm
              obtain ⟨z, _, rfl⟩ := List.mem_map.mp hv
              intro i e
              unfold Vbxlaa.slotOf at e
              rw [List.getD_eq_getElem?_getD] at e
              cases eg : cc.slots[z]? with
              | none => rw [eg] at e; cases e
              | some y =>
                rw [eg] at e
                exact wf.ls cc cm y (List.mem_of_getElem? eg) i e
        have hD2 : DeskAt K ad (upR ro L .imm) (upd H2 ib2 (.lst (ims2 ++ [.ref L]))) da ⟨some (setClient S bn { c2 with inbox := c2.inbox ++ [(nats l).map (slotOf cc)] }), mk⟩ := hD.ch ch fun dd2 sv2 mv2 e => by
          rw [h1] at e
          cases e
          exact ⟨sa, nm, R, rfl, Raw.store (S := setClient S bn { c2 with inbox := c2.inbox ++ [(nats l).map (slotOf cc)] }) r2 nk, wf2⟩
        have s3 := Same.new (o := .lst [.int ((ims2 ++ [V.ref L]).length : Nat)]) np
        have np0 : H p = none := by
          cases q : H p with
          | none => rfl
          | some u =>
            obtain ⟨u2, hu2⟩ := upd_all (a := ib2) (u := .lst (ims2 ++ [.ref L])) s1 p u q
            rw [hu2] at np
            cases np
        refine k.chg (x' := ⟨some (setClient S bn { c2 with inbox := c2.inbox ++ [(nats l).map (slotOf cc)] }), mk⟩) (res := [((c2.inbox.length + 1 : Nat) : Int)]) rfl (ch.fr.trans (Fr.same s3)) (hD2.same s3) np0 ?_
        rw [upd_same, List.length_append, hims]
        rfl
end
end Sh


set_option maxHeartbeats 2000000
namespace Sh
open PySem PySem.Spec PyProof.Rows L2
open Vbxlaa (fieldsOf clientAt stepRows setSlot setClient isClient isSlot isField within emptyStore slotOf emptyClient writeField nats valueAtPlace)
theorem rowOk_path {l : List Int} : RowOk l 1 120 100 ↔ Vbxlaa.isPath l = true := by
  unfold RowOk Vbxlaa.isPath Vbxlaa.natsWithin
  simp only [Bool.and_eq_true, decide_eq_true_eq, List.all_eq_true, within_iff]
  constructor
  · rintro ⟨a, b, c⟩
    exact ⟨by omega, by omega, c⟩
  · rintro ⟨a, b, c⟩
    exact ⟨by omega, by omega, c⟩
theorem nI_nats : ∀ {l : List Int}, (∀ z ∈ l, 0 ≤ z) → l.map V.int = nI (nats l)
  | [], _ => rfl
  | z :: l, h => by
    have ih := nI_nats (l := l) fun y m => h y (List.mem_cons_of_mem _ m)
    have hz := h z List.mem_cons_self
    show V.int z :: l.map V.int = V.int ((z.toNat : Nat) : Int) :: nI (nats l)
    rw [ih, Int.toNat_of_nonneg hz]
section
variable {P : Program} {w : World} {K : PySem.W.Frag} {mg : Str → Option Value} {base : Heap} {ad : Ad}
theorem ok_find_path (T : Tx K mg ad) (D : Df K mg "find_path" s_find_path ["desk", "given", "row"]) (G_need : Ok P w K mg base 4 "need" ["number", "low", "high"] (spNeed ad)) (G_need_row : Ok P w K mg base 5 "need_row" ["row", "least", "most", "high"] (spNeedRow ad)) (G_client_of : Ok P w K mg base 5 "client_of" ["desk", "number"] (spClientOf K ad)) (G_thing_at : Ok P w K mg base 4 "thing_at" ["store", "place"] (spThingAt K ad)) (G_paths_of : Ok P w K mg base 2 "paths_of" ["store", "number"] (spPathsOf K ad)) (G_counted : Ok P w K mg base 1 "counted" ["row"] spCounted) : Ok P w K mg base 6 "find_path" ["desk", "given", "row"] (spOp K ad 19 1 true) := by
  refine D.ok c_find_path (fun vs H Q E h => ?_) (fun f cdv A outer s H vs Q E hr h => ?_)
  · obtain ⟨da, ga, la, ro, x, g, l, rfl, _⟩ := h
    rfl
  · refine ⟨_,
      (pss_cons (ps_expr (pe_c G_need hr (L2N.takes_of rfl rfl rfl rfl) (pa_cons (pe_ix ix_list (pv 1) pe_int (fun _ _ => rfl)) (pa_cons pe_int (pa_cons (pe_ci T.c_MOST_CLIENT) pa_nil)))))
        (pss_cons (ps_expr (pe_c G_need_row hr (L2N.takes_of rfl rfl rfl rfl) (pa_cons (pv 2) (pa_cons pe_int (pa_cons (pe_ci T.c_MOST_PATH) (pa_cons (pe_ci T.c_MOST_ELEMENT) pa_nil))))))
        (pss_cons (ps_expr (pe_c G_client_of hr (L2N.takes_of rfl rfl rfl rfl) (pa_cons (pv 0) (pa_cons (pe_ix ix_list (pv 1) pe_int (fun _ _ => rfl)) pa_nil))))
        (pss_cons (ps_set (i := 3) c_find_path.nd rfl (Or.inl rfl) (pe_c G_thing_at hr (L2N.takes_of rfl rfl rfl rfl) (pa_cons (pe_fld (pv 0) rfl) (pa_cons (pv 2) pa_nil))))
        (pss_cons (ps_set (i := 4) c_find_path.nd rfl (Or.inl rfl) (pe_dget1 (hu_of hr) (pe_c G_paths_of hr (L2N.takes_of rfl rfl rfl rfl) (pa_cons (pe_fld (pv 0) rfl) (pa_cons (pe_ix ix_list (pv 1) pe_int (fun _ _ => rfl)) pa_nil))) (pv 3) ⟨rfl, rfl, rfl, rfl⟩))
        (pss_one (ps_ret (pe_ifExp (pt_cmpR op_isN (pv 4) pe_non (nomark _)) (pe_lst (pa_cons pe_int (pa_cons pe_int pa_nil))) (pe_op op_cat (pe_lst (pa_cons pe_int pa_nil)) (pe_c G_counted hr (L2N.takes_of rfl rfl rfl rfl) (pa_cons (pv 4) pa_nil)))))))))))
      , ?_⟩
    obtain ⟨da, ga, la, ro, x, g, l, rfl, hD, hg, hl, hga, hla, hn, hlim, hl7, k⟩ := h
    obtain ⟨dd, sv, mv, h1, h2, h3⟩ := hD.ex
    obtain ⟨a, rfl⟩ := get1 hn
    have ecall : Vbxlaa.callOf [[19, a], l] = Vbxlaa.callIf (isClient a && Vbxlaa.isPath l) (.findPath a.toNat (Vbxlaa.nats l)) := rfl
    rw [show (if true = true then [19 :: [a], l] else [19 :: [a]]) = [[19, a], l] from rfl] at k
    refine ⟨_, rfl, ga, _, _, .int a, rfl, rfl, SqL.of hg, at_of (j := 0) rfl rfl, _, _, _, rfl, fun ca => ?_, fun na => k.ref hD (sr_none (by rw [ecall, show isClient a = false from within_no na]; simp [Vbxlaa.callIf]))⟩
    refine ⟨_, rfl, la, l, 1, 120, 100, rfl, hl, fun cr => ?_, fun nr => k.ref hD (sr_none (by rw [ecall, show Vbxlaa.isPath l = false from Bool.eq_false_iff.mpr fun z => nr (rowOk_path.mpr z)]; simp [Vbxlaa.callIf]))⟩
    have e1 : stepRows x [[19, a], l] = Vbxlaa.step x (.findPath a.toNat (Vbxlaa.nats l)) := sr_some (by rw [ecall, show isClient a = true from within_iff.mpr ca, show Vbxlaa.isPath l = true from rowOk_path.mp cr]; rfl)
    rw [e1, step_client (n := a.toNat) rfl] at k
    obtain ⟨an, rfl⟩ : ∃ an : Nat, a = (an : Int) := ⟨a.toNat, by omega⟩
    simp only [Int.toNat_natCast] at k
    refine ⟨_, rfl, _, rfl, ga, _, _, .int (an : Nat), rfl, rfl, SqL.of hg, at_of (j := 0) rfl rfl, da, dd, sv, mv, an, rfl, h1, by omega, ?_⟩
    obtain ⟨st, mk⟩ := x
    cases st with
    | none => exact .inl ⟨h2, k.ref hD rfl⟩
    | some S =>
      obtain ⟨sa, nm, R, rfl, hS, wf⟩ := h2
      obtain ⟨dx, cl, td, cvs, kvs, last, r, nk⟩ := hS.raw
      refine .inr ⟨sa, dx, cl, td, nm, ro, false, _, _, _, _, cvs, kvs, rfl, r, fun cad hle hcv => ?_, fun hlt => k.ref hD (by dsimp only; rw [client_none (.inr hlt)])⟩
      obtain ⟨cc, hc1, hc2⟩ := client_some (S := S) (by omega) hle
      have cm := List.mem_of_getElem? hc2
      dsimp only at k
      rw [hc1] at k
      dsimp only at k
      obtain ⟨ca1, dy1, sl1, ib1, svs1, ims1, p1, p2, p3, p4, p5, p6, p7, p8, p9, p10⟩ := r.slots hc2
      rw [p1] at hcv
      obtain rfl : ca1 = cad := by cases hcv; rfl
      have hl2 : H la = some (.lst (nI (nats l))) := by rw [hl, nI_nats fun z hz => (cr.2.2 z hz).1]
      have eon : Vbxlaa.onClient S an cc (.findPath an (nats l)) = match valueAtPlace S (nats l) with
          | none => (S, [-7])
          | some (.object id) => (S, match Vbxlaa.pathTo S cc id with
            | some q => 1 :: Vbxlaa.sized (Vbxlaa.ints q)
            | none => [0, 0])
          | some _ => (S, [-3]) := rfl
      rw [eon] at k
      refine ⟨_, rfl, da, _, dd, _, _, rfl, h1, T.k_desk, T.d_store, rfl, _, rfl, sa, la, nm, ro, false, S, R, nats l, rfl, hS, wf, SqL.of hl2, fun i ei H1 s1 hi => ?_, fun en => k.ref hD (by rw [en]), fun y ey hy => k.ref hD (by rw [ey]; cases y with
        | nothing => rfl
        | number _ => rfl
        | object i => exact absurd rfl (hy i))⟩
      rw [ei] at k
      dsimp only at k
      refine ⟨_, rfl, da, _, dd, _, _, rfl, s1 _ _ h1, T.k_desk, T.d_store, rfl, _, rfl, ga, _, _, .int (an : Nat), rfl, rfl, SqL.of (s1 _ _ hg), at_of (j := 0) rfl rfl, sa, nm, ro, false, S, R, an, cc, rfl, hS.same s1, wf, by omega, hc2, fun H2 kd kvs2 W s2 nkd hkd hP hpl => ?_⟩
      have s02 := s1.trans s2
      refine ⟨kd, rfl, .inl ⟨_, .inl hkd⟩, _, rfl, _, DGet.k (k := Sum.inl (nm i)) hkd, ?_⟩
      refine ⟨_, rfl, rfl, _, rfl, ?_⟩
      rcases path_get nk.inj (i := i) hP with ⟨ni, ev⟩ | ⟨p, pa, ef, _, ev, hpa⟩
      · rw [ev]
        have ep : Vbxlaa.pathTo S cc i = none := by
          unfold Vbxlaa.pathTo
          rw [List.find?_eq_none.mpr fun x hx => by
            intro z
            have z : x.1 = i := by simpa using z
            exact ni (z ▸ List.mem_map.mpr ⟨x, hx, rfl⟩)]
          rfl
        rw [ep] at k
        exact iteT ⟨leLine (by show 2 ≤ 1000; decide), fun q nq => k.ret hD (res := [0, 0]) rfl (s02.trans (Same.new nq)) (s02.free nq) upd_same⟩
      · rw [ev]
        have ep : Vbxlaa.pathTo S cc i = some p := by
          unfold Vbxlaa.pathTo
          rw [ef]
          rfl
        have hple : p.length ≤ 400 := hpl _ (List.mem_of_find?_eq_some ef)
        rw [ep] at k
        refine iteF ⟨leLine (by show 1 ≤ 1000; decide), fun q nq => ?_⟩
        have s3 := s02.trans (Same.new (o := .lst [.int 1]) nq)
        refine ⟨_, rfl, pa, nI p, rfl, (Same.new nq) _ _ hpa, by rw [nI_length]; omega, fun H4 q4 s4 nq4 hq4 => ?_⟩
        refine ⟨q, q4, _, _, rfl, rfl, s4 _ _ upd_same, hq4, leLine (by show 1 + ((nI p).length + 1) ≤ 1000; rw [nI_length]; omega), fun q5 nq5 => ?_⟩
        refine k.ret hD (res := 1 :: Vbxlaa.sized (Vbxlaa.ints p)) rfl ((s3.trans s4).trans (Same.new nq5)) ((s3.trans s4).free nq5) ?_
        rw [upd_same, nI_length]
        unfold Vbxlaa.sized Vbxlaa.ints nI
        rw [List.map_cons, List.map_cons, List.length_map, List.map_map]
        rfl
theorem ok_cut (T : Tx K mg ad) (D : Df K mg "cut" s_cut ["desk", "given", "row"]) (G_need : Ok P w K mg base 4 "need" ["number", "low", "high"] (spNeed ad)) (G_need_row : Ok P w K mg base 5 "need_row" ["row", "least", "most", "high"] (spNeedRow ad)) (G_client_of : Ok P w K mg base 5 "client_of" ["desk", "number"] (spClientOf K ad)) (G_thing_at : Ok P w K mg base 4 "thing_at" ["store", "place"] (spThingAt K ad)) (G_client_walk : Ok P w K mg base 3 "client_walk" ["store", "number"] (spClientWalk K ad)) (G_cut_of : Ok P w K mg base 5 "cut_of" ["store", "number", "name"] (spCutOf K ad)) (G_counted : Ok P w K mg base 1 "counted" ["row"] spCounted) : Ok P w K mg base 6 "cut" ["desk", "given", "row"] (spOp K ad 22 1 true) := by
  refine D.ok c_cut (fun vs H Q E h => ?_) (fun f cdv A outer s H vs Q E hr h => ?_)
  · obtain ⟨da, ga, la, ro, x, g, l, rfl, _⟩ := h
    rfl
  · refine ⟨_,
      (pss_cons (ps_expr (pe_c G_need hr (L2N.takes_of rfl rfl rfl rfl) (pa_cons (pe_ix ix_list (pv 1) pe_int (fun _ _ => rfl)) (pa_cons pe_int (pa_cons (pe_ci T.c_MOST_CLIENT) pa_nil)))))
        (pss_cons (ps_expr (pe_c G_need_row hr (L2N.takes_of rfl rfl rfl rfl) (pa_cons (pv 2) (pa_cons pe_int (pa_cons (pe_ci T.c_MOST_PATH) (pa_cons (pe_ci T.c_MOST_ELEMENT) pa_nil))))))
        (pss_cons (ps_expr (pe_c G_client_of hr (L2N.takes_of rfl rfl rfl rfl) (pa_cons (pv 0) (pa_cons (pe_ix ix_list (pv 1) pe_int (fun _ _ => rfl)) pa_nil))))
        (pss_cons (ps_set (i := 3) c_cut.nd rfl (Or.inl rfl) (pe_c G_thing_at hr (L2N.takes_of rfl rfl rfl rfl) (pa_cons (pe_fld (pv 0) rfl) (pa_cons (pv 2) pa_nil))))
        (pss_cons (ps_if (pt_cmpR op_notIn_seq (pv 3) (pe_c G_client_walk hr (L2N.takes_of rfl rfl rfl rfl) (pa_cons (pe_fld (pv 0) rfl) (pa_cons (pe_ix ix_list (pv 1) pe_int (fun _ _ => rfl)) pa_nil))) rfl) (pss_one (ps_ret (pe_lst (pa_cons pe_int (pa_cons pe_int pa_nil))))) pss_nil)
        (pss_one (ps_ret (pe_op op_cat (pe_lst (pa_cons pe_int pa_nil)) (pe_c G_counted hr (L2N.takes_of rfl rfl rfl rfl) (pa_cons (pe_c G_cut_of hr (L2N.takes_of rfl rfl rfl rfl) (pa_cons (pe_fld (pv 0) rfl) (pa_cons (pe_ix ix_list (pv 1) pe_int (fun _ _ => rfl)) (pa_cons (pv 3) pa_nil)))) pa_nil))))))))))
      , ?_⟩
    obtain ⟨da, ga, la, ro, x, g, l, rfl, hD, hg, hl, hga, hla, hn, hlim, hl7, k⟩ := h
    obtain ⟨dd, sv, mv, h1, h2, h3⟩ := hD.ex
    obtain ⟨a, rfl⟩ := get1 hn
    have ecall : Vbxlaa.callOf [[22, a], l] = Vbxlaa.callIf (isClient a && Vbxlaa.isPath l) (.cut a.toNat (Vbxlaa.nats l)) := rfl
    rw [show (if true = true then [22 :: [a], l] else [22 :: [a]]) = [[22, a], l] from rfl] at k
    refine ⟨_, rfl, ga, _, _, .int a, rfl, rfl, SqL.of hg, at_of (j := 0) rfl rfl, _, _, _, rfl, fun ca => ?_, fun na => k.ref hD (sr_none (by rw [ecall, show isClient a = false from within_no na]; simp [Vbxlaa.callIf]))⟩
    refine ⟨_, rfl, la, l, 1, 120, 100, rfl, hl, fun cr => ?_, fun nr => k.ref hD (sr_none (by rw [ecall, show Vbxlaa.isPath l = false from Bool.eq_false_iff.mpr fun z => nr (rowOk_path.mpr z)]; simp [Vbxlaa.callIf]))⟩
    have e1 : stepRows x [[22, a], l] = Vbxlaa.step x (.cut a.toNat (Vbxlaa.nats l)) := sr_some (by rw [ecall, show isClient a = true from within_iff.mpr ca, show Vbxlaa.isPath l = true from rowOk_path.mp cr]; rfl)
    rw [e1, step_client (n := a.toNat) rfl] at k
    obtain ⟨an, rfl⟩ : ∃ an : Nat, a = (an : Int) := ⟨a.toNat, by omega⟩
    simp only [Int.toNat_natCast] at k
    refine ⟨_, rfl, _, rfl, ga, _, _, .int (an : Nat), rfl, rfl, SqL.of hg, at_of (j := 0) rfl rfl, da, dd, sv, mv, an, rfl, h1, by omega, ?_⟩
    obtain ⟨st, mk⟩ := x
    cases st with
    | none => exact .inl ⟨h2, k.ref hD rfl⟩
    | some S =>
      obtain ⟨sa, nm, R, rfl, hS, wf⟩ := h2
      obtain ⟨dx, cl, td, cvs, kvs, last, r, nk⟩ := hS.raw
      refine .inr ⟨sa, dx, cl, td, nm, ro, false, _, _, _, _, cvs, kvs, rfl, r, fun cad hle hcv => ?_, fun hlt => k.ref hD (by dsimp only; rw [client_none (.inr hlt)])⟩
      obtain ⟨cc, hc1, hc2⟩ := client_some (S := S) (by omega) hle
      have cm := List.mem_of_getElem? hc2
      dsimp only at k
      rw [hc1] at k
      dsimp only at k
      obtain ⟨ca1, dy1, sl1, ib1, svs1, ims1, p1, p2, p3, p4, p5, p6, p7, p8, p9, p10⟩ := r.slots hc2
      rw [p1] at hcv
      obtain rfl : ca1 = cad := by cases hcv; rfl
      have hl2 : H la = some (.lst (nI (nats l))) := by rw [hl, nI_nats fun z hz => (cr.2.2 z hz).1]
      have eon : Vbxlaa.onClient S an cc (.cut an (nats l)) = match valueAtPlace S (nats l) with
          | none => (S, [-7])
          | some (.object id) => (S, if (Vbxlaa.walk S (Vbxlaa.rootValues cc)).contains id = true then 1 :: Vbxlaa.sized ((Vbxlaa.cutOf (Vbxlaa.edgesOf S cc) ((Vbxlaa.walk S (Vbxlaa.rootValues cc)).length + 1) (Vbxlaa.numberIn (Vbxlaa.walk S (Vbxlaa.rootValues cc)) id)).flatMap fun e => [(e.source : Int), (e.index : Int)]) else [0, 0])
          | some _ => (S, [-3]) := rfl
      rw [eon] at k
      refine ⟨_, rfl, da, _, dd, _, _, rfl, h1, T.k_desk, T.d_store, rfl, _, rfl, sa, la, nm, ro, false, S, R, nats l, rfl, hS, wf, SqL.of hl2, fun i ei H1 s1 hi => ?_, fun en => k.ref hD (by rw [en]), fun y ey hy => k.ref hD (by rw [ey]; cases y with
        | nothing => rfl
        | number _ => rfl
        | object i => exact absurd rfl (hy i))⟩
      rw [ei] at k
      dsimp only at k
      refine ⟨_, rfl, _, rfl, da, _, dd, _, _, rfl, s1 _ _ h1, T.k_desk, T.d_store, rfl, _, rfl, ga, _, _, .int (an : Nat), rfl, rfl, SqL.of (s1 _ _ hg), at_of (j := 0) rfl rfl, sa, nm, ro, false, S, R, an, cc, rfl, hS.same s1, wf, by omega, hc2, fun H2 p2 s2 np2 hp2 => ?_⟩
      have s02 := s1.trans s2
      refine ⟨p2, _, rfl, .inl (SqL.of hp2), rfl, ?_, ?_⟩
      · rw [show ((Vbxlaa.walk S (Vbxlaa.rootValues cc)).map fun i => V.int (nm i)) = ((Vbxlaa.walk S (Vbxlaa.rootValues cc)).map nm).map V.int from by rw [List.map_map]; rfl]
        exact flat_ints _
      rw [inV_names nk.inj]
      refine ⟨_, rfl, ?_⟩
      cases hcon : (Vbxlaa.walk S (Vbxlaa.rootValues cc)).contains i with
      | false =>
        rw [hcon] at k
        refine iteT ⟨leLine (by show 2 ≤ 1000; decide), fun q nq => ?_⟩
        exact k.ret hD (res := [0, 0]) rfl (s02.trans (Same.new nq)) (s02.free nq) upd_same
      | true =>
        rw [hcon, if_pos rfl] at k
        have him : i ∈ Vbxlaa.walk S (Vbxlaa.rootValues cc) := by simpa using hcon
        refine iteF ⟨leLine (by show 1 ≤ 1000; decide), fun q nq => ?_⟩
        have s3 := s02.trans (Same.new (o := .lst [.int 1]) nq)
        refine ⟨_, rfl, da, _, dd, _, _, rfl, s3 _ _ h1, T.k_desk, T.d_store, rfl, _, rfl, ga, _, _, .int (an : Nat), rfl, rfl, SqL.of (s3 _ _ hg), at_of (j := 0) rfl rfl, _, rfl, sa, nm, ro, false, S, R, an, cc, i, rfl, hS.same s3, wf, by omega, hc2, him, fun H4 p4 s4 np4 hlen hp4 => ?_⟩
        refine ⟨p4, _, rfl, hp4, by rw [nI_length]; omega, fun H5 q5 s5 nq5 hq5 => ?_⟩
        have s35 := s3.trans (s4.trans s5)
        refine ⟨q, q5, _, _, rfl, rfl, (s4.trans s5) _ _ upd_same, hq5, leLine (by show 1 + ((nI (cutL S cc i)).length + 1) ≤ 1000; rw [nI_length]; omega), fun q6 nq6 => ?_⟩
        have ecut : (Vbxlaa.cutOf (Vbxlaa.edgesOf S cc) ((Vbxlaa.walk S (Vbxlaa.rootValues cc)).length + 1) (Vbxlaa.numberIn (Vbxlaa.walk S (Vbxlaa.rootValues cc)) i)).flatMap (fun e => [(e.source : Int), (e.index : Int)]) = Vbxlaa.ints (cutL S cc i) := by
          unfold cutL flatE Vbxlaa.ints
          rw [List.map_flatMap]
          rfl
        rw [ecut] at k
        refine k.ret hD (res := 1 :: Vbxlaa.sized (Vbxlaa.ints (cutL S cc i))) rfl (s35.trans (Same.new nq6)) (s35.free nq6) ?_
        rw [upd_same, nI_length]
        unfold Vbxlaa.sized Vbxlaa.ints nI
        rw [List.map_cons, List.map_cons, List.length_map, List.map_map]
        rfl
end
end Sh


set_option maxHeartbeats 2000000
namespace Sh
open PySem PySem.Spec PyProof.Rows L2
open Vbxlaa (fieldsOf clientAt stepRows setSlot setClient isClient isSlot isField within emptyStore slotOf emptyClient writeField nats valueAtPlace canReach)
theorem zip_one {S : VSt} : S.clients.zipIdx = (List.range S.clients.length).map fun i => (cAt S (i + 1), i) := by
  refine List.ext_getElem? fun i => ?_
  rw [List.getElem?_zipIdx, List.getElem?_map]
  by_cases c : i < S.clients.length
  · obtain ⟨a, ha⟩ : ∃ a, S.clients[i]? = some a := ⟨_, List.getElem?_eq_getElem c⟩
    rw [ha, List.getElem?_range c]
    show some (a, 0 + i) = some (cAt S (i + 1), i)
    rw [Nat.zero_add, cAt_eq (S := S) (n := i + 1) (c := a) (by simpa using ha)]
  · rw [List.getElem?_eq_none (by omega), List.getElem?_eq_none (by rw [List.length_range]; omega)]
    rfl
theorem holders_eq (S : VSt) (id : Nat) : (S.clients.zipIdx.filter fun x => canReach S x.1 id).map (fun x => x.2 + 1) = (numsTo S.clients.length).filter fun i => canReach S (cAt S i) id := by
  unfold numsTo
  rw [zip_one, List.filter_map, List.filter_map, List.map_map]
  rfl
section
variable {P : Program} {w : World} {K : PySem.W.Frag} {mg : Str → Option Value} {base : Heap} {ad : Ad}
theorem ok_retained (T : Tx K mg ad) (D : Df K mg "retained" s_retained ["desk", "given", "row"]) (G_need : Ok P w K mg base 4 "need" ["number", "low", "high"] (spNeed ad)) (G_need_slot : Ok P w K mg base 5 "need_slot" ["number"] (spNeedSlot ad)) (G_client_of : Ok P w K mg base 5 "client_of" ["desk", "number"] (spClientOf K ad)) (G_Store_duplicate : OkM P w K mg base 5 ad.store "duplicate" ["self"] (spDuplicate K ad)) (G_store_walk : Ok P w K mg base 4 "store_walk" ["store"] (spStoreWalk K ad)) : Ok P w K mg base 6 "retained" ["desk", "given", "row"] (spOp K ad 21 2 false) := by
  refine D.ok c_retained (fun vs H Q E h => ?_) (fun f cdv A outer s H vs Q E hr h => ?_)
  · obtain ⟨da, ga, la, ro, x, g, l, rfl, _⟩ := h
    rfl
  · refine ⟨_,
      (pss_cons (ps_asg (pv 1) (pg_lst rfl (pgs_cons (pg_name (i := 3) c_retained.nd rfl (Or.inl rfl)) (pgs_cons (pg_name (i := 4) c_retained.nd rfl (Or.inl rfl)) pgs_nil))))
        (pss_cons (ps_expr (pe_c G_need hr (L2N.takes_of rfl rfl rfl rfl) (pa_cons (pv 3) (pa_cons pe_int (pa_cons (pe_ci T.c_MOST_CLIENT) pa_nil)))))
        (pss_cons (ps_expr (pe_c G_need_slot hr (L2N.takes_of rfl rfl rfl rfl) (pa_cons (pv 4) pa_nil)))
        (pss_cons (ps_expr (pe_c G_client_of hr (L2N.takes_of rfl rfl rfl rfl) (pa_cons (pv 0) (pa_cons (pv 3) pa_nil))))
        (pss_cons (ps_set (i := 5) c_retained.nd rfl (Or.inl rfl) (pe_m0 (pe_fld (pv 0) rfl) T.k_store G_Store_duplicate hr (L2N.takes_of rfl rfl rfl rfl)))
        (pss_cons (ps_asg (pe_glob (v := .ref ad.nothing) rfl T.g_NOTHING rfl) (pg_sub (pe_fld (pe_ix ix_list (pe_fld (pv 5) rfl) (pe_op op_sub (pv 3) pe_int) (fun _ _ => rfl)) rfl) (pv 4) set_list))
        (pss_one (ps_ret (pe_lst (pa_cons (pe_op op_sub (pe_callB call_len_seq (by rfl) T.b_len (by decide +kernel) (pa_cons (pe_c G_store_walk hr (L2N.takes_of rfl rfl rfl rfl) (pa_cons (pe_fld (pv 0) rfl) pa_nil)) pa_nil)) (pe_callB call_len_seq (by rfl) T.b_len (by decide +kernel) (pa_cons (pe_c G_store_walk hr (L2N.takes_of rfl rfl rfl rfl) (pa_cons (pv 5) pa_nil)) pa_nil))) pa_nil))))))))))
      , ?_⟩
    obtain ⟨da, ga, la, ro, x, g, l, rfl, hD, hg, hl, hga, hla, hn, hlim, hl7, k⟩ := h
    obtain ⟨dd, sv, mv, h1, h2, h3⟩ := hD.ex
    obtain ⟨a, b, rfl⟩ := get2 hn
    refine ⟨_, rfl, ga, _, rfl, SqL.of hg, rfl, _, _, rfl, _, _, rfl, rfl, ?_⟩
    have ecall : Vbxlaa.callOf [[21, a, b]] = Vbxlaa.callIf (isClient a && isSlot b) (.retained a.toNat b.toNat) := rfl
    rw [show (if false = true then [21 :: [a, b], l] else [21 :: [a, b]]) = [[21, a, b]] from rfl] at k
    refine ⟨_, rfl, _, _, _, rfl, fun ca => ?_, fun na => k.ref hD (sr_none (by rw [ecall, show isClient a = false from within_no na]; simp [Vbxlaa.callIf]))⟩
    refine ⟨_, rfl, _, rfl, fun cb => ?_, fun nb => k.ref hD (sr_none (by rw [ecall, show isSlot b = false from within_no nb]; simp [Vbxlaa.callIf]))⟩
    have e1 : stepRows x [[21, a, b]] = Vbxlaa.step x (.retained a.toNat b.toNat) := sr_some (by rw [ecall, show isClient a = true from within_iff.mpr ca, show isSlot b = true from within_iff.mpr cb]; rfl)
    rw [e1, step_client (n := a.toNat) rfl] at k
    obtain ⟨an, rfl⟩ : ∃ an : Nat, a = (an : Int) := ⟨a.toNat, by omega⟩
    obtain ⟨bn, rfl⟩ : ∃ bn : Nat, b = (bn : Int) := ⟨b.toNat, by omega⟩
    simp only [Int.toNat_natCast] at k
    refine ⟨_, rfl, _, rfl, da, dd, sv, mv, an, rfl, h1, by omega, ?_⟩
    obtain ⟨st, mk⟩ := x
    cases st with
    | none => exact .inl ⟨h2, k.ref hD rfl⟩
    | some S =>
      obtain ⟨sa, nm, R, rfl, hS, wf⟩ := h2
      obtain ⟨dx, cl, td, cvs, kvs, last, r, nk⟩ := hS.raw
      refine .inr ⟨sa, dx, cl, td, nm, ro, false, _, _, _, _, cvs, kvs, rfl, r, fun cad hle hcv => ?_, fun hlt => k.ref hD (by dsimp only; rw [client_none (.inr hlt)])⟩
      obtain ⟨cc, hc1, hc2⟩ := client_some (S := S) (by omega) hle
      have cm := List.mem_of_getElem? hc2
      dsimp only at k
      rw [hc1] at k
      dsimp only at k
      obtain ⟨ca1, dy1, sl1, ib1, svs1, ims1, p1, p2, p3, p4, p5, p6, p7, p8, p9, p10⟩ := r.slots hc2
      rw [p1] at hcv
      obtain rfl : ca1 = cad := by cases hcv; rfl
      have eon : Vbxlaa.onClient S an cc (.retained an bn) = (S, [((Vbxlaa.reachable S).length : Int) - (Vbxlaa.reachable (setSlot S an cc bn .nothing)).length]) := rfl
      rw [eon] at k
      refine ⟨_, rfl, da, _, dd, _, _, rfl, h1, T.k_desk, T.d_store, rfl, sa, dx, _, rfl, r.ha, rfl, sa, nm, ro, false, true, S, R, rfl, hS, wf, fun H1 ro2 p s1 fs hst => ?_⟩
      obtain ⟨dx2, cl2, td2, cvs2, kvs2, last2, r2, nk2⟩ := hst.raw
      obtain ⟨ca2, dy2, sl2, ib2, svs2, ims2, w1, w2, w3, w4, w5, w6, w7, w8, w9, w10⟩ := r2.slots hc2
      have hsl : bn < svs2.length := by rw [Paired.length w5, wf.sl cc cm]; omega
      obtain ⟨r3, ch3⟩ := w10 bn (.ref ad.nothing) .nothing ⟨ad.nothing, rfl, .inr T.nothing⟩
      have nsl : H sl2 = none := fs _ _ w4
      refine ⟨_, rfl, p, _, dx2, _, _, rfl, r2.ha, T.k_store, T.n_clients, rfl, _, rfl, _, _, rfl, rfl, cl2, cvs2, _, .ref ca2, rfl, rfl, SqL.of r2.hc, at_of (j := an - 1) (by omega) w1, ca2, _, dy2, _, _, rfl, w2, T.k_client, T.n_slots, rfl, _, rfl, sl2, svs2, _, bn, rfl, rfl, w3, ixN_ok hsl, ?_⟩
      have s2 : Same H (upd H1 sl2 (.lst (svs2.set bn (.ref ad.nothing)))) := Same.put s1 nsl
      refine ⟨_, rfl, da, _, dd, _, _, rfl, s2 _ _ h1, T.k_desk, T.d_store, rfl, sa, nm, ro, false, S, R, rfl, hS.same s2, wf, fun H3 p3 s3 np3 hp3 => ?_⟩
      refine ⟨p3, _, rfl, .inl (SqL.of hp3), ?_⟩
      have wf3 : Wf (setSlot S an cc bn .nothing) R := wf.slot hc2 (fun i e => by cases e)
      have hst3 : StoreAt K ad nm ro2 (upd H1 sl2 (.lst (svs2.set bn (.ref ad.nothing)))) true p (setSlot S an cc bn .nothing) := Raw.store (S := setSlot S an cc bn .nothing) r3 nk2
      refine ⟨_, rfl, p, nm, ro2, true, setSlot S an cc bn .nothing, R, rfl, hst3.same s3, wf3, fun H4 p4 s4 np4 hp4 => ?_⟩
      refine ⟨p4, _, rfl, .inl (SqL.of hp4), _, _, rfl, rfl, leLine (by show 1 ≤ 1000; decide), fun q nq => ?_⟩
      have s24 := s2.trans (s3.trans s4)
      refine k.ret hD (res := [((Vbxlaa.reachable S).length : Int) - (Vbxlaa.reachable (setSlot S an cc bn .nothing)).length]) rfl (s24.trans (Same.new nq)) (s24.free nq) ?_
      rw [upd_same, List.length_map, List.length_map]
      rfl
theorem ok_holders (T : Tx K mg ad) (D : Df K mg "holders" s_holders ["desk", "given", "row"]) (G_need_row : Ok P w K mg base 5 "need_row" ["row", "least", "most", "high"] (spNeedRow ad)) (G_opened : Ok P w K mg base 4 "opened" ["desk"] (spOpened ad)) (G_thing_at : Ok P w K mg base 4 "thing_at" ["store", "place"] (spThingAt K ad)) (G_range_of : Ok P w K mg base 1 "range_of" ["store"] (spRangeOf K ad)) (G_client_walk : Ok P w K mg base 3 "client_walk" ["store", "number"] (spClientWalk K ad)) (G_counted : Ok P w K mg base 1 "counted" ["row"] spCounted) : Ok P w K mg base 6 "holders" ["desk", "given", "row"] (spOp K ad 20 0 true) := by
  refine D.ok c_holders (fun vs H Q E h => ?_) (fun f cdv A outer s H vs Q E hr h => ?_)
  · obtain ⟨da, ga, la, ro, x, g, l, rfl, _⟩ := h
    rfl
  · refine ⟨_,
      (pss_cons (ps_expr (pe_c G_need_row hr (L2N.takes_of rfl rfl rfl rfl) (pa_cons (pv 2) (pa_cons pe_int (pa_cons (pe_ci T.c_MOST_PATH) (pa_cons (pe_ci T.c_MOST_ELEMENT) pa_nil))))))
        (pss_cons (ps_set (i := 3) c_holders.nd rfl (Or.inr rfl) (pe_c G_opened hr (L2N.takes_of rfl rfl rfl rfl) (pa_cons (pv 0) pa_nil)))
        (pss_cons (ps_set (i := 4) c_holders.nd rfl (Or.inr rfl) (pe_c G_thing_at hr (L2N.takes_of rfl rfl rfl rfl) (pa_cons (pv 3) (pa_cons (pv 2) pa_nil))))
        (pss_cons (ps_set (i := 5) c_holders.nd rfl (Or.inl rfl) (pe_c G_range_of hr (L2N.takes_of rfl rfl rfl rfl) (pa_cons (pv 3) pa_nil)))
        (pss_one (ps_ret (pe_c G_counted hr (L2N.takes_of rfl rfl rfl rfl) (pa_cons (pe_lc (own := [("number", 6)]) (g := (gName 6)) rfl c_holders.nd (pi_list (pv 5)) (blkOk_by (own := [("number", 6)]) (N := ["desk", "given", "row", "store", "name", "numbers", "number"]) (sc := defScope s_holders) (by decide +kernel)) (fun _ _ _ _ _ => by exact (pg_name (i := 6) c_holders.nd rfl (Or.inl rfl))) (fun _ _ _ _ _ => by exact (pts_one (pt_cmpR (op_in_seqK (K := K)) (pv 4) (pe_c G_client_walk hr takes_none (by exact (pa_cons (pv 3) (pa_cons (pv 6) pa_nil)))) rfl))) (fun _ _ _ _ _ => by exact (pv 6))) pa_nil))))))))
      , ?_⟩
    obtain ⟨da, ga, la, ro, x, g, l, rfl, hD, hg, hl, hga, hla, hn, hlim, hl7, k⟩ := h
    obtain ⟨dd, sv, mv, h1, h2, h3⟩ := hD.ex
    obtain rfl : g = [] := List.length_eq_zero_iff.mp hn
    have ecall : Vbxlaa.callOf [[20], l] = Vbxlaa.callIf (Vbxlaa.isPath l) (.holders (nats l)) := rfl
    rw [show (if true = true then [20 :: [], l] else [20 :: []]) = [[20], l] from rfl] at k
    refine ⟨_, rfl, la, l, 1, 120, 100, rfl, hl, fun cr => ?_, fun nr => k.ref hD (sr_none (by rw [ecall, show Vbxlaa.isPath l = false from Bool.eq_false_iff.mpr fun z => nr (rowOk_path.mpr z)]; simp [Vbxlaa.callIf]))⟩
    have e1 : stepRows x [[20], l] = Vbxlaa.step x (.holders (nats l)) := sr_some (by rw [ecall, show Vbxlaa.isPath l = true from rowOk_path.mp cr]; rfl)
    rw [e1] at k
    have hl2 : H la = some (.lst (nI (nats l))) := by rw [hl, nI_nats fun z hz => (cr.2.2 z hz).1]
    refine ⟨_, rfl, da, dd, sv, mv, rfl, h1, ?_⟩
    obtain ⟨st, mk⟩ := x
    cases st with
    | none => exact .inl ⟨h2, k.ref hD rfl⟩
    | some S =>
      obtain ⟨sa, nm, R, rfl, hS, wf⟩ := h2
      refine .inr ⟨sa, rfl, ?_⟩
      obtain ⟨dx, cl, td, cvs, kvs, last, r, nk⟩ := hS.raw
      have eon : Vbxlaa.step ⟨some S, mk⟩ (.holders (nats l)) = match valueAtPlace S (nats l) with
          | none => (⟨some S, mk⟩, [-7])
          | some (.object id) => (⟨some S, mk⟩, Vbxlaa.sized (Vbxlaa.ints ((S.clients.zipIdx.filter fun x => canReach S x.1 id).map fun x => x.2 + 1)))
          | some _ => (⟨some S, mk⟩, [-3]) := by
        show ((⟨some (Vbxlaa.onStore S (.holders (nats l))).1, mk⟩ : VSs), (Vbxlaa.onStore S (.holders (nats l))).2) = _
        have e2 : Vbxlaa.onStore S (.holders (nats l)) = match valueAtPlace S (nats l) with
          | none => (S, [-7])
          | some (.object id) => (S, Vbxlaa.sized (Vbxlaa.ints ((S.clients.zipIdx.filter fun x => canReach S x.1 id).map fun x => x.2 + 1)))
          | some _ => (S, [-3]) := rfl
        rw [e2]
        cases valueAtPlace S (nats l) with
        | none => rfl
        | some y => cases y <;> rfl
      rw [eon] at k
      refine ⟨_, rfl, _, rfl, sa, la, nm, ro, false, S, R, nats l, rfl, hS, wf, SqL.of hl2, fun i ei H1 s1 hi => ?_, fun en => k.ref hD (by rw [en]), fun y ey hy => k.ref hD (by rw [ey]; cases y with
        | nothing => rfl
        | number _ => rfl
        | object i => exact absurd rfl (hy i))⟩
      rw [ei] at k
      dsimp only at k
      rw [holders_eq] at k
      have hc4 := wf.c4
      refine ⟨_, rfl, sa, dx, cl, td, nm, ro, false, _, _, _, _, cvs, kvs, rfl, r.keep (Kept.same s1), hc4, fun H2 p2 s2 np2 hp2 => ?_⟩
      have s02 := s1.trans s2
      refine ⟨_, rfl, p2, rfl, ⟨_, SqL.of hp2⟩, fun L nL => lc_list (K := K) (a := p2) (xs := nI (numsTo S.clients.length)) (fun j H3 => ∃ acc, Bld H2 L acc H3 ∧ acc.length ≤ j ∧ acc = nI (((numsTo S.clients.length).take j).filter fun i2 => canReach S (cAt S i2) i)) ⟨[], Bld.start nL, Nat.zero_le _, rfl⟩ (fun j H3 _ ⟨_, hB, _⟩ => SqL.of (hB.sm _ _ hp2)) ?_ ?_⟩
      · rintro j y H3 hj ⟨acc, hB, hal, ea⟩
        obtain ⟨n, hn1, rfl⟩ := nI_get hj
        obtain ⟨n1, n2⟩ := numsTo_mem (List.mem_of_getElem? hn1)
        obtain ⟨c, hc1, hc2⟩ := client_some (S := S) n1 n2
        have hjl : j < (numsTo S.clients.length).length := (List.getElem?_eq_some_iff.mp hn1).1
        rw [numsTo_length] at hjl
        have s03 := s02.trans hB.sm
        have et : (numsTo S.clients.length).take (j + 1) = (numsTo S.clients.length).take j ++ [n] := by
          obtain ⟨hq, e⟩ := List.getElem?_eq_some_iff.mp hn1
          rw [List.take_succ_eq_append_getElem hq, e]
        refine ⟨rfl, _, rfl, _, rfl, _, rfl, sa, nm, ro, false, S, R, n, c, rfl, hS.same s03, wf, n1, hc2, fun H4 p4 s4 np4 hp4 => ?_⟩
        have B4 := hB.grow s4
        refine ⟨p4, _, rfl, .inl (SqL.of hp4), rfl, ?_, ?_⟩
        · rw [show ((Vbxlaa.walk S (Vbxlaa.rootValues c)).map fun i => V.int (nm i)) = ((Vbxlaa.walk S (Vbxlaa.rootValues c)).map nm).map V.int from by rw [List.map_map]; rfl]
          exact flat_ints _
        rw [inV_names nk.inj]
        refine ⟨_, rfl, ?_⟩
        have ecr : canReach S (cAt S n) i = (Vbxlaa.walk S (Vbxlaa.rootValues c)).contains i := by rw [cAt_eq hc2]; rfl
        cases hcon : (Vbxlaa.walk S (Vbxlaa.rootValues c)).contains i with
        | true =>
          refine iteT ⟨_, rfl, acc, B4.at_, small1000 (by omega), _, B4.put nL, by rw [List.length_append, List.length_singleton]; omega, ?_⟩
          rw [et, List.filter_append, List.filter_cons, ecr, hcon, ea]
          unfold nI
          rw [List.map_append]
          rfl
        | false =>
          refine iteF ⟨acc, B4, by omega, ?_⟩
          rw [et, List.filter_append, List.filter_cons, ecr, hcon, ea]
          simp
      · rintro H3 ⟨acc, hB, hal, ea⟩
        rw [nI_length, List.take_length] at ea
        rw [nI_length, numsTo_length] at hal
        refine ⟨L, acc, rfl, hB.at_, by omega, fun H4 q s4 nq hq => ?_⟩
        have s03 := s02.trans hB.sm
        refine k.ret hD (res := Vbxlaa.sized (Vbxlaa.ints ((numsTo S.clients.length).filter fun i2 => canReach S (cAt S i2) i))) rfl (s03.trans s4) (s03.free nq) ?_
        rw [hq, ea, nI_length]
        unfold Vbxlaa.sized Vbxlaa.ints nI
        rw [List.map_cons, List.length_map, List.map_map]
        rfl
end
end Sh


set_option maxHeartbeats 2000000
namespace Sh
open PySem PySem.Spec PyProof.Rows L2
open Vbxlaa (fieldsOf clientAt stepRows setSlot setClient isClient isSlot isField within emptyStore slotOf emptyClient writeField nats valueAtPlace putValues)
def pairD (nm : Nat → Int) (x : VV) : PyData := .tuple [.int (vk x), .int (vp nm x)]
def msgD (nm : Nat → Int) (m : List VV) : PyData := .list (m.map (pairD nm))
theorem lay_pairs (nm : Nat → Int) : ∀ m : List VV, PyData.canLayAll0 (m.map (pairD nm)) = true ∧ PyData.depthAll (m.map (pairD nm)) ≤ 1
  | [] => ⟨rfl, Nat.zero_le _⟩
  | x :: m => by
    obtain ⟨a, b⟩ := lay_pairs nm m
    constructor
    · simp [pairD, PyData.canLayAll0, PyData.canLay0] at a ⊢
      exact a
    · simp [pairD, PyData.depthAll, PyData.depth] at b ⊢
      omega
theorem lay_msgs (nm : Nat → Int) : ∀ l : List (List VV), PyData.canLayAll0 (l.map (msgD nm)) = true ∧ PyData.depthAll (l.map (msgD nm)) ≤ 2
  | [] => ⟨rfl, Nat.zero_le _⟩
  | m :: l => by
    obtain ⟨a, b⟩ := lay_msgs nm l
    obtain ⟨c, d⟩ := lay_pairs nm m
    constructor
    · rw [List.map_cons]
      unfold PyData.canLayAll0
      rw [a]
      simp [msgD, PyData.canLay0, c]
    · rw [List.map_cons]
      unfold PyData.depthAll
      have : PyData.depth (msgD nm m) ≤ 2 := by
        simp [msgD, PyData.depth]
        omega
      omega
theorem shaped_msgs (nm : Nat → Int) (l : List (List VV)) : SeqAt.shaped (.list (l.map (msgD nm))) = true := by
  obtain ⟨a, b⟩ := lay_msgs nm l
  unfold SeqAt.shaped
  simp [PyData.canLay0, PyData.depth, a]
  omega
theorem dp_row {K : PySem.W.Frag} {nm : Nat → Int} {H : Hp} : ∀ {vs : List V} {xs : List VV}, Row K nm H vs xs → DpAll K H vs (xs.map (pairD nm))
  | _, _, .nil => .nil
  | _, _, .cons r t => .cons (isV_dp r) (dp_row t)
theorem dp_msgs {K : PySem.W.Frag} {nm : Nat → Int} {ro : Rm} {H : Hp} : ∀ {vs : List V} {ms : List (List VV)}, Paired (MsgAt K nm ro H) vs ms → DpAll K H vs (ms.map (msgD nm))
  | _, _, .nil => .nil
  | _, _, .cons ⟨_, _, rfl, h1, _, h3⟩ t => .cons (.lst (SqL.of h1) (dp_row h3)) (dp_msgs t)
theorem put_snoc (v : VV) : ∀ (l s : List VV) (i : Nat), putValues s i (l ++ [v]) = (putValues s i l).set (i + l.length) v
  | [], s, i => rfl
  | x :: l, s, i => by
    show putValues (s.set i x) (i + 1) (l ++ [v]) = (putValues (s.set i x) (i + 1) l).set (i + (l.length + 1)) v
    rw [put_snoc v l]
    congr 1
    omega
theorem put_len : ∀ (l s : List VV) (i : Nat), (putValues s i l).length = s.length
  | [], _, _ => rfl
  | x :: l, s, i => by
    show (putValues (s.set i x) (i + 1) l).length = _
    rw [put_len l, List.length_set]
theorem put_mem {v : VV} : ∀ (l s : List VV) (i : Nat), v ∈ putValues s i l → v ∈ s ∨ v ∈ l
  | [], _, _, h => .inl h
  | x :: l, s, i, h => by
    rcases put_mem l (s.set i x) (i + 1) h with h | h
    · rcases List.mem_or_eq_of_mem_set h with h | rfl
      · exact .inl h
      · exact .inr List.mem_cons_self
    · exact .inr (List.mem_cons_of_mem _ h)
section
variable {P : Program} {w : World} {K : PySem.W.Frag} {mg : Str → Option Value} {base : Heap} {ad : Ad}
theorem ok_receive (T : Tx K mg ad) (D : Df K mg "receive" s_receive ["desk", "given", "row"]) (G_need : Ok P w K mg base 4 "need" ["number", "low", "high"] (spNeed ad)) (G_need_slot : Ok P w K mg base 5 "need_slot" ["number"] (spNeedSlot ad)) (G_client_of : Ok P w K mg base 5 "client_of" ["desk", "number"] (spClientOf K ad)) (G_refuse_unless : Ok P w K mg base 3 "refuse_unless" ["is_right", "code"] (spRefuse ad)) : Ok P w K mg base 6 "receive" ["desk", "given", "row"] (spOp K ad 10 2 false) := by
  refine D.ok c_receive (fun vs H Q E h => ?_) (fun f cdv A outer s H vs Q E hr h => ?_)
  · obtain ⟨da, ga, la, ro, x, g, l, rfl, _⟩ := h
    rfl
  · refine ⟨_,
      (pss_cons (ps_asg (pv 1) (pg_lst rfl (pgs_cons (pg_name (i := 3) c_receive.nd rfl (Or.inl rfl)) (pgs_cons (pg_name (i := 4) c_receive.nd rfl (Or.inl rfl)) pgs_nil))))
        (pss_cons (ps_expr (pe_c G_need hr (L2N.takes_of rfl rfl rfl rfl) (pa_cons (pv 3) (pa_cons pe_int (pa_cons (pe_ci T.c_MOST_CLIENT) pa_nil)))))
        (pss_cons (ps_expr (pe_c G_need_slot hr (L2N.takes_of rfl rfl rfl rfl) (pa_cons (pv 4) pa_nil)))
        (pss_cons (ps_set (i := 5) c_receive.nd rfl (Or.inl rfl) (pe_c G_client_of hr (L2N.takes_of rfl rfl rfl rfl) (pa_cons (pv 0) (pa_cons (pv 3) pa_nil))))
        (pss_cons (ps_expr (pe_c G_refuse_unless hr (L2N.takes_of rfl rfl rfl rfl) (pa_cons (pe_cmpR (op_neD hr.units) (pe_fld (pv 5) rfl) (pe_lst pa_nil) (nomark _)) (pa_cons (pe_un un_neg pe_int) pa_nil))))
        (pss_cons (ps_set (i := 6) c_receive.nd rfl (Or.inl rfl) (pe_ix ix_list (pe_fld (pv 5) rfl) pe_int (fun _ _ => rfl)))
        (pss_cons (ps_expr (pe_c G_refuse_unless hr (L2N.takes_of rfl rfl rfl rfl) (pa_cons (pe_cmpR op_le (pe_op op_add (pv 4) (pe_callB call_len_seq (by rfl) T.b_len (by decide +kernel) (pa_cons (pv 6) pa_nil))) (pe_ci T.c_SLOTS) (nomark _)) (pa_cons (pe_un un_neg pe_int) pa_nil))))
        (pss_cons (ps_fld (pv 5) (pe_slice sl_list (pe_fld (pv 5) rfl) (po_some pe_int) po_none) rfl)
        (pss_cons (ps_for (passes_of rfl) rfl (pi_enum (by rfl) T.b_enumerate (pa_cons (pv 6) pa_nil)) (pg_tup rfl (pgs_cons (pg_name (i := 7) c_receive.nd rfl (Or.inl rfl)) (pgs_cons (pg_name (i := 8) c_receive.nd rfl (Or.inl rfl)) pgs_nil)))
          (pss_one (ps_asg (pv 8) (pg_sub (pe_fld (pv 5) rfl) (pe_op op_add (pv 4) (pv 7)) set_list))))
        (pss_one (ps_ret (pe_lst (pa_cons (pe_callB call_len_seq (by rfl) T.b_len (by decide +kernel) (pa_cons (pv 6) pa_nil)) pa_nil)))))))))))))
      , ?_⟩
    obtain ⟨da, ga, la, ro, x, g, l, rfl, hD, hg, hl, hga, hla, hn, hlim, hl7, k⟩ := h
    obtain ⟨dd, sv, mv, h1, h2, h3⟩ := hD.ex
    obtain ⟨a, b, rfl⟩ := get2 hn
    refine ⟨_, rfl, ga, _, rfl, SqL.of hg, rfl, _, _, rfl, _, _, rfl, rfl, ?_⟩
    have ecall : Vbxlaa.callOf [[10, a, b]] = Vbxlaa.callIf (isClient a && isSlot b) (.receive a.toNat b.toNat) := rfl
    rw [show (if false = true then [10 :: [a, b], l] else [10 :: [a, b]]) = [[10, a, b]] from rfl] at k
    refine ⟨_, rfl, _, _, _, rfl, fun ca => ?_, fun na => k.ref hD (sr_none (by rw [ecall, show isClient a = false from within_no na]; simp [Vbxlaa.callIf]))⟩
    refine ⟨_, rfl, _, rfl, fun cb => ?_, fun nb => k.ref hD (sr_none (by rw [ecall, show isSlot b = false from within_no nb]; simp [Vbxlaa.callIf]))⟩
    have e1 : stepRows x [[10, a, b]] = Vbxlaa.step x (.receive a.toNat b.toNat) := sr_some (by rw [ecall, show isClient a = true from within_iff.mpr ca, show isSlot b = true from within_iff.mpr cb]; rfl)
    rw [e1, step_client (n := a.toNat) rfl] at k
    obtain ⟨an, rfl⟩ : ∃ an : Nat, a = (an : Int) := ⟨a.toNat, by omega⟩
    obtain ⟨bn, rfl⟩ : ∃ bn : Nat, b = (bn : Int) := ⟨b.toNat, by omega⟩
    simp only [Int.toNat_natCast] at k
    refine ⟨_, rfl, _, rfl, da, dd, sv, mv, an, rfl, h1, by omega, ?_⟩
    obtain ⟨st, mk⟩ := x
    cases st with
    | none => exact .inl ⟨h2, k.ref hD rfl⟩
    | some S =>
      obtain ⟨sa, nm, R, rfl, hS, wf⟩ := h2
      obtain ⟨dx, cl, td, cvs, kvs, last, r, nk⟩ := hS.raw
      refine .inr ⟨sa, dx, cl, td, nm, ro, false, _, _, _, _, cvs, kvs, rfl, r, fun cad hle hcv => ?_, fun hlt => k.ref hD (by dsimp only; rw [client_none (.inr hlt)])⟩
      obtain ⟨cc, hc1, hc2⟩ := client_some (S := S) (by omega) hle
      have cm := List.mem_of_getElem? hc2
      dsimp only at k
      rw [hc1] at k
      dsimp only at k
      obtain ⟨ca1, dy1, sl1, ib1, svs1, ims1, p1, p2, p3, p4, p5, p6, p7, p8, p9, p10⟩ := r.slots hc2
      rw [p1] at hcv
      obtain rfl : ca1 = cad := by cases hcv; rfl
      have eon : Vbxlaa.onClient S an cc (.receive an bn) = match cc.inbox with
          | [] => (S, [-6])
          | m :: l => if 6 < bn + m.length then (S, [-4]) else (setClient S an ⟨putValues cc.slots bn m, l⟩, [(m.length : Int)]) := by
        show (match cc.inbox with
          | [] => (S, [-6])
          | m :: l => if Vbxlaa.slotCount < bn + m.length then (S, [-4]) else (setClient S an ⟨putValues cc.slots bn m, l⟩, [(m.length : Int)])) = _
        cases cc.inbox <;> rfl
      rw [eon] at k
      have hims : ims1.length = cc.inbox.length := Paired.length p8
      refine ⟨_, rfl, ca1, _, dy1, _, _, rfl, p2, T.k_client, T.n_inbox, rfl, leLine (by decide), fun e0 n0 => ?_⟩
      have s1 : Same H (upd H e0 (.lst [])) := Same.new n0
      refine ⟨_, .list [], .lst (SqL.of (s1 _ _ p6)) (dp_msgs (Paired.mapP p8 fun _ _ z => z.keep (b := false) (Kept.same s1))), .lst (SqL.of upd_same) .nil, shaped_msgs nm _, rfl, _, rfl, _, _, rfl, fun e => ?_, fun e => (k.ref hD ?_).later s1⟩
      rotate_left
      · rw [eqv_nil] at e
        cases ei : cc.inbox with
        | nil => rfl
        | cons m ml => rw [ei] at e; cases e
      rw [eqv_nil] at e
      obtain ⟨m, ml, ei⟩ : ∃ m ml, cc.inbox = m :: ml := by
        cases ei : cc.inbox with
        | nil => rw [ei] at e; cases e
        | cons m ml => exact ⟨m, ml, rfl⟩
      rw [ei] at k
      dsimp only at k
      obtain ⟨mv, hmv, ma, mvs, rfl, g1, g2, g3⟩ := pair_get p8 (show cc.inbox[0]? = some m by rw [ei]; rfl)
      have hmlen : mvs.length = m.length := Paired.length g3
      have hms := wf.ms cc cm m (by rw [ei]; exact List.mem_cons_self)
      refine ⟨_, rfl, ca1, _, dy1, _, _, rfl, s1 _ _ p2, T.k_client, T.n_inbox, rfl, ib1, ims1, _, .ref ma, rfl, rfl, SqL.of (s1 _ _ p6), at_of (j := 0) rfl hmv, ?_⟩
      refine ⟨_, rfl, _, rfl, ma, mvs, rfl, .inl (SqL.of (s1 _ _ g1)), _, _, rfl, rfl, _, _, rfl, rfl, _, rfl, _, _, rfl, fun e2 => ?_, fun e2 => (k.ref hD ?_).later s1⟩
      rotate_left
      · have : 6 < bn + m.length := by have := of_decide_eq_false e2; omega
        rw [if_pos this]
      have hfit : bn + m.length ≤ 6 := by have := of_decide_eq_true e2; omega
      rw [if_neg (by omega)] at k
      -- client.inbox = client.inbox[1:]
      refine ⟨_, rfl, ca1, _, dy1, _, _, rfl, s1 _ _ p2, T.k_client, T.n_inbox, rfl, _, rfl, ib1, ims1, rfl, SqL.of (s1 _ _ p6), fun nb nnb => ?_⟩
      rw [show cutV ims1 (some 1) none = ims1.drop 1 from by rw [show (1 : Int) = ((1 : Nat) : Int) from rfl, cut_from]]
      have s2 := s1.trans (Same.new (o := .lst (ims1.drop 1)) nnb)
      refine ⟨_, rfl, ca1, _, dy1, _, rfl, s2 _ _ p2, T.k_client, T.n_inbox, by show 2 < 1000; decide, ?_⟩
      have nbH : H nb = none := s1.free nnb
      have hnb : (upd (upd H e0 (.lst [])) nb (.lst (ims1.drop 1))) nb = some (.lst (ims1.drop 1)) := upd_same
      generalize upd (upd H e0 (.lst [])) nb (.lst (ims1.drop 1)) = H2 at *
      have ncs : ca1 ≠ sl1 := ne_role p9 p4 (by simp)
      have ncm : ma ≠ ca1 := ne_role g2 p9 (by simp)
      have nms : ma ≠ sl1 := ne_role g2 p4 (by simp)
      have nbc : nb ≠ ca1 := Ne.symm (ne_of_none p2 nbH)
      have nbs : nb ≠ sl1 := Ne.symm (ne_of_none p3 nbH)
      have tp3 : Tups H2 (upd H2 ca1 (.ins ad.client dy1 (putF "inbox" (.ref nb) [("slots", .ref sl1), ("inbox", .ref ib1)]))) := Tups.write (s2 _ _ p2) fun _ z => by cases z
      have hma3 : (upd H2 ca1 (.ins ad.client dy1 (putF "inbox" (.ref nb) [("slots", .ref sl1), ("inbox", .ref ib1)]))) ma = some (.lst mvs) := (upd_ne ncm).trans (s2 _ _ g1)
      have hsl3 : (upd H2 ca1 (.ins ad.client dy1 (putF "inbox" (.ref nb) [("slots", .ref sl1), ("inbox", .ref ib1)]))) sl1 = some (.lst svs1) := (upd_ne (Ne.symm ncs)).trans (s2 _ _ p3)
      have hca3 : (upd H2 ca1 (.ins ad.client dy1 (putF "inbox" (.ref nb) [("slots", .ref sl1), ("inbox", .ref ib1)]))) ca1 = some (.ins ad.client dy1 [("slots", .ref sl1), ("inbox", .ref nb)]) := upd_same
      have hnb3 : (upd H2 ca1 (.ins ad.client dy1 (putF "inbox" (.ref nb) [("slots", .ref sl1), ("inbox", .ref ib1)]))) nb = some (.lst (ims1.drop 1)) := (upd_ne nbc).trans hnb
      have kp3 : ∀ x o, x ≠ ca1 → H x = some o → (upd H2 ca1 (.ins ad.client dy1 (putF "inbox" (.ref nb) [("slots", .ref sl1), ("inbox", .ref ib1)]))) x = some o := fun x o n e => (upd_ne n).trans (s2 _ _ e)
      have al3 := upd_all (a := ca1) (u := .ins ad.client dy1 (putF "inbox" (.ref nb) [("slots", .ref sl1), ("inbox", .ref ib1)])) s2
      have tp03 : Tups H (upd H2 ca1 (.ins ad.client dy1 (putF "inbox" (.ref nb) [("slots", .ref sl1), ("inbox", .ref ib1)]))) := (Same.tups s2).trans tp3
      generalize upd H2 ca1 (.ins ad.client dy1 (putF "inbox" (.ref nb) [("slots", .ref sl1), ("inbox", .ref ib1)])) = H3 at *
      have hlv : svs1.length = 6 := (Paired.length p5).trans (wf.sl cc cm)
      refine ⟨_, rfl, ma, _, rfl, SqL.of hma3, ?_⟩
      refine for_it (walk_enum (K := K) (a := ma) (xs := mvs)) (fun j σ H4 => ∃ (v7 v8 : Option V) (svs : List V), σ = [some (.ref da), some (.ref ga), some (.ref la), some (.int (an : Nat)), some (.int (bn : Nat)), some (.ref ca1), some (.ref ma), v7, v8] ∧ SL sl1 H3 H4 ∧ H4 sl1 = some (.lst svs) ∧ Row K nm H4 svs (putValues cc.slots bn (m.take j)))
        ⟨none, none, svs1, rfl, SL.refl, hsl3, Row.keep p5 tp03⟩ (fun j σ H4 _ ⟨_, _, _, _, sl, _⟩ => SqL.of (sl _ _ nms hma3)) ?_ ?_
      · rintro j z σ H4 H5 hj ⟨v7, v8, svs, rfl, sl, hs4, hrow⟩ ⟨t, x0, y0, rfl, nt, rfl, ex, ey⟩
        cases ex
        obtain ⟨y, hy, iy⟩ := pair_get' g3 (show mvs[j]? = some y0 from ey)
        have s5 : Same H4 (upd H4 t (.tup [.int (j : Nat), y0])) := Same.new nt
        have hsv : svs.length = 6 := by rw [Paired.length hrow, put_len]; exact wf.sl cc cm
        refine ⟨t, _, rfl, SqT.of upd_same, rfl, _, _, rfl, _, _, rfl, rfl, ?_⟩
        have ej : ((bn : Int) + (j : Int)) = ((bn + j : Nat) : Int) := by omega
        refine ⟨_, rfl, _, rfl, ca1, _, dy1, _, _, rfl, s5 _ _ (sl _ _ ncs hca3), T.k_client, T.n_slots, rfl, _, rfl, _, rfl, _, _, rfl, rfl, sl1, svs, _, bn + j, rfl, rfl, s5 _ _ hs4, by rw [ej]; exact ixN_ok (by omega), ?_⟩
        have tp5 : Tups H4 (upd (upd H4 t (.tup [.int (j : Nat), y0])) sl1 (.lst (svs.set (bn + j) y0))) := (Same.tups s5).trans (Tups.write (s5 _ _ hs4) fun _ z => by cases z)
        refine ⟨_, _, _, rfl, (sl.trans (SL.same s5)).put, upd_same, ?_⟩
        have et : m.take (j + 1) = m.take j ++ [y] := by
          obtain ⟨hq, e⟩ := List.getElem?_eq_some_iff.mp hy
          rw [List.take_succ_eq_append_getElem hq, e]
        have hjm : j < m.length := (List.getElem?_eq_some_iff.mp hy).1
        rw [et, put_snoc, List.length_take, Nat.min_eq_left (Nat.le_of_lt hjm)]
        exact pair_set (iy.keep ((tp03.trans (sl.tups hsl3)).trans tp5)) _ (Row.keep hrow tp5)
      · rintro σ H4 ⟨v7, v8, svs, rfl, sl, hs4, hrow⟩
        rw [hmlen, List.take_length] at hrow
        have tp04 := tp03.trans (sl.tups hsl3)
        have kp4 : ∀ x o, x ≠ ca1 → x ≠ sl1 → H x = some o → H4 x = some o := fun x o n1 n2 e => sl _ _ n2 (kp3 x o n1 e)
        have al4 : ∀ x o, H x = some o → ∃ o', H4 x = some o' := fun x o e => by
          by_cases c2 : x = sl1
          · exact ⟨_, c2 ▸ hs4⟩
          · obtain ⟨o', e'⟩ := al3 x o e
            exact ⟨o', sl _ _ c2 e'⟩
        have rn : RoN H ro (upR ro nb (.inbox false (an - 1))) := RoN.refl.up nbH
        have ch : Ch false H H4 ro (upR ro nb (.inbox false (an - 1))) := ⟨fun x o e h => kp4 x o (fun c => by
            subst c
            rcases h _ p9 with z | z
            · cases z
            · simp [Ro.own] at z) (fun c => by
            subst c
            rcases h _ p4 with z | z
            · cases z
            · simp [Ro.own] at z) e, rn, tp04, al4⟩
        have cnew : ClientAt K ad nm (upR ro nb (.inbox false (an - 1))) H4 false (an - 1) ca1 ⟨putValues cc.slots bn m, ml⟩ := by
          refine ⟨dy1, sl1, nb, svs, ims1.drop 1, sl _ _ ncs hca3, (rn _ _ p2).trans p9, hs4, (rn _ _ p3).trans p4, hrow, sl _ _ nbs hnb3, upR_same, ?_⟩
          have pd := pair_drop 1 p8
          rw [ei] at pd
          refine Paired.mapP pd fun v mm z => z.keep' tp04 fun x o e q => ⟨kp4 x o (ne_role q p9 (by simp)) (ne_role q p4 (by simp)) e, (rn _ _ e).trans q⟩
        have r2 := r.client (ro' := upR ro nb (.inbox false (an - 1))) hc2 p1 tp04 (fun x o q e z hb n1 n2 n3 => ⟨kp4 x o (ne_role z p9 n1) (ne_role z p4 n2) e, (rn _ _ e).trans z⟩) cnew
        have hmm : ∀ x ∈ ml, x ∈ cc.inbox := fun x hx => by rw [ei]; exact List.mem_cons_of_mem _ hx
        have hib := wf.ib cc cm
        have wf2 : Wf (setClient S an ⟨putValues cc.slots bn m, ml⟩) R := wf.setC (by show (putValues cc.slots bn m).length = 6; rw [put_len]; exact wf.sl cc cm) (by show ml.length ≤ 4; rw [ei, List.length_cons] at hib; omega) (fun x hx => wf.ms cc cm x (hmm x hx)) (fun v hv => by
          rcases put_mem _ _ _ hv with h | h
          · exact wf.ls cc cm v h
          · exact wf.lm cc cm m (by rw [ei]; exact List.mem_cons_self) v h) (fun x hx => wf.lm cc cm x (hmm x hx))
        have hD2 : DeskAt K ad (upR ro nb (.inbox false (an - 1))) H4 da ⟨some (setClient S an ⟨putValues cc.slots bn m, ml⟩), mk⟩ := hD.ch ch fun dd2 sv2 mv2 e => by
          rw [h1] at e
          cases e
          exact ⟨sa, nm, R, rfl, Raw.store (S := setClient S an ⟨putValues cc.slots bn m, ml⟩) r2 nk, wf2⟩
        refine ⟨_, rfl, ma, _, rfl, .inl (SqL.of (sl _ _ nms hma3)), leLine (by show 1 ≤ 1000; decide), fun p np => ?_⟩
        have np0 : H p = none := by
          cases q : H p with
          | none => rfl
          | some u =>
            obtain ⟨u2, hu2⟩ := al4 p u q
            rw [hu2] at np
            cases np
        have s6 := Same.new (o := .lst [.int (mvs.length : Nat)]) np
        refine k.chg (x' := ⟨some (setClient S an ⟨putValues cc.slots bn m, ml⟩), mk⟩) (res := [(m.length : Int)]) rfl (ch.fr.trans (Fr.same s6)) (hD2.same s6) np0 ?_
        rw [upd_same, hmlen]
        rfl
end
end Sh


set_option maxHeartbeats 2000000
namespace Sh
open PySem PySem.Spec PyProof.Rows L2
open Vbxlaa (fieldsOf clientAt stepRows setSlot setClient within nats removeObjects unreachable reachable)
section
variable {P : Program} {w : World} {K : PySem.W.Frag} {mg : Str → Option Value} {base : Heap} {ad : Ad}
theorem Wf.sweep {S : VSt} {R : Nat → Prop} (w : Wf S R) {ids : List Nat} (h : ∀ i ∈ ids, i ∉ reachable S) : Wf (removeObjects S ids) fun i => i ∈ reachable S := by
  obtain ⟨fu, fu2⟩ := walk_full w (all_live w)
  have fu : Full S R (reachable S) := fu
  have fu2 : ∀ j, Vbxlaa.Value.object j ∈ Vbxlaa.allRootValues S → j ∈ reachable S := fu2
  have hm : ∀ o ∈ (removeObjects S ids).objects, o ∈ S.objects := fun o ho => (List.mem_filter.mp ho).1
  have hsub : ((removeObjects S ids).objects).Sublist S.objects := List.filter_sublist
  refine { c1 := w.c1, c4 := w.c4, sl := w.sl, ib := w.ib, ms := w.ms, fl := fun o ho => w.fl o (hm o ho), nd := (hsub.map _).nodup w.nd, lt := fun o ho => w.lt o (hm o ho), ol := Nat.le_trans hsub.length_le w.ol, mx := w.mx, ls := fun c hc v hv i e => fu2 i (List.mem_flatMap.mpr ⟨c, hc, mem_roots_slot (e ▸ hv)⟩), lm := fun c hc m hmm v hv i e => fu2 i (List.mem_flatMap.mpr ⟨c, hc, mem_roots_msg hmm (e ▸ hv)⟩), st := fun i hi => ?_, lf := fun o ho hr v hv i e => fu.cl o.id hr i ?_ }
  · obtain ⟨o, ho, rfl⟩ := w.st i (fu.lv i hi)
    refine ⟨o, List.mem_filter.mpr ⟨ho, ?_⟩, rfl⟩
    have : o.id ∉ ids := fun z => h _ z hi
    simpa using this
  · rw [fieldsOf_mem w.nd (hm o ho), ← e]
    exact hv
theorem ok_sweep (T : Tx K mg ad) (D : Df K mg "sweep" s_sweep ["desk", "given", "row"]) (G_need : Ok P w K mg base 4 "need" ["number", "low", "high"] (spNeed ad)) (G_opened : Ok P w K mg base 4 "opened" ["desk"] (spOpened ad)) (G_unreached : Ok P w K mg base 5 "unreached" ["store"] (spUnreached K ad)) (G_refuse_unless : Ok P w K mg base 3 "refuse_unless" ["is_right", "code"] (spRefuse ad)) : Ok P w K mg base 6 "sweep" ["desk", "given", "row"] (spOp K ad 24 0 true) := by
  refine D.ok c_sweep (fun vs H Q E h => ?_) (fun f cdv A outer s H vs Q E hr h => ?_)
  · obtain ⟨da, ga, la, ro, x, g, l, rfl, _⟩ := h
    rfl
  · refine ⟨_,
      (pss_cons (ps_for (passes_of rfl) rfl (pi_list (pv 2)) (pg_name (i := 3) c_sweep.nd rfl (Or.inl rfl))
          (pss_one (ps_expr (pe_c G_need hr (L2N.takes_of rfl rfl rfl rfl) (pa_cons (pv 3) (pa_cons pe_int (pa_cons pe_int pa_nil)))))))
        (pss_cons (ps_set (i := 4) c_sweep.nd rfl (Or.inl rfl) (pe_c G_opened hr (L2N.takes_of rfl rfl rfl rfl) (pa_cons (pv 0) pa_nil)))
        (pss_cons (ps_set (i := 5) c_sweep.nd rfl (Or.inl rfl) (pe_c G_unreached hr (L2N.takes_of rfl rfl rfl rfl) (pa_cons (pv 4) pa_nil)))
        (pss_cons (ps_expr (pe_c G_refuse_unless hr (L2N.takes_of rfl rfl rfl rfl) (pa_cons (pe_cmpR op_eq (pe_callB call_len_seq (by rfl) T.b_len (by decide +kernel) (pa_cons (pv 2) pa_nil)) (pe_callB call_len_seq (by rfl) T.b_len (by decide +kernel) (pa_cons (pv 5) pa_nil)) (nomark _)) (pa_cons (pe_un un_neg pe_int) pa_nil))))
        (pss_cons (ps_setLc (i := 7) (own := [("name", 6), ("flag", 3)]) (g := (gTup K 2 (gCons (gName 6) (gCons (gName 3) gNil)))) rfl c_sweep.nd rfl rfl (sw_true rfl rfl rfl (by decide +kernel)) (pi_zip (by rfl) T.b_zip (pa_cons (pv 5) (pa_cons (pv 2) pa_nil))) (blkOk_by (own := [("name", 6), ("flag", 3)]) (N := ["desk", "given", "row", "flag", "store", "names", "name", "gone", "kept"]) (sc := defScope s_sweep) (by decide +kernel)) (fun _ _ _ _ _ => by exact (pg_tup rfl (pgs_cons (pg_name (i := 6) c_sweep.nd rfl (Or.inl rfl)) (pgs_cons (pg_name (i := 3) c_sweep.nd rfl (Or.inl rfl)) pgs_nil)))) (fun _ _ _ _ _ => by exact (pts_one (pt_cmpR op_eq (pv 3) pe_int (nomark _)))) (fun _ _ _ _ _ => by exact (pv 6)))
        (pss_cons (ps_set (i := 8) c_sweep.nd rfl (Or.inl rfl) pe_dnewK)
        (pss_cons (ps_for (passes_of rfl) rfl (pi_list (pe_callTy (call_list_dK rfl) (by rfl) T.b_list (by decide +kernel) (pa_cons (pe_fld (pv 4) rfl) pa_nil))) (pg_name (i := 6) c_sweep.nd rfl (Or.inl rfl))
          (pss_one (ps_if (pt_cmpR op_notIn_seq (pv 6) (pv 7) rfl) (pss_one (ps_asg (pe_dget (hu_of hr) (pe_fld (pv 4) rfl) (pv 6) (fun _ _ => rfl)) (pg_sub (pv 8) (pv 6) (set_dict (hu_of hr))))) pss_nil)))
        (pss_cons (ps_fld (pv 4) (pv 8) rfl)
        (pss_one (ps_ret (pe_lst (pa_cons (pe_callB call_len_seq (by rfl) T.b_len (by decide +kernel) (pa_cons (pv 7) pa_nil)) pa_nil))))))))))))
      , ?_⟩
    obtain ⟨da, ga, la, ro, x, g, l, rfl, hD, hg, hl, hga, hla, hn, hlim, hl7, k⟩ := h
    obtain ⟨dd, sv, mv, h1, h2, h3⟩ := hD.ex
    obtain rfl : g = [] := List.length_eq_zero_iff.mp hn
    have ecall : Vbxlaa.callOf [[24], l] = Vbxlaa.callIf (Vbxlaa.natsWithin 0 1 l) (.sweep (nats l)) := rfl
    rw [show (if true = true then [24 :: [], l] else [24 :: []]) = [[24], l] from rfl] at k
    have hlen : (l.map V.int).length = l.length := List.length_map ..
    refine ⟨_, rfl, la, rfl, ⟨_, SqL.of hl⟩, ?_⟩
    refine for_list (K := K) (a := la) (xs := l.map V.int) (fun j σ H2 => ∃ v3 : Option V, σ = [some (.ref da), some (.ref ga), some (.ref la), v3, none, none, none, none, none] ∧ H2 = H ∧ ∀ z ∈ l.take j, 0 ≤ z ∧ z ≤ 1)
      ⟨none, rfl, rfl, fun _ h => by cases h⟩ (fun j σ H2 _ ⟨_, _, e, _⟩ => e ▸ SqL.of hl) ?_ ?_
    · rintro j x σ H2 hj ⟨v3, rfl, rfl, ha⟩
      rw [List.getElem?_map] at hj
      obtain ⟨z, hz, rfl⟩ := Option.map_eq_some_iff.mp hj
      refine ⟨_, rfl, _, _, _, rfl, fun c => ⟨_, rfl, rfl, fun y hy => ?_⟩, fun n => k.ref hD (sr_none (by rw [ecall, callIf_no]; refine Bool.eq_false_iff.mpr fun q => n ?_; unfold Vbxlaa.natsWithin at q; exact within_iff.mp (List.all_eq_true.mp q z (List.mem_of_getElem? hz))))⟩
      obtain ⟨hq, e⟩ := List.getElem?_eq_some_iff.mp hz
      rw [List.take_succ_eq_append_getElem hq, e] at hy
      rcases List.mem_append.mp hy with hy | hy
      · exact ha y hy
      · rw [List.mem_singleton] at hy
        subst hy
        exact c
    rintro σ H2 ⟨v3, rfl, rfl, ha⟩
    rw [hlen, List.take_length] at ha
    have e1 : stepRows x [[24], l] = Vbxlaa.step x (.sweep (nats l)) := sr_some (by rw [ecall, callIf_yes]; unfold Vbxlaa.natsWithin; exact List.all_eq_true.mpr fun z hz => within_iff.mpr (ha z hz))
    rw [e1] at k
    refine ⟨_, rfl, da, dd, sv, mv, rfl, h1, ?_⟩
    obtain ⟨st, mk⟩ := x
    cases st with
    | none => exact .inl ⟨h2, k.ref hD rfl⟩
    | some S =>
      obtain ⟨sa, nm, R, rfl, hS, wf⟩ := h2
      refine .inr ⟨sa, rfl, ?_⟩
      obtain ⟨dx, cl, td, cvs, kvs, last, r, nk⟩ := hS.raw
      have hol := wf.ol
      have hmx := wf.mx
      have hnl : (nats l).length = l.length := List.length_map ..
      have eon : Vbxlaa.step ⟨some S, mk⟩ (.sweep (nats l)) = if (unreachable S).length ≠ (nats l).length then (⟨some S, mk⟩, [-4]) else
          (⟨some (removeObjects S ((((unreachable S).zip (nats l)).filter fun x => x.2 == 1).map fun x => x.1.id)), mk⟩, [(((((unreachable S).zip (nats l)).filter fun x => x.2 == 1).map fun x => x.1.id).length : Int)]) := by
        show ((⟨some (Vbxlaa.onStore S (.sweep (nats l))).1, mk⟩ : VSs), (Vbxlaa.onStore S (.sweep (nats l))).2) = _
        have e2 : Vbxlaa.onStore S (.sweep (nats l)) = if (unreachable S).length ≠ (nats l).length then (S, [-4]) else
          (removeObjects S ((((unreachable S).zip (nats l)).filter fun x => x.2 == 1).map fun x => x.1.id), [(((((unreachable S).zip (nats l)).filter fun x => x.2 == 1).map fun x => x.1.id).length : Int)]) := rfl
        rw [e2]
        by_cases c : (unreachable S).length ≠ (nats l).length
        · rw [if_pos c, if_pos c]
        · rw [if_neg c, if_neg c]
      rw [eon] at k
      refine ⟨_, rfl, sa, nm, ro, false, S, R, rfl, hS, wf, fun H1 p1 s1 np1 hp1 => ?_⟩
      have hul : ((unreachable S).map fun o => V.int (nm o.id)).length = (unreachable S).length := List.length_map ..
      refine ⟨_, rfl, la, _, rfl, .inl (SqL.of (s1 _ _ hl)), _, rfl, p1, _, rfl, .inl (SqL.of hp1), rfl, _, rfl, _, _, rfl, fun e => ?_, fun e => (k.ref hD ?_).later s1⟩
      rotate_left
      · have h := of_decide_eq_false e
        rw [hlen, hul] at h
        rw [if_pos fun z => h (by rw [z, hnl])]
      have hlu : l.length = (unreachable S).length := by
        have h := V.int.inj (of_decide_eq_true e)
        rw [hlen, hul] at h
        omega
      rw [if_neg (by rw [hnl, hlu]; simp)] at k
      have hu48 : (unreachable S).length ≤ 48 := Nat.le_trans (List.length_filter_le _ _) (by omega)
      have hl1 := s1 _ _ hl
      have hnats : l.map V.int = nI (nats l) := nI_nats fun z hz => (ha z hz).1
      refine ⟨_, rfl, _, rfl, p1, la, _, _, rfl, SqL.of hp1, SqL.of hl1, fun L nL => ?_⟩
      refine lc_it (walk_zip (K := K) (a := p1) (b := la) (xs := (unreachable S).map fun o => V.int (nm o.id)) (ys := l.map V.int) (n := (unreachable S).length) (by rw [hul, hlen, hlu, Nat.min_self])) (fun j H3 => Bld H1 L ((((unreachable S).zip (nats l)).take j).filter (fun x => x.2 == 1) |>.map fun x => V.int (nm x.1.id)) H3) (Bld.start nL) (fun j H3 _ hB => ⟨SqL.of (hB.sm _ _ hp1), SqL.of (hB.sm _ _ hl1)⟩) ?_ ?_
      · rintro j z H3 H4 hj hB ⟨t, x0, y0, rfl, nt, rfl, ex, ey⟩
        have ex : ((unreachable S).map fun o => V.int (nm o.id))[j]? = some x0 := ex
        have ey : (l.map V.int)[j]? = some y0 := ey
        rw [List.getElem?_map] at ex
        obtain ⟨o, ho, rfl⟩ := Option.map_eq_some_iff.mp ex
        rw [hnats] at ey
        obtain ⟨fl, hfl, rfl⟩ := nI_get ey
        have B4 := hB.new (o := .tup [.int (nm o.id), .int (fl : Nat)]) nt
        have hz : ((unreachable S).zip (nats l))[j]? = some (o, fl) := by rw [List.getElem?_zip_eq_some]; exact ⟨ho, hfl⟩
        have et : ((unreachable S).zip (nats l)).take (j + 1) = ((unreachable S).zip (nats l)).take j ++ [(o, fl)] := by
          obtain ⟨hq, e⟩ := List.getElem?_eq_some_iff.mp hz
          rw [List.take_succ_eq_append_getElem hq, e]
        have hal : ((((unreachable S).zip (nats l)).take j).filter (fun x => x.2 == 1) |>.map fun x => V.int (nm x.1.id)).length ≤ 48 := by
          rw [List.length_map]
          refine Nat.le_trans (List.length_filter_le _ _) ?_
          rw [List.length_take]
          omega
        refine ⟨t, _, rfl, SqT.of upd_same, rfl, _, _, rfl, _, _, rfl, rfl, rfl, ?_⟩
        refine ⟨_, rfl, rfl, _, rfl, ?_⟩
        by_cases c : fl = 1
        · rw [eq_intT (by rw [c]; rfl)]
          refine iteT ⟨_, rfl, _, B4.at_, small1000 (by omega), ?_⟩
          rw [et, List.filter_append, List.filter_cons, show ((o, fl).2 == 1) = true by simp [c], List.map_append]
          exact B4.put nL
        · rw [eq_intF (by omega)]
          refine iteF ?_
          rw [et, List.filter_append, List.filter_cons, show ((o, fl).2 == 1) = false by simp [c]]
          simpa using B4
      rintro H3 hB
      rw [List.take_of_length_le (by rw [List.length_zip]; omega)] at hB
      have s3 := s1.trans hB.sm
      have nL0 : H2 L = none := s1.free nL
      generalize hids : ((((unreachable S).zip (nats l)).filter fun x => x.2 == 1).map fun x => x.1.id) = ids at *
      have hacc : ((((unreachable S).zip (nats l)).filter fun x => x.2 == 1).map fun x => V.int (nm x.1.id)) = ids.map fun i => V.int (nm i) := by rw [← hids, List.map_map]; rfl
      have hL3 : H3 L = some (.lst (ids.map fun i => V.int (nm i))) := by rw [← hacc]; exact hB.at_
      have hidu : ∀ i ∈ ids, i ∉ reachable S := fun i hi => by
        rw [← hids] at hi
        obtain ⟨⟨o, q⟩, hx, rfl⟩ := List.mem_map.mp hi
        have hx2 := (List.of_mem_zip (List.mem_filter.mp hx).1).1
        have := (List.mem_filter.mp hx2).2
        simpa using this
      have hu3 : ∀ i, (reachable S).contains i = true → True := fun _ _ => trivial
      intro kd nkd
      have s4 : Same H3 (upd H3 kd (.dK [])) := Same.new nkd
      have s04 := s3.trans s4
      refine ⟨_, rfl, sa, _, dx, _, _, rfl, s04 _ _ r.ha, T.k_store, T.n_things, rfl, td, kvs, rfl, s04 _ _ r.ht, fun q nq => ?_⟩
      rw [thing_keys r.th]
      have kd0 : H2 kd = none := s3.free nkd
      have hkd5 : (upd (upd H3 kd (.dK [])) q (.lst (S.objects.map fun o => V.int (nm o.id)))) kd = some (.dK []) := Same.new nq _ _ upd_same
      have s05 := s04.trans (Same.new (o := .lst (S.objects.map fun o => V.int (nm o.id))) nq)
      have hL5 : (upd (upd H3 kd (.dK [])) q (.lst (S.objects.map fun o => V.int (nm o.id)))) L = some (.lst (ids.map fun i => V.int (nm i))) := Same.new nq _ _ (s4 _ _ hL3)
      have hq5 : (upd (upd H3 kd (.dK [])) q (.lst (S.objects.map fun o => V.int (nm o.id)))) q = some (.lst (S.objects.map fun o => V.int (nm o.id))) := upd_same
      generalize upd (upd H3 kd (.dK [])) q (.lst (S.objects.map fun o => V.int (nm o.id))) = H5 at *
      have nqk : q ≠ kd := ne_of hq5 hkd5 (by intro z; cases z)
      have nLk : L ≠ kd := ne_of hL5 hkd5 (by intro z; cases z)
      refine ⟨q, rfl, ⟨_, SqL.of hq5⟩, ?_⟩
      refine for_list (K := K) (a := q) (xs := S.objects.map fun o => V.int (nm o.id)) (fun j σ H6 => ∃ (v6 : Option V) (kvs6 : List (Key × V)), σ = [some (.ref da), some (.ref ga), some (.ref la), v3, some (.ref sa), some (.ref p1), v6, some (.ref L), some (.ref kd)] ∧ SL kd H5 H6 ∧ H6 kd = some (.dK kvs6) ∧ Paired (ThingAt K nm ro H2 false) kvs6 ((S.objects.take j).filter fun o => !ids.contains o.id))
        ⟨none, [], rfl, SL.refl, hkd5, .nil⟩ (fun j σ H6 _ ⟨_, _, _, sl, _⟩ => SqL.of (sl _ _ nqk hq5)) ?_ ?_
      · rintro j z σ H6 hj ⟨v6, kvs6, rfl, sl, hk6, hP⟩
        rw [List.getElem?_map] at hj
        obtain ⟨o, ho, rfl⟩ := Option.map_eq_some_iff.mp hj
        have hj2 : j < S.objects.length := (List.getElem?_eq_some_iff.mp ho).1
        have s06 : Same H2 H6 := SL.whole s05 kd0 sl
        have et : S.objects.take (j + 1) = S.objects.take j ++ [o] := by
          obtain ⟨hq, e⟩ := List.getElem?_eq_some_iff.mp ho
          rw [List.take_succ_eq_append_getElem hq, e]
        have hkl : kvs6.length ≤ 48 := by
          rw [Paired.length hP]
          refine Nat.le_trans (List.length_filter_le _ _) ?_
          rw [List.length_take]
          omega
        refine ⟨_, rfl, _, rfl, L, _, rfl, .inl (SqL.of (sl _ _ nLk hL5)), rfl, ?_, ?_⟩
        · rw [show (ids.map fun i => V.int (nm i)) = (ids.map nm).map V.int from by rw [List.map_map]; rfl]
          exact flat_ints _
        rw [inV_names nk.inj]
        refine ⟨_, rfl, ?_⟩
        cases hcon : ids.contains o.id with
        | true =>
          refine iteF ⟨_, kvs6, rfl, sl, hk6, ?_⟩
          rw [et, List.filter_append, List.filter_cons, hcon]
          simpa using hP
        | false =>
          obtain ⟨ta, tvs, q1, q2, q3, q4⟩ := valV_thing r.th nk.inj wf.nd (List.mem_of_getElem? ho)
          refine iteT ⟨_, rfl, sa, _, dx, _, _, rfl, s06 _ _ r.ha, T.k_store, T.n_things, rfl, _, rfl, td, .ref ta, rfl, q1 ▸ DGet.k (k := Sum.inl (nm o.id)) (s06 _ _ r.ht), _, rfl, _, rfl, kd, _, rfl, DPut.k (k := Sum.inl (nm o.id)) hk6 (small1000 (by omega)), ?_⟩
          have nokv : valV kvs6 (.inl (nm o.id)) = none := valV_thing_none nk.inj hP fun p m e => by
            have m := (List.mem_filter.mp m).1
            obtain ⟨i, hi, ei⟩ := List.getElem_of_mem m
            rw [List.length_take] at hi
            rw [List.getElem_take] at ei
            have z1 : (S.objects.map fun o => o.id)[i]? = some o.id := by
              rw [List.getElem?_map, List.getElem?_eq_getElem (by omega), ei, ← e]
              rfl
            have z2 : (S.objects.map fun o => o.id)[j]? = some o.id := by rw [List.getElem?_map, ho]; rfl
            have := nodup_ix' wf.nd z1 z2
            omega
          rw [putK_new nokv]
          refine ⟨_, _, rfl, sl.put, upd_same, ?_⟩
          rw [et, List.filter_append, List.filter_cons, hcon]
          exact pair_snoc hP ⟨rfl, ta, tvs, rfl, q2, q3, q4⟩
      · rintro σ H6 ⟨v6, kvs6, rfl, sl, hk6, hP⟩
        rw [List.length_map, List.take_length] at hP
        have s06 : Same H2 H6 := SL.whole s05 kd0 sl
        have hL6 := sl _ _ nLk hL5
        refine ⟨_, rfl, _, rfl, sa, _, dx, _, rfl, s06 _ _ r.ha, T.k_store, T.n_things, by show 4 < 1000; decide, ?_⟩
        have rn : RoN H2 ro (upR ro kd (.things false)) := RoN.refl.up kd0
        have nsk : sa ≠ kd := ne_of_none r.ha kd0
        have ksa : ∀ x o, x ≠ sa → H2 x = some o → (upd H6 sa (.ins ad.store dx (putF "things" (.ref kd) [("clients", .ref cl), ("things", .ref td), ("created", .int S.made), ("last", .int last)]))) x = some o := fun x o n e => (upd_ne n).trans (s06 _ _ e)
        have tp7 : Tups H2 (upd H6 sa (.ins ad.store dx (putF "things" (.ref kd) [("clients", .ref cl), ("things", .ref td), ("created", .int S.made), ("last", .int last)]))) := (Same.tups s06).trans (Tups.write (s06 _ _ r.ha) fun _ z => by cases z)
        have kr : ∀ x o q, H2 x = some o → ro x = some q → q ≠ .store false → (upd H6 sa (.ins ad.store dx (putF "things" (.ref kd) [("clients", .ref cl), ("things", .ref td), ("created", .int S.made), ("last", .int last)]))) x = some o ∧ upR ro kd (.things false) x = some q := fun x o q e z d => ⟨ksa x o (ne_role z r.ra d) e, (rn _ _ e).trans z⟩
        have ch : Ch false H2 (upd H6 sa (.ins ad.store dx (putF "things" (.ref kd) [("clients", .ref cl), ("things", .ref td), ("created", .int S.made), ("last", .int last)]))) ro (upR ro kd (.things false)) :=
          (Ch.same s06 rn).trans (Ch.wr (r := .store false) (s06 _ _ r.ha) ((rn _ _ r.ha).trans r.ra) (by simp [Ro.own]) (by simp) (fun _ z => by cases z))
        have r2 : Raw K ad nm (upR ro kd (.things false)) (upd H6 sa (.ins ad.store dx (putF "things" (.ref kd) [("clients", .ref cl), ("things", .ref td), ("created", .int S.made), ("last", .int last)]))) false sa dx cl kd S.clients (S.objects.filter fun o => !ids.contains o.id) S.made last cvs kvs6 := by
          refine ⟨upd_same, (rn _ _ r.ha).trans r.ra, (kr _ _ _ r.hc r.rc (by simp)).1, (rn _ _ r.hc).trans r.rc, r.ln, fun i c e => ?_, (upd_ne (Ne.symm nsk)).trans hk6, upR_same, Paired.mapP hP fun _ _ z => z.keep' tp7 fun a u e h => kr _ _ _ e h (by simp)⟩
          obtain ⟨ca, z1, z2⟩ := r.ct i c e
          exact ⟨ca, z1, z2.keep' tp7 fun a u q e h d => kr _ _ _ e h (by rcases d with rfl | rfl | rfl | rfl <;> simp)⟩
        have hD2 := hD.ch (S' := removeObjects S ids) ch fun dd2 sv2 mv2 e => by
          rw [h1] at e
          cases e
          exact ⟨sa, nm, _, rfl, Raw.store (S := removeObjects S ids) r2 nk, wf.sweep hidu⟩
        have nLs : L ≠ sa := Ne.symm (ne_of_none r.ha nL0)
        refine ⟨_, rfl, L, _, rfl, .inl (SqL.of ((upd_ne nLs).trans hL6)), leLine (by show 1 ≤ 1000; decide), fun p np => ?_⟩
        have s7 := Same.new (o := .lst [.int ((ids.map fun i => V.int (nm i)).length : Nat)]) np
        have np0 : H2 p = none := by
          cases z : H2 p with
          | none => rfl
          | some u =>
            obtain ⟨u2, hu2⟩ := ch.al p u z
            rw [hu2] at np
            cases np
        refine k.chg (x' := ⟨some (removeObjects S ids), mk⟩) (res := [(ids.length : Int)]) rfl (ch.fr.trans (Fr.same s7)) (hD2.same s7) np0 ?_
        rw [upd_same, List.length_map]
        rfl
end
end Sh


set_option maxHeartbeats 2000000
/-! R8: Refused.__init__ where an exception is handled. -/
namespace Sh
open PySem PySem.Spec PyProof.Rows L2
section
variable {P : Program} {w : World} {K : PySem.W.Frag} {mg : Str → Option Value} {base : Heap} {ad : Ad}
theorem ok_RefusedH (T : Tx K mg ad) (D : De K ad.refusedI "Refused.__init__" s_Refused_init ["self", "code"]) : ∃ fd, L2H.FnH P w K mg base (L2N.CX P w) 1 ad.refusedI fd ["self", "code"] (spEInit "code" ad.refused) ∧ Binds K fd ["self", "code"] [] := by
  obtain ⟨fd, F, hb⟩ := D.ex
  obtain ⟨oc, od, kV, doc, pm, an, cdv, ct, osl, rfl, lk, hcd⟩ := F.ex
  refine ⟨_, L2H.fn_ofH lk hcd c_Refused_init (fun vs H Q E h => ?_) (fun A outer s H vs Q E p hot hr h => ?_), hb⟩
  · obtain ⟨a, y, rfl, _⟩ := h
    rfl
  · refine ⟨_,
      (pss_cons (ps_expr (pe_ei T.b_Exception T.v_Exception (pa_cons (pv 0) (pa_cons (pv 1) pa_nil))))
        (pss_one (ps_est (pv 0) (pv 1))))
      , ?_⟩
    obtain ⟨a, y, rfl, ha, k⟩ := h
    refine ⟨_, rfl, _, rfl, _, _, a, _, _, [y], rfl, by show 1 ≤ 1000; decide, T.refused, ha, ?_⟩
    exact ⟨_, rfl, _, rfl, _, a, _, _, rfl, T.refused, ha, k⟩
end
end Sh

set_option maxHeartbeats 2000000
/-! R9: defs whose exceptions carry a context. -/
namespace Sh
open PySem PySem.Spec PyProof.Rows L2
section
variable {P : Program} {w : World} {K : PySem.W.Frag} {mg : Str → Option Value} {base : Heap}
theorem Df.okX {x : Str} {st : Stmt} {N ps : List Str} {k : Nat} {sp : Sp} {CX : CXT} (D : Df K mg x st ps) (S : FnScope N ps (defScope st)) (len : ∀ vs H Q E, sp vs H Q E → vs.length = ps.length)
    (hbody : ∀ (f : Addr) (cdv : Value) (A : Around) (outer : List Env) (s : Shared) (H : Hp) (vs : List V) (Q : VK) (E : XK), Room k (A.deeper (envOfC x (defScope st) s.heap.objs.size f cdv)) → sp vs H Q E →
      ∃ t, PSs (cxOf CX P w K mg base N x (defScope st) f cdv A outer s H E) (defBody st) t ∧ t { nx := fun _ H' => Q .non H', rt := Q } (start N vs) H) : OkX P w K mg base CX (k + 1) x ps sp := by
  obtain ⟨f, fd, hm, F, hb⟩ := D.ex
  have kp := F.kp
  obtain ⟨oc, od, kV, doc, pm, an, cdv, ct, osl, rfl, lk, hcd⟩ := F.ex
  exact ⟨f, _, fn_of lk hcd S len fun A outer s H vs Q E hr hsp => hbody f cdv A outer s H vs Q E hr hsp, hm, kp, hb⟩
end
end Sh

set_option maxHeartbeats 2000000
namespace Sh
open PySem PySem.Spec PyProof.Rows L2
open Vbxlaa (fieldsOf clientAt stepRows)
section
variable {P : Program} {w : World} {K : PySem.W.Frag} {mg : Str → Option Value} {base : Heap} {ad : Ad}
theorem ok_load (T : Tx K mg ad) (D : Df K mg "load" s_load ["desk", "given", "row"]) (G_read_store : Ok P w K mg base 7 "read_store" ["text"] (spReadStore K ad)) (RH : ∃ fd, L2H.FnH P w K mg base (L2N.CX P w) 1 ad.refusedI fd ["self", "code"] (spEInit "code" ad.refused) ∧ Binds K fd ["self", "code"] []) :
    OkX P w K mg base (L2.CX P w) 8 "load" ["desk", "given", "row"] (spOp K ad 14 0 true) := by
  obtain ⟨fdR, FR, bR⟩ := RH
  refine D.okX c_load (fun vs H Q E h => ?_) (fun f cdv A outer s H vs Q E hr h => ?_)
  · obtain ⟨da, ga, la, ro, x, g, l, rfl, _⟩ := h
    rfl
  · refine ⟨_,
      (pss_cons (ps_try_asX (i := 4) (tb := fun W => tAsg (tCl (spReadStore K ad) W (tCons (tVar 2) tNil)) (gName 3)) (Wout := fun cls d _ H => E cls d H) rfl rfl c_load.nd rfl rfl ⟨rfl, by decide, .inl T.unread.gC⟩ (L2H.passesAt_of rfl) (L2.takes_of rfl rfl rfl rfl)
        (fun W pn xe tk _ => by exact (pss_one (ps_set (i := 3) c_load.nd rfl (Or.inl rfl) (pe_c G_read_store hr tk (pa_cons (pv 2) pa_nil)))))
        (fun a oe cls d pn xe hz hf tkE hot => by exact (pss_one (L2H.ps_raiseH hot tkE (pmk_eH T.refused FR (L2H.RoomH.mono (L2H.roomH_mark hr _) (by decide)) hot bR pass_none (pa_cons (pe_op op_sub (pe_un un_neg pe_int) (pe_erd T.unread List.mem_cons_self (L2N.Zn.zc hz) hf (pv 4))) pa_nil))))))
      (pss_cons (ps_fld (pv 0) (pv 3) rfl)
      (pss_one (ps_ret (pe_lst (pa_cons (pe_callB call_lenD (by rfl) T.b_len (by decide +kernel) (pa_cons (pe_fld (pv 3) rfl) pa_nil)) pa_nil))))))
      , ?_⟩
    obtain ⟨da, ga, la, ro, x, g, l, rfl, hD, hg, hl, hga, hla, hn, hlim, hl7, k⟩ := h
    obtain ⟨dd, sv, mv, h1, h2, h3⟩ := hD.ex
    obtain rfl : g = [] := List.length_eq_zero_iff.mp hn
    have e1 : stepRows x [[14], l] = Vbxlaa.step x (.load l) := sr_some rfl
    rw [show (if true = true then [14 :: [], l] else [14 :: []]) = [[14], l] from rfl, e1] at k
    refine ⟨_, rfl, la, l, false, rfl, hl, hl7, ?_⟩
    cases e : Vbxlaa.load l with
    | error i =>
      have e2 : Vbxlaa.step x (.load l) = (x, [-(1000 + (i : Int))]) := by
        show (match Vbxlaa.load l with | .ok s => ((⟨some s, x.mark⟩ : VSs), [(s.objects.length : Int)]) | .error i => (x, [-(1000 + (i : Int))])) = _
        rw [e]
      have hc : (-1000 : Int) - (i : Int) = -(1000 + (i : Int)) := by omega
      intro H1 d s1 ed
      refine ⟨true, T.unread.te, fun _ a ha => ?_, fun q => Bool.noConfusion q⟩
      refine ⟨_, rfl, _, rfl, rfl, rfl, d, _, _, rfl, ed, rfl, _, _, rfl, rfl, by show 1 ≤ 1000; decide, emk_go fun H2 d2 s2 _ ed2 => ?_⟩
      exact (k.ref hD e2) H2 d2 (s1.trans s2) (by rw [ed2, ← hc])
    | ok S =>
      have e2 : Vbxlaa.step x (.load l) = (⟨some S, x.mark⟩, [(S.objects.length : Int)]) := by
        show (match Vbxlaa.load l with | .ok s => ((⟨some s, x.mark⟩ : VSs), [(s.objects.length : Int)]) | .error i => (x, [-(1000 + (i : Int))])) = _
        rw [e]
      intro H1 p ro2 nm R s1 fs hst wf
      obtain ⟨dx, cl, td, cvs, kvs, last, r, nk⟩ := hst.raw
      refine ⟨_, rfl, _, rfl, da, _, dd, _, rfl, s1 _ _ h1, T.k_desk, T.d_store, by show 2 < 1000; decide, ?_⟩
      obtain ⟨hD2, fr⟩ := desk_wr (ro2 := ro2) (dd := dd) (sv := .ref p) (mv := mv) (s1 := some S) (s2 := x.mark) h1 hD.rd (fun _ z => by cases z) s1 ⟨p, nm, R, rfl, hst.keep (Kept.mrg fs), wf⟩ (h3.keep (Kept.of s1 RoN.mrg))
      have np : p ≠ da := fun z => by have := fs _ _ r.ra; rw [z, h1] at this; cases this
      have nt : td ≠ da := fun z => by have := fs _ _ r.rt; rw [z, h1] at this; cases this
      refine ⟨_, rfl, p, _, dx, _, _, rfl, (upd_ne np).trans r.ha, T.k_store, T.n_things, rfl, td, kvs, rfl, (upd_ne nt).trans r.ht, leLine (by show 1 ≤ 1000; decide), fun q nq => ?_⟩
      have s3 := Same.new (o := .lst [.int (kvs.length : Nat)]) nq
      have nq0 : H q = none := by
        cases z : H q with
        | none => rfl
        | some u =>
          obtain ⟨u2, hu2⟩ := upd_all (a := da) (u := .ins ad.desk dd [("store", .ref p), ("marked", mv)]) s1 q u z
          have nq' : (upd H1 da (.ins ad.desk dd [("store", .ref p), ("marked", mv)])) q = none := nq
          rw [hu2] at nq'
          cases nq'
      refine k.chg e2 (fr.trans (Fr.same s3)) (hD2.same s3) nq0 ?_
      rw [upd_same, Paired.length r.th]
      rfl
end
end Sh


set_option maxHeartbeats 2000000
/-! R10: calls where exceptions may carry a context. -/
namespace Sh
open PySem PySem.Spec PyProof.Rows L2
section
variable {X : Cx} {j k : Nat} {x : Str} {ps : List Str} {sp : Sp} {W : WX} {e : Expr} {es : List Expr} {t : TA} {p pos : Pos}
theorem pe_cW (G : Ok X.prog X.w X.K X.mg X.base j x ps sp) (hr : Room k X.A) (tk : L2.Takes X W) (ha : PA X (e :: es) t) (hj : j ≤ k := by decide) (hg : Gl X x := by rfl)
    (hdb : (x == ("__debug__" : Str)) = false := by decide) (he : starEach (e :: es) X.env = (false, eval e X.env) :: starEach es X.env := by rfl) (hpl : (backTo pos (starEach es X.env)).any (·.1) = false := by rfl) :
    PE X (.Call (.Name x p) (e :: es) [] pos) (tCl sp W t) := by
  obtain ⟨f, fd, F, hm, hk, hb⟩ := G.ex
  have z := pe_callSD (p := p) (pos := pos) (dvs := []) (fnOk_wide F) (hr.mono hj) hg hm hk hb .nil (fun σ => L2.passAt tk σ) ha hdb he hpl
  refine ⟨fun pins s σ H Q I h => z.run pins s σ H Q I ?_⟩
  have e0 : (fun (vs : List V) (H1 : Hp) => sp (vs ++ []) H1 Q (WE W σ)) = fun vs H1 => sp vs H1 Q (fun cls d H2 => W cls d σ H2) := by
    funext vs H1
    rw [List.append_nil]
  show t σ H (fun vs H1 => sp (vs ++ []) H1 Q (WE W σ))
  rw [e0]
  exact h
end
end Sh

set_option maxHeartbeats 2000000
namespace Sh
open PySem PySem.Spec PyProof.Rows L2
open Vbxlaa (fieldsOf clientAt stepRows within nats)
section
variable {P : Program} {w : World} {K : PySem.W.Frag} {mg : Str → Option Value} {base : Heap} {ad : Ad}
theorem ok_run_test (T : Tx K mg ad) (D : Df K mg "run_test" s_run_test ["desk", "given", "row"]) (G_need : Ok P w K mg base 4 "need" ["number", "low", "high"] (spNeed ad)) (G_need_row : Ok P w K mg base 5 "need_row" ["row", "least", "most", "high"] (spNeedRow ad)) (G_opened : Ok P w K mg base 4 "opened" ["desk"] (spOpened ad))
    (G_need_client : Ok P w K mg base 4 "need_client" ["store", "number"] (spNeedClient K ad)) (G_result_of : Ok P w K mg base 6 "result_of" ["store", "number", "test"] (spResultOf ad K)) (RH : ∃ fd, L2H.FnH P w K mg base (L2N.CX P w) 1 ad.refusedI fd ["self", "code"] (spEInit "code" ad.refused) ∧ Binds K fd ["self", "code"] []) :
    OkX P w K mg base (L2.CX P w) 8 "run_test" ["desk", "given", "row"] (spOp K ad 18 1 true) := by
  obtain ⟨fdR, FR, bR⟩ := RH
  refine D.okX c_run_test (fun vs H Q E h => ?_) (fun f cdv A outer s H vs Q E hr h => ?_)
  · obtain ⟨da, ga, la, ro, x, g, l, rfl, _⟩ := h
    rfl
  · refine ⟨_,
      (pss_cons (ps_expr (pe_cW G_need hr (L2.takes_of rfl rfl rfl rfl) (pa_cons (pe_ix ix_list (pv 1) pe_int (fun _ _ => rfl)) (pa_cons pe_int (pa_cons (pe_ci T.c_MOST_CLIENT) pa_nil)))))
      (pss_cons (ps_expr (pe_cW G_need_row hr (L2.takes_of rfl rfl rfl rfl) (pa_cons (pv 2) (pa_cons pe_int (pa_cons (pe_ci T.c_MOST_PATH) (pa_cons (pe_ci T.c_MOST_ELEMENT) pa_nil))))))
      (pss_cons (ps_set (i := 3) c_run_test.nd rfl (Or.inl rfl) (pe_cW G_opened hr (L2.takes_of rfl rfl rfl rfl) (pa_cons (pv 0) pa_nil)))
      (pss_cons (ps_expr (pe_cW G_need_client hr (L2.takes_of rfl rfl rfl rfl) (pa_cons (pv 3) (pa_cons (pe_ix ix_list (pv 1) pe_int (fun _ _ => rfl)) pa_nil))))
      (pss_one (L2H.ps_try_onlyX (tb := fun W => tRet (tCl (spResultOf ad K) W (tCons (tVar 3) (tCons (tOp (rIxL K) (tVar 1) (L2.tC (.int 0))) (tCons (tVar 2) tNil))))) (Wout := fun cls d _ H => E cls d H) rfl rfl ⟨rfl, by decide, .inl T.g_Failed⟩ (L2H.passesAt_of rfl) (L2.takes_of rfl rfl rfl rfl)
        (fun W pn xe tk _ _ => by exact (pss_one (ps_ret (pe_c G_result_of hr tk (pa_cons (pv 3) (pa_cons (pe_ix ix_list (pv 1) pe_int (fun _ _ => rfl)) (pa_cons (pv 2) pa_nil)))))))
        (fun a oe cls d pn hz hf tkE hot => by exact (pss_one (L2H.ps_raiseH hot tkE (pmk_eH T.refused FR (L2H.RoomH.mono (L2H.roomH_mark hr _) (by decide)) hot bR pass_none (pa_cons (pe_un un_neg pe_int) pa_nil)))))))))))
      , ?_⟩
    obtain ⟨da, ga, la, ro, x, g, l, rfl, hD, hg, hl, hga, hla, hn, hlim, hl7, k⟩ := h
    obtain ⟨dd, sv, mv, h1, h2, h3⟩ := hD.ex
    obtain ⟨a, rfl⟩ := get1 hn
    have ecall : Vbxlaa.callOf [[18, a], l] = Vbxlaa.callIf (within a 0 4 && Vbxlaa.isPath l) (.runTest a.toNat (nats l)) := rfl
    rw [show (if true = true then [18 :: [a], l] else [18 :: [a]]) = [[18, a], l] from rfl] at k
    refine ⟨_, rfl, ga, _, _, .int a, rfl, rfl, SqL.of hg, at_of (j := 0) rfl rfl, _, _, _, rfl, fun ca => ?_, fun na => k.ref hD (sr_none (by rw [ecall, show within a 0 4 = false from within_no na]; simp [Vbxlaa.callIf]))⟩
    refine ⟨_, rfl, la, l, 1, 120, 100, rfl, hl, fun cr => ?_, fun nr => k.ref hD (sr_none (by rw [ecall, show Vbxlaa.isPath l = false from Bool.eq_false_iff.mpr fun z => nr (rowOk_path.mpr z)]; simp [Vbxlaa.callIf]))⟩
    have e1 : stepRows x [[18, a], l] = Vbxlaa.step x (.runTest a.toNat (nats l)) := sr_some (by rw [ecall, show within a 0 4 = true from within_iff.mpr ca, show Vbxlaa.isPath l = true from rowOk_path.mp cr]; rfl)
    rw [e1] at k
    obtain ⟨an, rfl⟩ : ∃ an : Nat, a = (an : Int) := ⟨a.toNat, by omega⟩
    simp only [Int.toNat_natCast] at k
    refine ⟨_, rfl, da, dd, sv, mv, rfl, h1, ?_⟩
    obtain ⟨st, mk⟩ := x
    cases st with
    | none => exact .inl ⟨h2, k.ref hD rfl⟩
    | some S =>
      obtain ⟨sa, nm, R, rfl, hS, wf⟩ := h2
      refine .inr ⟨sa, rfl, ?_⟩
      obtain ⟨dx, cl, td, cvs, kvs, last, r, nk⟩ := hS.raw
      have eon : Vbxlaa.step ⟨some S, mk⟩ (.runTest an (nats l)) = if an ≤ S.clients.length then (⟨some S, mk⟩, Vbxlaa.testAnswer (runV S an (nats l))) else (⟨some S, mk⟩, [-8]) := by
        have e2 : Vbxlaa.onStore S (.runTest an (nats l)) = if an = 0 then (S, Vbxlaa.testAnswer (Vbxlaa.runOnStore S (nats l))) else match clientAt S an with
          | none => (S, [-8])
          | some d => (S, Vbxlaa.testAnswer (Vbxlaa.runOnClient S d (nats l))) := rfl
        show ((⟨some (Vbxlaa.onStore S (.runTest an (nats l))).1, mk⟩ : VSs), (Vbxlaa.onStore S (.runTest an (nats l))).2) = _
        rw [e2]
        unfold runV
        by_cases c0 : an = 0
        · rw [if_pos c0, if_pos (by omega), if_pos c0]
        · rw [if_neg c0, if_neg c0]
          by_cases c1 : an ≤ S.clients.length
          · obtain ⟨c, hc1, _⟩ := client_some (S := S) (by omega) c1
            rw [if_pos c1, hc1]
            rfl
          · rw [if_neg c1, client_none (.inr (by omega))]
      rw [eon] at k
      refine ⟨_, rfl, _, rfl, ga, _, _, .int (an : Nat), rfl, rfl, SqL.of hg, at_of (j := 0) rfl rfl, sa, dx, cl, td, nm, ro, false, _, _, _, _, cvs, kvs, an, rfl, r, fun hle => ?_, fun hlt => k.ref hD (by rw [if_neg (by omega)])⟩
      rw [if_pos hle] at k
      have hl2 : H la = some (.lst (nI (nats l))) := by rw [hl, nI_nats fun z hz => (cr.2.2 z hz).1]
      have hnl : (nats l).length = l.length := List.length_map ..
      have hb := cr.1
      have hb2 := cr.2.1
      refine ⟨_, rfl, _, rfl, ga, _, _, .int (an : Nat), rfl, rfl, SqL.of hg, at_of (j := 0) rfl rfl, _, rfl, sa, la, nm, ro, false, S, R, an, nats l, rfl, hS, wf, hle, SqL.of hl2, by omega, fun z => by rw [z] at hnl; simp at hnl; omega, ?_⟩
      cases er : runV S an (nats l) with
      | some y =>
        rw [er] at k
        exact fun H1 p s1 np hp => k.ret hD (res := [y.1, y.2]) rfl s1 np hp
      | none =>
        rw [er] at k
        intro H1 s1
        refine ⟨true, T.e_Failed, fun _ a ha => ?_, fun q => Bool.noConfusion q⟩
        exact ⟨_, rfl, by show 1 ≤ 1000; decide, emk_go fun H2 d2 s2 _ ed2 => (k.ref hD rfl) H2 d2 (s1.trans s2) ed2⟩
end
end Sh


set_option maxHeartbeats 2000000
namespace Sh
open PySem PySem.Spec PyProof.Rows L2
open Vbxlaa (fieldsOf clientAt stepRows)
section
variable {P : Program} {w : World} {K : PySem.W.Frag} {mg : Str → Option Value} {base : Heap} {ad : Ad}
def shapes : List (Nat × Bool) := [(1, false), (3, false), (3, false), (2, false), (3, false), (4, false), (4, false), (2, false), (3, false), (2, true), (2, false), (1, false), (1, false), (0, false), (0, true), (2, false), (0, false), (0, false), (1, true), (1, true), (0, true), (2, false), (1, true), (0, false), (0, true), (0, false)]
/-- the promise of the operation at place p -/
def spAt (K : PySem.W.Frag) (ad : Ad) (p : Nat) : Sp := spOp K ad (p : Int) ((shapes[p]?).getD (0, false)).1 ((shapes[p]?).getD (0, false)).2
/-- the table of the operations -/
structure Ops (P : Program) (w : World) (K : PySem.W.Frag) (mg : Str → Option Value) (base : Heap) (ad : Ad) (ops : List Addr) : Prop where
  sq : ∀ H, SqL K H ad.operations (ops.map V.ref)
  ln : ops.length = 26
  nd : ops.Nodup
  op : ∀ p f, ops[p]? = some f → HeldW P w K mg base 8 f p (spAt K ad p)
def opS (K : PySem.W.Frag) (ad : Ad) (ops : List Addr) (f : Addr) : Option Sp := some fun vs H Q E => ∃ p, ops[p]? = some f ∧ spAt K ad p vs H Q E
theorem Ops.held {ops : List Addr} (O : Ops P w K mg base ad ops) {k : Nat} (hk : 8 ≤ k) : ∀ f sp, (if f ∈ ops then opS K ad ops f else none) = some sp → ∃ n, HeldW P w K mg base k f n sp := by
  intro f sp h
  by_cases c : f ∈ ops
  · rw [if_pos c] at h
    cases h
    obtain ⟨p, hp, e⟩ := List.getElem_of_mem c
    have hpf : ops[p]? = some f := (List.getElem?_eq_getElem hp).trans (congrArg some e)
    obtain ⟨fd, ps, F, h1, h2⟩ := (O.op p f hpf).ex
    have uniq : ∀ q, ops[q]? = some f → q = p := fun q hq => (List.getElem?_inj (List.getElem?_eq_some_iff.mp hq).1 O.nd).mp (hq.trans hpf.symm)
    have hsp : ∀ {vs H Q E}, (∃ q, ops[q]? = some f ∧ spAt K ad q vs H Q E) → spAt K ad p vs H Q E := fun ⟨q, hq, z⟩ => by
      rw [uniq q hq] at z
      exact z
    refine ⟨p, fd, ps, ⟨fun vs H Q E z => F.len vs H Q E (hsp z), fun A outer s H args us vs Q E hr e0 hb r z => F.run A outer s H args us vs Q E (hr.mono hk) e0 hb r (hsp z)⟩, h1, h2⟩
  · rw [if_neg c] at h
    cases h
end
end Sh


set_option maxHeartbeats 2000000
namespace Sh
open PySem PySem.Spec PyProof.Rows L2
open Vbxlaa (fieldsOf clientAt stepRows)
section
variable {P : Program} {w : World} {K : PySem.W.Frag} {mg : Str → Option Value} {base : Heap} {ad : Ad}
def callRow (p : Nat) (g l : List Int) : List (List Int) := if ((shapes[p]?).getD (0, false)).2 = true then [(p : Int) :: g, l] else [(p : Int) :: g]
def spAnswered (K : PySem.W.Frag) (ad : Ad) : Sp := fun vs H Q _ => ∃ (da ga la : Addr) (ro : Rm) (x : VSs) (p : Nat) (g l : List Int), vs = [.ref da, .int (p : Nat), .ref ga, .ref la] ∧ p < 26 ∧ DeskAt K ad ro H da x ∧ H ga = some (.lst (g.map V.int)) ∧ H la = some (.lst (l.map V.int)) ∧ ro ga = none ∧ ro la = none ∧
  g.length = ((shapes[p]?).getD (0, false)).1 ∧ Lim g ∧ l.length ≤ 700 ∧ ∀ H' ro' q, Fr H ro H' ro' → DeskAt K ad ro' H' da (stepRows x (callRow p g l)).1 → H' q = some (.lst ((stepRows x (callRow p g l)).2.map V.int)) → Q (.ref q) H'
theorem ok_answered (T : Tx K mg ad) (D : Df K mg "answered" s_answered ["desk", "number", "given", "row"]) {ops : List Addr} (O : Ops P w K mg base ad ops) : Ok P w K mg base 9 "answered" ["desk", "number", "given", "row"] (spAnswered K ad) := by
  refine D.ok c_answered (fun vs H Q E h => ?_) (fun f cdv A outer s H vs Q E hr h => ?_)
  · obtain ⟨da, ga, la, ro, x, p, g, l, rfl, _⟩ := h
    rfl
  · have HO := O.held (k := 8) (Nat.le_refl _)
    refine ⟨_,
      (pss_cons (ps_set (i := 4) c_answered.nd rfl (Or.inl rfl) (pe_ix ix_list (pe_glob (v := .ref ad.operations) rfl T.g_OPERATIONS rfl) (pv 1) (fun _ _ => rfl)))
      (pss_one (ps_try_as (i := 5) (tb := fun W => tRet (tLc1 4 (fun f => if f ∈ ops then opS K ad ops f else none) W (tCons (tVar 0) (tCons (tVar 2) (tCons (tVar 3) tNil))))) (Wout := fun _ _ _ _ => False) rfl rfl c_answered.nd rfl rfl ⟨rfl, by decide, .inl T.refused.gC⟩ (fun _ _ x => by
          obtain ⟨_, _, _, _, _, _, _, _, _, _, _, _, _, _, _, _, z⟩ := x
          exact z.elim)
        (fun W pn xe tk _ => by exact (pss_one (ps_ret (pe_cl HO hr tk (pa_cons (pv 0) (pa_cons (pv 2) (pa_cons (pv 3) pa_nil)))))))
        (fun a oe cls d pn hz hf => by exact (pss_one (ps_ret (pe_lst (pa_cons (pe_erd T.refused List.mem_cons_self hz hf (pv 5)) pa_nil))))))))
      , ?_⟩
    obtain ⟨da, ga, la, ro, x, p, g, l, rfl, hp, hD, hg, hl, hga, hla, hgl, hlim, hl7, k⟩ := h
    obtain ⟨fa, hfa⟩ : ∃ fa, ops[p]? = some fa := ⟨_, List.getElem?_eq_getElem (by rw [O.ln]; exact hp)⟩
    have hov : (ops.map V.ref)[p]? = some (.ref fa) := by rw [List.getElem?_map, hfa]; rfl
    refine ⟨_, rfl, ad.operations, _, _, .ref fa, rfl, rfl, O.sq H, atI_nat hov, ?_⟩
    refine ⟨fa, _, rfl, if_pos (List.mem_of_getElem? hfa), _, rfl, _, rfl, _, rfl, p, hfa, da, ga, la, ro, x, g, l, rfl, hD, hg, hl, hga, hla, hgl, hlim, hl7, fun H1 ro1 q fr hD1 _ hq => k H1 ro1 q fr hD1 hq, fun c ec H1 ro1 d fr hD1 ed => ?_⟩
    refine ⟨true, T.refused.te, fun _ a ha => ?_, fun q => Bool.noConfusion q⟩
    refine ⟨_, rfl, rfl, rfl, d, _, _, rfl, ed, rfl, leLine (by show 1 ≤ 1000; decide), fun q nq => ?_⟩
    refine k _ ro1 q (fr.trans (Fr.same (Same.new nq))) (hD1.same (Same.new nq)) ?_
    have ec' : (stepRows x (callRow p g l)).2 = [c] := ec
    rw [upd_same, ec']
    rfl
end
end Sh


set_option maxHeartbeats 2000000
namespace Sh
open PySem PySem.Spec PyProof.Rows L2
/-! The calls as one list: what one turn of the loop takes. -/
def sh (q : Nat) : Nat × Bool := (shapes[q]?).getD (0, false)
theorem shape_at : ∀ q : Nat, q < 26 → PyVbxlaa.shape (q : Int) = some ((sh q).1, if (sh q).2 = true then 1 else 0) := by decide +kernel
theorem shape_out {p : Int} (h : ¬ (0 ≤ p ∧ p < 26)) : PyVbxlaa.shape p = none := by
  unfold PyVbxlaa.shape
  repeat rw [if_neg (by omega)]
theorem shape_is {p : Int} {s : Nat × Nat} (h : PyVbxlaa.shape p = some s) : ∃ q : Nat, p = q ∧ q < 26 ∧ s = ((sh q).1, if (sh q).2 = true then 1 else 0) := by
  by_cases c : 0 ≤ p ∧ p < 26
  · refine ⟨p.toNat, by omega, by omega, ?_⟩
    have e := shape_at p.toNat (by omega)
    rw [show ((p.toNat : Nat) : Int) = p by omega, h] at e
    exact Option.some.inj e
  · rw [shape_out c] at h
    cases h
theorem callRow_no {q : Nat} {g l : List Int} (h : (sh q).2 = false) : callRow q g l = [(q : Int) :: g] := if_neg (show ¬ (sh q).2 = true by rw [h]; decide)
theorem callRow_yes {q : Nat} {g l : List Int} (h : (sh q).2 = true) : callRow q g l = [(q : Int) :: g, l] := if_pos (show (sh q).2 = true from h)
/-- what one turn takes of the list -/
structure Turn (r : List Int) (q : Nat) (l t : List Int) : Prop where
  lt : q < 26
  le : (sh q).1 ≤ r.length
  no : (sh q).2 = false → l = [] ∧ t = r.drop (sh q).1
  ys : (sh q).2 = true → ∃ (m : Nat) (s : List Int), r.drop (sh q).1 = (m : Int) :: s ∧ m ≤ s.length ∧ l = s.take m ∧ t = s.drop m
theorem calls_step {f : Nat} {p : Int} {r : List Int} {cs : List (List (List Int))} (h : PyFlat.calls PyVbxlaa.shape f (p :: r) = some cs) :
    ∃ (q : Nat) (l t : List Int) (g : Nat) (cs' : List (List (List Int))), p = q ∧ Turn r q l t ∧ cs = callRow q (r.take (sh q).1) l :: cs' ∧ PyFlat.calls PyVbxlaa.shape g t = some cs' := by
  cases f with
  | zero => cases h
  | succ f =>
    simp only [PyFlat.calls, PyFlat.call] at h
    cases hs : PyVbxlaa.shape p with
    | none =>
      rw [hs] at h
      cases h
    | some s =>
      obtain ⟨q, rfl, hq, rfl⟩ := shape_is hs
      rw [hs] at h
      simp only at h
      by_cases hl : r.length < (sh q).1
      · rw [if_pos hl] at h
        cases h
      · rw [if_neg hl] at h
        cases hb : (sh q).2 with
        | false =>
          rw [hb] at h
          simp only [Bool.false_eq_true, if_false, PyFlat.rows] at h
          cases hc : PyFlat.calls PyVbxlaa.shape f (r.drop (sh q).1) with
          | none =>
            rw [hc] at h
            cases h
          | some cs' =>
            rw [hc] at h
            refine ⟨q, [], _, f, cs', rfl, ⟨hq, by omega, fun _ => ⟨rfl, rfl⟩, fun z => ?_⟩, ?_, hc⟩
            · rw [hb] at z
              cases z
            · rw [← Option.some.inj h, callRow_no hb]
        | true =>
          rw [hb] at h
          simp only [if_true, PyFlat.rows] at h
          cases hd : r.drop (sh q).1 with
          | nil =>
            rw [hd] at h
            cases h
          | cons m s =>
            rw [hd] at h
            simp only [PyFlat.row] at h
            by_cases c : 0 ≤ m ∧ m.toNat ≤ s.length
            · rw [if_pos c] at h
              simp only at h
              cases hc : PyFlat.calls PyVbxlaa.shape f (s.drop m.toNat) with
              | none =>
                rw [hc] at h
                cases h
              | some cs' =>
                rw [hc] at h
                refine ⟨q, s.take m.toNat, _, f, cs', rfl, ⟨hq, by omega, fun z => ?_, fun _ => ⟨m.toNat, s, ?_, c.2, rfl, rfl⟩⟩, ?_, hc⟩
                · rw [hb] at z
                  cases z
                · rw [hd, show ((m.toNat : Nat) : Int) = m by omega]
                · rw [← Option.some.inj h, callRow_yes hb]
            · rw [if_neg c] at h
              cases h
theorem len1 {g : List Int} (h : g.length = 1) : ∃ a, g = [a] := match g, h with | [a], _ => ⟨a, rfl⟩
theorem len2 {g : List Int} (h : g.length = 2) : ∃ a b, g = [a, b] := match g, h with | [a, b], _ => ⟨a, b, rfl⟩
theorem len3 {g : List Int} (h : g.length = 3) : ∃ a b c, g = [a, b, c] := match g, h with | [a, b, c], _ => ⟨a, b, c, rfl⟩
theorem len4 {g : List Int} (h : g.length = 4) : ∃ a b c d, g = [a, b, c, d] := match g, h with | [a, b, c, d], _ => ⟨a, b, c, d, rfl⟩
theorem whole_row {q : Nat} {g l : List Int} (hq : q < 26) (h : g.length = (sh q).1) : PyVbxlaa.whole (callRow q g l) = callRow q g l := by
  match q, hq, h with
  | 0, _, h =>
    obtain ⟨a, rfl⟩ := len1 h
    rfl
  | 1, _, h =>
    obtain ⟨a, b, c, rfl⟩ := len3 h
    rfl
  | 2, _, h =>
    obtain ⟨a, b, c, rfl⟩ := len3 h
    rfl
  | 3, _, h =>
    obtain ⟨a, b, rfl⟩ := len2 h
    rfl
  | 4, _, h =>
    obtain ⟨a, b, c, rfl⟩ := len3 h
    rfl
  | 5, _, h =>
    obtain ⟨a, b, c, d, rfl⟩ := len4 h
    rfl
  | 6, _, h =>
    obtain ⟨a, b, c, d, rfl⟩ := len4 h
    rfl
  | 7, _, h =>
    obtain ⟨a, b, rfl⟩ := len2 h
    rfl
  | 8, _, h =>
    obtain ⟨a, b, c, rfl⟩ := len3 h
    rfl
  | 9, _, h =>
    obtain ⟨a, b, rfl⟩ := len2 h
    rfl
  | 10, _, h =>
    obtain ⟨a, b, rfl⟩ := len2 h
    rfl
  | 11, _, h =>
    obtain ⟨a, rfl⟩ := len1 h
    rfl
  | 12, _, h =>
    obtain ⟨a, rfl⟩ := len1 h
    rfl
  | 13, _, h =>
    obtain rfl : g = [] := List.length_eq_zero_iff.mp h
    rfl
  | 14, _, h =>
    obtain rfl : g = [] := List.length_eq_zero_iff.mp h
    rfl
  | 15, _, h =>
    obtain ⟨a, b, rfl⟩ := len2 h
    rfl
  | 16, _, h =>
    obtain rfl : g = [] := List.length_eq_zero_iff.mp h
    rfl
  | 17, _, h =>
    obtain rfl : g = [] := List.length_eq_zero_iff.mp h
    rfl
  | 18, _, h =>
    obtain ⟨a, rfl⟩ := len1 h
    rfl
  | 19, _, h =>
    obtain ⟨a, rfl⟩ := len1 h
    rfl
  | 20, _, h =>
    obtain rfl : g = [] := List.length_eq_zero_iff.mp h
    rfl
  | 21, _, h =>
    obtain ⟨a, b, rfl⟩ := len2 h
    rfl
  | 22, _, h =>
    obtain ⟨a, rfl⟩ := len1 h
    rfl
  | 23, _, h =>
    obtain rfl : g = [] := List.length_eq_zero_iff.mp h
    rfl
  | 24, _, h =>
    obtain rfl : g = [] := List.length_eq_zero_iff.mp h
    rfl
  | 25, _, h =>
    obtain rfl : g = [] := List.length_eq_zero_iff.mp h
    rfl
  | n + 26, hq, _ => exact absurd hq (by omega)
/-- what is told of the calls from the state x on -/
def toldOf (x : Vbxlaa.State) (cs : List (List (List Int))) : List Int := PyFlat.told (PyFlat.played VbxlaaNeutral.step x (cs.map PyVbxlaa.whole))
theorem toldOf_cons (x : Vbxlaa.State) (c : List (List Int)) (cs : List (List (List Int))) (h : PyVbxlaa.whole c = c) : toldOf x (c :: cs) = (((Vbxlaa.stepRows x c).2.length : Nat) : Int) :: ((Vbxlaa.stepRows x c).2 ++ toldOf (Vbxlaa.stepRows x c).1 cs) := by
  unfold toldOf
  rw [List.map_cons, h]
  rfl
theorem toldOf_nil (x : Vbxlaa.State) : toldOf x [] = [] := rfl
theorem row_shortB : ∀ q : Nat, q < 26 → (!(sh q).2 || (PyVbxlaa.bound (q : Int)).2 == [(-1000000000000000000, 1000000000000000000, 0, 700)]) = true := by decide +kernel
theorem row_short (q : Nat) (hq : q < 26) (hb : (sh q).2 = true) : (PyVbxlaa.bound (q : Int)).2 = [(-1000000000000000000, 1000000000000000000, 0, 700)] := by
  have h := row_shortB q hq
  rw [hb] at h
  exact eq_of_beq h
theorem row_le {q : Nat} {g l : List Int} (hq : q < 26) (hb : (sh q).2 = true) (h : PyInside.call PyVbxlaa.bound (callRow q g l) = true) : l.length ≤ 700 := by
  rw [callRow_yes hb] at h
  simp only [PyInside.call] at h
  rw [row_short q hq hb] at h
  simp only [PyInside.lists, Bool.and_eq_true, decide_eq_true_eq] at h
  exact h.2.1.1.2
theorem asked_is {ns : List Int} (h : PyVbxlaa.answers_asked ns = true) : ∃ cs, PyFlat.calls PyVbxlaa.shape ns.length ns = some cs ∧ (∀ c ∈ cs, PyInside.call PyVbxlaa.bound c = true) ∧ PyVbxlaa.answers ns = toldOf Vbxlaa.start cs ∧ (PyVbxlaa.answers ns).length ≤ 10000000 := by
  unfold PyVbxlaa.answers_asked at h
  cases hc : PyFlat.calls PyVbxlaa.shape ns.length ns with
  | none =>
    rw [hc] at h
    cases h
  | some cs =>
    rw [hc] at h
    simp only [Bool.and_eq_true] at h
    obtain ⟨⟨⟨_, h2⟩, _⟩, h4⟩ := h
    refine ⟨cs, rfl, fun c m => List.all_eq_true.mp h2 c m, ?_, of_decide_eq_true h4⟩
    unfold PyVbxlaa.answers PyVbxlaa.calls
    rw [hc]
    rfl
/-- the places of the list that a turn reads -/
theorem drop_at {ns r : List Int} {i : Nat} {p : Int} (h : ns.drop i = p :: r) : ns[i]? = some p ∧ r = ns.drop (i + 1) ∧ i < ns.length := by
  have e : i < ns.length := by
    by_cases c : i < ns.length
    · exact c
    · rw [List.drop_eq_nil_of_le (by omega)] at h
      cases h
  rw [List.drop_eq_getElem_cons e] at h
  obtain ⟨h1, h2⟩ := List.cons.inj h
  exact ⟨by rw [List.getElem?_eq_getElem e, h1], h2.symm, e⟩
theorem listed_is : ∀ q : Nat, q < 26 → (L2.inV (V.int (q : Nat)) (([9, 14, 18, 19, 20, 22, 24] : List Int).map V.int)) = (sh q).2 := by decide +kernel
theorem many_is : ∀ q : Nat, q < 26 → (([1, 3, 3, 2, 3, 4, 4, 2, 3, 2, 2, 1, 1, 0, 0, 2, 0, 0, 1, 1, 0, 2, 1, 0, 0, 0] : List Int).map V.int)[q]? = some (V.int ((sh q).1 : Nat)) := by decide +kernel
end Sh

set_option maxHeartbeats 2000000
namespace Sh
open PySem PySem.Spec PyProof.Rows L2
section
variable {P : Program} {w : World} {K : PySem.W.Frag} {mg : Str → Option Value} {base : Heap} {ad : Ad}
theorem bigLine {n : Nat} (h : n ≤ 10000001) : n ≤ sizeLine := by
  rw [sizeLine_eq]
  omega
/-- counted, of any row that a request may answer -/
def spCountedB : Sp := fun vs H Q _ => ∃ (a : Addr) (xs : List V), vs = [.ref a] ∧ H a = some (.lst xs) ∧ xs.length ≤ 10000000 ∧ ∀ H' p, Same H H' → H p = none → H' p = some (.lst (.int (xs.length : Nat) :: xs)) → Q (.ref p) H'
theorem ok_countedB (T : Tx K mg ad) (D : Df K mg "counted" s_counted ["row"]) : Ok P w K mg base 1 "counted" ["row"] spCountedB := by
  refine D.ok c_counted (fun vs H Q E h => ?_) (fun f cdv A outer s H vs Q E hr h => ?_)
  · obtain ⟨a, xs, rfl, _⟩ := h
    rfl
  · refine ⟨_,
      (pss_one (ps_ret (pe_op op_cat (pe_lst (pa_cons (pe_callB call_len_seq (by rfl) T.b_len (by decide +kernel) (pa_cons (pv 0) pa_nil)) pa_nil)) (pv 0))))
      , ?_⟩
    obtain ⟨a, xs, rfl, ha, hl, k⟩ := h
    refine ⟨_, rfl, a, xs, rfl, .inl (SqL.of ha), leLine (by show 1 ≤ 1000; decide), fun q nq => ?_⟩
    have s1 : Same H (upd H q (.lst [.int (xs.length : Nat)])) := Same.new nq
    refine ⟨_, rfl, q, a, _, _, rfl, rfl, upd_same, s1 _ _ ha, bigLine (by show 1 + _ ≤ 10000001; omega), fun p np => ?_⟩
    exact k _ p (s1.trans (Same.new np)) (s1.free np) upd_same
/-- the list that is handed in -/
def CallsAt (K : PySem.W.Frag) (ro : Rm) (H : Hp) (L a : Addr) (xs : List V) : Prop := (Rd H a (.lst xs) ∧ ro a = none ∧ a ≠ L) ∨ ∀ H', SqL K H' a xs
theorem CallsAt.sq {ro : Rm} {H : Hp} {L a : Addr} {xs : List V} (h : CallsAt K ro H L a xs) : SqL K H a xs := h.elim (fun z => .inl z.1) fun z => z H
theorem CallsAt.move {ro ro' : Rm} {H H' : Hp} {L a : Addr} {xs : List V} (h : CallsAt K ro H L a xs) (k : ∀ b o, H b = some o → ro b = none → b ≠ L → H' b = some o ∧ ro' b = none) : CallsAt K ro' H' L a xs := by
  rcases h with ⟨r, q, n⟩ | h
  · rcases r with r | ⟨o, r⟩
    · obtain ⟨z1, z2⟩ := k _ _ r q n
      exact .inl ⟨.inl z1, z2, n⟩
    · obtain ⟨z1, z2⟩ := k _ _ r q n
      exact .inl ⟨.inr ⟨o, z1⟩, z2, n⟩
  · exact .inr h
/-- roles of what stands alone -/
def trim (H : Hp) (ro : Rm) : Rm := fun a => match H a with
  | none => none
  | some _ => ro a
theorem trim_none {H : Hp} {ro : Rm} {a : Addr} (h : H a = none) : trim H ro a = none := by
  unfold trim
  rw [h]
theorem trim_some {H : Hp} {ro : Rm} {a : Addr} {o : HO} (h : H a = some o) : trim H ro a = ro a := by
  unfold trim
  rw [h]
theorem trim_of {H : Hp} {ro : Rm} {a : Addr} (h : ro a = none) : trim H ro a = none := by
  cases e : H a with
  | none => exact trim_none e
  | some o => exact (trim_some e).trans h
theorem DeskAt.move {ro ro' : Rm} {H H' : Hp} {da : Addr} {x : VSs} (h : DeskAt K ad ro H da x) (t : Tups H H') (k : ∀ a o r, H a = some o → ro a = some r → H' a = some o ∧ ro' a = some r) : DeskAt K ad ro' H' da x := by
  obtain ⟨dd, sv, mv, h1, h2, h3⟩ := h.ex
  have kb : ∀ b, Kept ro ro' H H' b := fun b => ⟨t, fun a o r e q _ => k a o r e q⟩
  exact ⟨⟨dd, sv, mv, (k _ _ _ h1 h.rd).1, h2.keep (kb _), h3.keep (kb _)⟩, (k _ _ _ h1 h.rd).2⟩
theorem cut_ints {ns : List Int} {a n : Nat} (h : a + n ≤ ns.length) : cutV (ns.map V.int) (some (a : Int)) (some ((a + n : Nat) : Int)) = ((ns.drop a).take n).map V.int := by
  rw [cut_mid _ _ _ (by rw [List.length_map]; exact h), show a + n - a = n by omega, List.map_take, List.map_drop]
/-- answers, for a list that is in range -/
def spAnswers (K : PySem.W.Frag) : Sp := fun vs H Q _ => ∃ (ca : Addr) (ns : List Int), vs = [.ref ca] ∧ SqL K H ca (ns.map V.int) ∧ Lim ns ∧ PyVbxlaa.answers_asked ns = true ∧
  ∀ H' p, H' p = some (.lst ((PyVbxlaa.answers ns).map V.int)) → Q (.ref p) H'
theorem ok_answersF (T : Tx K mg ad) {f : Addr} {fd : FuncData} (F : Fun K "answers" "answers" s_answers f fd) (G_Desk : OkI P w K mg base 1 "Desk" ad.desk ["self"] (spDeskInit ad)) (G_counted : Ok P w K mg base 1 "counted" ["row"] spCountedB)
    (G_answered : Ok P w K mg base 9 "answered" ["desk", "number", "given", "row"] (spAnswered K ad)) : FnOk P w K mg base (L2N.CX P w) 10 f fd ["calls"] (spAnswers K) := by
  refine fun_okN F c_answers (fun vs H Q E h => ?_) (fun cdv A outer s H vs Q E hr h => ?_)
  · obtain ⟨ca, ns, rfl, _⟩ := h
    rfl
  · refine ⟨_,
      (pss_cons (ps_par3 (i := 1) (j := 2) (l := 3) rfl c_answers.nd rfl rfl rfl (by decide) (by decide) (by decide) rfl rfl rfl (pa_cons (pe_i0 G_Desk hr) (pa_cons (pe_lst pa_nil) (pa_cons pe_int pa_nil))) (by rfl))
        (pss_cons (ps_while (passes_of rfl) (pt_cmpR op_lt (pv 3) (pe_callB call_len_seq (by rfl) T.b_len (by decide +kernel) (pa_cons (pv 0) pa_nil)) (nomark _))
          (pss_cons (ps_set (i := 4) c_answers.nd rfl (Or.inl rfl) (pe_ix ix_list (pv 0) (pv 3) (fun _ _ => rfl)))
          (pss_cons (ps_set (i := 5) c_answers.nd rfl (Or.inl rfl) (pe_op op_add (pe_op op_add (pv 3) pe_int) (pe_ix ix_tup (pe_glob (v := .ref ad.integers) rfl T.g_INTEGERS rfl) (pv 4) (fun _ _ => rfl))))
          (pss_cons (ps_par (i := 6) (j := 7) rfl c_answers.nd rfl rfl (by decide) rfl rfl (pa_cons (pe_slice sl_list (pv 0) (po_some (pe_op op_add (pv 3) pe_int)) (po_some (pv 5))) (pa_cons (pe_lst pa_nil) pa_nil)) (by rfl))
          (pss_cons (ps_if (pt_cmpR op_in_seq (pv 4) (pe_glob (v := .ref ad.listed) rfl T.g_LISTED rfl) rfl) (pss_cons (ps_set (i := 7) c_answers.nd rfl (Or.inl rfl) (pe_slice sl_list (pv 0) (po_some (pe_op op_add (pv 5) pe_int)) (po_some (pe_op op_add (pe_op op_add (pv 5) pe_int) (pe_ix ix_list (pv 0) (pv 5) (fun _ _ => rfl))))))
            (pss_one (ps_set (i := 5) c_answers.nd rfl (Or.inl rfl) (pe_op op_add (pe_op op_add (pv 5) pe_int) (pe_callB call_len_seq (by rfl) T.b_len (by decide +kernel) (pa_cons (pv 7) pa_nil)))))) pss_nil)
          (pss_cons (ps_expr (pe_bm PySem.F.plainAttrs_list PySem.F.slot_list_extend PySem.F.type_list_extend mt_extend (pv 2) (pa_cons (pe_c G_counted hr (L2N.takes_of rfl rfl rfl rfl) (pa_cons (pe_c G_answered hr (L2N.takes_of rfl rfl rfl rfl) (pa_cons (pv 1) (pa_cons (pv 4) (pa_cons (pv 6) (pa_cons (pv 7) pa_nil))))) pa_nil)) pa_nil)))
          (pss_one (ps_set (i := 3) c_answers.nd rfl (Or.inl rfl) (pv 5)))))))))
        (pss_one (ps_ret (pv 2)))))
      , ?_⟩
    obtain ⟨ca, ns, rfl, hS, hlim, hask, k⟩ := h
    obtain ⟨cs0, hc0, hb0, ha0, hal⟩ := asked_is hask
    intro da dd nda ndd nde
    refine ⟨da, dd, rfl, upd_same, fun H1 kp1 hd1 => ⟨rfl, ?_⟩⟩
    have s1 : Same H H1 := fun b o e => by
      have nb : b ≠ da := ne_of_none e nda
      have nb2 : b ≠ dd := ne_of_none e ndd
      exact kp1 b o nb (by rw [upd_ne nb, upd_ne nb2]; exact e)
    refine ⟨leLine (by decide), fun L nL => ⟨_, _, _, rfl, ?_⟩⟩
    have s2 : Same H1 (upd H1 L (.lst [])) := Same.new nL
    have nLd : da ≠ L := ne_of_none hd1 nL
    refine ⟨fun m σ H3 => ∃ (i : Nat) (v4 v5 v6 v7 : Option V) (fu : Nat) (cs : List (List (List Int))) (done : List Int) (ro : Rm) (x : VSs), m + i = ns.length ∧ σ = [some (.ref ca), some (.ref da), some (.ref L), some (.int (i : Nat)), v4, v5, v6, v7] ∧
        PyFlat.calls PyVbxlaa.shape fu (ns.drop i) = some cs ∧ (∀ c ∈ cs, PyInside.call PyVbxlaa.bound c = true) ∧ PyVbxlaa.answers ns = done ++ toldOf x cs ∧ CallsAt K ro H3 L ca (ns.map V.int) ∧ DeskAt K ad ro H3 da x ∧
        H3 L = some (.lst (done.map V.int)) ∧ ro L = none ∧ (∀ a, H3 a = none → ro a = none),
      ⟨ns.length, 0, none, none, none, none, ns.length, cs0, [], fun a => if a = da then some .desk else none, Vbxlaa.start, rfl, rfl, hc0, hb0, ha0, ?_, ⟨⟨dd, .non, .non, s2 _ _ hd1, rfl, rfl⟩, if_pos rfl⟩, upd_same, if_neg nLd.symm, fun a ea => if_neg fun z => ?_⟩, ?_⟩
    · rcases hS with hS | hS
      · have e1 : ∃ o, H ca = some o := by
          rcases hS with r | ⟨o, r⟩
          · exact ⟨_, r⟩
          · exact ⟨_, r⟩
        obtain ⟨o, e1⟩ := e1
        refine .inl ⟨?_, if_neg (ne_of_none e1 nda), ne_of_none (s1 _ _ e1) nL⟩
        rcases hS with r | ⟨o2, r⟩
        · exact .inl (s2 _ _ (s1 _ _ r))
        · exact .inr ⟨o2, s2 _ _ (s1 _ _ r)⟩
      · exact .inr fun _ => .inr hS
    · rw [z, s2 _ _ hd1] at ea
      cases ea
    rintro m σ H3 ⟨i, v4, v5, v6, v7, fu, cs, done, ro, x, hm, rfl, hcs, hbs, hans, hC, hD, hL, nroL, htr⟩
    refine ⟨_, rfl, _, rfl, ca, ns.map V.int, rfl, .inl hC.sq, _, _, rfl, rfl, _, rfl, ?_⟩
    refine ite2 (fun cc => ?_) fun cc => ?_
    · have cc : i < ns.length := by
        have := of_decide_eq_true cc
        rw [List.length_map] at this
        omega
      obtain ⟨p, r, hpr⟩ : ∃ p r, ns.drop i = p :: r := ⟨_, _, List.drop_eq_getElem_cons cc⟩
      obtain ⟨hp, er, _⟩ := drop_at hpr
      rw [hpr] at hcs
      obtain ⟨q, l, t, fu2, cs', rfl, tn, rfl, hcs'⟩ := calls_step hcs
      have hrl : r.length + i + 1 = ns.length := by rw [er, List.length_drop]; omega
      have hle := tn.le
      have hq := tn.lt
      have hl7 : l.length ≤ 700 := by
        cases hb : (sh q).2 with
        | false =>
          rw [(tn.no hb).1]
          exact Nat.zero_le _
        | true => exact row_le hq hb (hbs _ List.mem_cons_self)
      have hgl : (r.take (sh q).1).length = (sh q).1 := by rw [List.length_take]; omega
      have hlg : Lim (r.take (sh q).1) := fun z hz => hlim z (List.mem_of_mem_drop (er ▸ List.mem_of_mem_take hz))
      rw [toldOf_cons _ _ _ (whole_row hq hgl)] at hans
      refine ⟨_, fun σ' H' h => h, ?_⟩
      refine ⟨_, rfl, _, rfl, ca, ns.map V.int, _, .int (q : Nat), rfl, rfl, hC.sq, atI_nat (by rw [List.getElem?_map, hp]; rfl), ?_⟩
      refine ⟨_, rfl, _, _, rfl, rfl, _, rfl, ad.integers, _, _, .int ((sh q).1 : Nat), rfl, rfl, T.integers H3, atI_nat (many_is q hq), _, _, rfl, rfl, ?_⟩
      refine ⟨_, rfl, _, rfl, _, _, rfl, rfl, _, rfl, _, rfl, _, rfl, ca, _, rfl, hC.sq, fun ga nga => ?_⟩
      rw [show cutV (ns.map V.int) (some ((i : Int) + 1)) (some ((i : Int) + 1 + ((sh q).1 : Nat))) = (r.take (sh q).1).map V.int from by
        rw [show (i : Int) + 1 = ((i + 1 : Nat) : Int) by omega, show ((i + 1 : Nat) : Int) + ((sh q).1 : Nat) = ((i + 1 + (sh q).1 : Nat) : Int) by omega, cut_ints (by omega), er]]
      have s4 : Same H3 (upd H3 ga (.lst ((r.take (sh q).1).map V.int))) := Same.new nga
      refine ⟨leLine (by decide), fun la nla => ⟨_, _, rfl, ?_⟩⟩
      have s5 := s4.trans (Same.new (o := .lst []) nla)
      have nga0 := htr ga nga
      have nla0 := htr la (s4.free nla)
      have hg5 := Same.new (o := .lst []) nla _ _ (upd_same (H := H3) (a := ga) (o := .lst ((r.take (sh q).1).map V.int)))
      refine ⟨_, rfl, ad.listed, _, rfl, .inr (T.listed _), rfl, rfl, _, rfl, ?_⟩
      rw [show (if false = true then !inV (V.int (q : Nat)) (([9, 14, 18, 19, 20, 22, 24] : List Int).map V.int) else inV (V.int (q : Nat)) (([9, 14, 18, 19, 20, 22, 24] : List Int).map V.int)) = (sh q).2 from listed_is q hq]
      have kA : ∀ {H6 : Hp} (s6 : Same H3 H6), CallsAt K ro H6 L ca (ns.map V.int) ∧ DeskAt K ad ro H6 da x ∧ H6 L = some (.lst (done.map V.int)) := fun s6 => ⟨hC.move fun b o e q _ => ⟨s6 _ _ e, q⟩, hD.same s6, s6 _ _ hL⟩
      cases hb : (sh q).2 with
      | false =>
        obtain ⟨rfl, et⟩ := tn.no hb
        have ej : t = ns.drop (i + 1 + (sh q).1) := by rw [et, er, List.drop_drop]
        have hj : i + 1 + (sh q).1 ≤ ns.length := by omega
        have hla5 : (upd (upd H3 ga (.lst ((r.take (sh q).1).map V.int))) la (.lst [])) la = some (.lst (([] : List Int).map V.int)) := upd_same
        obtain ⟨hC5, hD5, hL5⟩ := kA s5
        refine iteF ?_
        refine ⟨_, rfl, .inl ⟨rfl, _, SqL.of hL5⟩, _, rfl, _, rfl, _, rfl, _, rfl, da, ga, _, ro, x, q, r.take (sh q).1, _, rfl, hq, hD5, hg5, hla5, nga0, nla0, hgl, hlg, hl7, fun H7 ro7 p7 fr7 hD7 hp7 => ?_⟩
        have hlen := hal
        rw [hans, List.length_append, List.length_cons, List.length_append] at hlen
        refine ⟨p7, _, rfl, hp7, by rw [List.length_map]; omega, fun H8 p8 s8 np8 hp8 => ?_⟩
        obtain ⟨hL7, nL7⟩ := fr7 _ _ hL5 nroL
        have hL8 := s8 _ _ hL7
        refine ⟨L, p8, _, _, rfl, rfl, hL8, hp8, bigLine (by rw [List.length_map, List.length_cons, List.length_map]; omega), ?_⟩
        have hC8 : CallsAt K ro7 H8 L ca (ns.map V.int) := hC5.move fun b o e q _ => ⟨s8 _ _ (fr7 _ _ e q).1, (fr7 _ _ e q).2⟩
        have hD8 : DeskAt K ad ro7 H8 da _ := hD7.same s8
        have ne8 : ∀ a o r, H8 a = some o → ro7 a = some r → a ≠ L := fun a o r _ q z => by
          rw [z, nL7] at q
          cases q
        refine ⟨_, rfl, ns.length - (i + 1 + (sh q).1), by omega, (i + 1 + (sh q).1), some (.int (q : Nat)), some (.int ((i : Int) + 1 + ((sh q).1 : Nat))), some (.ref ga), some (.ref la), fu2, cs', done ++ (((Vbxlaa.stepRows x (callRow q (r.take (sh q).1) [])).2.length : Nat) : Int) :: (Vbxlaa.stepRows x (callRow q (r.take (sh q).1) [])).2, trim _ ro7, (Vbxlaa.stepRows x (callRow q (r.take (sh q).1) [])).1, by omega, ?_, ej ▸ hcs', fun c m => hbs c (List.mem_cons_of_mem _ m), ?_,
          hC8.move fun b o e q n => ⟨(upd_ne n).trans e, trim_of q⟩, hD8.move (Tups.write hL8 fun _ z => by cases z) (fun a o r e q => ⟨(upd_ne (ne8 a o r e q)).trans e, (trim_some ((upd_ne (ne8 a o r e q)).trans e)).trans q⟩), ?_, trim_of nL7, fun a e => trim_none e⟩
        · have ejz : (i : Int) + 1 + ((sh q).1 : Nat) = (((i + 1 + (sh q).1) : Nat) : Int) := by omega
          rw [← ejz]
          rfl
        · rw [hans, List.append_assoc]
          rfl
        · rw [upd_same, List.map_append, List.map_cons, List.length_map]
      | true =>
        obtain ⟨mm, ss, edr, hms, rfl, et⟩ := tn.ys hb
        have hdr : ns.drop (i + 1 + (sh q).1) = (mm : Int) :: ss := by rw [← edr, er, List.drop_drop]
        obtain ⟨hmm, ess, hlt⟩ := drop_at hdr
        have hssl : ss.length + (i + 1 + (sh q).1) + 1 = ns.length := by rw [ess, List.length_drop]; omega
        have ej : t = ns.drop (i + 1 + (sh q).1 + 1 + mm) := by rw [et, ess, List.drop_drop]
        have hj : i + 1 + (sh q).1 + 1 + mm ≤ ns.length := by omega
        have hml : (ss.take mm).length = mm := by rw [List.length_take]; omega
        obtain ⟨hC4, _, _⟩ := kA s5
        refine iteT ?_
        refine ⟨_, rfl, _, rfl, _, _, rfl, rfl, _, rfl, _, rfl, _, _, rfl, rfl, _, rfl, _, rfl, ca, ns.map V.int, _, .int (mm : Nat), rfl, rfl, hC4.sq, at_of (j := i + 1 + (sh q).1) (by omega) (by rw [List.getElem?_map, hmm]; rfl), _, _, rfl, rfl, _, rfl, ca, _, rfl, hC4.sq, fun la2 nla2 => ?_⟩
        rw [show cutV (ns.map V.int) (some ((i : Int) + 1 + ((sh q).1 : Nat) + 1)) (some ((i : Int) + 1 + ((sh q).1 : Nat) + 1 + (mm : Nat))) = (ss.take mm).map V.int from by
          rw [show (i : Int) + 1 + ((sh q).1 : Nat) + 1 = ((i + 1 + (sh q).1 + 1 : Nat) : Int) by omega, show ((i + 1 + (sh q).1 + 1 : Nat) : Int) + (mm : Nat) = ((i + 1 + (sh q).1 + 1 + mm : Nat) : Int) by omega, cut_ints (by omega), ess]]
        have s6 := s5.trans (Same.new (o := .lst ((ss.take mm).map V.int)) nla2)
        have nla0 := htr la2 (s5.free nla2)
        have hg5 := Same.new (o := .lst ((ss.take mm).map V.int)) nla2 _ _ hg5
        have hla5 : (upd (upd (upd H3 ga (.lst ((r.take (sh q).1).map V.int))) la (.lst [])) la2 (.lst ((ss.take mm).map V.int))) la2 = some (.lst ((ss.take mm).map V.int)) := upd_same
        obtain ⟨hC5, hD5, hL5⟩ := kA s6
        refine ⟨_, rfl, _, _, rfl, rfl, _, rfl, la2, _, rfl, .inl (SqL.of upd_same), _, _, rfl, rfl, ?_⟩
        refine ⟨_, rfl, .inl ⟨rfl, _, SqL.of hL5⟩, _, rfl, _, rfl, _, rfl, _, rfl, da, ga, _, ro, x, q, r.take (sh q).1, _, rfl, hq, hD5, hg5, hla5, nga0, nla0, hgl, hlg, hl7, fun H7 ro7 p7 fr7 hD7 hp7 => ?_⟩
        have hlen := hal
        rw [hans, List.length_append, List.length_cons, List.length_append] at hlen
        refine ⟨p7, _, rfl, hp7, by rw [List.length_map]; omega, fun H8 p8 s8 np8 hp8 => ?_⟩
        obtain ⟨hL7, nL7⟩ := fr7 _ _ hL5 nroL
        have hL8 := s8 _ _ hL7
        refine ⟨L, p8, _, _, rfl, rfl, hL8, hp8, bigLine (by rw [List.length_map, List.length_cons, List.length_map]; omega), ?_⟩
        have hC8 : CallsAt K ro7 H8 L ca (ns.map V.int) := hC5.move fun b o e q _ => ⟨s8 _ _ (fr7 _ _ e q).1, (fr7 _ _ e q).2⟩
        have hD8 : DeskAt K ad ro7 H8 da _ := hD7.same s8
        have ne8 : ∀ a o r, H8 a = some o → ro7 a = some r → a ≠ L := fun a o r _ q z => by
          rw [z, nL7] at q
          cases q
        refine ⟨_, rfl, ns.length - (i + 1 + (sh q).1 + 1 + mm), by omega, (i + 1 + (sh q).1 + 1 + mm), some (.int (q : Nat)), some (.int ((i : Int) + 1 + ((sh q).1 : Nat) + 1 + (((ss.take mm).map V.int).length : Nat))), some (.ref ga), some (.ref la2), fu2, cs', done ++ (((Vbxlaa.stepRows x (callRow q (r.take (sh q).1) (ss.take mm))).2.length : Nat) : Int) :: (Vbxlaa.stepRows x (callRow q (r.take (sh q).1) (ss.take mm))).2, trim _ ro7, (Vbxlaa.stepRows x (callRow q (r.take (sh q).1) (ss.take mm))).1, by omega, ?_, ej ▸ hcs', fun c m => hbs c (List.mem_cons_of_mem _ m), ?_,
          hC8.move fun b o e q n => ⟨(upd_ne n).trans e, trim_of q⟩, hD8.move (Tups.write hL8 fun _ z => by cases z) (fun a o r e q => ⟨(upd_ne (ne8 a o r e q)).trans e, (trim_some ((upd_ne (ne8 a o r e q)).trans e)).trans q⟩), ?_, trim_of nL7, fun a e => trim_none e⟩
        · have ejz : (i : Int) + 1 + ((sh q).1 : Nat) + 1 + (((ss.take mm).map V.int).length : Nat) = (((i + 1 + (sh q).1 + 1 + mm) : Nat) : Int) := by rw [List.length_map, hml]; omega
          rw [← ejz]
          rfl
        · rw [hans, List.append_assoc]
          rfl
        · rw [upd_same, List.map_append, List.map_cons, List.length_map]
    · have cc : ns.length ≤ i := by
        have := of_decide_eq_false (Bool.eq_false_iff.mpr cc)
        rw [List.length_map] at this
        omega
      rw [List.drop_eq_nil_of_le cc] at hcs
      have ecs : cs = [] := by
        cases fu with
        | zero => exact (Option.some.inj hcs).symm
        | succ f => exact (Option.some.inj hcs).symm
      subst ecs
      rw [toldOf_nil, List.append_nil] at hans
      exact ⟨_, rfl, k _ L (by rw [hL, hans])⟩
end
end Sh


set_option maxHeartbeats 2000000
/-! E1: all defs, from what the top has left; printed by genend.py. -/
namespace Sh
open PySem PySem.Spec PyProof.Rows L2
section
variable {P : Program} {w : World} {K : PySem.W.Frag} {mg : Str → Option Value} {base : Heap} {ad : Ad} {f : Addr} {fd : FuncData}
theorem b_Client_init (F : Fun K "__init__" "Client.__init__" s_Client_init f fd) : Binds K fd ["self"] [] := F.binds fun _ _ _ _ _ _ us hl => match us, hl with | [_], _ => rfl
theorem b_Store_init (F : Fun K "__init__" "Store.__init__" s_Store_init f fd) : Binds K fd ["self", "many"] [] := F.binds fun _ _ _ _ _ _ us hl => match us, hl with | [_, _], _ => rfl
theorem b_Store_make (F : Fun K "make" "Store.make" s_Store_make f fd) : Binds K fd ["self", "many"] [] := F.binds fun _ _ _ _ _ _ us hl => match us, hl with | [_, _], _ => rfl
theorem b_Store_duplicate (F : Fun K "duplicate" "Store.duplicate" s_Store_duplicate f fd) : Binds K fd ["self"] [] := F.binds fun _ _ _ _ _ _ us hl => match us, hl with | [_], _ => rfl
theorem b_root_rows (F : Fun K "root_rows" "root_rows" s_root_rows f fd) : Binds K fd ["client"] [] := F.binds fun _ _ _ _ _ _ us hl => match us, hl with | [_], _ => rfl
theorem b_root_values (F : Fun K "root_values" "root_values" s_root_values f fd) : Binds K fd ["client"] [] := F.binds fun _ _ _ _ _ _ us hl => match us, hl with | [_], _ => rfl
theorem b_all_values (F : Fun K "all_values" "all_values" s_all_values f fd) : Binds K fd ["store"] [] := F.binds fun _ _ _ _ _ _ us hl => match us, hl with | [_], _ => rfl
theorem b_walk (F : Fun K "walk" "walk" s_walk f fd) : Binds K fd ["store", "row"] [] := F.binds fun _ _ _ _ _ _ us hl => match us, hl with | [_, _], _ => rfl
theorem b_client_walk (F : Fun K "client_walk" "client_walk" s_client_walk f fd) : Binds K fd ["store", "number"] [] := F.binds fun _ _ _ _ _ _ us hl => match us, hl with | [_, _], _ => rfl
theorem b_store_walk (F : Fun K "store_walk" "store_walk" s_store_walk f fd) : Binds K fd ["store"] [] := F.binds fun _ _ _ _ _ _ us hl => match us, hl with | [_], _ => rfl
theorem b_unreached (F : Fun K "unreached" "unreached" s_unreached f fd) : Binds K fd ["store"] [] := F.binds fun _ _ _ _ _ _ us hl => match us, hl with | [_], _ => rfl
theorem b_root_at (F : Fun K "root_at" "root_at" s_root_at f fd) : Binds K fd ["client", "index"] [] := F.binds fun _ _ _ _ _ _ us hl => match us, hl with | [_, _], _ => rfl
theorem b_field_at (F : Fun K "field_at" "field_at" s_field_at f fd) : Binds K fd ["store", "own", "field"] [] := F.binds fun _ _ _ _ _ _ us hl => match us, hl with | [_, _, _], _ => rfl
theorem b_value_at (F : Fun K "value_at" "value_at" s_value_at f fd) : Binds K fd ["store", "number", "path"] [] := F.binds fun _ _ _ _ _ _ us hl => match us, hl with | [_, _, _], _ => rfl
theorem b_value_at_place (F : Fun K "value_at_place" "value_at_place" s_value_at_place f fd) : Binds K fd ["store", "place"] [] := F.binds fun _ _ _ _ _ _ us hl => match us, hl with | [_, _], _ => rfl
theorem b_detail (F : Fun K "detail" "detail" s_detail f fd) : Binds K fd ["store", "own"] [] := F.binds fun _ _ _ _ _ _ us hl => match us, hl with | [_, _], _ => rfl
theorem b_paths_of (F : Fun K "paths_of" "paths_of" s_paths_of f fd) : Binds K fd ["store", "number"] [] := F.binds fun _ _ _ _ _ _ us hl => match us, hl with | [_, _], _ => rfl
theorem b_references_of (F : Fun K "references_of" "references_of" s_references_of f fd) : Binds K fd ["store", "number"] [] := F.binds fun _ _ _ _ _ _ us hl => match us, hl with | [_, _], _ => rfl
theorem b_steps_from (F : Fun K "steps_from" "steps_from" s_steps_from f fd) : Binds K fd ["references", "used", "point"] [] := F.binds fun _ _ _ _ _ _ us hl => match us, hl with | [_, _, _], _ => rfl
theorem b_spread (F : Fun K "spread" "spread" s_spread f fd) : Binds K fd ["references", "used"] [] := F.binds fun _ _ _ _ _ _ us hl => match us, hl with | [_, _], _ => rfl
theorem b_lead_more (F : Fun K "lead_more" "lead_more" s_lead_more f fd) : Binds K fd ["used", "reached", "target"] [] := F.binds fun _ _ _ _ _ _ us hl => match us, hl with | [_, _, _], _ => rfl
theorem b_cut_of (F : Fun K "cut_of" "cut_of" s_cut_of f fd) : Binds K fd ["store", "number", "name"] [] := F.binds fun _ _ _ _ _ _ us hl => match us, hl with | [_, _, _], _ => rfl
theorem b_Side_init (F : Fun K "__init__" "Side.__init__" s_Side_init f fd) : Binds K fd ["self", "store", "numbers"] [] := F.binds fun _ _ _ _ _ _ us hl => match us, hl with | [_, _, _], _ => rfl
theorem b_found_at (F : Fun K "found_at" "found_at" s_found_at f fd) : Binds K fd ["store", "number", "path"] [] := F.binds fun _ _ _ _ _ _ us hl => match us, hl with | [_, _, _], _ => rfl
theorem b_message_size (F : Fun K "message_size" "message_size" s_message_size f fd) : Binds K fd ["store", "number", "message"] [] := F.binds fun _ _ _ _ _ _ us hl => match us, hl with | [_, _, _], _ => rfl
theorem b_size_result (F : Fun K "size_result" "size_result" s_size_result f fd) : Binds K fd ["store", "number", "rest"] [] := F.binds fun _ _ _ _ _ _ us hl => match us, hl with | [_, _, _], _ => rfl
theorem b_same_result (F : Fun K "same_result" "same_result" s_same_result f fd) : Binds K fd ["store", "number", "rest"] [] := F.binds fun _ _ _ _ _ _ us hl => match us, hl with | [_, _, _], _ => rfl
theorem b_result_of (F : Fun K "result_of" "result_of" s_result_of f fd) : Binds K fd ["store", "number", "test"] [] := F.binds fun _ _ _ _ _ _ us hl => match us, hl with | [_, _, _], _ => rfl
theorem b_heads (F : Fun K "heads" "heads" s_heads f fd) : Binds K fd ["side", "is_store"] [] := F.binds fun _ _ _ _ _ _ us hl => match us, hl with | [_, _], _ => rfl
theorem b_size_difference (F : Fun K "size_difference" "size_difference" s_size_difference f fd) : Binds K fd ["left", "right", "is_store"] [] := F.binds fun _ _ _ _ _ _ us hl => match us, hl with | [_, _, _], _ => rfl
theorem b_begun_queue (F : Fun K "begun_queue" "begun_queue" s_begun_queue f fd) : Binds K fd ["left", "right", "is_store"] [] := F.binds fun _ _ _ _ _ _ us hl => match us, hl with | [_, _, _], _ => rfl
theorem b_met_with (F : Fun K "met_with" "met_with" s_met_with f fd) : Binds K fd ["pairs", "one", "other"] [] := F.binds fun _ _ _ _ _ _ us hl => match us, hl with | [_, _, _], _ => rfl
theorem b_are_paired (F : Fun K "are_paired" "are_paired" s_are_paired f fd) : Binds K fd ["pairs", "one", "other"] [] := F.binds fun _ _ _ _ _ _ us hl => match us, hl with | [_, _, _], _ => rfl
theorem b_difference (F : Fun K "difference" "difference" s_difference f fd) : Binds K fd ["left", "right", "is_store"] [] := F.binds fun _ _ _ _ _ _ us hl => match us, hl with | [_, _, _], _ => rfl
theorem b_clients_difference (F : Fun K "clients_difference" "clients_difference" s_clients_difference f fd) : Binds K fd ["store", "number", "other"] [] := F.binds fun _ _ _ _ _ _ us hl => match us, hl with | [_, _, _], _ => rfl
theorem b_stores_difference (F : Fun K "stores_difference" "stores_difference" s_stores_difference f fd) : Binds K fd ["store", "other"] [] := F.binds fun _ _ _ _ _ _ us hl => match us, hl with | [_, _], _ => rfl
theorem b_Unread_init (F : Fun K "__init__" "Unread.__init__" s_Unread_init f fd) : Binds K fd ["self", "index"] [] := F.binds fun _ _ _ _ _ _ us hl => match us, hl with | [_, _], _ => rfl
theorem b_numbered (F : Fun K "numbered" "numbered" s_numbered f fd) : Binds K fd ["names"] [] := F.binds fun _ _ _ _ _ _ us hl => match us, hl with | [_], _ => rfl
theorem b_written (F : Fun K "written" "written" s_written f fd) : Binds K fd ["own", "numbers"] [] := F.binds fun _ _ _ _ _ _ us hl => match us, hl with | [_, _], _ => rfl
theorem b_row_written (F : Fun K "row_written" "row_written" s_row_written f fd) : Binds K fd ["row", "numbers"] [] := F.binds fun _ _ _ _ _ _ us hl => match us, hl with | [_, _], _ => rfl
theorem b_client_text (F : Fun K "client_text" "client_text" s_client_text f fd) : Binds K fd ["client", "numbers"] [] := F.binds fun _ _ _ _ _ _ us hl => match us, hl with | [_, _], _ => rfl
theorem b_things_text (F : Fun K "things_text" "things_text" s_things_text f fd) : Binds K fd ["store", "names", "numbers"] [] := F.binds fun _ _ _ _ _ _ us hl => match us, hl with | [_, _, _], _ => rfl
theorem b_client_view (F : Fun K "client_view" "client_view" s_client_view f fd) : Binds K fd ["store", "number"] [] := F.binds fun _ _ _ _ _ _ us hl => match us, hl with | [_, _], _ => rfl
theorem b_store_view (F : Fun K "store_view" "store_view" s_store_view f fd) : Binds K fd ["store"] [] := F.binds fun _ _ _ _ _ _ us hl => match us, hl with | [_], _ => rfl
theorem b_Reader_init (F : Fun K "__init__" "Reader.__init__" s_Reader_init f fd) : Binds K fd ["self", "text"] [] := F.binds fun _ _ _ _ _ _ us hl => match us, hl with | [_, _], _ => rfl
theorem b_Reader_number (F : Fun K "number" "Reader.number" s_Reader_number f fd) : Binds K fd ["self", "low", "high"] [] := F.binds fun _ _ _ _ _ _ us hl => match us, hl with | [_, _, _], _ => rfl
theorem b_Reader_value (F : Fun K "value" "Reader.value" s_Reader_value f fd) : Binds K fd ["self"] [] := F.binds fun _ _ _ _ _ _ us hl => match us, hl with | [_], _ => rfl
theorem b_Reader_row (F : Fun K "row" "Reader.row" s_Reader_row f fd) : Binds K fd ["self", "many"] [] := F.binds fun _ _ _ _ _ _ us hl => match us, hl with | [_, _], _ => rfl
theorem b_Reader_client (F : Fun K "client" "Reader.client" s_Reader_client f fd) : Binds K fd ["self"] [] := F.binds fun _ _ _ _ _ _ us hl => match us, hl with | [_], _ => rfl
theorem b_Reader_thing (F : Fun K "thing" "Reader.thing" s_Reader_thing f fd) : Binds K fd ["self", "name"] [] := F.binds fun _ _ _ _ _ _ us hl => match us, hl with | [_, _], _ => rfl
theorem b_read_store (F : Fun K "read_store" "read_store" s_read_store f fd) : Binds K fd ["text"] [] := F.binds fun _ _ _ _ _ _ us hl => match us, hl with | [_], _ => rfl
theorem b_Refused_init (F : Fun K "__init__" "Refused.__init__" s_Refused_init f fd) : Binds K fd ["self", "code"] [] := F.binds fun _ _ _ _ _ _ us hl => match us, hl with | [_, _], _ => rfl
theorem b_Desk_init (F : Fun K "__init__" "Desk.__init__" s_Desk_init f fd) : Binds K fd ["self"] [] := F.binds fun _ _ _ _ _ _ us hl => match us, hl with | [_], _ => rfl
theorem b_refuse_unless (F : Fun K "refuse_unless" "refuse_unless" s_refuse_unless f fd) : Binds K fd ["is_right", "code"] [] := F.binds fun _ _ _ _ _ _ us hl => match us, hl with | [_, _], _ => rfl
theorem b_need (F : Fun K "need" "need" s_need f fd) : Binds K fd ["number", "low", "high"] [] := F.binds fun _ _ _ _ _ _ us hl => match us, hl with | [_, _, _], _ => rfl
theorem b_need_slot (F : Fun K "need_slot" "need_slot" s_need_slot f fd) : Binds K fd ["number"] [] := F.binds fun _ _ _ _ _ _ us hl => match us, hl with | [_], _ => rfl
theorem b_need_row (F : Fun K "need_row" "need_row" s_need_row f fd) : Binds K fd ["row", "least", "most", "high"] [] := F.binds fun _ _ _ _ _ _ us hl => match us, hl with | [_, _, _, _], _ => rfl
theorem b_opened (F : Fun K "opened" "opened" s_opened f fd) : Binds K fd ["desk"] [] := F.binds fun _ _ _ _ _ _ us hl => match us, hl with | [_], _ => rfl
theorem b_need_client (F : Fun K "need_client" "need_client" s_need_client f fd) : Binds K fd ["store", "number"] [] := F.binds fun _ _ _ _ _ _ us hl => match us, hl with | [_, _], _ => rfl
theorem b_client_of (F : Fun K "client_of" "client_of" s_client_of f fd) : Binds K fd ["desk", "number"] [] := F.binds fun _ _ _ _ _ _ us hl => match us, hl with | [_, _], _ => rfl
theorem b_counted (F : Fun K "counted" "counted" s_counted f fd) : Binds K fd ["row"] [] := F.binds fun _ _ _ _ _ _ us hl => match us, hl with | [_], _ => rfl
theorem b_open_store (F : Fun K "open_store" "open_store" s_open_store f fd) : Binds K fd ["desk", "given", "row"] [] := F.binds fun _ _ _ _ _ _ us hl => match us, hl with | [_, _, _], _ => rfl
theorem b_make (F : Fun K "make" "make" s_make f fd) : Binds K fd ["desk", "given", "row"] [] := F.binds fun _ _ _ _ _ _ us hl => match us, hl with | [_, _, _], _ => rfl
theorem b_set_number (F : Fun K "set_number" "set_number" s_set_number f fd) : Binds K fd ["desk", "given", "row"] [] := F.binds fun _ _ _ _ _ _ us hl => match us, hl with | [_, _, _], _ => rfl
theorem b_clear_slot (F : Fun K "clear_slot" "clear_slot" s_clear_slot f fd) : Binds K fd ["desk", "given", "row"] [] := F.binds fun _ _ _ _ _ _ us hl => match us, hl with | [_, _, _], _ => rfl
theorem b_copy_slot (F : Fun K "copy_slot" "copy_slot" s_copy_slot f fd) : Binds K fd ["desk", "given", "row"] [] := F.binds fun _ _ _ _ _ _ us hl => match us, hl with | [_, _, _], _ => rfl
theorem b_need_field (F : Fun K "need_field" "need_field" s_need_field f fd) : Binds K fd ["store", "own", "field"] [] := F.binds fun _ _ _ _ _ _ us hl => match us, hl with | [_, _, _], _ => rfl
theorem b_read_field (F : Fun K "read_field" "read_field" s_read_field f fd) : Binds K fd ["desk", "given", "row"] [] := F.binds fun _ _ _ _ _ _ us hl => match us, hl with | [_, _, _], _ => rfl
theorem b_write_field (F : Fun K "write_field" "write_field" s_write_field f fd) : Binds K fd ["desk", "given", "row"] [] := F.binds fun _ _ _ _ _ _ us hl => match us, hl with | [_, _, _], _ => rfl
theorem b_inspect (F : Fun K "inspect" "inspect" s_inspect f fd) : Binds K fd ["desk", "given", "row"] [] := F.binds fun _ _ _ _ _ _ us hl => match us, hl with | [_, _, _], _ => rfl
theorem b_same (F : Fun K "same" "same" s_same f fd) : Binds K fd ["desk", "given", "row"] [] := F.binds fun _ _ _ _ _ _ us hl => match us, hl with | [_, _, _], _ => rfl
theorem b_send (F : Fun K "send" "send" s_send f fd) : Binds K fd ["desk", "given", "row"] [] := F.binds fun _ _ _ _ _ _ us hl => match us, hl with | [_, _, _], _ => rfl
theorem b_receive (F : Fun K "receive" "receive" s_receive f fd) : Binds K fd ["desk", "given", "row"] [] := F.binds fun _ _ _ _ _ _ us hl => match us, hl with | [_, _, _], _ => rfl
theorem b_waiting (F : Fun K "waiting" "waiting" s_waiting f fd) : Binds K fd ["desk", "given", "row"] [] := F.binds fun _ _ _ _ _ _ us hl => match us, hl with | [_, _, _], _ => rfl
theorem b_view (F : Fun K "view" "view" s_view f fd) : Binds K fd ["desk", "given", "row"] [] := F.binds fun _ _ _ _ _ _ us hl => match us, hl with | [_, _, _], _ => rfl
theorem b_view_all (F : Fun K "view_all" "view_all" s_view_all f fd) : Binds K fd ["desk", "given", "row"] [] := F.binds fun _ _ _ _ _ _ us hl => match us, hl with | [_, _, _], _ => rfl
theorem b_load (F : Fun K "load" "load" s_load f fd) : Binds K fd ["desk", "given", "row"] [] := F.binds fun _ _ _ _ _ _ us hl => match us, hl with | [_, _, _], _ => rfl
theorem b_told (F : Fun K "told" "told" s_told f fd) : Binds K fd ["found"] [] := F.binds fun _ _ _ _ _ _ us hl => match us, hl with | [_], _ => rfl
theorem b_compare_clients (F : Fun K "compare_clients" "compare_clients" s_compare_clients f fd) : Binds K fd ["desk", "given", "row"] [] := F.binds fun _ _ _ _ _ _ us hl => match us, hl with | [_, _, _], _ => rfl
theorem b_mark (F : Fun K "mark" "mark" s_mark f fd) : Binds K fd ["desk", "given", "row"] [] := F.binds fun _ _ _ _ _ _ us hl => match us, hl with | [_, _, _], _ => rfl
theorem b_compare_mark (F : Fun K "compare_mark" "compare_mark" s_compare_mark f fd) : Binds K fd ["desk", "given", "row"] [] := F.binds fun _ _ _ _ _ _ us hl => match us, hl with | [_, _, _], _ => rfl
theorem b_run_test (F : Fun K "run_test" "run_test" s_run_test f fd) : Binds K fd ["desk", "given", "row"] [] := F.binds fun _ _ _ _ _ _ us hl => match us, hl with | [_, _, _], _ => rfl
theorem b_thing_at (F : Fun K "thing_at" "thing_at" s_thing_at f fd) : Binds K fd ["store", "place"] [] := F.binds fun _ _ _ _ _ _ us hl => match us, hl with | [_, _], _ => rfl
theorem b_find_path (F : Fun K "find_path" "find_path" s_find_path f fd) : Binds K fd ["desk", "given", "row"] [] := F.binds fun _ _ _ _ _ _ us hl => match us, hl with | [_, _, _], _ => rfl
theorem b_holders (F : Fun K "holders" "holders" s_holders f fd) : Binds K fd ["desk", "given", "row"] [] := F.binds fun _ _ _ _ _ _ us hl => match us, hl with | [_, _, _], _ => rfl
theorem b_range_of (F : Fun K "range_of" "range_of" s_range_of f fd) : Binds K fd ["store"] [] := F.binds fun _ _ _ _ _ _ us hl => match us, hl with | [_], _ => rfl
theorem b_retained (F : Fun K "retained" "retained" s_retained f fd) : Binds K fd ["desk", "given", "row"] [] := F.binds fun _ _ _ _ _ _ us hl => match us, hl with | [_, _, _], _ => rfl
theorem b_cut (F : Fun K "cut" "cut" s_cut f fd) : Binds K fd ["desk", "given", "row"] [] := F.binds fun _ _ _ _ _ _ us hl => match us, hl with | [_, _, _], _ => rfl
theorem b_garbage (F : Fun K "garbage" "garbage" s_garbage f fd) : Binds K fd ["desk", "given", "row"] [] := F.binds fun _ _ _ _ _ _ us hl => match us, hl with | [_, _, _], _ => rfl
theorem b_sweep (F : Fun K "sweep" "sweep" s_sweep f fd) : Binds K fd ["desk", "given", "row"] [] := F.binds fun _ _ _ _ _ _ us hl => match us, hl with | [_, _, _], _ => rfl
theorem b_counts (F : Fun K "counts" "counts" s_counts f fd) : Binds K fd ["desk", "given", "row"] [] := F.binds fun _ _ _ _ _ _ us hl => match us, hl with | [_, _, _], _ => rfl
theorem b_answered (F : Fun K "answered" "answered" s_answered f fd) : Binds K fd ["desk", "number", "given", "row"] [] := F.binds fun _ _ _ _ _ _ us hl => match us, hl with | [_, _, _, _], _ => rfl
theorem b_answers (F : Fun K "answers" "answers" s_answers f fd) : Binds K fd ["calls"] [] := F.binds fun _ _ _ _ _ _ us hl => match us, hl with | [_], _ => rfl
theorem bt_answers (F : Fun K "answers" "answers" s_answers f fd) : ∀ (s : Shared) (us : List Value), us.length = (["calls"] : List Str).length → BindsTo s fd ⟨us, []⟩ ((["calls"] : List Str).zip us) := by
  obtain ⟨oc, od, kV, doc, pm, an, cdv, ct, osl, rfl, lk, hcd⟩ := F.ex
  exact fun s us hu => match us, hu with | [_], _ => .of_eq rfl
theorem fun_ex {x qual : Str} {st : Stmt} {oc : Value} {od an : Option Addr} {osl : Array (Option Value)} {kV doc pm cdv ct : Value} (l : K.lookup f = some ⟨oc, od, .func (PySem.W.fnOf x qual (defArgs st) (defBody st) (defScope st) .none kV doc pm an cdv ct), osl⟩)
    (c : PySem.W.codeIn K cdv qual = true) (k : PySem.W.keepIn K (.ref f) = true) : ∃ fd, Fun K x qual st f fd := ⟨_, fun_mk l c k⟩
theorem held_of {x : Str} {ps : List Str} {sp : Sp} {j n : Nat} (G : Ok P w K mg base j x ps sp) (hm : mg x = some (.ref f)) (hj : j ≤ 8 := by decide) : HeldW P w K mg base 8 f n sp := by
  obtain ⟨f', fd, F, hm', hk, hb⟩ := G.ex
  cases hm.symm.trans hm'
  exact ⟨fd, ps, (fnOk_wide F).mono hj, hk, hb⟩
theorem held_ofX {x : Str} {ps : List Str} {sp : Sp} {j n : Nat} (G : OkX P w K mg base (L2.CX P w) j x ps sp) (hm : mg x = some (.ref f)) (hj : j ≤ 8 := by decide) : HeldW P w K mg base 8 f n sp := by
  obtain ⟨f', fd, F, hm', hk, hb⟩ := G.ex
  cases hm.symm.trans hm'
  exact ⟨fd, ps, F.mono hj, hk, hb⟩
theorem fnOk_cx0 {ps : List Str} {sp : Sp} {k : Nat} (F : FnOk P w K mg base (L2N.CX P w) k f fd ps sp) (h : ∀ vs H Q E, sp vs H Q E → sp vs H Q fun _ _ _ => False) : FnOk P w K mg base CX0 k f fd ps sp :=
  ⟨F.len, fun A outer s H args us vs Q E hr e0 hb r hs => codeAny_mono (F.run A outer s H args us vs Q _ hr e0 hb r (h _ _ _ _ hs)) fun res s' z => by
    cases res with
    | ok fl => cases fl <;> exact z
    | error er =>
      obtain ⟨_, _, _, _, _, _, _, _, _, _, _, _, z⟩ := z
      exact z.elim⟩
theorem exm_self {S : Addr} (h1 : PySem.W.subIn K (.ref S) (.type "BaseException") = some true) (h2 : PySem.W.isClsIn K S = true) (h3 : PySem.W.typeIn K (.ref S) = some (.type "type")) (h4 : PySem.W.subIn K (.ref S) (.ref S) = some true) :
    PySem.W.exmOne K (.ref S) (.ref S) = some true := by
  have e1 : (PySem.W.subIn K (.ref S) (.type "BaseException") == some true) = true := by rw [h1] <;> rfl
  have e2 : ((PySem.W.clsIn K S).isSome && PySem.W.typeIn K (.ref S) == some (.type "type")) = true := by
    have h2' : (PySem.W.clsIn K S).isSome = true := h2
    rw [h2', h3] <;> rfl
  show (if (PySem.W.subIn K (.ref S) (.type "BaseException") == some true) = true then (if ((PySem.W.clsIn K S).isSome && PySem.W.typeIn K (.ref S) == some (.type "type")) = true then PySem.W.subIn K (.ref S) (.ref S) else none) else none) = some true
  rw [if_pos e1, if_pos e2]
  exact h4
theorem sqT_mk {a : Addr} {xs : List V} {od : Option Addr} {its : Array Value} {n : Nat} {sl : Array (Option Value)} (l : K.lookup a = some ⟨.type "tuple", od, .seq its n, sl⟩) (z : its.size ≤ sizeLine) (v : Vals xs its.toList) : ∀ H, SqT K H a xs := fun _ => .inr ⟨_, its, n, l, rfl, rfl, z, v⟩
theorem sqL_mk {a : Addr} {xs : List V} {its : Array Value} {n : Nat} {sl : Array (Option Value)} (l : K.lookup a = some ⟨.type "list", none, .seq its n, sl⟩) (z : its.size ≤ sizeLine) (v : Vals xs its.toList) : ∀ H, SqL K H a xs := fun _ => .inr ⟨_, its, n, l, rfl, rfl, rfl, z, v⟩
end
/-- the defs of the text -/
structure Tp (K : PySem.W.Frag) (mg : Str → Option Value) (ad : Ad) : Prop where
  d_Client_init : Di K mg "Client" ad.client "Client.__init__" s_Client_init ["self"]
  d_Store_init : Di K mg "Store" ad.store "Store.__init__" s_Store_init ["self", "many"]
  d_Store_make : Dm K ad.store "make" "Store.make" s_Store_make ["self", "many"]
  d_Store_duplicate : Dm K ad.store "duplicate" "Store.duplicate" s_Store_duplicate ["self"]
  d_root_rows : Df K mg "root_rows" s_root_rows ["client"]
  d_root_values : Df K mg "root_values" s_root_values ["client"]
  d_all_values : Df K mg "all_values" s_all_values ["store"]
  d_walk : Df K mg "walk" s_walk ["store", "row"]
  d_client_walk : Df K mg "client_walk" s_client_walk ["store", "number"]
  d_store_walk : Df K mg "store_walk" s_store_walk ["store"]
  d_unreached : Df K mg "unreached" s_unreached ["store"]
  d_root_at : Df K mg "root_at" s_root_at ["client", "index"]
  d_field_at : Df K mg "field_at" s_field_at ["store", "own", "field"]
  d_value_at : Df K mg "value_at" s_value_at ["store", "number", "path"]
  d_value_at_place : Df K mg "value_at_place" s_value_at_place ["store", "place"]
  d_detail : Df K mg "detail" s_detail ["store", "own"]
  d_paths_of : Df K mg "paths_of" s_paths_of ["store", "number"]
  d_references_of : Df K mg "references_of" s_references_of ["store", "number"]
  d_steps_from : Df K mg "steps_from" s_steps_from ["references", "used", "point"]
  d_spread : Df K mg "spread" s_spread ["references", "used"]
  d_lead_more : Df K mg "lead_more" s_lead_more ["used", "reached", "target"]
  d_cut_of : Df K mg "cut_of" s_cut_of ["store", "number", "name"]
  d_Side_init : Di K mg "Side" ad.side "Side.__init__" s_Side_init ["self", "store", "numbers"]
  d_found_at : Df K mg "found_at" s_found_at ["store", "number", "path"]
  d_message_size : Df K mg "message_size" s_message_size ["store", "number", "message"]
  d_size_result : Df K mg "size_result" s_size_result ["store", "number", "rest"]
  d_same_result : Df K mg "same_result" s_same_result ["store", "number", "rest"]
  d_result_of : Df K mg "result_of" s_result_of ["store", "number", "test"]
  d_heads : Df K mg "heads" s_heads ["side", "is_store"]
  d_size_difference : Df K mg "size_difference" s_size_difference ["left", "right", "is_store"]
  d_begun_queue : Df K mg "begun_queue" s_begun_queue ["left", "right", "is_store"]
  d_met_with : Df K mg "met_with" s_met_with ["pairs", "one", "other"]
  d_are_paired : Df K mg "are_paired" s_are_paired ["pairs", "one", "other"]
  d_difference : Df K mg "difference" s_difference ["left", "right", "is_store"]
  d_clients_difference : Df K mg "clients_difference" s_clients_difference ["store", "number", "other"]
  d_stores_difference : Df K mg "stores_difference" s_stores_difference ["store", "other"]
  d_Unread_init : De K ad.unreadI "Unread.__init__" s_Unread_init ["self", "index"]
  d_numbered : Df K mg "numbered" s_numbered ["names"]
  d_written : Df K mg "written" s_written ["own", "numbers"]
  d_row_written : Df K mg "row_written" s_row_written ["row", "numbers"]
  d_client_text : Df K mg "client_text" s_client_text ["client", "numbers"]
  d_things_text : Df K mg "things_text" s_things_text ["store", "names", "numbers"]
  d_client_view : Df K mg "client_view" s_client_view ["store", "number"]
  d_store_view : Df K mg "store_view" s_store_view ["store"]
  d_Reader_init : Di K mg "Reader" ad.reader "Reader.__init__" s_Reader_init ["self", "text"]
  d_Reader_number : Dm K ad.reader "number" "Reader.number" s_Reader_number ["self", "low", "high"]
  d_Reader_value : Dm K ad.reader "value" "Reader.value" s_Reader_value ["self"]
  d_Reader_row : Dm K ad.reader "row" "Reader.row" s_Reader_row ["self", "many"]
  d_Reader_client : Dm K ad.reader "client" "Reader.client" s_Reader_client ["self"]
  d_Reader_thing : Dm K ad.reader "thing" "Reader.thing" s_Reader_thing ["self", "name"]
  d_read_store : Df K mg "read_store" s_read_store ["text"]
  d_Refused_init : De K ad.refusedI "Refused.__init__" s_Refused_init ["self", "code"]
  d_Desk_init : Di K mg "Desk" ad.desk "Desk.__init__" s_Desk_init ["self"]
  d_refuse_unless : Df K mg "refuse_unless" s_refuse_unless ["is_right", "code"]
  d_need : Df K mg "need" s_need ["number", "low", "high"]
  d_need_slot : Df K mg "need_slot" s_need_slot ["number"]
  d_need_row : Df K mg "need_row" s_need_row ["row", "least", "most", "high"]
  d_opened : Df K mg "opened" s_opened ["desk"]
  d_need_client : Df K mg "need_client" s_need_client ["store", "number"]
  d_client_of : Df K mg "client_of" s_client_of ["desk", "number"]
  d_counted : Df K mg "counted" s_counted ["row"]
  d_open_store : Df K mg "open_store" s_open_store ["desk", "given", "row"]
  d_make : Df K mg "make" s_make ["desk", "given", "row"]
  d_set_number : Df K mg "set_number" s_set_number ["desk", "given", "row"]
  d_clear_slot : Df K mg "clear_slot" s_clear_slot ["desk", "given", "row"]
  d_copy_slot : Df K mg "copy_slot" s_copy_slot ["desk", "given", "row"]
  d_need_field : Df K mg "need_field" s_need_field ["store", "own", "field"]
  d_read_field : Df K mg "read_field" s_read_field ["desk", "given", "row"]
  d_write_field : Df K mg "write_field" s_write_field ["desk", "given", "row"]
  d_inspect : Df K mg "inspect" s_inspect ["desk", "given", "row"]
  d_same : Df K mg "same" s_same ["desk", "given", "row"]
  d_send : Df K mg "send" s_send ["desk", "given", "row"]
  d_receive : Df K mg "receive" s_receive ["desk", "given", "row"]
  d_waiting : Df K mg "waiting" s_waiting ["desk", "given", "row"]
  d_view : Df K mg "view" s_view ["desk", "given", "row"]
  d_view_all : Df K mg "view_all" s_view_all ["desk", "given", "row"]
  d_load : Df K mg "load" s_load ["desk", "given", "row"]
  d_told : Df K mg "told" s_told ["found"]
  d_compare_clients : Df K mg "compare_clients" s_compare_clients ["desk", "given", "row"]
  d_mark : Df K mg "mark" s_mark ["desk", "given", "row"]
  d_compare_mark : Df K mg "compare_mark" s_compare_mark ["desk", "given", "row"]
  d_run_test : Df K mg "run_test" s_run_test ["desk", "given", "row"]
  d_thing_at : Df K mg "thing_at" s_thing_at ["store", "place"]
  d_find_path : Df K mg "find_path" s_find_path ["desk", "given", "row"]
  d_holders : Df K mg "holders" s_holders ["desk", "given", "row"]
  d_range_of : Df K mg "range_of" s_range_of ["store"]
  d_retained : Df K mg "retained" s_retained ["desk", "given", "row"]
  d_cut : Df K mg "cut" s_cut ["desk", "given", "row"]
  d_garbage : Df K mg "garbage" s_garbage ["desk", "given", "row"]
  d_sweep : Df K mg "sweep" s_sweep ["desk", "given", "row"]
  d_counts : Df K mg "counts" s_counts ["desk", "given", "row"]
  d_answered : Df K mg "answered" s_answered ["desk", "number", "given", "row"]
section
variable {P : Program} {w : World} {K : PySem.W.Frag} {mg : Str → Option Value} {base : Heap} {ad : Ad} {f : Addr} {fd : FuncData}
theorem all_ok (T : Tx K mg ad) (X : Tp K mg ad) (F : Fun K "answers" "answers" s_answers f fd) {f0 f1 f2 f3 f4 f5 f6 f7 f8 f9 f10 f11 f12 f13 f14 f15 f16 f17 f18 f19 f20 f21 f22 f23 f24 f25 : Addr} (sq : ∀ H, SqL K H ad.operations ([f0, f1, f2, f3, f4, f5, f6, f7, f8, f9, f10, f11, f12, f13, f14, f15, f16, f17, f18, f19, f20, f21, f22, f23, f24, f25].map V.ref)) (nd : [f0, f1, f2, f3, f4, f5, f6, f7, f8, f9, f10, f11, f12, f13, f14, f15, f16, f17, f18, f19, f20, f21, f22, f23, f24, f25].Nodup)
    (o0 : mg "open_store" = some (.ref f0)) (o1 : mg "make" = some (.ref f1)) (o2 : mg "set_number" = some (.ref f2)) (o3 : mg "clear_slot" = some (.ref f3)) (o4 : mg "copy_slot" = some (.ref f4)) (o5 : mg "read_field" = some (.ref f5)) (o6 : mg "write_field" = some (.ref f6)) (o7 : mg "inspect" = some (.ref f7)) (o8 : mg "same" = some (.ref f8)) (o9 : mg "send" = some (.ref f9)) (o10 : mg "receive" = some (.ref f10)) (o11 : mg "waiting" = some (.ref f11)) (o12 : mg "view" = some (.ref f12)) (o13 : mg "view_all" = some (.ref f13)) (o14 : mg "load" = some (.ref f14)) (o15 : mg "compare_clients" = some (.ref f15)) (o16 : mg "mark" = some (.ref f16)) (o17 : mg "compare_mark" = some (.ref f17)) (o18 : mg "run_test" = some (.ref f18)) (o19 : mg "find_path" = some (.ref f19)) (o20 : mg "holders" = some (.ref f20)) (o21 : mg "retained" = some (.ref f21)) (o22 : mg "cut" = some (.ref f22)) (o23 : mg "garbage" = some (.ref f23)) (o24 : mg "sweep" = some (.ref f24)) (o25 : mg "counts" = some (.ref f25)) : FnOk P w K mg base (L2N.CX P w) 10 f fd ["calls"] (spAnswers K) := by
  have G_walk := ok_walk (P := P) (w := w) (base := base) T X.d_walk
  have G_root_rows := ok_root_rows (P := P) (w := w) (base := base) T X.d_root_rows
  have G_root_values := ok_root_values (P := P) (w := w) (base := base) T X.d_root_values G_root_rows
  have G_all_values := ok_all_values (P := P) (w := w) (base := base) T X.d_all_values G_root_values
  have G_client_walk := ok_client_walk (P := P) (w := w) (base := base) T X.d_client_walk G_root_values G_walk
  have G_store_walk := ok_store_walk (P := P) (w := w) (base := base) T X.d_store_walk G_all_values G_walk
  have G_unreached := ok_unreached (P := P) (w := w) (base := base) T X.d_unreached G_store_walk
  have G_root_at := ok_root_at (P := P) (w := w) (base := base) T X.d_root_at
  have G_field_at := ok_field_at (P := P) (w := w) (base := base) T X.d_field_at
  have G_value_at := ok_value_at (P := P) (w := w) (base := base) T X.d_value_at G_root_at G_field_at
  have G_value_at_place := ok_value_at_place (P := P) (w := w) (base := base) T X.d_value_at_place G_value_at
  have G_detail := ok_detail (P := P) (w := w) (base := base) T X.d_detail
  have G_numbered := ok_numbered (P := P) (w := w) (base := base) T X.d_numbered
  have G_written := ok_written (P := P) (w := w) (base := base) T X.d_written
  have G_row_written := ok_row_written (P := P) (w := w) (base := base) T X.d_row_written G_written
  have G_client_text := ok_client_text (P := P) (w := w) (base := base) T X.d_client_text G_row_written
  have G_things_text := ok_things_text (P := P) (w := w) (base := base) T X.d_things_text G_row_written
  have G_client_view := ok_client_view (P := P) (w := w) (base := base) T X.d_client_view G_client_walk G_numbered G_client_text G_things_text
  have G_store_view := ok_store_view (P := P) (w := w) (base := base) T X.d_store_view G_store_walk G_numbered G_client_text G_things_text
  have G_Client := ok_Client_init (P := P) (w := w) (base := base) T X.d_Client_init
  have G_Store := ok_Store_init (P := P) (w := w) (base := base) T X.d_Store_init G_Client
  have G_Store_make := ok_Store_make (P := P) (w := w) (base := base) T X.d_Store_make
  have G_Store_duplicate := ok_Store_duplicate (P := P) (w := w) (base := base) T X.d_Store_duplicate G_Client G_Store
  have G_paths_of := ok_paths_of (P := P) (w := w) (base := base) T X.d_paths_of G_root_rows
  have G_Side := ok_Side_init (P := P) (w := w) (base := base) T X.d_Side_init
  have G_found_at := ok_found_at (P := P) (w := w) (base := base) T X.d_found_at G_value_at_place G_value_at
  have G_message_size := ok_message_size (P := P) (w := w) (base := base) T X.d_message_size
  have G_size_result := ok_size_result (P := P) (w := w) (base := base) T X.d_size_result G_message_size
  have G_same_result := ok_same_result (P := P) (w := w) (base := base) T X.d_same_result G_found_at
  have G_result_of := ok_result_of (P := P) (w := w) (base := base) T X.d_result_of G_size_result G_found_at G_detail G_same_result
  have G_heads := ok_heads (P := P) (w := w) (base := base) T X.d_heads
  have G_size_difference := ok_size_difference (P := P) (w := w) (base := base) T X.d_size_difference G_message_size
  have G_begun_queue := ok_begun_queue (P := P) (w := w) (base := base) T X.d_begun_queue G_heads G_root_rows
  have G_met_with := ok_met_with (P := P) (w := w) (base := base) T X.d_met_with
  have G_are_paired := ok_are_paired (P := P) (w := w) (base := base) T X.d_are_paired
  have G_difference := ok_difference (P := P) (w := w) (base := base) T X.d_difference G_begun_queue G_detail G_met_with G_are_paired
  have G_clients_difference := ok_clients_difference (P := P) (w := w) (base := base) T X.d_clients_difference G_Side G_size_difference G_difference
  have G_stores_difference := ok_stores_difference (P := P) (w := w) (base := base) T X.d_stores_difference G_Side G_size_difference G_difference
  have G_references_of := ok_references_of (P := P) (w := w) (base := base) T X.d_references_of G_client_walk G_root_rows
  have G_steps_from := ok_steps_from (P := P) (w := w) (base := base) T X.d_steps_from
  have G_spread := ok_spread (P := P) (w := w) (base := base) T X.d_spread G_steps_from
  have G_lead_more := ok_lead_more (P := P) (w := w) (base := base) T X.d_lead_more
  have G_cut_of := ok_cut_of (P := P) (w := w) (base := base) T X.d_cut_of G_references_of G_client_walk G_spread G_lead_more
  have G_Unread := ok_Unread_init (P := P) (w := w) (base := base) T X.d_Unread_init
  have G_Refused := ok_Refused_init (P := P) (w := w) (base := base) T X.d_Refused_init
  have G_Reader := ok_Reader_init (P := P) (w := w) (base := base) T X.d_Reader_init
  have G_Reader_number := ok_Reader_number (P := P) (w := w) (base := base) T X.d_Reader_number G_Unread
  have G_Reader_value := ok_Reader_value (P := P) (w := w) (base := base) T X.d_Reader_value G_Reader_number
  have G_Reader_row := ok_Reader_row (P := P) (w := w) (base := base) T X.d_Reader_row G_Reader_value
  have G_Reader_client := ok_Reader_client (P := P) (w := w) (base := base) T X.d_Reader_client G_Client G_Reader_row G_Reader_number
  have G_Reader_thing := ok_Reader_thing (P := P) (w := w) (base := base) T X.d_Reader_thing G_Unread G_Reader_row G_Reader_number
  have G_read_store := ok_read_store (P := P) (w := w) (base := base) T X.d_read_store G_Reader G_Store G_Reader_number G_Reader_client G_Reader_thing G_Unread
  have G_Desk := ok_Desk_init (P := P) (w := w) (base := base) T X.d_Desk_init
  have G_refuse_unless := ok_refuse_unless (P := P) (w := w) (base := base) T X.d_refuse_unless G_Refused
  have G_need := ok_need (P := P) (w := w) (base := base) T X.d_need G_refuse_unless
  have G_need_slot := ok_need_slot (P := P) (w := w) (base := base) T X.d_need_slot G_need
  have G_need_row := ok_need_row (P := P) (w := w) (base := base) T X.d_need_row G_need
  have G_opened := ok_opened (P := P) (w := w) (base := base) T X.d_opened G_refuse_unless
  have G_need_client := ok_need_client (P := P) (w := w) (base := base) T X.d_need_client G_refuse_unless
  have G_client_of := ok_client_of (P := P) (w := w) (base := base) T X.d_client_of G_opened G_need_client
  have G_counted := ok_counted (P := P) (w := w) (base := base) T X.d_counted
  have G_told := ok_told (P := P) (w := w) (base := base) T X.d_told G_counted
  have G_range_of := ok_range_of (P := P) (w := w) (base := base) T X.d_range_of
  have G_need_field := ok_need_field (P := P) (w := w) (base := base) T X.d_need_field G_refuse_unless G_field_at
  have G_thing_at := ok_thing_at (P := P) (w := w) (base := base) T X.d_thing_at G_refuse_unless G_value_at_place
  have G_set_number := ok_set_number (P := P) (w := w) (base := base) T X.d_set_number G_need G_need_slot G_client_of
  have G_clear_slot := ok_clear_slot (P := P) (w := w) (base := base) T X.d_clear_slot G_need G_need_slot G_client_of
  have G_copy_slot := ok_copy_slot (P := P) (w := w) (base := base) T X.d_copy_slot G_need G_need_slot G_client_of
  have G_inspect := ok_inspect (P := P) (w := w) (base := base) T X.d_inspect G_need G_need_slot G_client_of G_detail
  have G_same := ok_same (P := P) (w := w) (base := base) T X.d_same G_need G_need_slot G_client_of
  have G_read_field := ok_read_field (P := P) (w := w) (base := base) T X.d_read_field G_need G_need_slot G_client_of G_need_field G_field_at
  have G_view_all := ok_view_all (P := P) (w := w) (base := base) T X.d_view_all G_counted G_store_view G_opened
  have G_garbage := ok_garbage (P := P) (w := w) (base := base) T X.d_garbage G_unreached G_opened
  have G_compare_clients := ok_compare_clients (P := P) (w := w) (base := base) T X.d_compare_clients G_need G_client_of G_told G_clients_difference
  have G_view := ok_view (P := P) (w := w) (base := base) T X.d_view G_need G_client_of G_counted G_client_view
  have G_waiting := ok_waiting (P := P) (w := w) (base := base) T X.d_waiting G_need G_client_of G_counted
  have G_counts := ok_counts (P := P) (w := w) (base := base) T X.d_counts G_opened G_store_walk
  have G_compare_mark := ok_compare_mark (P := P) (w := w) (base := base) T X.d_compare_mark G_opened G_refuse_unless G_told G_stores_difference
  have G_mark := ok_mark (P := P) (w := w) (base := base) T X.d_mark G_opened G_Store_duplicate
  have G_open_store := ok_open_store (P := P) (w := w) (base := base) T X.d_open_store G_need G_Store
  have G_make := ok_make (P := P) (w := w) (base := base) T X.d_make G_need G_need_slot G_client_of G_refuse_unless G_Store_make
  have G_write_field := ok_write_field (P := P) (w := w) (base := base) T X.d_write_field G_need G_need_slot G_client_of G_need_field
  have G_send := ok_send (P := P) (w := w) (base := base) T X.d_send G_need G_need_row G_client_of G_refuse_unless
  have G_find_path := ok_find_path (P := P) (w := w) (base := base) T X.d_find_path G_need G_need_row G_client_of G_thing_at G_paths_of G_counted
  have G_cut := ok_cut (P := P) (w := w) (base := base) T X.d_cut G_need G_need_row G_client_of G_thing_at G_client_walk G_cut_of G_counted
  have G_retained := ok_retained (P := P) (w := w) (base := base) T X.d_retained G_need G_need_slot G_client_of G_Store_duplicate G_store_walk
  have G_holders := ok_holders (P := P) (w := w) (base := base) T X.d_holders G_need_row G_opened G_thing_at G_range_of G_client_walk G_counted
  have G_receive := ok_receive (P := P) (w := w) (base := base) T X.d_receive G_need G_need_slot G_client_of G_refuse_unless
  have G_sweep := ok_sweep (P := P) (w := w) (base := base) T X.d_sweep G_need G_opened G_unreached G_refuse_unless
  have RH := ok_RefusedH (P := P) (w := w) (base := base) T X.d_Refused_init
  have G_load := ok_load (P := P) (w := w) (base := base) T X.d_load G_read_store RH
  have G_run_test := ok_run_test (P := P) (w := w) (base := base) T X.d_run_test G_need G_need_row G_opened G_need_client G_result_of RH
  have O : Ops P w K mg base ad [f0, f1, f2, f3, f4, f5, f6, f7, f8, f9, f10, f11, f12, f13, f14, f15, f16, f17, f18, f19, f20, f21, f22, f23, f24, f25] := ⟨sq, rfl, nd, fun p f h => by
    match p, h with
    | 0, h =>
      cases h
      exact held_of G_open_store o0
    | 1, h =>
      cases h
      exact held_of G_make o1
    | 2, h =>
      cases h
      exact held_of G_set_number o2
    | 3, h =>
      cases h
      exact held_of G_clear_slot o3
    | 4, h =>
      cases h
      exact held_of G_copy_slot o4
    | 5, h =>
      cases h
      exact held_of G_read_field o5
    | 6, h =>
      cases h
      exact held_of G_write_field o6
    | 7, h =>
      cases h
      exact held_of G_inspect o7
    | 8, h =>
      cases h
      exact held_of G_same o8
    | 9, h =>
      cases h
      exact held_of G_send o9
    | 10, h =>
      cases h
      exact held_of G_receive o10
    | 11, h =>
      cases h
      exact held_of G_waiting o11
    | 12, h =>
      cases h
      exact held_of G_view o12
    | 13, h =>
      cases h
      exact held_of G_view_all o13
    | 14, h =>
      cases h
      exact held_ofX G_load o14
    | 15, h =>
      cases h
      exact held_of G_compare_clients o15
    | 16, h =>
      cases h
      exact held_of G_mark o16
    | 17, h =>
      cases h
      exact held_of G_compare_mark o17
    | 18, h =>
      cases h
      exact held_ofX G_run_test o18
    | 19, h =>
      cases h
      exact held_of G_find_path o19
    | 20, h =>
      cases h
      exact held_of G_holders o20
    | 21, h =>
      cases h
      exact held_of G_retained o21
    | 22, h =>
      cases h
      exact held_of G_cut o22
    | 23, h =>
      cases h
      exact held_of G_garbage o23
    | 24, h =>
      cases h
      exact held_of G_sweep o24
    | 25, h =>
      cases h
      exact held_of G_counts o25
    | n + 26, h => cases h⟩
  exact ok_answersF T F G_Desk (ok_countedB T X.d_counted) (ok_answered T X.d_answered O)
end
section
variable {P : Program} {w : World} {K : PySem.W.Frag} {h : Heap} {mg : Str → Option Value} {fa : Addr}
theorem all_mk (X : K.In h) (G : h.Ns mainGlobals mg) (hfa : mg "answers" = some (.ref fa)) {cClient cStore cSide cReader cDesk cFailed cUnread cRefused cNOTHING cINTEGERS cLISTED cOPERATIONS f_Client_init f_Store_init f_Store_make f_Store_duplicate f_root_rows f_root_values f_all_values f_walk f_client_walk f_store_walk f_unreached f_root_at f_field_at f_value_at f_value_at_place f_detail f_paths_of f_references_of f_steps_from f_spread f_lead_more f_cut_of f_Side_init f_found_at f_message_size f_size_result f_same_result f_result_of f_heads f_size_difference f_begun_queue f_met_with f_are_paired f_difference f_clients_difference f_stores_difference f_Unread_init f_numbered f_written f_row_written f_client_text f_things_text f_client_view f_store_view f_Reader_init f_Reader_number f_Reader_value f_Reader_row f_Reader_client f_Reader_thing f_read_store f_Refused_init f_Desk_init f_refuse_unless f_need f_need_slot f_need_row f_opened f_need_client f_client_of f_counted f_open_store f_make f_set_number f_clear_slot f_copy_slot f_need_field f_read_field f_write_field f_inspect f_same f_send f_receive f_waiting f_view f_view_all f_load f_told f_compare_clients f_mark f_compare_mark f_run_test f_thing_at f_find_path f_holders f_range_of f_retained f_cut f_garbage f_sweep f_counts f_answered f_answers : Addr} {tNUMBER tREFERENCE tSLOTS tMOST_IN_MESSAGE tSOURCE tMOST_CREATED tMOST_CLIENTS tMOST_MESSAGES tMOST_IN tMOST_FIELDS tMOST_CLIENT tMOST_SLOT tMOST_FIELD tMOST_PATH tMOST_ELEMENT : Tok}
    {nmUnread qUnread : Str} {NUnread : Addr} {bsUnread subUnread : List Value} {snUnread : List Str} {abUnread : Bool} {colUnread : Option Bool} {ddUnread : Option Addr} {k0Unread k1Unread k2Unread k3Unread k5Unread : Option Value}
    {nmRefused qRefused : Str} {NRefused : Addr} {bsRefused subRefused : List Value} {snRefused : List Str} {abRefused : Bool} {colRefused : Option Bool} {ddRefused : Option Addr} {k0Refused k1Refused k2Refused k3Refused k5Refused : Option Value}
    {odNOTHING : Option Addr} {itsNOTHING : Array Value} {nNOTHING : Nat} {slNOTHING : Array (Option Value)}
    {odINTEGERS : Option Addr} {itsINTEGERS : Array Value} {nINTEGERS : Nat} {slINTEGERS : Array (Option Value)}
    {odLISTED : Option Addr} {itsLISTED : Array Value} {nLISTED : Nat} {slLISTED : Array (Option Value)}
    {itsOPERATIONS : Array Value} {nOPERATIONS : Nat} {slOPERATIONS : Array (Option Value)}
    (gClient : PySem.W.nsIn K mainGlobals "Client" = some (some (.ref cClient)))
    (gStore : PySem.W.nsIn K mainGlobals "Store" = some (some (.ref cStore)))
    (gSide : PySem.W.nsIn K mainGlobals "Side" = some (some (.ref cSide)))
    (gReader : PySem.W.nsIn K mainGlobals "Reader" = some (some (.ref cReader)))
    (gDesk : PySem.W.nsIn K mainGlobals "Desk" = some (some (.ref cDesk)))
    (gFailed : PySem.W.nsIn K mainGlobals "Failed" = some (some (.ref cFailed)))
    (gUnread : PySem.W.nsIn K mainGlobals "Unread" = some (some (.ref cUnread)))
    (gRefused : PySem.W.nsIn K mainGlobals "Refused" = some (some (.ref cRefused)))
    (gNOTHING : PySem.W.nsIn K mainGlobals "NOTHING" = some (some (.ref cNOTHING)))
    (gINTEGERS : PySem.W.nsIn K mainGlobals "INTEGERS" = some (some (.ref cINTEGERS)))
    (gLISTED : PySem.W.nsIn K mainGlobals "LISTED" = some (some (.ref cLISTED)))
    (gOPERATIONS : PySem.W.nsIn K mainGlobals "OPERATIONS" = some (some (.ref cOPERATIONS)))
    (gNUMBER : PySem.W.nsIn K mainGlobals "NUMBER" = some (some (.int 1 tNUMBER)))
    (gREFERENCE : PySem.W.nsIn K mainGlobals "REFERENCE" = some (some (.int 2 tREFERENCE)))
    (gSLOTS : PySem.W.nsIn K mainGlobals "SLOTS" = some (some (.int 6 tSLOTS)))
    (gMOST_IN_MESSAGE : PySem.W.nsIn K mainGlobals "MOST_IN_MESSAGE" = some (some (.int 3 tMOST_IN_MESSAGE)))
    (gSOURCE : PySem.W.nsIn K mainGlobals "SOURCE" = some (some (.int 0 tSOURCE)))
    (gMOST_CREATED : PySem.W.nsIn K mainGlobals "MOST_CREATED" = some (some (.int 48 tMOST_CREATED)))
    (gMOST_CLIENTS : PySem.W.nsIn K mainGlobals "MOST_CLIENTS" = some (some (.int 4 tMOST_CLIENTS)))
    (gMOST_MESSAGES : PySem.W.nsIn K mainGlobals "MOST_MESSAGES" = some (some (.int 4 tMOST_MESSAGES)))
    (gMOST_IN : PySem.W.nsIn K mainGlobals "MOST_IN" = some (some (.int 3 tMOST_IN)))
    (gMOST_FIELDS : PySem.W.nsIn K mainGlobals "MOST_FIELDS" = some (some (.int 4 tMOST_FIELDS)))
    (gMOST_CLIENT : PySem.W.nsIn K mainGlobals "MOST_CLIENT" = some (some (.int 4 tMOST_CLIENT)))
    (gMOST_SLOT : PySem.W.nsIn K mainGlobals "MOST_SLOT" = some (some (.int 5 tMOST_SLOT)))
    (gMOST_FIELD : PySem.W.nsIn K mainGlobals "MOST_FIELD" = some (some (.int 3 tMOST_FIELD)))
    (gMOST_PATH : PySem.W.nsIn K mainGlobals "MOST_PATH" = some (some (.int 120 tMOST_PATH)))
    (gMOST_ELEMENT : PySem.W.nsIn K mainGlobals "MOST_ELEMENT" = some (some (.int 100 tMOST_ELEMENT)))
    (blen : PySem.W.nsIn K mainGlobals "len" = some none)
    (blist : PySem.W.nsIn K mainGlobals "list" = some none)
    (brange : PySem.W.nsIn K mainGlobals "range" = some none)
    (benumerate : PySem.W.nsIn K mainGlobals "enumerate" = some none)
    (bzip : PySem.W.nsIn K mainGlobals "zip" = some none)
    (bdivmod : PySem.W.nsIn K mainGlobals "divmod" = some none)
    (bsorted : PySem.W.nsIn K mainGlobals "sorted" = some none)
    (bmin : PySem.W.nsIn K mainGlobals "min" = some none)
    (bmax : PySem.W.nsIn K mainGlobals "max" = some none)
    (bint : PySem.W.nsIn K mainGlobals "int" = some none)
    (bsum : PySem.W.nsIn K mainGlobals "sum" = some none)
    (bException : PySem.W.nsIn K mainGlobals "Exception" = some none)
    (a_Client_init : PySem.W.findIn K (.ref cClient) "__init__" = some (some (.ref f_Client_init)))
    (i_Client_init : PySem.W.isFn K (.ref f_Client_init) = true)
    (d_Client_init : ∃ fd, Fun K "__init__" "Client.__init__" s_Client_init f_Client_init fd)
    (a_Store_init : PySem.W.findIn K (.ref cStore) "__init__" = some (some (.ref f_Store_init)))
    (i_Store_init : PySem.W.isFn K (.ref f_Store_init) = true)
    (d_Store_init : ∃ fd, Fun K "__init__" "Store.__init__" s_Store_init f_Store_init fd)
    (a_Store_make : PySem.W.findIn K (.ref cStore) "make" = some (some (.ref f_Store_make)))
    (i_Store_make : PySem.W.isFn K (.ref f_Store_make) = true)
    (d_Store_make : ∃ fd, Fun K "make" "Store.make" s_Store_make f_Store_make fd)
    (a_Store_duplicate : PySem.W.findIn K (.ref cStore) "duplicate" = some (some (.ref f_Store_duplicate)))
    (i_Store_duplicate : PySem.W.isFn K (.ref f_Store_duplicate) = true)
    (d_Store_duplicate : ∃ fd, Fun K "duplicate" "Store.duplicate" s_Store_duplicate f_Store_duplicate fd)
    (a_root_rows : PySem.W.nsIn K mainGlobals "root_rows" = some (some (.ref f_root_rows)))
    (d_root_rows : ∃ fd, Fun K "root_rows" "root_rows" s_root_rows f_root_rows fd)
    (a_root_values : PySem.W.nsIn K mainGlobals "root_values" = some (some (.ref f_root_values)))
    (d_root_values : ∃ fd, Fun K "root_values" "root_values" s_root_values f_root_values fd)
    (a_all_values : PySem.W.nsIn K mainGlobals "all_values" = some (some (.ref f_all_values)))
    (d_all_values : ∃ fd, Fun K "all_values" "all_values" s_all_values f_all_values fd)
    (a_walk : PySem.W.nsIn K mainGlobals "walk" = some (some (.ref f_walk)))
    (d_walk : ∃ fd, Fun K "walk" "walk" s_walk f_walk fd)
    (a_client_walk : PySem.W.nsIn K mainGlobals "client_walk" = some (some (.ref f_client_walk)))
    (d_client_walk : ∃ fd, Fun K "client_walk" "client_walk" s_client_walk f_client_walk fd)
    (a_store_walk : PySem.W.nsIn K mainGlobals "store_walk" = some (some (.ref f_store_walk)))
    (d_store_walk : ∃ fd, Fun K "store_walk" "store_walk" s_store_walk f_store_walk fd)
    (a_unreached : PySem.W.nsIn K mainGlobals "unreached" = some (some (.ref f_unreached)))
    (d_unreached : ∃ fd, Fun K "unreached" "unreached" s_unreached f_unreached fd)
    (a_root_at : PySem.W.nsIn K mainGlobals "root_at" = some (some (.ref f_root_at)))
    (d_root_at : ∃ fd, Fun K "root_at" "root_at" s_root_at f_root_at fd)
    (a_field_at : PySem.W.nsIn K mainGlobals "field_at" = some (some (.ref f_field_at)))
    (d_field_at : ∃ fd, Fun K "field_at" "field_at" s_field_at f_field_at fd)
    (a_value_at : PySem.W.nsIn K mainGlobals "value_at" = some (some (.ref f_value_at)))
    (d_value_at : ∃ fd, Fun K "value_at" "value_at" s_value_at f_value_at fd)
    (a_value_at_place : PySem.W.nsIn K mainGlobals "value_at_place" = some (some (.ref f_value_at_place)))
    (d_value_at_place : ∃ fd, Fun K "value_at_place" "value_at_place" s_value_at_place f_value_at_place fd)
    (a_detail : PySem.W.nsIn K mainGlobals "detail" = some (some (.ref f_detail)))
    (d_detail : ∃ fd, Fun K "detail" "detail" s_detail f_detail fd)
    (a_paths_of : PySem.W.nsIn K mainGlobals "paths_of" = some (some (.ref f_paths_of)))
    (d_paths_of : ∃ fd, Fun K "paths_of" "paths_of" s_paths_of f_paths_of fd)
    (a_references_of : PySem.W.nsIn K mainGlobals "references_of" = some (some (.ref f_references_of)))
    (d_references_of : ∃ fd, Fun K "references_of" "references_of" s_references_of f_references_of fd)
    (a_steps_from : PySem.W.nsIn K mainGlobals "steps_from" = some (some (.ref f_steps_from)))
    (d_steps_from : ∃ fd, Fun K "steps_from" "steps_from" s_steps_from f_steps_from fd)
    (a_spread : PySem.W.nsIn K mainGlobals "spread" = some (some (.ref f_spread)))
    (d_spread : ∃ fd, Fun K "spread" "spread" s_spread f_spread fd)
    (a_lead_more : PySem.W.nsIn K mainGlobals "lead_more" = some (some (.ref f_lead_more)))
    (d_lead_more : ∃ fd, Fun K "lead_more" "lead_more" s_lead_more f_lead_more fd)
    (a_cut_of : PySem.W.nsIn K mainGlobals "cut_of" = some (some (.ref f_cut_of)))
    (d_cut_of : ∃ fd, Fun K "cut_of" "cut_of" s_cut_of f_cut_of fd)
    (a_Side_init : PySem.W.findIn K (.ref cSide) "__init__" = some (some (.ref f_Side_init)))
    (i_Side_init : PySem.W.isFn K (.ref f_Side_init) = true)
    (d_Side_init : ∃ fd, Fun K "__init__" "Side.__init__" s_Side_init f_Side_init fd)
    (a_found_at : PySem.W.nsIn K mainGlobals "found_at" = some (some (.ref f_found_at)))
    (d_found_at : ∃ fd, Fun K "found_at" "found_at" s_found_at f_found_at fd)
    (a_message_size : PySem.W.nsIn K mainGlobals "message_size" = some (some (.ref f_message_size)))
    (d_message_size : ∃ fd, Fun K "message_size" "message_size" s_message_size f_message_size fd)
    (a_size_result : PySem.W.nsIn K mainGlobals "size_result" = some (some (.ref f_size_result)))
    (d_size_result : ∃ fd, Fun K "size_result" "size_result" s_size_result f_size_result fd)
    (a_same_result : PySem.W.nsIn K mainGlobals "same_result" = some (some (.ref f_same_result)))
    (d_same_result : ∃ fd, Fun K "same_result" "same_result" s_same_result f_same_result fd)
    (a_result_of : PySem.W.nsIn K mainGlobals "result_of" = some (some (.ref f_result_of)))
    (d_result_of : ∃ fd, Fun K "result_of" "result_of" s_result_of f_result_of fd)
    (a_heads : PySem.W.nsIn K mainGlobals "heads" = some (some (.ref f_heads)))
    (d_heads : ∃ fd, Fun K "heads" "heads" s_heads f_heads fd)
    (a_size_difference : PySem.W.nsIn K mainGlobals "size_difference" = some (some (.ref f_size_difference)))
    (d_size_difference : ∃ fd, Fun K "size_difference" "size_difference" s_size_difference f_size_difference fd)
    (a_begun_queue : PySem.W.nsIn K mainGlobals "begun_queue" = some (some (.ref f_begun_queue)))
    (d_begun_queue : ∃ fd, Fun K "begun_queue" "begun_queue" s_begun_queue f_begun_queue fd)
    (a_met_with : PySem.W.nsIn K mainGlobals "met_with" = some (some (.ref f_met_with)))
    (d_met_with : ∃ fd, Fun K "met_with" "met_with" s_met_with f_met_with fd)
    (a_are_paired : PySem.W.nsIn K mainGlobals "are_paired" = some (some (.ref f_are_paired)))
    (d_are_paired : ∃ fd, Fun K "are_paired" "are_paired" s_are_paired f_are_paired fd)
    (a_difference : PySem.W.nsIn K mainGlobals "difference" = some (some (.ref f_difference)))
    (d_difference : ∃ fd, Fun K "difference" "difference" s_difference f_difference fd)
    (a_clients_difference : PySem.W.nsIn K mainGlobals "clients_difference" = some (some (.ref f_clients_difference)))
    (d_clients_difference : ∃ fd, Fun K "clients_difference" "clients_difference" s_clients_difference f_clients_difference fd)
    (a_stores_difference : PySem.W.nsIn K mainGlobals "stores_difference" = some (some (.ref f_stores_difference)))
    (d_stores_difference : ∃ fd, Fun K "stores_difference" "stores_difference" s_stores_difference f_stores_difference fd)
    (a_Unread_init : PySem.W.findIn K (.ref cUnread) "__init__" = some (some (.ref f_Unread_init)))
    (d_Unread_init : ∃ fd, Fun K "__init__" "Unread.__init__" s_Unread_init f_Unread_init fd)
    (a_numbered : PySem.W.nsIn K mainGlobals "numbered" = some (some (.ref f_numbered)))
    (d_numbered : ∃ fd, Fun K "numbered" "numbered" s_numbered f_numbered fd)
    (a_written : PySem.W.nsIn K mainGlobals "written" = some (some (.ref f_written)))
    (d_written : ∃ fd, Fun K "written" "written" s_written f_written fd)
    (a_row_written : PySem.W.nsIn K mainGlobals "row_written" = some (some (.ref f_row_written)))
    (d_row_written : ∃ fd, Fun K "row_written" "row_written" s_row_written f_row_written fd)
    (a_client_text : PySem.W.nsIn K mainGlobals "client_text" = some (some (.ref f_client_text)))
    (d_client_text : ∃ fd, Fun K "client_text" "client_text" s_client_text f_client_text fd)
    (a_things_text : PySem.W.nsIn K mainGlobals "things_text" = some (some (.ref f_things_text)))
    (d_things_text : ∃ fd, Fun K "things_text" "things_text" s_things_text f_things_text fd)
    (a_client_view : PySem.W.nsIn K mainGlobals "client_view" = some (some (.ref f_client_view)))
    (d_client_view : ∃ fd, Fun K "client_view" "client_view" s_client_view f_client_view fd)
    (a_store_view : PySem.W.nsIn K mainGlobals "store_view" = some (some (.ref f_store_view)))
    (d_store_view : ∃ fd, Fun K "store_view" "store_view" s_store_view f_store_view fd)
    (a_Reader_init : PySem.W.findIn K (.ref cReader) "__init__" = some (some (.ref f_Reader_init)))
    (i_Reader_init : PySem.W.isFn K (.ref f_Reader_init) = true)
    (d_Reader_init : ∃ fd, Fun K "__init__" "Reader.__init__" s_Reader_init f_Reader_init fd)
    (a_Reader_number : PySem.W.findIn K (.ref cReader) "number" = some (some (.ref f_Reader_number)))
    (i_Reader_number : PySem.W.isFn K (.ref f_Reader_number) = true)
    (d_Reader_number : ∃ fd, Fun K "number" "Reader.number" s_Reader_number f_Reader_number fd)
    (a_Reader_value : PySem.W.findIn K (.ref cReader) "value" = some (some (.ref f_Reader_value)))
    (i_Reader_value : PySem.W.isFn K (.ref f_Reader_value) = true)
    (d_Reader_value : ∃ fd, Fun K "value" "Reader.value" s_Reader_value f_Reader_value fd)
    (a_Reader_row : PySem.W.findIn K (.ref cReader) "row" = some (some (.ref f_Reader_row)))
    (i_Reader_row : PySem.W.isFn K (.ref f_Reader_row) = true)
    (d_Reader_row : ∃ fd, Fun K "row" "Reader.row" s_Reader_row f_Reader_row fd)
    (a_Reader_client : PySem.W.findIn K (.ref cReader) "client" = some (some (.ref f_Reader_client)))
    (i_Reader_client : PySem.W.isFn K (.ref f_Reader_client) = true)
    (d_Reader_client : ∃ fd, Fun K "client" "Reader.client" s_Reader_client f_Reader_client fd)
    (a_Reader_thing : PySem.W.findIn K (.ref cReader) "thing" = some (some (.ref f_Reader_thing)))
    (i_Reader_thing : PySem.W.isFn K (.ref f_Reader_thing) = true)
    (d_Reader_thing : ∃ fd, Fun K "thing" "Reader.thing" s_Reader_thing f_Reader_thing fd)
    (a_read_store : PySem.W.nsIn K mainGlobals "read_store" = some (some (.ref f_read_store)))
    (d_read_store : ∃ fd, Fun K "read_store" "read_store" s_read_store f_read_store fd)
    (a_Refused_init : PySem.W.findIn K (.ref cRefused) "__init__" = some (some (.ref f_Refused_init)))
    (d_Refused_init : ∃ fd, Fun K "__init__" "Refused.__init__" s_Refused_init f_Refused_init fd)
    (a_Desk_init : PySem.W.findIn K (.ref cDesk) "__init__" = some (some (.ref f_Desk_init)))
    (i_Desk_init : PySem.W.isFn K (.ref f_Desk_init) = true)
    (d_Desk_init : ∃ fd, Fun K "__init__" "Desk.__init__" s_Desk_init f_Desk_init fd)
    (a_refuse_unless : PySem.W.nsIn K mainGlobals "refuse_unless" = some (some (.ref f_refuse_unless)))
    (d_refuse_unless : ∃ fd, Fun K "refuse_unless" "refuse_unless" s_refuse_unless f_refuse_unless fd)
    (a_need : PySem.W.nsIn K mainGlobals "need" = some (some (.ref f_need)))
    (d_need : ∃ fd, Fun K "need" "need" s_need f_need fd)
    (a_need_slot : PySem.W.nsIn K mainGlobals "need_slot" = some (some (.ref f_need_slot)))
    (d_need_slot : ∃ fd, Fun K "need_slot" "need_slot" s_need_slot f_need_slot fd)
    (a_need_row : PySem.W.nsIn K mainGlobals "need_row" = some (some (.ref f_need_row)))
    (d_need_row : ∃ fd, Fun K "need_row" "need_row" s_need_row f_need_row fd)
    (a_opened : PySem.W.nsIn K mainGlobals "opened" = some (some (.ref f_opened)))
    (d_opened : ∃ fd, Fun K "opened" "opened" s_opened f_opened fd)
    (a_need_client : PySem.W.nsIn K mainGlobals "need_client" = some (some (.ref f_need_client)))
    (d_need_client : ∃ fd, Fun K "need_client" "need_client" s_need_client f_need_client fd)
    (a_client_of : PySem.W.nsIn K mainGlobals "client_of" = some (some (.ref f_client_of)))
    (d_client_of : ∃ fd, Fun K "client_of" "client_of" s_client_of f_client_of fd)
    (a_counted : PySem.W.nsIn K mainGlobals "counted" = some (some (.ref f_counted)))
    (d_counted : ∃ fd, Fun K "counted" "counted" s_counted f_counted fd)
    (a_open_store : PySem.W.nsIn K mainGlobals "open_store" = some (some (.ref f_open_store)))
    (d_open_store : ∃ fd, Fun K "open_store" "open_store" s_open_store f_open_store fd)
    (a_make : PySem.W.nsIn K mainGlobals "make" = some (some (.ref f_make)))
    (d_make : ∃ fd, Fun K "make" "make" s_make f_make fd)
    (a_set_number : PySem.W.nsIn K mainGlobals "set_number" = some (some (.ref f_set_number)))
    (d_set_number : ∃ fd, Fun K "set_number" "set_number" s_set_number f_set_number fd)
    (a_clear_slot : PySem.W.nsIn K mainGlobals "clear_slot" = some (some (.ref f_clear_slot)))
    (d_clear_slot : ∃ fd, Fun K "clear_slot" "clear_slot" s_clear_slot f_clear_slot fd)
    (a_copy_slot : PySem.W.nsIn K mainGlobals "copy_slot" = some (some (.ref f_copy_slot)))
    (d_copy_slot : ∃ fd, Fun K "copy_slot" "copy_slot" s_copy_slot f_copy_slot fd)
    (a_need_field : PySem.W.nsIn K mainGlobals "need_field" = some (some (.ref f_need_field)))
    (d_need_field : ∃ fd, Fun K "need_field" "need_field" s_need_field f_need_field fd)
    (a_read_field : PySem.W.nsIn K mainGlobals "read_field" = some (some (.ref f_read_field)))
    (d_read_field : ∃ fd, Fun K "read_field" "read_field" s_read_field f_read_field fd)
    (a_write_field : PySem.W.nsIn K mainGlobals "write_field" = some (some (.ref f_write_field)))
    (d_write_field : ∃ fd, Fun K "write_field" "write_field" s_write_field f_write_field fd)
    (a_inspect : PySem.W.nsIn K mainGlobals "inspect" = some (some (.ref f_inspect)))
    (d_inspect : ∃ fd, Fun K "inspect" "inspect" s_inspect f_inspect fd)
    (a_same : PySem.W.nsIn K mainGlobals "same" = some (some (.ref f_same)))
    (d_same : ∃ fd, Fun K "same" "same" s_same f_same fd)
    (a_send : PySem.W.nsIn K mainGlobals "send" = some (some (.ref f_send)))
    (d_send : ∃ fd, Fun K "send" "send" s_send f_send fd)
    (a_receive : PySem.W.nsIn K mainGlobals "receive" = some (some (.ref f_receive)))
    (d_receive : ∃ fd, Fun K "receive" "receive" s_receive f_receive fd)
    (a_waiting : PySem.W.nsIn K mainGlobals "waiting" = some (some (.ref f_waiting)))
    (d_waiting : ∃ fd, Fun K "waiting" "waiting" s_waiting f_waiting fd)
    (a_view : PySem.W.nsIn K mainGlobals "view" = some (some (.ref f_view)))
    (d_view : ∃ fd, Fun K "view" "view" s_view f_view fd)
    (a_view_all : PySem.W.nsIn K mainGlobals "view_all" = some (some (.ref f_view_all)))
    (d_view_all : ∃ fd, Fun K "view_all" "view_all" s_view_all f_view_all fd)
    (a_load : PySem.W.nsIn K mainGlobals "load" = some (some (.ref f_load)))
    (d_load : ∃ fd, Fun K "load" "load" s_load f_load fd)
    (a_told : PySem.W.nsIn K mainGlobals "told" = some (some (.ref f_told)))
    (d_told : ∃ fd, Fun K "told" "told" s_told f_told fd)
    (a_compare_clients : PySem.W.nsIn K mainGlobals "compare_clients" = some (some (.ref f_compare_clients)))
    (d_compare_clients : ∃ fd, Fun K "compare_clients" "compare_clients" s_compare_clients f_compare_clients fd)
    (a_mark : PySem.W.nsIn K mainGlobals "mark" = some (some (.ref f_mark)))
    (d_mark : ∃ fd, Fun K "mark" "mark" s_mark f_mark fd)
    (a_compare_mark : PySem.W.nsIn K mainGlobals "compare_mark" = some (some (.ref f_compare_mark)))
    (d_compare_mark : ∃ fd, Fun K "compare_mark" "compare_mark" s_compare_mark f_compare_mark fd)
    (a_run_test : PySem.W.nsIn K mainGlobals "run_test" = some (some (.ref f_run_test)))
    (d_run_test : ∃ fd, Fun K "run_test" "run_test" s_run_test f_run_test fd)
    (a_thing_at : PySem.W.nsIn K mainGlobals "thing_at" = some (some (.ref f_thing_at)))
    (d_thing_at : ∃ fd, Fun K "thing_at" "thing_at" s_thing_at f_thing_at fd)
    (a_find_path : PySem.W.nsIn K mainGlobals "find_path" = some (some (.ref f_find_path)))
    (d_find_path : ∃ fd, Fun K "find_path" "find_path" s_find_path f_find_path fd)
    (a_holders : PySem.W.nsIn K mainGlobals "holders" = some (some (.ref f_holders)))
    (d_holders : ∃ fd, Fun K "holders" "holders" s_holders f_holders fd)
    (a_range_of : PySem.W.nsIn K mainGlobals "range_of" = some (some (.ref f_range_of)))
    (d_range_of : ∃ fd, Fun K "range_of" "range_of" s_range_of f_range_of fd)
    (a_retained : PySem.W.nsIn K mainGlobals "retained" = some (some (.ref f_retained)))
    (d_retained : ∃ fd, Fun K "retained" "retained" s_retained f_retained fd)
    (a_cut : PySem.W.nsIn K mainGlobals "cut" = some (some (.ref f_cut)))
    (d_cut : ∃ fd, Fun K "cut" "cut" s_cut f_cut fd)
    (a_garbage : PySem.W.nsIn K mainGlobals "garbage" = some (some (.ref f_garbage)))
    (d_garbage : ∃ fd, Fun K "garbage" "garbage" s_garbage f_garbage fd)
    (a_sweep : PySem.W.nsIn K mainGlobals "sweep" = some (some (.ref f_sweep)))
    (d_sweep : ∃ fd, Fun K "sweep" "sweep" s_sweep f_sweep fd)
    (a_counts : PySem.W.nsIn K mainGlobals "counts" = some (some (.ref f_counts)))
    (d_counts : ∃ fd, Fun K "counts" "counts" s_counts f_counts fd)
    (a_answered : PySem.W.nsIn K mainGlobals "answered" = some (some (.ref f_answered)))
    (d_answered : ∃ fd, Fun K "answered" "answered" s_answered f_answered fd)
    (a_answers : PySem.W.nsIn K mainGlobals "answers" = some (some (.ref f_answers)))
    (d_answers : ∃ fd, Fun K "answers" "answers" s_answers f_answers fd)
    (pgClient : PySem.W.plainGet K cClient Str.empty = true)
    (hdClient : PySem.W.hasDictIn K cClient = true)
    (poClient : PySem.W.plainOver K cClient = true)
    (saClient : PySem.W.findIn K (.ref cClient) "__setattr__" = some (some (.builtin "object.__setattr__")))
    (mkClient : PySem.W.makesIn K cClient = true)
    (kcClient : PySem.W.keepIn K (.ref cClient) = true)
    (pgStore : PySem.W.plainGet K cStore Str.empty = true)
    (hdStore : PySem.W.hasDictIn K cStore = true)
    (poStore : PySem.W.plainOver K cStore = true)
    (saStore : PySem.W.findIn K (.ref cStore) "__setattr__" = some (some (.builtin "object.__setattr__")))
    (mkStore : PySem.W.makesIn K cStore = true)
    (kcStore : PySem.W.keepIn K (.ref cStore) = true)
    (pgSide : PySem.W.plainGet K cSide Str.empty = true)
    (hdSide : PySem.W.hasDictIn K cSide = true)
    (poSide : PySem.W.plainOver K cSide = true)
    (saSide : PySem.W.findIn K (.ref cSide) "__setattr__" = some (some (.builtin "object.__setattr__")))
    (mkSide : PySem.W.makesIn K cSide = true)
    (kcSide : PySem.W.keepIn K (.ref cSide) = true)
    (pgReader : PySem.W.plainGet K cReader Str.empty = true)
    (hdReader : PySem.W.hasDictIn K cReader = true)
    (poReader : PySem.W.plainOver K cReader = true)
    (saReader : PySem.W.findIn K (.ref cReader) "__setattr__" = some (some (.builtin "object.__setattr__")))
    (mkReader : PySem.W.makesIn K cReader = true)
    (kcReader : PySem.W.keepIn K (.ref cReader) = true)
    (pgDesk : PySem.W.plainGet K cDesk Str.empty = true)
    (hdDesk : PySem.W.hasDictIn K cDesk = true)
    (poDesk : PySem.W.plainOver K cDesk = true)
    (saDesk : PySem.W.findIn K (.ref cDesk) "__setattr__" = some (some (.builtin "object.__setattr__")))
    (mkDesk : PySem.W.makesIn K cDesk = true)
    (kcDesk : PySem.W.keepIn K (.ref cDesk) = true)
    (nClient_slots : PySem.W.findIn K (.ref cClient) "slots" = some none)
    (nClient_inbox : PySem.W.findIn K (.ref cClient) "inbox" = some none)
    (nStore_clients : PySem.W.findIn K (.ref cStore) "clients" = some none)
    (nStore_things : PySem.W.findIn K (.ref cStore) "things" = some none)
    (nStore_created : PySem.W.findIn K (.ref cStore) "created" = some none)
    (nStore_last : PySem.W.findIn K (.ref cStore) "last" = some none)
    (nSide_store : PySem.W.findIn K (.ref cSide) "store" = some none)
    (nSide_numbers : PySem.W.findIn K (.ref cSide) "numbers" = some none)
    (nReader_text : PySem.W.findIn K (.ref cReader) "text" = some none)
    (nReader_at : PySem.W.findIn K (.ref cReader) "at" = some none)
    (nReader_created : PySem.W.findIn K (.ref cReader) "created" = some none)
    (nReader_most : PySem.W.findIn K (.ref cReader) "most" = some none)
    (nReader_met : PySem.W.findIn K (.ref cReader) "met" = some none)
    (nDesk_store : PySem.W.findIn K (.ref cDesk) "store" = some none)
    (nDesk_marked : PySem.W.findIn K (.ref cDesk) "marked" = some none)
    (xlUnread : K.lookup cUnread = some (excClassObj nmUnread qUnread cUnread NUnread bsUnread ebm true snUnread subUnread abUnread colUnread ddUnread k0Unread k1Unread k2Unread k3Unread k5Unread "Exception.__new__"))
    (xsUnread : PySem.W.findIn K (.ref cUnread) "__setattr__" = some (some (.builtin "object.__setattr__")))
    (xgUnread : PySem.W.findIn K (.ref cUnread) "__getattribute__" = some (some (.builtin "BaseException.__getattribute__")))
    (xhUnread : PySem.W.findIn K (.ref cUnread) "__getattr__" = some none)
    (xnUnread : PySem.W.findIn K (.ref cUnread) "index" = some none)
    (xtUnread : PySem.W.typeIn K (.ref f_Unread_init) = some (.type "function"))
    (xdUnread : PySem.W.hasDictIn K cUnread = true)
    (xlRefused : K.lookup cRefused = some (excClassObj nmRefused qRefused cRefused NRefused bsRefused ebm true snRefused subRefused abRefused colRefused ddRefused k0Refused k1Refused k2Refused k3Refused k5Refused "Exception.__new__"))
    (xsRefused : PySem.W.findIn K (.ref cRefused) "__setattr__" = some (some (.builtin "object.__setattr__")))
    (xgRefused : PySem.W.findIn K (.ref cRefused) "__getattribute__" = some (some (.builtin "BaseException.__getattribute__")))
    (xhRefused : PySem.W.findIn K (.ref cRefused) "__getattr__" = some none)
    (xnRefused : PySem.W.findIn K (.ref cRefused) "code" = some none)
    (xtRefused : PySem.W.typeIn K (.ref f_Refused_init) = some (.type "function"))
    (xdRefused : PySem.W.hasDictIn K cRefused = true)
    (xxFailed : PySem.W.excIn K cFailed ebm "Exception.__new__" = true)
    (xkFailed : PySem.W.keepIn K (.ref cFailed) = true)
    (xbFailed : PySem.W.subIn K (.ref cFailed) (.type "BaseException") = some true)
    (xyFailed : PySem.W.typeIn K (.ref cFailed) = some (.type "type"))
    (xiFailed : PySem.W.isClsIn K cFailed = true)
    (xzFailed : PySem.W.subIn K (.ref cFailed) (.ref cFailed) = some true)
    (xkUnread : PySem.W.keepIn K (.ref cUnread) = true)
    (xbUnread : PySem.W.subIn K (.ref cUnread) (.type "BaseException") = some true)
    (xyUnread : PySem.W.typeIn K (.ref cUnread) = some (.type "type"))
    (xiUnread : PySem.W.isClsIn K cUnread = true)
    (xzUnread : PySem.W.subIn K (.ref cUnread) (.ref cUnread) = some true)
    (xkRefused : PySem.W.keepIn K (.ref cRefused) = true)
    (xbRefused : PySem.W.subIn K (.ref cRefused) (.type "BaseException") = some true)
    (xyRefused : PySem.W.typeIn K (.ref cRefused) = some (.type "type"))
    (xiRefused : PySem.W.isClsIn K cRefused = true)
    (xzRefused : PySem.W.subIn K (.ref cRefused) (.ref cRefused) = some true)
    (vExc : PySem.W.findCls K (.type "Exception") (.type "type") "__init__" = some (.val (.builtin "Exception.__init__")))
    (lNOTHING : K.lookup cNOTHING = some ⟨.type "tuple", odNOTHING, .seq itsNOTHING nNOTHING, slNOTHING⟩)
    (zNOTHING : itsNOTHING.size ≤ sizeLine)
    (vNOTHING : Vals [.int 0, .int 0] itsNOTHING.toList)
    (lINTEGERS : K.lookup cINTEGERS = some ⟨.type "tuple", odINTEGERS, .seq itsINTEGERS nINTEGERS, slINTEGERS⟩)
    (zINTEGERS : itsINTEGERS.size ≤ sizeLine)
    (vINTEGERS : Vals (([1, 3, 3, 2, 3, 4, 4, 2, 3, 2, 2, 1, 1, 0, 0, 2, 0, 0, 1, 1, 0, 2, 1, 0, 0, 0] : List Int).map V.int) itsINTEGERS.toList)
    (lLISTED : K.lookup cLISTED = some ⟨.type "tuple", odLISTED, .seq itsLISTED nLISTED, slLISTED⟩)
    (zLISTED : itsLISTED.size ≤ sizeLine)
    (vLISTED : Vals (([9, 14, 18, 19, 20, 22, 24] : List Int).map V.int) itsLISTED.toList)
    (lOPERATIONS : K.lookup cOPERATIONS = some ⟨.type "list", none, .seq itsOPERATIONS nOPERATIONS, slOPERATIONS⟩)
    (zOPERATIONS : itsOPERATIONS.size ≤ sizeLine)
    (vOPERATIONS : Vals ([f_open_store, f_make, f_set_number, f_clear_slot, f_copy_slot, f_read_field, f_write_field, f_inspect, f_same, f_send, f_receive, f_waiting, f_view, f_view_all, f_load, f_compare_clients, f_mark, f_compare_mark, f_run_test, f_find_path, f_holders, f_retained, f_cut, f_garbage, f_sweep, f_counts].map V.ref) itsOPERATIONS.toList)
    (nd : [f_open_store, f_make, f_set_number, f_clear_slot, f_copy_slot, f_read_field, f_write_field, f_inspect, f_same, f_send, f_receive, f_waiting, f_view, f_view_all, f_load, f_compare_clients, f_mark, f_compare_mark, f_run_test, f_find_path, f_holders, f_retained, f_cut, f_garbage, f_sweep, f_counts].Nodup)
    : ∃ fd : FuncData, (∀ (s : Shared) (us : List Value), us.length = (["calls"] : List Str).length → BindsTo s fd ⟨us, []⟩ ((["calls"] : List Str).zip us)) ∧ ∀ base : Heap, K.In base → base.Ns mainGlobals mg → FnOk P w K mg base CX0 10 fa fd ["calls"] (spAnswers K) := by
  have mo : ∀ {n : Str} {v : Value}, PySem.W.nsIn K mainGlobals n = some (some v) → mg n = some v := fun e => PySem.W.mg_of X G e
  have mn : ∀ {n : Str}, PySem.W.nsIn K mainGlobals n = some none → mg n = none := fun e => PySem.W.mg_none_of X G e
  have e := hfa.symm.trans (mo a_answers)
  cases e
  have eUnread : EC K mg "Unread" "index" cUnread f_Unread_init := { gC := mo gUnread, cls := ⟨_, _, _, _, _, _, _, _, _, _, _, _, _, _, xlUnread⟩, sa := xsUnread, ga := xgUnread, gg := xhUnread, no := xnUnread, iC := a_Unread_init, tC := xtUnread, kC := xkUnread, exC := xbUnread, tyC := xyUnread, hdC := xdUnread, te := exm_self xbUnread xiUnread xyUnread xzUnread }
  have eRefused : EC K mg "Refused" "code" cRefused f_Refused_init := { gC := mo gRefused, cls := ⟨_, _, _, _, _, _, _, _, _, _, _, _, _, _, xlRefused⟩, sa := xsRefused, ga := xgRefused, gg := xhRefused, no := xnRefused, iC := a_Refused_init, tC := xtRefused, kC := xkRefused, exC := xbRefused, tyC := xyRefused, hdC := xdRefused, te := exm_self xbRefused xiRefused xyRefused xzRefused }
  have T : Tx K mg ⟨cClient, cStore, cSide, cReader, cDesk, cFailed, cUnread, cRefused, f_Unread_init, f_Refused_init, cNOTHING, cINTEGERS, cLISTED, cOPERATIONS⟩ := {
    g_NOTHING := mo gNOTHING,
    nothing := sqT_mk lNOTHING zNOTHING vNOTHING,
    g_INTEGERS := mo gINTEGERS,
    integers := sqT_mk lINTEGERS zINTEGERS vINTEGERS,
    g_LISTED := mo gLISTED,
    listed := sqT_mk lLISTED zLISTED vLISTED,
    g_OPERATIONS := mo gOPERATIONS,
    c_NUMBER := ⟨_, mo gNUMBER⟩,
    c_REFERENCE := ⟨_, mo gREFERENCE⟩,
    c_SLOTS := ⟨_, mo gSLOTS⟩,
    c_MOST_IN_MESSAGE := ⟨_, mo gMOST_IN_MESSAGE⟩,
    c_SOURCE := ⟨_, mo gSOURCE⟩,
    c_MOST_CREATED := ⟨_, mo gMOST_CREATED⟩,
    c_MOST_CLIENTS := ⟨_, mo gMOST_CLIENTS⟩,
    c_MOST_MESSAGES := ⟨_, mo gMOST_MESSAGES⟩,
    c_MOST_IN := ⟨_, mo gMOST_IN⟩,
    c_MOST_FIELDS := ⟨_, mo gMOST_FIELDS⟩,
    c_MOST_CLIENT := ⟨_, mo gMOST_CLIENT⟩,
    c_MOST_SLOT := ⟨_, mo gMOST_SLOT⟩,
    c_MOST_FIELD := ⟨_, mo gMOST_FIELD⟩,
    c_MOST_PATH := ⟨_, mo gMOST_PATH⟩,
    c_MOST_ELEMENT := ⟨_, mo gMOST_ELEMENT⟩,
    k_client := ⟨pgClient, hdClient, poClient, saClient⟩,
    k_store := ⟨pgStore, hdStore, poStore, saStore⟩,
    k_side := ⟨pgSide, hdSide, poSide, saSide⟩,
    k_reader := ⟨pgReader, hdReader, poReader, saReader⟩,
    k_desk := ⟨pgDesk, hdDesk, poDesk, saDesk⟩,
    n_slots := nClient_slots,
    n_inbox := nClient_inbox,
    n_clients := nStore_clients,
    n_things := nStore_things,
    n_created := nStore_created,
    n_last := nStore_last,
    n_store := nSide_store,
    n_numbers := nSide_numbers,
    n_text := nReader_text,
    n_at := nReader_at,
    r_created := nReader_created,
    n_most := nReader_most,
    n_met := nReader_met,
    d_store := nDesk_store,
    n_marked := nDesk_marked,
    unread := eUnread,
    refused := eRefused,
    g_Failed := mo gFailed,
    x_Failed := xxFailed,
    kp_Failed := xkFailed,
    s_Failed := xbFailed,
    t_Failed := xyFailed,
    e_Failed := exm_self xbFailed xiFailed xyFailed xzFailed,
    v_Exception := vExc,
    b_len := mn blen,
    b_list := mn blist,
    b_range := mn brange,
    b_enumerate := mn benumerate,
    b_zip := mn bzip,
    b_divmod := mn bdivmod,
    b_sorted := mn bsorted,
    b_min := mn bmin,
    b_max := mn bmax,
    b_int := mn bint,
    b_sum := mn bsum,
    b_Exception := mn bException }
  have XX : Tp K mg ⟨cClient, cStore, cSide, cReader, cDesk, cFailed, cUnread, cRefused, f_Unread_init, f_Refused_init, cNOTHING, cINTEGERS, cLISTED, cOPERATIONS⟩ := {
    d_Client_init := let ⟨_, F⟩ := d_Client_init; ⟨⟨_, _, ⟨mkClient, a_Client_init, i_Client_init, kcClient⟩, mo gClient, F, b_Client_init F⟩⟩,
    d_Store_init := let ⟨_, F⟩ := d_Store_init; ⟨⟨_, _, ⟨mkStore, a_Store_init, i_Store_init, kcStore⟩, mo gStore, F, b_Store_init F⟩⟩,
    d_Store_make := let ⟨_, F⟩ := d_Store_make; ⟨⟨_, _, ⟨a_Store_make, i_Store_make, F.kp⟩, F, b_Store_make F⟩⟩,
    d_Store_duplicate := let ⟨_, F⟩ := d_Store_duplicate; ⟨⟨_, _, ⟨a_Store_duplicate, i_Store_duplicate, F.kp⟩, F, b_Store_duplicate F⟩⟩,
    d_root_rows := let ⟨_, F⟩ := d_root_rows; ⟨⟨_, _, mo a_root_rows, F, b_root_rows F⟩⟩,
    d_root_values := let ⟨_, F⟩ := d_root_values; ⟨⟨_, _, mo a_root_values, F, b_root_values F⟩⟩,
    d_all_values := let ⟨_, F⟩ := d_all_values; ⟨⟨_, _, mo a_all_values, F, b_all_values F⟩⟩,
    d_walk := let ⟨_, F⟩ := d_walk; ⟨⟨_, _, mo a_walk, F, b_walk F⟩⟩,
    d_client_walk := let ⟨_, F⟩ := d_client_walk; ⟨⟨_, _, mo a_client_walk, F, b_client_walk F⟩⟩,
    d_store_walk := let ⟨_, F⟩ := d_store_walk; ⟨⟨_, _, mo a_store_walk, F, b_store_walk F⟩⟩,
    d_unreached := let ⟨_, F⟩ := d_unreached; ⟨⟨_, _, mo a_unreached, F, b_unreached F⟩⟩,
    d_root_at := let ⟨_, F⟩ := d_root_at; ⟨⟨_, _, mo a_root_at, F, b_root_at F⟩⟩,
    d_field_at := let ⟨_, F⟩ := d_field_at; ⟨⟨_, _, mo a_field_at, F, b_field_at F⟩⟩,
    d_value_at := let ⟨_, F⟩ := d_value_at; ⟨⟨_, _, mo a_value_at, F, b_value_at F⟩⟩,
    d_value_at_place := let ⟨_, F⟩ := d_value_at_place; ⟨⟨_, _, mo a_value_at_place, F, b_value_at_place F⟩⟩,
    d_detail := let ⟨_, F⟩ := d_detail; ⟨⟨_, _, mo a_detail, F, b_detail F⟩⟩,
    d_paths_of := let ⟨_, F⟩ := d_paths_of; ⟨⟨_, _, mo a_paths_of, F, b_paths_of F⟩⟩,
    d_references_of := let ⟨_, F⟩ := d_references_of; ⟨⟨_, _, mo a_references_of, F, b_references_of F⟩⟩,
    d_steps_from := let ⟨_, F⟩ := d_steps_from; ⟨⟨_, _, mo a_steps_from, F, b_steps_from F⟩⟩,
    d_spread := let ⟨_, F⟩ := d_spread; ⟨⟨_, _, mo a_spread, F, b_spread F⟩⟩,
    d_lead_more := let ⟨_, F⟩ := d_lead_more; ⟨⟨_, _, mo a_lead_more, F, b_lead_more F⟩⟩,
    d_cut_of := let ⟨_, F⟩ := d_cut_of; ⟨⟨_, _, mo a_cut_of, F, b_cut_of F⟩⟩,
    d_Side_init := let ⟨_, F⟩ := d_Side_init; ⟨⟨_, _, ⟨mkSide, a_Side_init, i_Side_init, kcSide⟩, mo gSide, F, b_Side_init F⟩⟩,
    d_found_at := let ⟨_, F⟩ := d_found_at; ⟨⟨_, _, mo a_found_at, F, b_found_at F⟩⟩,
    d_message_size := let ⟨_, F⟩ := d_message_size; ⟨⟨_, _, mo a_message_size, F, b_message_size F⟩⟩,
    d_size_result := let ⟨_, F⟩ := d_size_result; ⟨⟨_, _, mo a_size_result, F, b_size_result F⟩⟩,
    d_same_result := let ⟨_, F⟩ := d_same_result; ⟨⟨_, _, mo a_same_result, F, b_same_result F⟩⟩,
    d_result_of := let ⟨_, F⟩ := d_result_of; ⟨⟨_, _, mo a_result_of, F, b_result_of F⟩⟩,
    d_heads := let ⟨_, F⟩ := d_heads; ⟨⟨_, _, mo a_heads, F, b_heads F⟩⟩,
    d_size_difference := let ⟨_, F⟩ := d_size_difference; ⟨⟨_, _, mo a_size_difference, F, b_size_difference F⟩⟩,
    d_begun_queue := let ⟨_, F⟩ := d_begun_queue; ⟨⟨_, _, mo a_begun_queue, F, b_begun_queue F⟩⟩,
    d_met_with := let ⟨_, F⟩ := d_met_with; ⟨⟨_, _, mo a_met_with, F, b_met_with F⟩⟩,
    d_are_paired := let ⟨_, F⟩ := d_are_paired; ⟨⟨_, _, mo a_are_paired, F, b_are_paired F⟩⟩,
    d_difference := let ⟨_, F⟩ := d_difference; ⟨⟨_, _, mo a_difference, F, b_difference F⟩⟩,
    d_clients_difference := let ⟨_, F⟩ := d_clients_difference; ⟨⟨_, _, mo a_clients_difference, F, b_clients_difference F⟩⟩,
    d_stores_difference := let ⟨_, F⟩ := d_stores_difference; ⟨⟨_, _, mo a_stores_difference, F, b_stores_difference F⟩⟩,
    d_Unread_init := let ⟨_, F⟩ := d_Unread_init; ⟨⟨_, F, b_Unread_init F⟩⟩,
    d_numbered := let ⟨_, F⟩ := d_numbered; ⟨⟨_, _, mo a_numbered, F, b_numbered F⟩⟩,
    d_written := let ⟨_, F⟩ := d_written; ⟨⟨_, _, mo a_written, F, b_written F⟩⟩,
    d_row_written := let ⟨_, F⟩ := d_row_written; ⟨⟨_, _, mo a_row_written, F, b_row_written F⟩⟩,
    d_client_text := let ⟨_, F⟩ := d_client_text; ⟨⟨_, _, mo a_client_text, F, b_client_text F⟩⟩,
    d_things_text := let ⟨_, F⟩ := d_things_text; ⟨⟨_, _, mo a_things_text, F, b_things_text F⟩⟩,
    d_client_view := let ⟨_, F⟩ := d_client_view; ⟨⟨_, _, mo a_client_view, F, b_client_view F⟩⟩,
    d_store_view := let ⟨_, F⟩ := d_store_view; ⟨⟨_, _, mo a_store_view, F, b_store_view F⟩⟩,
    d_Reader_init := let ⟨_, F⟩ := d_Reader_init; ⟨⟨_, _, ⟨mkReader, a_Reader_init, i_Reader_init, kcReader⟩, mo gReader, F, b_Reader_init F⟩⟩,
    d_Reader_number := let ⟨_, F⟩ := d_Reader_number; ⟨⟨_, _, ⟨a_Reader_number, i_Reader_number, F.kp⟩, F, b_Reader_number F⟩⟩,
    d_Reader_value := let ⟨_, F⟩ := d_Reader_value; ⟨⟨_, _, ⟨a_Reader_value, i_Reader_value, F.kp⟩, F, b_Reader_value F⟩⟩,
    d_Reader_row := let ⟨_, F⟩ := d_Reader_row; ⟨⟨_, _, ⟨a_Reader_row, i_Reader_row, F.kp⟩, F, b_Reader_row F⟩⟩,
    d_Reader_client := let ⟨_, F⟩ := d_Reader_client; ⟨⟨_, _, ⟨a_Reader_client, i_Reader_client, F.kp⟩, F, b_Reader_client F⟩⟩,
    d_Reader_thing := let ⟨_, F⟩ := d_Reader_thing; ⟨⟨_, _, ⟨a_Reader_thing, i_Reader_thing, F.kp⟩, F, b_Reader_thing F⟩⟩,
    d_read_store := let ⟨_, F⟩ := d_read_store; ⟨⟨_, _, mo a_read_store, F, b_read_store F⟩⟩,
    d_Refused_init := let ⟨_, F⟩ := d_Refused_init; ⟨⟨_, F, b_Refused_init F⟩⟩,
    d_Desk_init := let ⟨_, F⟩ := d_Desk_init; ⟨⟨_, _, ⟨mkDesk, a_Desk_init, i_Desk_init, kcDesk⟩, mo gDesk, F, b_Desk_init F⟩⟩,
    d_refuse_unless := let ⟨_, F⟩ := d_refuse_unless; ⟨⟨_, _, mo a_refuse_unless, F, b_refuse_unless F⟩⟩,
    d_need := let ⟨_, F⟩ := d_need; ⟨⟨_, _, mo a_need, F, b_need F⟩⟩,
    d_need_slot := let ⟨_, F⟩ := d_need_slot; ⟨⟨_, _, mo a_need_slot, F, b_need_slot F⟩⟩,
    d_need_row := let ⟨_, F⟩ := d_need_row; ⟨⟨_, _, mo a_need_row, F, b_need_row F⟩⟩,
    d_opened := let ⟨_, F⟩ := d_opened; ⟨⟨_, _, mo a_opened, F, b_opened F⟩⟩,
    d_need_client := let ⟨_, F⟩ := d_need_client; ⟨⟨_, _, mo a_need_client, F, b_need_client F⟩⟩,
    d_client_of := let ⟨_, F⟩ := d_client_of; ⟨⟨_, _, mo a_client_of, F, b_client_of F⟩⟩,
    d_counted := let ⟨_, F⟩ := d_counted; ⟨⟨_, _, mo a_counted, F, b_counted F⟩⟩,
    d_open_store := let ⟨_, F⟩ := d_open_store; ⟨⟨_, _, mo a_open_store, F, b_open_store F⟩⟩,
    d_make := let ⟨_, F⟩ := d_make; ⟨⟨_, _, mo a_make, F, b_make F⟩⟩,
    d_set_number := let ⟨_, F⟩ := d_set_number; ⟨⟨_, _, mo a_set_number, F, b_set_number F⟩⟩,
    d_clear_slot := let ⟨_, F⟩ := d_clear_slot; ⟨⟨_, _, mo a_clear_slot, F, b_clear_slot F⟩⟩,
    d_copy_slot := let ⟨_, F⟩ := d_copy_slot; ⟨⟨_, _, mo a_copy_slot, F, b_copy_slot F⟩⟩,
    d_need_field := let ⟨_, F⟩ := d_need_field; ⟨⟨_, _, mo a_need_field, F, b_need_field F⟩⟩,
    d_read_field := let ⟨_, F⟩ := d_read_field; ⟨⟨_, _, mo a_read_field, F, b_read_field F⟩⟩,
    d_write_field := let ⟨_, F⟩ := d_write_field; ⟨⟨_, _, mo a_write_field, F, b_write_field F⟩⟩,
    d_inspect := let ⟨_, F⟩ := d_inspect; ⟨⟨_, _, mo a_inspect, F, b_inspect F⟩⟩,
    d_same := let ⟨_, F⟩ := d_same; ⟨⟨_, _, mo a_same, F, b_same F⟩⟩,
    d_send := let ⟨_, F⟩ := d_send; ⟨⟨_, _, mo a_send, F, b_send F⟩⟩,
    d_receive := let ⟨_, F⟩ := d_receive; ⟨⟨_, _, mo a_receive, F, b_receive F⟩⟩,
    d_waiting := let ⟨_, F⟩ := d_waiting; ⟨⟨_, _, mo a_waiting, F, b_waiting F⟩⟩,
    d_view := let ⟨_, F⟩ := d_view; ⟨⟨_, _, mo a_view, F, b_view F⟩⟩,
    d_view_all := let ⟨_, F⟩ := d_view_all; ⟨⟨_, _, mo a_view_all, F, b_view_all F⟩⟩,
    d_load := let ⟨_, F⟩ := d_load; ⟨⟨_, _, mo a_load, F, b_load F⟩⟩,
    d_told := let ⟨_, F⟩ := d_told; ⟨⟨_, _, mo a_told, F, b_told F⟩⟩,
    d_compare_clients := let ⟨_, F⟩ := d_compare_clients; ⟨⟨_, _, mo a_compare_clients, F, b_compare_clients F⟩⟩,
    d_mark := let ⟨_, F⟩ := d_mark; ⟨⟨_, _, mo a_mark, F, b_mark F⟩⟩,
    d_compare_mark := let ⟨_, F⟩ := d_compare_mark; ⟨⟨_, _, mo a_compare_mark, F, b_compare_mark F⟩⟩,
    d_run_test := let ⟨_, F⟩ := d_run_test; ⟨⟨_, _, mo a_run_test, F, b_run_test F⟩⟩,
    d_thing_at := let ⟨_, F⟩ := d_thing_at; ⟨⟨_, _, mo a_thing_at, F, b_thing_at F⟩⟩,
    d_find_path := let ⟨_, F⟩ := d_find_path; ⟨⟨_, _, mo a_find_path, F, b_find_path F⟩⟩,
    d_holders := let ⟨_, F⟩ := d_holders; ⟨⟨_, _, mo a_holders, F, b_holders F⟩⟩,
    d_range_of := let ⟨_, F⟩ := d_range_of; ⟨⟨_, _, mo a_range_of, F, b_range_of F⟩⟩,
    d_retained := let ⟨_, F⟩ := d_retained; ⟨⟨_, _, mo a_retained, F, b_retained F⟩⟩,
    d_cut := let ⟨_, F⟩ := d_cut; ⟨⟨_, _, mo a_cut, F, b_cut F⟩⟩,
    d_garbage := let ⟨_, F⟩ := d_garbage; ⟨⟨_, _, mo a_garbage, F, b_garbage F⟩⟩,
    d_sweep := let ⟨_, F⟩ := d_sweep; ⟨⟨_, _, mo a_sweep, F, b_sweep F⟩⟩,
    d_counts := let ⟨_, F⟩ := d_counts; ⟨⟨_, _, mo a_counts, F, b_counts F⟩⟩,
    d_answered := let ⟨_, F⟩ := d_answered; ⟨⟨_, _, mo a_answered, F, b_answered F⟩⟩ }
  obtain ⟨fd, F⟩ := d_answers
  exact ⟨fd, bt_answers F, fun base _ _ => fnOk_cx0 (all_ok T XX F (sqL_mk lOPERATIONS zOPERATIONS vOPERATIONS) nd (mo a_open_store) (mo a_make) (mo a_set_number) (mo a_clear_slot) (mo a_copy_slot) (mo a_read_field) (mo a_write_field) (mo a_inspect) (mo a_same) (mo a_send) (mo a_receive) (mo a_waiting) (mo a_view) (mo a_view_all) (mo a_load) (mo a_compare_clients) (mo a_mark) (mo a_compare_mark) (mo a_run_test) (mo a_find_path) (mo a_holders) (mo a_retained) (mo a_cut) (mo a_garbage) (mo a_sweep) (mo a_counts)) fun _ _ _ _ z => z⟩
end
end Sh

open PySem PySem.W PyProof.Rows
set_option maxRecDepth 100000 in
set_option maxHeartbeats 8000000 in
theorem PySem.Challenge.cw_sharedstore_s01_answers_holds : PySem.Challenge.rw_sharedstore_s01_answers.Holds := by
  w_on; k_headS; (case hw => exact ⟨[.list [.int 13]], by decide +kernel, by decide +kernel⟩)
  k_fillS
  refine L2.walk_specK (r := PySem.Challenge.rw_sharedstore_s01_answers) (k := 10) (CX := L2.CX0) (ps := ["calls"]) (sp := Sh.spAnswers) (by decide +kernel) rfl rfl ⟨rfl, by decide, by decide⟩ (fun w h Y => PySem.W.kIn_of Y) ?F ?S (fun _ _ _ _ z => z)
  case F =>
    intro w mg fa h Y KX G hmg
    refine' Sh.all_mk KX G hmg ?gClient ?gStore ?gSide ?gReader ?gDesk ?gFailed ?gUnread ?gRefused ?gNOTHING ?gINTEGERS ?gLISTED ?gOPERATIONS ?gNUMBER ?gREFERENCE ?gSLOTS ?gMOST_IN_MESSAGE ?gSOURCE ?gMOST_CREATED ?gMOST_CLIENTS ?gMOST_MESSAGES ?gMOST_IN ?gMOST_FIELDS ?gMOST_CLIENT ?gMOST_SLOT ?gMOST_FIELD ?gMOST_PATH ?gMOST_ELEMENT ?blen ?blist ?brange ?benumerate ?bzip ?bdivmod ?bsorted ?bmin ?bmax ?bint ?bsum ?bException ?a_Client_init ?i_Client_init ?d_Client_init ?a_Store_init ?i_Store_init ?d_Store_init ?a_Store_make ?i_Store_make ?d_Store_make ?a_Store_duplicate ?i_Store_duplicate ?d_Store_duplicate ?a_root_rows ?d_root_rows ?a_root_values ?d_root_values ?a_all_values ?d_all_values ?a_walk ?d_walk ?a_client_walk ?d_client_walk ?a_store_walk ?d_store_walk ?a_unreached ?d_unreached ?a_root_at ?d_root_at ?a_field_at ?d_field_at ?a_value_at ?d_value_at ?a_value_at_place ?d_value_at_place ?a_detail ?d_detail ?a_paths_of ?d_paths_of ?a_references_of ?d_references_of ?a_steps_from ?d_steps_from ?a_spread ?d_spread ?a_lead_more ?d_lead_more ?a_cut_of ?d_cut_of ?a_Side_init ?i_Side_init ?d_Side_init ?a_found_at ?d_found_at ?a_message_size ?d_message_size ?a_size_result ?d_size_result ?a_same_result ?d_same_result ?a_result_of ?d_result_of ?a_heads ?d_heads ?a_size_difference ?d_size_difference ?a_begun_queue ?d_begun_queue ?a_met_with ?d_met_with ?a_are_paired ?d_are_paired ?a_difference ?d_difference ?a_clients_difference ?d_clients_difference ?a_stores_difference ?d_stores_difference ?a_Unread_init ?d_Unread_init ?a_numbered ?d_numbered ?a_written ?d_written ?a_row_written ?d_row_written ?a_client_text ?d_client_text ?a_things_text ?d_things_text ?a_client_view ?d_client_view ?a_store_view ?d_store_view ?a_Reader_init ?i_Reader_init ?d_Reader_init ?a_Reader_number ?i_Reader_number ?d_Reader_number ?a_Reader_value ?i_Reader_value ?d_Reader_value ?a_Reader_row ?i_Reader_row ?d_Reader_row ?a_Reader_client ?i_Reader_client ?d_Reader_client ?a_Reader_thing ?i_Reader_thing ?d_Reader_thing ?a_read_store ?d_read_store ?a_Refused_init ?d_Refused_init ?a_Desk_init ?i_Desk_init ?d_Desk_init ?a_refuse_unless ?d_refuse_unless ?a_need ?d_need ?a_need_slot ?d_need_slot ?a_need_row ?d_need_row ?a_opened ?d_opened ?a_need_client ?d_need_client ?a_client_of ?d_client_of ?a_counted ?d_counted ?a_open_store ?d_open_store ?a_make ?d_make ?a_set_number ?d_set_number ?a_clear_slot ?d_clear_slot ?a_copy_slot ?d_copy_slot ?a_need_field ?d_need_field ?a_read_field ?d_read_field ?a_write_field ?d_write_field ?a_inspect ?d_inspect ?a_same ?d_same ?a_send ?d_send ?a_receive ?d_receive ?a_waiting ?d_waiting ?a_view ?d_view ?a_view_all ?d_view_all ?a_load ?d_load ?a_told ?d_told ?a_compare_clients ?d_compare_clients ?a_mark ?d_mark ?a_compare_mark ?d_compare_mark ?a_run_test ?d_run_test ?a_thing_at ?d_thing_at ?a_find_path ?d_find_path ?a_holders ?d_holders ?a_range_of ?d_range_of ?a_retained ?d_retained ?a_cut ?d_cut ?a_garbage ?d_garbage ?a_sweep ?d_sweep ?a_counts ?d_counts ?a_answered ?d_answered ?a_answers ?d_answers ?pgClient ?hdClient ?poClient ?saClient ?mkClient ?kcClient ?pgStore ?hdStore ?poStore ?saStore ?mkStore ?kcStore ?pgSide ?hdSide ?poSide ?saSide ?mkSide ?kcSide ?pgReader ?hdReader ?poReader ?saReader ?mkReader ?kcReader ?pgDesk ?hdDesk ?poDesk ?saDesk ?mkDesk ?kcDesk ?nClient_slots ?nClient_inbox ?nStore_clients ?nStore_things ?nStore_created ?nStore_last ?nSide_store ?nSide_numbers ?nReader_text ?nReader_at ?nReader_created ?nReader_most ?nReader_met ?nDesk_store ?nDesk_marked ?xlUnread ?xsUnread ?xgUnread ?xhUnread ?xnUnread ?xtUnread ?xdUnread ?xlRefused ?xsRefused ?xgRefused ?xhRefused ?xnRefused ?xtRefused ?xdRefused ?xxFailed ?xkFailed ?xbFailed ?xyFailed ?xiFailed ?xzFailed ?xkUnread ?xbUnread ?xyUnread ?xiUnread ?xzUnread ?xkRefused ?xbRefused ?xyRefused ?xiRefused ?xzRefused ?vExc ?lNOTHING ?zNOTHING ?vNOTHING ?lINTEGERS ?zINTEGERS ?vINTEGERS ?lLISTED ?zLISTED ?vLISTED ?lOPERATIONS ?zOPERATIONS ?vOPERATIONS ?nd
    (case gClient => k_is)
    (case gStore => k_is)
    (case gSide => k_is)
    (case gReader => k_is)
    (case gDesk => k_is)
    (case gFailed => k_is)
    (case gUnread => k_is)
    (case gRefused => k_is)
    (case gNOTHING => k_is)
    (case gINTEGERS => k_is)
    (case gLISTED => k_is)
    (case gOPERATIONS => k_is)
    (case gNUMBER => k_is)
    (case gREFERENCE => k_is)
    (case gSLOTS => k_is)
    (case gMOST_IN_MESSAGE => k_is)
    (case gSOURCE => k_is)
    (case gMOST_CREATED => k_is)
    (case gMOST_CLIENTS => k_is)
    (case gMOST_MESSAGES => k_is)
    (case gMOST_IN => k_is)
    (case gMOST_FIELDS => k_is)
    (case gMOST_CLIENT => k_is)
    (case gMOST_SLOT => k_is)
    (case gMOST_FIELD => k_is)
    (case gMOST_PATH => k_is)
    (case gMOST_ELEMENT => k_is)
    (case blen => k_is)
    (case blist => k_is)
    (case brange => k_is)
    (case benumerate => k_is)
    (case bzip => k_is)
    (case bdivmod => k_is)
    (case bsorted => k_is)
    (case bmin => k_is)
    (case bmax => k_is)
    (case bint => k_is)
    (case bsum => k_is)
    (case bException => k_is)
    (case a_Client_init => k_is)
    (case i_Client_init => k_is)
    (case d_Client_init => exact Sh.fun_ex (by k_is) (by k_is) (by k_is))
    (case a_Store_init => k_is)
    (case i_Store_init => k_is)
    (case d_Store_init => exact Sh.fun_ex (by k_is) (by k_is) (by k_is))
    (case a_Store_make => k_is)
    (case i_Store_make => k_is)
    (case d_Store_make => exact Sh.fun_ex (by k_is) (by k_is) (by k_is))
    (case a_Store_duplicate => k_is)
    (case i_Store_duplicate => k_is)
    (case d_Store_duplicate => exact Sh.fun_ex (by k_is) (by k_is) (by k_is))
    (case a_root_rows => k_is)
    (case d_root_rows => exact Sh.fun_ex (by k_is) (by k_is) (by k_is))
    (case a_root_values => k_is)
    (case d_root_values => exact Sh.fun_ex (by k_is) (by k_is) (by k_is))
    (case a_all_values => k_is)
    (case d_all_values => exact Sh.fun_ex (by k_is) (by k_is) (by k_is))
    (case a_walk => k_is)
    (case d_walk => exact Sh.fun_ex (by k_is) (by k_is) (by k_is))
    (case a_client_walk => k_is)
    (case d_client_walk => exact Sh.fun_ex (by k_is) (by k_is) (by k_is))
    (case a_store_walk => k_is)
    (case d_store_walk => exact Sh.fun_ex (by k_is) (by k_is) (by k_is))
    (case a_unreached => k_is)
    (case d_unreached => exact Sh.fun_ex (by k_is) (by k_is) (by k_is))
    (case a_root_at => k_is)
    (case d_root_at => exact Sh.fun_ex (by k_is) (by k_is) (by k_is))
    (case a_field_at => k_is)
    (case d_field_at => exact Sh.fun_ex (by k_is) (by k_is) (by k_is))
    (case a_value_at => k_is)
    (case d_value_at => exact Sh.fun_ex (by k_is) (by k_is) (by k_is))
    (case a_value_at_place => k_is)
    (case d_value_at_place => exact Sh.fun_ex (by k_is) (by k_is) (by k_is))
    (case a_detail => k_is)
    (case d_detail => exact Sh.fun_ex (by k_is) (by k_is) (by k_is))
    (case a_paths_of => k_is)
    (case d_paths_of => exact Sh.fun_ex (by k_is) (by k_is) (by k_is))
    (case a_references_of => k_is)
    (case d_references_of => exact Sh.fun_ex (by k_is) (by k_is) (by k_is))
    (case a_steps_from => k_is)
    (case d_steps_from => exact Sh.fun_ex (by k_is) (by k_is) (by k_is))
    (case a_spread => k_is)
    (case d_spread => exact Sh.fun_ex (by k_is) (by k_is) (by k_is))
    (case a_lead_more => k_is)
    (case d_lead_more => exact Sh.fun_ex (by k_is) (by k_is) (by k_is))
    (case a_cut_of => k_is)
    (case d_cut_of => exact Sh.fun_ex (by k_is) (by k_is) (by k_is))
    (case a_Side_init => k_is)
    (case i_Side_init => k_is)
    (case d_Side_init => exact Sh.fun_ex (by k_is) (by k_is) (by k_is))
    (case a_found_at => k_is)
    (case d_found_at => exact Sh.fun_ex (by k_is) (by k_is) (by k_is))
    (case a_message_size => k_is)
    (case d_message_size => exact Sh.fun_ex (by k_is) (by k_is) (by k_is))
    (case a_size_result => k_is)
    (case d_size_result => exact Sh.fun_ex (by k_is) (by k_is) (by k_is))
    (case a_same_result => k_is)
    (case d_same_result => exact Sh.fun_ex (by k_is) (by k_is) (by k_is))
    (case a_result_of => k_is)
    (case d_result_of => exact Sh.fun_ex (by k_is) (by k_is) (by k_is))
    (case a_heads => k_is)
    (case d_heads => exact Sh.fun_ex (by k_is) (by k_is) (by k_is))
    (case a_size_difference => k_is)
    (case d_size_difference => exact Sh.fun_ex (by k_is) (by k_is) (by k_is))
    (case a_begun_queue => k_is)
    (case d_begun_queue => exact Sh.fun_ex (by k_is) (by k_is) (by k_is))
    (case a_met_with => k_is)
    (case d_met_with => exact Sh.fun_ex (by k_is) (by k_is) (by k_is))
    (case a_are_paired => k_is)
    (case d_are_paired => exact Sh.fun_ex (by k_is) (by k_is) (by k_is))
    (case a_difference => k_is)
    (case d_difference => exact Sh.fun_ex (by k_is) (by k_is) (by k_is))
    (case a_clients_difference => k_is)
    (case d_clients_difference => exact Sh.fun_ex (by k_is) (by k_is) (by k_is))
    (case a_stores_difference => k_is)
    (case d_stores_difference => exact Sh.fun_ex (by k_is) (by k_is) (by k_is))
    (case a_Unread_init => k_is)
    (case d_Unread_init => exact Sh.fun_ex (by k_is) (by k_is) (by k_is))
    (case a_numbered => k_is)
    (case d_numbered => exact Sh.fun_ex (by k_is) (by k_is) (by k_is))
    (case a_written => k_is)
    (case d_written => exact Sh.fun_ex (by k_is) (by k_is) (by k_is))
    (case a_row_written => k_is)
    (case d_row_written => exact Sh.fun_ex (by k_is) (by k_is) (by k_is))
    (case a_client_text => k_is)
    (case d_client_text => exact Sh.fun_ex (by k_is) (by k_is) (by k_is))
    (case a_things_text => k_is)
    (case d_things_text => exact Sh.fun_ex (by k_is) (by k_is) (by k_is))
    (case a_client_view => k_is)
    (case d_client_view => exact Sh.fun_ex (by k_is) (by k_is) (by k_is))
    (case a_store_view => k_is)
    (case d_store_view => exact Sh.fun_ex (by k_is) (by k_is) (by k_is))
    (case a_Reader_init => k_is)
    (case i_Reader_init => k_is)
    (case d_Reader_init => exact Sh.fun_ex (by k_is) (by k_is) (by k_is))
    (case a_Reader_number => k_is)
    (case i_Reader_number => k_is)
    (case d_Reader_number => exact Sh.fun_ex (by k_is) (by k_is) (by k_is))
    (case a_Reader_value => k_is)
    (case i_Reader_value => k_is)
    (case d_Reader_value => exact Sh.fun_ex (by k_is) (by k_is) (by k_is))
    (case a_Reader_row => k_is)
    (case i_Reader_row => k_is)
    (case d_Reader_row => exact Sh.fun_ex (by k_is) (by k_is) (by k_is))
    (case a_Reader_client => k_is)
    (case i_Reader_client => k_is)
    (case d_Reader_client => exact Sh.fun_ex (by k_is) (by k_is) (by k_is))
    (case a_Reader_thing => k_is)
    (case i_Reader_thing => k_is)
    (case d_Reader_thing => exact Sh.fun_ex (by k_is) (by k_is) (by k_is))
    (case a_read_store => k_is)
    (case d_read_store => exact Sh.fun_ex (by k_is) (by k_is) (by k_is))
    (case a_Refused_init => k_is)
    (case d_Refused_init => exact Sh.fun_ex (by k_is) (by k_is) (by k_is))
    (case a_Desk_init => k_is)
    (case i_Desk_init => k_is)
    (case d_Desk_init => exact Sh.fun_ex (by k_is) (by k_is) (by k_is))
    (case a_refuse_unless => k_is)
    (case d_refuse_unless => exact Sh.fun_ex (by k_is) (by k_is) (by k_is))
    (case a_need => k_is)
    (case d_need => exact Sh.fun_ex (by k_is) (by k_is) (by k_is))
    (case a_need_slot => k_is)
    (case d_need_slot => exact Sh.fun_ex (by k_is) (by k_is) (by k_is))
    (case a_need_row => k_is)
    (case d_need_row => exact Sh.fun_ex (by k_is) (by k_is) (by k_is))
    (case a_opened => k_is)
    (case d_opened => exact Sh.fun_ex (by k_is) (by k_is) (by k_is))
    (case a_need_client => k_is)
    (case d_need_client => exact Sh.fun_ex (by k_is) (by k_is) (by k_is))
    (case a_client_of => k_is)
    (case d_client_of => exact Sh.fun_ex (by k_is) (by k_is) (by k_is))
    (case a_counted => k_is)
    (case d_counted => exact Sh.fun_ex (by k_is) (by k_is) (by k_is))
    (case a_open_store => k_is)
    (case d_open_store => exact Sh.fun_ex (by k_is) (by k_is) (by k_is))
    (case a_make => k_is)
    (case d_make => exact Sh.fun_ex (by k_is) (by k_is) (by k_is))
    (case a_set_number => k_is)
    (case d_set_number => exact Sh.fun_ex (by k_is) (by k_is) (by k_is))
    (case a_clear_slot => k_is)
    (case d_clear_slot => exact Sh.fun_ex (by k_is) (by k_is) (by k_is))
    (case a_copy_slot => k_is)
    (case d_copy_slot => exact Sh.fun_ex (by k_is) (by k_is) (by k_is))
    (case a_need_field => k_is)
    (case d_need_field => exact Sh.fun_ex (by k_is) (by k_is) (by k_is))
    (case a_read_field => k_is)
    (case d_read_field => exact Sh.fun_ex (by k_is) (by k_is) (by k_is))
    (case a_write_field => k_is)
    (case d_write_field => exact Sh.fun_ex (by k_is) (by k_is) (by k_is))
    (case a_inspect => k_is)
    (case d_inspect => exact Sh.fun_ex (by k_is) (by k_is) (by k_is))
    (case a_same => k_is)
    (case d_same => exact Sh.fun_ex (by k_is) (by k_is) (by k_is))
    (case a_send => k_is)
    (case d_send => exact Sh.fun_ex (by k_is) (by k_is) (by k_is))
    (case a_receive => k_is)
    (case d_receive => exact Sh.fun_ex (by k_is) (by k_is) (by k_is))
    (case a_waiting => k_is)
    (case d_waiting => exact Sh.fun_ex (by k_is) (by k_is) (by k_is))
    (case a_view => k_is)
    (case d_view => exact Sh.fun_ex (by k_is) (by k_is) (by k_is))
    (case a_view_all => k_is)
    (case d_view_all => exact Sh.fun_ex (by k_is) (by k_is) (by k_is))
    (case a_load => k_is)
    (case d_load => exact Sh.fun_ex (by k_is) (by k_is) (by k_is))
    (case a_told => k_is)
    (case d_told => exact Sh.fun_ex (by k_is) (by k_is) (by k_is))
    (case a_compare_clients => k_is)
    (case d_compare_clients => exact Sh.fun_ex (by k_is) (by k_is) (by k_is))
    (case a_mark => k_is)
    (case d_mark => exact Sh.fun_ex (by k_is) (by k_is) (by k_is))
    (case a_compare_mark => k_is)
    (case d_compare_mark => exact Sh.fun_ex (by k_is) (by k_is) (by k_is))
    (case a_run_test => k_is)
    (case d_run_test => exact Sh.fun_ex (by k_is) (by k_is) (by k_is))
    (case a_thing_at => k_is)
    (case d_thing_at => exact Sh.fun_ex (by k_is) (by k_is) (by k_is))
    (case a_find_path => k_is)
    (case d_find_path => exact Sh.fun_ex (by k_is) (by k_is) (by k_is))
    (case a_holders => k_is)
    (case d_holders => exact Sh.fun_ex (by k_is) (by k_is) (by k_is))
    (case a_range_of => k_is)
    (case d_range_of => exact Sh.fun_ex (by k_is) (by k_is) (by k_is))
    (case a_retained => k_is)
    (case d_retained => exact Sh.fun_ex (by k_is) (by k_is) (by k_is))
    (case a_cut => k_is)
    (case d_cut => exact Sh.fun_ex (by k_is) (by k_is) (by k_is))
    (case a_garbage => k_is)
    (case d_garbage => exact Sh.fun_ex (by k_is) (by k_is) (by k_is))
    (case a_sweep => k_is)
    (case d_sweep => exact Sh.fun_ex (by k_is) (by k_is) (by k_is))
    (case a_counts => k_is)
    (case d_counts => exact Sh.fun_ex (by k_is) (by k_is) (by k_is))
    (case a_answered => k_is)
    (case d_answered => exact Sh.fun_ex (by k_is) (by k_is) (by k_is))
    (case a_answers => k_is)
    (case d_answers => exact Sh.fun_ex (by k_is) (by k_is) (by k_is))
    (case pgClient => k_is)
    (case hdClient => k_is)
    (case poClient => k_is)
    (case saClient => k_is)
    (case mkClient => k_is)
    (case kcClient => k_is)
    (case pgStore => k_is)
    (case hdStore => k_is)
    (case poStore => k_is)
    (case saStore => k_is)
    (case mkStore => k_is)
    (case kcStore => k_is)
    (case pgSide => k_is)
    (case hdSide => k_is)
    (case poSide => k_is)
    (case saSide => k_is)
    (case mkSide => k_is)
    (case kcSide => k_is)
    (case pgReader => k_is)
    (case hdReader => k_is)
    (case poReader => k_is)
    (case saReader => k_is)
    (case mkReader => k_is)
    (case kcReader => k_is)
    (case pgDesk => k_is)
    (case hdDesk => k_is)
    (case poDesk => k_is)
    (case saDesk => k_is)
    (case mkDesk => k_is)
    (case kcDesk => k_is)
    (case nClient_slots => k_is)
    (case nClient_inbox => k_is)
    (case nStore_clients => k_is)
    (case nStore_things => k_is)
    (case nStore_created => k_is)
    (case nStore_last => k_is)
    (case nSide_store => k_is)
    (case nSide_numbers => k_is)
    (case nReader_text => k_is)
    (case nReader_at => k_is)
    (case nReader_created => k_is)
    (case nReader_most => k_is)
    (case nReader_met => k_is)
    (case nDesk_store => k_is)
    (case nDesk_marked => k_is)
    (case xlUnread => k_is)
    (case xsUnread => k_is)
    (case xgUnread => k_is)
    (case xhUnread => k_is)
    (case xnUnread => k_is)
    (case xtUnread => k_is)
    (case xdUnread => k_is)
    (case xlRefused => k_is)
    (case xsRefused => k_is)
    (case xgRefused => k_is)
    (case xhRefused => k_is)
    (case xnRefused => k_is)
    (case xtRefused => k_is)
    (case xdRefused => k_is)
    (case xxFailed => k_exc)
    (case xkFailed => k_is)
    (case xbFailed => k_is)
    (case xyFailed => k_is)
    (case xiFailed => k_is)
    (case xzFailed => first | rfl | k_is)
    (case xkUnread => k_is)
    (case xbUnread => k_is)
    (case xyUnread => k_is)
    (case xiUnread => k_is)
    (case xzUnread => first | rfl | k_is)
    (case xkRefused => k_is)
    (case xbRefused => k_is)
    (case xyRefused => k_is)
    (case xiRefused => k_is)
    (case xzRefused => first | rfl | k_is)
    (case vExc => k_is)
    (case lNOTHING => k_is)
    (case zNOTHING => decide)
    (case vNOTHING => exact .cons ⟨_, rfl⟩ (.cons ⟨_, rfl⟩ (.nil)))
    (case lINTEGERS => k_is)
    (case zINTEGERS => decide)
    (case vINTEGERS => exact .cons ⟨_, rfl⟩ (.cons ⟨_, rfl⟩ (.cons ⟨_, rfl⟩ (.cons ⟨_, rfl⟩ (.cons ⟨_, rfl⟩ (.cons ⟨_, rfl⟩ (.cons ⟨_, rfl⟩ (.cons ⟨_, rfl⟩ (.cons ⟨_, rfl⟩ (.cons ⟨_, rfl⟩ (.cons ⟨_, rfl⟩ (.cons ⟨_, rfl⟩ (.cons ⟨_, rfl⟩ (.cons ⟨_, rfl⟩ (.cons ⟨_, rfl⟩ (.cons ⟨_, rfl⟩ (.cons ⟨_, rfl⟩ (.cons ⟨_, rfl⟩ (.cons ⟨_, rfl⟩ (.cons ⟨_, rfl⟩ (.cons ⟨_, rfl⟩ (.cons ⟨_, rfl⟩ (.cons ⟨_, rfl⟩ (.cons ⟨_, rfl⟩ (.cons ⟨_, rfl⟩ (.cons ⟨_, rfl⟩ (.nil)))))))))))))))))))))))))))
    (case lLISTED => k_is)
    (case zLISTED => decide)
    (case vLISTED => exact .cons ⟨_, rfl⟩ (.cons ⟨_, rfl⟩ (.cons ⟨_, rfl⟩ (.cons ⟨_, rfl⟩ (.cons ⟨_, rfl⟩ (.cons ⟨_, rfl⟩ (.cons ⟨_, rfl⟩ (.nil))))))))
    (case lOPERATIONS => k_is)
    (case zOPERATIONS => decide)
    (case vOPERATIONS => exact .cons rfl (.cons rfl (.cons rfl (.cons rfl (.cons rfl (.cons rfl (.cons rfl (.cons rfl (.cons rfl (.cons rfl (.cons rfl (.cons rfl (.cons rfl (.cons rfl (.cons rfl (.cons rfl (.cons rfl (.cons rfl (.cons rfl (.cons rfl (.cons rfl (.cons rfl (.cons rfl (.cons rfl (.cons rfl (.cons rfl (.nil)))))))))))))))))))))))))))
    (case nd => decide)
  case S =>
    intro K H xs a hO hwi hask hx
    cases hx with
    | cons h1 h2 =>
      cases h2
      cases h1 with
      | lst hs ha =>
        have e := L2.ints_dw a.1 _ ha
        subst e
        have q : ((Codec.inLen 0 17000 a.1 && a.1.all (Codec.inInt (-1000000000000000000) 1000000000000000000)) && true) = true := hwi
        rw [Bool.and_eq_true, Bool.and_eq_true] at q
        exact ⟨_, a.1, rfl, hs, fun z hz => Codec.inInt_iff.mp (List.all_eq_true.mp q.1.2 z hz), hask, fun H' p hp => .lst (L2.SqL.of hp) (L2.dw_ints _)⟩
#print axioms PySem.Challenge.cw_sharedstore_s01_answers_holds
