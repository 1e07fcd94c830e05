import PyProof.Rows.All
import Wide.All
import OpenK.AllK
import Wide.FinOn
import HandS.ForMost
import HandS.ForExc
import HandS.Defaults
import HandS.ClsMeth
import HandS.ExcInit
import HandS.ExcField
import HandS.ExcIs
import HandS.FStr
import HandS.StrMore
import HandS.Wide
import HandS.IsInst
import HandS.HotCalls
import HandS.CallSlots
import HandS.Conv
import KE.KExcIs
import HandS.Style
import HandS.SortInts
import HandS.RevRange
import PyProof.StrBlock2
import HandS.HeadHook1
import HandS.Head0
import HandS.Head1
import HandS.Head2
import HandS.HeadEnd
import HandS.HeadHook2
import HandS.HeadHook3
import HandS.HeadHook4
import HandS.RaiseMore
import PySem.Challenge.RW_knotwork_k57_lines_of_braids_and_papers
/-! part KL1 -/
section
set_option Elab.async false
set_option linter.all false
set_option maxRecDepth 100000
set_option maxHeartbeats 4000000
/-! own layer, part 1: defs, methods, makers, exceptions as bundles -/
namespace KN
open PySem PySem.Spec PyProof.Rows L2

section
variable {P : Program} {w : World} {K : PySem.W.Frag} {mg : Str → Option Value} {base : Heap}
/-- a def of the module, with its promise -/
structure Cl (CX : CXT) (P : Program) (w : World) (K : PySem.W.Frag) (mg : Str → Option Value) (base : Heap) (k : Nat) (x : Str) (sp : Sp) : Prop where
  ex : ∃ (f : Addr) (fd : FuncData) (ps : List Str), FnOk P w K mg base CX k f fd ps sp ∧ mg x = some (.ref f) ∧ PySem.W.keepIn K (.ref f) = true ∧ Binds K fd ps []
/-- a method of the class at C -/
structure Mt (CX : CXT) (P : Program) (w : World) (K : PySem.W.Frag) (mg : Str → Option Value) (base : Heap) (k : Nat) (C : Addr) (m : Str) (sp : Sp) : Prop where
  ex : ∃ (f : Addr) (fd : FuncData) (ps : List Str), Cls K C ∧ Meth K C m f ∧ FnOk P w K mg base CX k f fd ps sp ∧ Binds K fd ps []
/-- an own class, made by its __init__ -/
structure Mkr (CX : CXT) (P : Program) (w : World) (K : PySem.W.Frag) (mg : Str → Option Value) (base : Heap) (k : Nat) (x : Str) (C : Addr) (sp : Sp) : Prop where
  ex : ∃ (f : Addr) (fd : FuncData) (ps : List Str), Mk K C f ∧ FnOk P w K mg base CX k f fd ps sp ∧ mg x = some (.ref C) ∧ Binds K fd ps []
/-- an own exception class, made by its __init__ -/
structure Exm (P : Program) (w : World) (K : PySem.W.Frag) (mg : Str → Option Value) (base : Heap) (k : Nat) (x : Str) (C : Addr) (sp : Sp) : Prop where
  ex : ∃ (f : Addr) (fd : FuncData) (ps : List Str), OexC K C ∧ PySem.W.findIn K (.ref C) "__init__" = some (some (.ref f)) ∧ PySem.W.typeIn K (.ref f) = some (.type "function") ∧ FnOk P w K mg base CX0 k f fd ps sp ∧ mg x = some (.ref C) ∧ Binds K fd ps []
end

def tCl (sp : Sp) (E : XK) (t : TA) : TE := fun σ H Q => t σ H fun vs H1 => sp vs H1 Q E
def tMt (C : Addr) (m : Str) (sp : Sp) (E : XK) (ta : TE) (t : TA) : TE := fun σ H Q => ta σ H fun x H1 => ∃ a dx fs, x = .ref a ∧ H1 a = some (.ins C dx fs) ∧ fs.lookup m = none ∧ t σ H1 fun vs H2 => sp (x :: vs) H2 Q E
def tMk (C : Addr) (sp : Sp) (E : XK) (t : TA) : TE := fun σ H Q => t σ H fun vs H1 => ∀ x dx, H1 x = none → H1 dx = none → dx ≠ x → sp (.ref x :: vs) (upd (upd H1 dx (.own x)) x (.ins C dx [])) (fun v H2 => v = .non ∧ Q (.ref x) H2) E
theorem tCl_eq (sp : Sp) (E : XK) (t : TA) : tCl sp E t = tCall sp [] E t := by
  funext σ H Q
  simp only [tCl, tCall, List.append_nil]
theorem tMt_eq (C : Addr) (m : Str) (sp : Sp) (E : XK) (ta : TE) (t : TA) : tMt C m sp E ta t = tMeth C m sp [] E ta t := by
  funext σ H Q
  simp only [tMt, tMeth, List.append_nil]
theorem tMk_eq (C : Addr) (sp : Sp) (E : XK) (t : TA) : tMk C sp E t = tMake C sp [] E t := by
  funext σ H Q
  simp only [tMk, tMake, List.append_nil]

section
variable {X : Cx} {CX : CXT} {k j : Nat} {C : Addr} {sp : Sp} {E : XK} {x m : Str} {p pos apos : Pos} {e o : Expr} {es : List Expr} {ta : TE} {t : TA}
theorem pe_cl (c : Cl CX X.prog X.w X.K X.mg X.base k x sp) (hr : Room j X.A) (hk : k ≤ j) (hx : Passes CX X E) (ha : PA X (e :: es) t) (hg : Gl X x := by rfl)
    (hdb : (x == ("__debug__" : Str)) = false := by decide) (he : starEach (e :: es) X.env = (false, eval e X.env) :: starEach es X.env := by rfl) (hpl : (backTo pos (starEach es X.env)).any (·.1) = false := by rfl) :
    PE X (.Call (.Name x p) (e :: es) [] pos) (tCl sp E t) := by
  obtain ⟨f, fd, ps, F, hm, kp, b⟩ := c.ex
  rw [tCl_eq]
  exact pe_call F (hr.mono hk) hg hm kp b .nil hx ha hdb he hpl
theorem pe_mt {pl : Sem Bool} (c : Mt CX X.prog X.w X.K X.mg X.base k C m sp) (hr : Room j X.A) (hk : k ≤ j) (hx : Passes CX X E) (he : PE X o ta) (ha : PA X (e :: es) t)
    (hst : starEach (e :: es) X.env = (false, eval e X.env) :: starEach es X.env := by rfl) (hpl : (backTo pos (starEach es X.env)).any (·.1) = false := by rfl)
    (ht : eval (.Call (.Attribute o m apos) (e :: es) [] pos) X.env = (do
      let ov ← eval o X.env
      standAt apos.atName
      let (f, first) ← holding [ov] (getMethod ov m pl)
      callWith pos f first (backTo pos (starEach (e :: es) X.env)) (backToKw pos (keywordEach [] X.env))) := by rfl) :
    PE X (.Call (.Attribute o m apos) (e :: es) [] pos) (tMt C m sp E ta t) := by
  obtain ⟨f, fd, ps, cl, me, F, b⟩ := c.ex
  rw [tMt_eq]
  exact pe_meth (pl := pl) he cl me F (hr.mono hk) b .nil hx ha hst hpl ht
theorem pe_mt0 {pl : Sem Bool} (c : Mt CX X.prog X.w X.K X.mg X.base k C m sp) (hr : Room j X.A) (hk : k ≤ j) (hx : Passes CX X E) (he : PE X o ta)
    (ht : eval (.Call (.Attribute o m apos) [] [] pos) X.env = (do
      let ov ← eval o X.env
      standAt apos.atName
      let (f, first) ← holding [ov] (getMethod ov m pl)
      callWith pos f first (backTo pos (starEach [] X.env)) (backToKw pos (keywordEach [] X.env))) := by rfl) :
    PE X (.Call (.Attribute o m apos) [] [] pos) (tMt C m sp E ta tNil) := by
  obtain ⟨f, fd, ps, cl, me, F, b⟩ := c.ex
  rw [tMt_eq]
  exact pe_meth0 (pl := pl) he cl me F (hr.mono hk) b .nil hx ht
theorem pe_mkr (c : Mkr CX X.prog X.w X.K X.mg X.base k x C sp) (hr : Room j X.A) (hk : k + 1 ≤ j) (hx : Passes CX X E) (ha : PA X (e :: es) t) (hg : Gl X x := by rfl)
    (hdb : (x == ("__debug__" : Str)) = false := by decide) (he : starEach (e :: es) X.env = (false, eval e X.env) :: starEach es X.env := by rfl) (hpl : (backTo pos (starEach es X.env)).any (·.1) = false := by rfl) :
    PE X (.Call (.Name x p) (e :: es) [] pos) (tMk C sp E t) := by
  obtain ⟨f, fd, ps, M, F, hm, b⟩ := c.ex
  rw [tMk_eq]
  exact pe_make M F (hr.mono hk) hg hm b .nil hx ha hdb he hpl
/-- in a try's body -/
theorem pe_clS {E : L2.St → XK} (c : Cl CX X.prog X.w X.K X.mg X.base k x sp) (hr : Room j X.A) (hk : k ≤ j) (hx : ∀ σ, PassesAt CX X σ (E σ)) (ha : PA X (e :: es) t) (hg : Gl X x := by rfl)
    (hdb : (x == ("__debug__" : Str)) = false := by decide) (he : starEach (e :: es) X.env = (false, eval e X.env) :: starEach es X.env := by rfl) (hpl : (backTo pos (starEach es X.env)).any (·.1) = false := by rfl) :
    PE X (.Call (.Name x p) (e :: es) [] pos) (tCallS sp E t) := by
  obtain ⟨f, fd, ps, F, hm, kp, b⟩ := c.ex
  exact pe_callS F (hr.mono hk) hg hm kp b hx ha hdb he hpl
/-- an exception made: X(e, ..) -/
def tXm (C : Addr) (sp : Sp) (ta : TA) : L2.St → Hp → XK → Prop := fun σ H Q => ta σ H fun vs H1 => vs.length ≤ 1000 ∧ ∀ a, H1 a = none → sp (.ref a :: vs) (upd H1 a (exo a C none))
  (fun v H2 => v = .non ∧ ∃ (d : Addr) (fs : List (Str × V)), H2 a = some (exo a C (some d)) ∧ H2 d = some (exd d fs) ∧ H1 d = none ∧ Q (.ref C) (some d) (upd (del H2 a) d (.xd fs))) (fun _ _ _ => False)
theorem tXm_eq (C : Addr) (sp : Sp) (t : TA) : tXm C sp t = tMkO C sp [] t := by
  funext σ H Q
  simp only [tXm, tMkO, List.append_nil]
theorem pmk_exm (c : Exm X.prog X.w X.K X.mg X.base k x C sp) (hr : Room j X.A) (hk : k + 1 ≤ j) (ha : PA X (e :: es) t) (hg : Gl X x := by rfl)
    (hdb : (x == ("__debug__" : Str)) = false := by decide) (he : starEach (e :: es) X.env = (false, eval e X.env) :: starEach es X.env := by rfl) (hpl : (backTo pos (starEach es X.env)).any (·.1) = false := by rfl) :
    PMk X (.Call (.Name x p) (e :: es) [] pos) (tXm C sp t) := by
  obtain ⟨f, fd, ps, T, iC, tI, F, hm, b⟩ := c.ex
  rw [tXm_eq]
  exact pmk_oex T iC tI F (hr.mono hk) b .nil pass0 hg hm ha hdb he hpl
def tRz (W : WX) (t : L2.St → Hp → XK → Prop) : TS := fun _ σ H => t σ H fun cls d H' => W cls d σ H'
theorem ps_rz {W : WX} {t : L2.St → Hp → XK → Prop} {pos : Pos} (hc : X.calm = true) (tk : Takes X W) (he : PMk X e t) : PS X (.Raise (some e) none pos) (tRz W t) := ps_raise hc tk he
end

/-! ### KnotError.__init__(self, text): the own base's inherited __init__ -/
section
variable {X : Cx} {C0 : Addr} {mc : Value} {x : Str} {e : Expr} {es : List Expr} {ta : TA} {p1 p2 pos : Pos}
theorem pe_kinit {pl : Sem Bool} (hm : X.mg x = some (.ref C0)) (r : ClX.CRead X.K C0 mc) (at_ : PySem.W.findCls X.K (.ref C0) mc "__init__" = some (.val (.builtin "ValueError.__init__"))) (ha : PA X (e :: es) ta) (hg : Gl X x := by rfl)
    (hdb : (x == ("__debug__" : Str)) = false := by decide)
    (hc : eval (.Call (.Attribute (.Name x p1) "__init__" p2) (e :: es) [] pos) X.env = (do
      let ov ← eval (.Name x p1) X.env
      standAt p2.atName
      let (f, first) ← holding [ov] (getMethod ov "__init__" pl)
      callWith pos f first (backTo pos (starEach (e :: es) X.env)) (backToKw pos (keywordEach [] X.env))) := by rfl)
    (he : starEach (e :: es) X.env = (false, eval e X.env) :: starEach es X.env := by rfl) (hpl : (backTo pos (starEach es X.env)).any (·.1) = false := by rfl) :
    PE X (.Call (.Attribute (.Name x p1) "__init__" p2) (e :: es) [] pos) (tVeI X.K ta) := by
  refine ⟨fun pins s σ H Q I h => ?_⟩
  refine PySem.W.methodCall_KW (ld_glob I hg hm ?_ hdb) hc
  refine PySem.W.method_cls I.kIn r.ga (PySem.W.cls_value I.kIn r.rd at_ (by decide) ?_)
  show wpAny _ _ (callWith pos (Value.builtin "ValueError.__init__") [] (backTo pos (starEach (e :: es) X.env)) []) _ _ _
  refine PyProof.Rows.callWith_method1 (thn (ha.run pos pins _ σ H _ (I.tok _) h) fun us s1 ⟨vs, H1, I1, r1, a, C, ws, ev, hl, T, ea, q⟩ => ?_) he hpl
  subst ev
  cases r1 with
  | @cons _ u0 _ ur ra rw' =>
    obtain rfl : u0 = Value.ref a := ra
    have hlen : ur.length ≤ sizeLine := by
      rw [← Paired.length rw', sizeLine_eq]
      omega
    exact oinit_ok T I1 ea hlen fun s' J => ⟨.non, H1, J, rfl, q⟩
end

/-! ### a caught error: isinstance, its fields (its class is known to the reading alone) -/
/-- e, the error that the suite holds at a: its class cls, its dict d -/
def rIsX (K : PySem.W.Frag) (a : Addr) (cls : Value) (d : Option Addr) : List V → Hp → VK → Prop := fun xs H Q => ∃ (D : Addr) (c : V) (cv : Value) (b : Bool) (dd : Addr) (fs : List (Str × V)), xs = [.ref a, c] ∧ cls = .ref D ∧ ExcC K D ∧ ClsV c cv ∧ PySem.W.kitOne K (.ref D) cv = some b ∧ d = some dd ∧ H dd = some (.xd fs) ∧ Q (.bl b) H
def rIsXT (K : PySem.W.Frag) (a : Addr) (cls : Value) (d : Option Addr) : List V → Hp → VK → Prop := fun xs H Q => ∃ (D tp : Addr) (cs : List V) (us : List Value) (b : Bool) (dd : Addr) (fs : List (Str × V)), xs = [.ref a, .ref tp] ∧ cls = .ref D ∧ ExcC K D ∧ H tp = some (.tup cs) ∧ Paired ClsV cs us ∧ PySem.W.kitAny K (.ref D) us = some b ∧ d = some dd ∧ H dd = some (.xd fs) ∧ Q (.bl b) H
def tXfX (K : PySem.W.Frag) (a : Addr) (cls : Value) (d : Option Addr) (f : Str) (te : TE) : TE := fun σ H Q => te σ H fun x H1 => x = .ref a ∧ ∃ (C dd : Addr) (fs : List (Str × V)) (v : V), cls = .ref C ∧ XfC K C ∧ PySem.W.findIn K (.ref C) f = some none ∧ d = some dd ∧ H1 dd = some (.xd fs) ∧ fs.lookup f = some v ∧ Q v H1
section
variable {X : Cx} {a D : Addr} {oe : Obj} {cls : Value} {d : Option Addr} {pn : List (Addr × Obj)}
theorem inst_at {pins : List (Addr × Obj)} {σ : L2.St} {H : Hp} {s : Shared} {dd : Addr} {fs : List (Str × V)} (I : Inv (X.suite a ((a, oe) :: pn)) pins σ H s) (hz : Zc (.ref D) d oe) (hf : ∃ vs, oe.data = .fields vs) (ed : d = some dd) (hd : H dd = some (.xd fs)) :
    ∃ od, PySem.W.InstAt s.heap a oe D od := by
  subst ed
  obtain ⟨ha, _⟩ := I.pin (a, oe) (List.mem_append_left _ List.mem_cons_self)
  obtain ⟨vs, hv⟩ := hf
  have hx : ObjOk X.prog X.w H s.heap dd (.xd fs) := I.hok dd _ hd
  obtain ⟨mA, hns, hr⟩ := hx
  obtain ⟨od, ho, hl⟩ := lookIn_ns hns
  exact ⟨some od, ha, hz.1, by unfold PySem.W.notCls; rw [hv] <;> rfl, by rw [hz.2]; exact ho⟩
theorem hd_cls {K : PySem.W.Frag} {D : Addr} (h : PySem.W.hasDictIn K D = true) : (PySem.W.clsIn K D).isSome = true := by
  obtain ⟨cd, hc, _⟩ := PySem.W.any_some h
  rw [hc] <;> rfl
theorem call_isX (hz : Zc cls d oe) (hf : ∃ vs, oe.data = .fields vs) : CallR (X.suite a ((a, oe) :: pn)) (.builtin "isinstance") (rIsX X.K a cls d) := by
  intro pins s σ H xs us Q I r h
  obtain ⟨D, c, cv, b, dd, fs, rfl, rfl, C, hcv, e, ed, hd, q⟩ := h
  obtain ⟨u1, u2, rfl, r1, r2⟩ := vals2 r
  have e2 := hcv.eq r2
  subst e2
  obtain rfl : u1 = Value.ref a := r1
  obtain ⟨od, J⟩ := inst_at I hz hf ed hd
  exact PySem.W.kia_one (PySem.W.kitx_exc (hd_cls C.hd) C.hg C.hk C.hs C.ha C.hn C.ht C.hm) I.kIn J e (fun z => nomatch z) fun tk => ⟨.bl b, H, I.tok tk, rfl, q⟩
theorem call_isXT (hz : Zc cls d oe) (hf : ∃ vs, oe.data = .fields vs) : CallR (X.suite a ((a, oe) :: pn)) (.builtin "isinstance") (rIsXT X.K a cls d) := by
  intro pins s σ H xs us Q I r h
  obtain ⟨D, tp, cs, ws, b, dd, fs, rfl, rfl, C, hT, k, e, ed, hd, q⟩ := h
  obtain ⟨u1, u2, rfl, r1, r2⟩ := vals2 r
  cases (show u2 = Value.ref tp from r2)
  obtain rfl : u1 = Value.ref a := r1
  obtain ⟨od, J⟩ := inst_at I hz hf ed hd
  obtain ⟨_, its, rv, o, h1, h2, n, h3⟩ := (show ObjOk X.prog X.w H s.heap tp (.tup cs) from I.hok tp _ hT)
  have e3 := ClsV.all k rv
  subst e3
  obtain ⟨oc, odd, dt, sl⟩ := o
  simp only at h2 h3
  subst h2 h3
  exact PySem.W.kia_tup (PySem.W.kitx_exc (hd_cls C.hd) C.hg C.hk C.hs C.ha C.hn C.ht C.hm) I.kIn J h1 e (fun z => nomatch z) fun tk => ⟨.bl b, H, I.tok tk, rfl, q⟩
theorem pe_xfX {e : Expr} {te : TE} {pos : Pos} {n : Str} (hz : Zc cls d oe) (hf : ∃ vs, oe.data = .fields vs) (he : PE (X.suite a ((a, oe) :: pn)) e te) (hb : attributeBase e n X.env (eval e X.env) = eval e X.env := by rfl) :
    PE (X.suite a ((a, oe) :: pn)) (.Attribute e n pos) (tXfX X.K a cls d n te) := by
  refine ⟨fun pins s σ H Q I h => ?_⟩
  refine attr_of hb (thn (he.run pins s σ H _ I h) fun u s1 hh => ?_)
  obtain ⟨x, H1, I1, rx, ex, C, dd, fs, v, rfl, T, hno, rfl, ea, l, q⟩ := hh
  subst ex
  obtain rfl : u = Value.ref a := rx
  obtain ⟨ha, _⟩ := I1.pin (a, oe) (List.mem_append_left _ List.mem_cons_self)
  obtain ⟨vs, hd⟩ := hf
  have hx : ObjOk X.prog X.w H1 s1.heap dd (.xd fs) := I1.hok dd _ ea
  obtain ⟨mA, hns, hr⟩ := hx
  obtain ⟨od, ho, hl⟩ := lookIn_ns hns
  obtain ⟨u, hu, ru⟩ := RelO.some_of (v := v) (o := mA n) (by rw [← l]; exact hr n)
  have J : PySem.W.InstAt s1.heap a oe C (some od) := ⟨ha, hz.1, by unfold PySem.W.notCls; rw [hd] <;> rfl, by rw [hz.2]; exact ho⟩
  exact HandSPX.exc_get I1.kIn J T.ga T.gg T.exC (PySem.W.findObj_own T.hdC hno rfl (by rw [hl, hu])) (handed_of ru) ⟨v, H1, I1.tok _, ru, q⟩
end
end KN
end
/-! part KL2 -/
section
set_option Elab.async false
set_option linter.all false
set_option maxRecDepth 100000
set_option maxHeartbeats 4000000
/-! own layer, part 2: names of readings, some more rules -/
namespace KN
open PySem PySem.Spec PyProof.Rows L2

abbrev rAddI : R2 := rI0 fun i j => .int (i + j)
abbrev rSubI : R2 := rI0 fun i j => .int (i - j)
abbrev rMulI : R2 := rI CMulW fun i j => .int (i * j)
abbrev rModI : R2 := rI (fun _ j => 0 < j) fun i j => .int (i % j)
abbrev rDivI : R2 := rI CDivW fun i j => .int (i / j)
abbrev rPowI : R2 := rI CPow fun i j => .int (i ^ j.toNat)
abbrev rLtI : R2 := rI0 fun i j => .bl (decide (i < j))
abbrev rLeI : R2 := rI0 fun i j => .bl (decide (i ≤ j))
abbrev rGtI : R2 := rI0 fun i j => .bl (decide (j < i))
abbrev rGeI : R2 := rI0 fun i j => .bl (decide (j ≤ i))
abbrev rAddIB : R2 := fun x y H Q => ∃ i k, x = .int i ∧ y = .bl k ∧ Q (.int (i + b2i k)) H
abbrev rAddS : R2 := fun x y H Q => ∃ i j, x = .str i ∧ y = .str j ∧ i.length + j.length ≤ sizeLine ∧ Q (.str (i ++ j)) H
abbrev rIsNon : R2 := fun x y H Q => y = .non ∧ Q (.bl (decide (x = .non))) H
abbrev rNotNon : R2 := fun x y H Q => y = .non ∧ Q (.bl (!decide (x = .non))) H
abbrev rInStr : R2 := fun x y H Q => ∃ i j, x = .str i ∧ y = .str j ∧ Q (.bl (!(Builtin.Str.occurrences j i 0 j.length 1).isEmpty)) H
abbrev rNegI : V → Hp → VK → Prop := rU fun i => .int (-i)
abbrev rLenStr : List V → Hp → VK → Prop := fun xs H Q => ∃ z, xs = [.str z] ∧ z.length ≤ sizeLine ∧ Q (.int z.length) H
abbrev rLenSq (K : PySem.W.Frag) : List V → Hp → VK → Prop := fun xs H Q => ∃ p ys, xs = [.ref p] ∧ (SqL K H p ys ∨ SqT K H p ys) ∧ Q (.int ys.length) H
abbrev rLenD : List V → Hp → VK → Prop := fun xs H Q => ∃ a kvs, xs = [V.ref a] ∧ H a = some (.dK kvs) ∧ Q (.int kvs.length) H
abbrev rAbs : List V → Hp → VK → Prop := fun xs H Q => ∃ i, xs = [.int i] ∧ Q (.int (if i < 0 then -i else i)) H
abbrev rIntS : List V → Hp → VK → Prop := fun xs H Q => ∃ a n, xs = [.str a] ∧ PySem.intText? a = some n ∧ a.length ≤ 640 ∧ Q (.int n) H
abbrev rInt1 : List V → Hp → VK → Prop := fun xs H Q => (∃ i, xs = [.int i] ∧ Q (.int i) H) ∨ ∃ k, xs = [.bl k] ∧ Q (.int (if k then 1 else 0)) H
abbrev rStrI : List V → Hp → VK → Prop := fun xs H Q => ∃ i, xs = [.int i] ∧ i.natAbs.log2 < 1920 ∧ Q (.str (toString i)) H
abbrev rListOf (K : PySem.W.Frag) : List V → Hp → VK → Prop := fun xs H Q => ∃ p ys, xs = [.ref p] ∧ (SqL K H p ys ∨ SqT K H p ys) ∧ ∀ l, H l = none → Q (.ref l) (upd H l (.lst ys))
abbrev rTupOf (K : PySem.W.Frag) : List V → Hp → VK → Prop := fun xs H Q => ∃ p ys, xs = [.ref p] ∧ ((SqL K H p ys ∧ ∀ l, H l = none → Q (.ref l) (upd H l (.tup ys))) ∨ (SqT K H p ys ∧ Q (.ref p) H))
abbrev rMin2 : List V → Hp → VK → Prop := fun xs H Q => ∃ i j, xs = [.int i, .int j] ∧ Q (.int (if j < i then j else i)) H
abbrev rMax2 : List V → Hp → VK → Prop := fun xs H Q => ∃ i j, xs = [.int i, .int j] ∧ Q (.int (if j > i then j else i)) H
def tJoin (ts : List TE) : TE := fun σ H Q => tJs ts Str.empty σ H fun out H1 => Q (.str out) H1
def tSplit (to te : TE) : TE := tM1 (fun x xs H Q => ∃ a b, x = .str a ∧ xs = [.str b] ∧ (b.length == 0) = false ∧ a.length + 2 ≤ sizeLine ∧ rNewStrs (Txt.split a b) H Q) to te
def tPartn (to te : TE) : TE := tM1 (fun x xs H Q => ∃ a b, x = .str a ∧ xs = [.str b] ∧ (b.length == 0) = false ∧ a.length ≤ sizeLine ∧ ∀ p, H p = none → Q (.ref p) (upd H p (.tup [.str (Txt.partition a b).1, .str (Txt.partition a b).2.1, .str (Txt.partition a b).2.2]))) to te
def tJoinS (K : PySem.W.Frag) (to te : TE) : TE := tM1 (fun x xs H Q => ∃ a p, ∃ ys : List Str, x = .str a ∧ xs = [.ref p] ∧ (SqL K H p (ys.map V.str) ∨ SqT K H p (ys.map V.str)) ∧ (ys.map (·.length)).sum + ys.length * a.length ≤ 16777216 ∧ Q (.str (Txt.join a ys)) H) to te
abbrev rStarts : V → List V → Hp → VK → Prop := fun x xs H Q => ∃ a b, x = .str a ∧ xs = [.str b] ∧ Q (.bl (Txt.startswith a b)) H
abbrev rIsAscii : V → List V → Hp → VK → Prop := fun x xs H Q => ∃ a, x = .str a ∧ xs = [] ∧ True ∧ Q (.bl (Txt.isascii a)) H
abbrev rIsDigit : V → List V → Hp → VK → Prop := fun x xs H Q => ∃ a, x = .str a ∧ xs = [] ∧ True ∧ Q (.bl (Txt.isdigit a)) H
abbrev tTru (K : PySem.W.Frag) (ta : TE) : TT := fun σ H Q => ta σ H fun x H' => ∃ k, TruV K x H' k ∧ Q k H'
def tTryAs (K : PySem.W.Frag) (c : Value) (i : Nat) (tb : WX → TS) (ts : Addr → Value → Option Addr → TS) : TS := fun D σ H => tb (wAs K c i ts (fun _ _ _ _ => False) D) D σ H

/-! ### what a for walks: a list or a tuple -/
def iSeq (K : PySem.W.Frag) (tl : TE) : TI := fun σ H R => tl σ H fun x H1 => ∃ a, x = .ref a ∧ (((∃ xs, SqL K H1 a xs) ∧ R (Itl K a) H1) ∨ ((∃ xs, SqT K H1 a xs) ∧ R (Itt K a) H1))
section
variable {X : Cx} {tg : Expr}
theorem pi_seq {l : Expr} {tl : TE} (hl : PE X l tl) : PI X tg l (iSeq X.K tl) := by
  refine ⟨fun pins s σ H R I h => ?_⟩
  refine thn (hl.run pins s σ H _ I h) fun v s1 ⟨x, H1, I1, r1, q1⟩ => ?_
  obtain ⟨a, e, q⟩ := q1
  subst e
  cases r1
  rcases q with ⟨⟨xs, hq⟩, q⟩ | ⟨⟨xs, hq⟩, q⟩
  · obtain ⟨its, rv, p, hz⟩ := I1.list hq
    refine wpAny_pyIter_list p.isList ?_
    refine ⟨s1.heap.objs.size, [s1.heap.objs.size], _, _, H1, rfl, I1.kept (t' := s1.toks) fun b o e => Heap.get?_push_of_some _ e, turn_list a _, ⟨_, Heap.get?_push_size _ rfl, rfl, rfl⟩, fun b hb => ?_, q⟩
    have e : b = s1.heap.objs.size := by simpa using hb
    subst e
    exact I1.fpOk (Nat.le_refl _) (I1.hok.fresh (Nat.le_refl _))
  · obtain ⟨its, rv, p, hz⟩ := I1.tuple hq
    refine wpAny_pyIter_tuple (show s1.heap.IsTuple a its.toArray from p) ?_
    refine ⟨s1.heap.objs.size, [s1.heap.objs.size], _, _, H1, rfl, I1.kept (t' := s1.toks) fun b o e => Heap.get?_push_of_some _ e, turn_tuple a _, ⟨_, Heap.get?_push_size _ rfl, rfl, rfl⟩, fun b hb => ?_, q⟩
    have e : b = s1.heap.objs.size := by simpa using hb
    subst e
    exact I1.fpOk (Nat.le_refl _) (I1.hok.fresh (Nat.le_refl _))
/-- a thing is locked for good (read, never written again) -/
def tFrz (te : TE) : TE := fun σ H Q => te σ H fun v H1 => ∃ d u, v = .ref d ∧ H1 d = some u ∧ Mut (some u) ∧ ∀ od, Q v (upd H1 d (.frz od u))
theorem pe_frz {e : Expr} {te : TE} (h : PE X e te) : PE X e (tFrz te) := by
  refine ⟨fun pins s σ H Q I hw => ?_⟩
  refine thn (h.run pins s σ H _ I hw) fun v s1 ⟨x, H1, I1, r, d, u, ex, hd, mu, q⟩ => ?_
  obtain ⟨od, I2⟩ := I1.lock hd mu
  exact ⟨x, _, I2, r, q od⟩
/-- x is True, x None or a truth value -/
def rIsBN : R2 := fun x y H Q => ∃ b, y = .bl b ∧ (x = .non ∨ ∃ c, x = .bl c) ∧ Q (.bl (decide (x = .bl b))) H
theorem op_isBN : OpR X (compareOp .Is) rIsBN := by
  intro pins s σ H x y v u Q I rx ry h
  obtain ⟨b, rfl, hx, q⟩ := h
  cases (show u = Value.bool b from ry)
  rcases hx with rfl | ⟨c, rfl⟩
  · cases (show v = Value.none from rx)
    exact wpAny_is_plain rfl ⟨.bl false, H, I, rfl, by simpa using q⟩
  · cases (show v = Value.bool c from rx)
    by_cases e : c = b
    · subst e
      exact wpAny_is_self rfl ⟨.bl true, H, I, rfl, by simpa using q⟩
    · exact wpAny_is_other rfl (fun z => e (Value.bool.inj z)) ⟨.bl false, H, I, rfl, by simpa [e] using q⟩
end

theorem pe_gc {X : Cx} {x : Str} {v : V} {pos : Pos} (hg : Gl X x) (h : ∃ u, X.mg x = some u ∧ RelV v u) (hd : (x == ("__debug__" : Str)) = false := by decide) : PE X (.Name x pos) (tC v) := by
  obtain ⟨u, hm, r⟩ := h
  exact pe_glob hg hm r hd
/-- text * int -/
def rMulS : R2 := fun x y H Q => ∃ z n, x = .str z ∧ y = .int n ∧ MulOk z n ∧ Q (.str (Txt.mul z n)) H
theorem op_mulS {X : Cx} : OpR X (binaryOp .Mult) rMulS := by
  intro pins s σ H x y v u Q I rx ry h
  obtain ⟨z, n, rfl, rfl, ok, q⟩ := h
  obtain ⟨t, rfl⟩ := rx
  obtain ⟨t2, rfl⟩ := ry
  exact SB.mul ok fun t' k => ⟨.str (Txt.mul z n), H, I.tok k, ⟨t', rfl⟩, q⟩

/-! ### a dict of the module's top with text keys -/
structure KTab (K : PySem.W.Frag) (w : World) (d : Addr) (tab : List (Str × V)) : Prop where
  ex : ∃ es n, KDict K w d es n ∧ ∀ z : Str, ∃ r, PySem.W.nsIn K d z = some r ∧ RelO (tab.lookup z) r
def tKIn (K : PySem.W.Frag) (w : World) (ta tb : TE) : TE := fun σ H Q => ta σ H fun x H1 => tb σ H1 fun y H2 => ∃ (z : Str) (d : Addr) (tab : List (Str × V)), x = .str z ∧ y = .ref d ∧ KTab K w d tab ∧ Q (.bl (tab.lookup z).isSome) H2
def tKNotIn (K : PySem.W.Frag) (w : World) (ta tb : TE) : TE := fun σ H Q => ta σ H fun x H1 => tb σ H1 fun y H2 => ∃ (z : Str) (d : Addr) (tab : List (Str × V)), x = .str z ∧ y = .ref d ∧ KTab K w d tab ∧ Q (.bl (!(tab.lookup z).isSome)) H2
def tKGet (K : PySem.W.Frag) (w : World) (ta tb : TE) : TE := fun σ H Q => ta σ H fun x H1 => tb σ H1 fun y H2 => ∃ (z : Str) (d : Addr) (tab : List (Str × V)) (v : V), x = .ref d ∧ y = .str z ∧ KTab K w d tab ∧ tab.lookup z = some v ∧ Q v H2
theorem relO_some {o : Option V} {r : Option Value} (h : RelO o r) : r.isSome = o.isSome := by
  cases o <;> cases r <;> first | rfl | exact h.elim
section
variable {X : Cx} {a b : Expr} {ta tb : TE} {pos : Pos}
theorem pc_kin (ha : PE X a ta) (hb : PE X b tb) : PC X .In a b (tKIn X.K X.w ta tb) := by
  refine ⟨fun pins s σ H Q I h => ?_⟩
  refine thn (ha.run pins s σ H _ I h) fun iv s1 ⟨x, H1, I1, rx, q1⟩ => thn (hb.run pins s1 σ H1 _ I1 q1) fun u s2 ⟨y, H2, I2, ry, z, d, tab, ex, ey, ⟨es, n, D, ht⟩, q⟩ => ?_
  subst ex ey
  obtain ⟨r, e, rr⟩ := ht z
  exact op_in_kd D pins s2 σ H2 _ _ iv u Q I2 rx ry ⟨z, r, rfl, rfl, e, by rw [relO_some rr]; exact q⟩
theorem pc_knotin (ha : PE X a ta) (hb : PE X b tb) : PC X .NotIn a b (tKNotIn X.K X.w ta tb) := by
  refine ⟨fun pins s σ H Q I h => ?_⟩
  refine thn (ha.run pins s σ H _ I h) fun iv s1 ⟨x, H1, I1, rx, q1⟩ => thn (hb.run pins s1 σ H1 _ I1 q1) fun u s2 ⟨y, H2, I2, ry, z, d, tab, ex, ey, ⟨es, n, D, ht⟩, q⟩ => ?_
  subst ex ey
  obtain ⟨r, e, rr⟩ := ht z
  exact op_notIn_kd D pins s2 σ H2 _ _ iv u Q I2 rx ry ⟨z, r, rfl, rfl, e, by rw [relO_some rr]; exact q⟩
theorem pe_kget (ha : PE X a ta) (hb : PE X b tb) (hs : PlainIx b := by intro _ _; rfl) : PE X (.Subscript a b pos) (tKGet X.K X.w ta tb) := by
  refine ⟨fun pins s σ H Q I h => ?_⟩
  refine Subscript_ (binT ha hb I (R := fun x y H2 => ∃ (z : Str) (d : Addr) (tab : List (Str × V)) (v : V), x = .ref d ∧ y = .str z ∧ KTab X.K X.w d tab ∧ tab.lookup z = some v ∧ Q v H2) h fun v u s2 x y H2 I2 rx ry q => ?_)
  obtain ⟨z, d, tab, v0, rfl, rfl, ⟨es, n, D, ht⟩, l, q⟩ := q
  obtain ⟨r, e, rr⟩ := ht z
  rw [l] at rr
  cases r with
  | none => exact rr.elim
  | some u0 => exact ix_kdict a b pins s2 σ H2 (.ref d) (.str z) v u Q I2 rx ry ⟨d, z, v0, rfl, rfl, ⟨es, n, u0, D.at_, D.lit, e, rr⟩, q⟩ (hs _ _)
end
end KN
end
/-! part KH -/
section
set_option Elab.async false
set_option linter.all false
set_option maxRecDepth 100000
set_option maxHeartbeats 4000000
/-! own layer: the head's facts as Bools -/
namespace KH
open PySem PySem.Spec PyProof.Rows L2 He

def oexB (x : Str) (K : PySem.W.Frag) : Bool := (match K.lookup (ga K x) with
  | some ⟨.type "type", _, .cls cd, sl⟩ => (match cd.mro, sl.toList with
    | .ref C' :: bm, [_, _, _, _, some (.builtin n), _] => C' == ga K x && n == "ValueError.__new__" && !cd.hasDel && cd.hasDict && PySem.HandSPX.refsVE bm
    | _, _ => false)
  | _ => false) && (eqO (PySem.W.findIn K (.ref (ga K x)) "__setattr__") (some (some (.builtin "object.__setattr__"))) && (decide (PySem.W.subIn K (.ref (ga K x)) (.type "BaseException") = some true) &&
    (decide (PySem.W.typeIn K (.ref (ga K x)) = some (.type "type")) && PySem.W.keepIn K (.ref (ga K x)))))
theorem oexB_ok {K : PySem.W.Frag} {x : Str} (h : oexB x K = true) : OexC K (ga K x) := by
  unfold oexB at h
  obtain ⟨h1, h⟩ := ba h
  obtain ⟨h2, h⟩ := ba h
  obtain ⟨h3, h⟩ := ba h
  obtain ⟨h4, h5⟩ := ba h
  refine ⟨?_, eqO_ok h2, of_decide_eq_true h3, of_decide_eq_true h4, h5⟩
  split at h1
  · rename_i dd cd sl ho
    split at h1
    · rename_i C' bm k0 k1 k2 k3 n k5 hm hs
      simp only [Bool.and_eq_true, beq_iff_eq, Bool.not_eq_true'] at h1
      obtain ⟨⟨⟨⟨e1, e2⟩, hdel⟩, hdi⟩, hbm⟩ := h1
      obtain ⟨nm, bs, mro, ns, qn, hd, sn, sub, ab, col, del⟩ := cd
      dsimp only at hm hdel hdi
      subst hm hdel hdi e2
      have hsl : sl = #[k0, k1, k2, k3, some (.builtin "ValueError.__new__"), k5] := by
        obtain ⟨l⟩ := sl
        simp only at hs
        rw [hs]
      subst hsl
      exact ⟨nm, qn, ns, bs, bm, sn, sub, ab, col, dd, k0, k1, k2, k3, k5, by rw [ho, e1], hbm⟩
    · cases h1
  · cases h1
/-- the class's own __init__ is a def -/
def oinB (x : Str) (K : PySem.W.Frag) : Bool := eqO (PySem.W.findIn K (.ref (ga K x)) "__init__") (some (some (.ref (ma K (ga K x) "__init__")))) && decide (PySem.W.typeIn K (.ref (ma K (ga K x) "__init__")) = some (.type "function"))
theorem oinB_ok {K : PySem.W.Frag} {x : Str} (h : oinB x K = true) : PySem.W.findIn K (.ref (ga K x)) "__init__" = some (some (.ref (ma K (ga K x) "__init__"))) ∧ PySem.W.typeIn K (.ref (ma K (ga K x) "__init__")) = some (.type "function") := by
  obtain ⟨h1, h2⟩ := ba h
  exact ⟨eqO_ok h1, of_decide_eq_true h2⟩
/-- the base's __init__ is ValueError's -/
def kinB (x : Str) (K : PySem.W.Frag) : Bool := PySem.W.readsIn K (ga K x) (.type "type") && (eqO (PySem.W.specialIn K (.ref (ga K x)) "__getattribute__") (some (some (.builtin "type.__getattribute__"))) && (match PySem.W.findCls K (.ref (ga K x)) (.type "type") "__init__" with
  | some (.val (.builtin n)) => decide (n = "ValueError.__init__")
  | _ => false))
theorem kinB_ok {K : PySem.W.Frag} {x : Str} (h : kinB x K = true) : ClX.CRead K (ga K x) (.type "type") ∧ PySem.W.findCls K (.ref (ga K x)) (.type "type") "__init__" = some (.val (.builtin "ValueError.__init__")) := by
  unfold kinB at h
  obtain ⟨h1, h⟩ := ba h
  obtain ⟨h2, h3⟩ := ba h
  refine ⟨⟨h1, eqO_ok h2⟩, ?_⟩
  split at h3
  · rename_i n e
    rw [e, of_decide_eq_true h3]
  · cases h3
def excB (x : Str) (K : PySem.W.Frag) : Bool := eqO (PySem.W.findIn K (.ref (ga K x)) "__getattribute__") (some (some (.builtin "BaseException.__getattribute__"))) && (eqO (PySem.W.findIn K (.ref (ga K x)) "__getattr__") (some none) && (decide (PySem.W.subIn K (.ref (ga K x)) (.type "BaseException") = some true) && (PySem.W.hasDictIn K (ga K x) && (eqO (PySem.W.findIn K (.ref (ga K x)) "__class__") (some (some (.builtin "object.__class__"))) &&
  (eqO (PySem.W.specialIn K (.builtin "object.__class__") "__get__") (some (some (.builtin "getset_descriptor.__get__"))) && (decide (PySem.W.takesIn K (.builtin "object.__class__") = some true) && decide (PySem.W.mroIn K (ga K x) (.type "object") = some true)))))))
theorem excB_ok {K : PySem.W.Frag} {x : Str} (h : excB x K = true) : ExcC K (ga K x) ∧ XfC K (ga K x) := by
  unfold excB at h
  obtain ⟨h1, h⟩ := ba h
  obtain ⟨h2, h⟩ := ba h
  obtain ⟨h3, h⟩ := ba h
  obtain ⟨h4, h⟩ := ba h
  obtain ⟨h5, h⟩ := ba h
  obtain ⟨h6, h⟩ := ba h
  obtain ⟨h7, h8⟩ := ba h
  exact ⟨⟨eqO_ok h1, eqO_ok h2, of_decide_eq_true h3, h4, eqO_ok h5, eqO_ok h6, of_decide_eq_true h7, of_decide_eq_true h8⟩, ⟨eqO_ok h1, eqO_ok h2, of_decide_eq_true h3, h4⟩⟩
def kitB' (x y : Str) (b : Bool) (K : PySem.W.Frag) : Bool := decide (PySem.W.kitOne K (.ref (ga K x)) (.ref (ga K y)) = some b)
theorem kitB'_ok {K : PySem.W.Frag} {x y : Str} {b : Bool} (h : kitB' x y b K = true) : PySem.W.kitOne K (.ref (ga K x)) (.ref (ga K y)) = some b := of_decide_eq_true h
/-- an own class's instances are asked for their class as object says -/
def isiB (x : Str) (K : PySem.W.Frag) : Bool := eqO (PySem.W.findIn K (.ref (ga K x)) "__class__") (some (some (.builtin "object.__class__"))) &&
  (eqO (PySem.W.specialIn K (.builtin "object.__class__") "__get__") (some (some (.builtin "getset_descriptor.__get__"))) && (decide (PySem.W.takesIn K (.builtin "object.__class__") = some true) && decide (PySem.W.mroIn K (ga K x) (.type "object") = some true)))
theorem tyOf_ins {K : PySem.W.Frag} {H : Hp} {x : Str} {a dx : Addr} {fs : List (Str × V)} (h : isiB x K = true) (c : Cls K (ga K x)) (e : H a = some (.ins (ga K x) dx fs)) : TyX K H (.ref a) (.ref (ga K x)) := by
  unfold isiB at h
  obtain ⟨h5, h⟩ := ba h
  obtain ⟨h6, h⟩ := ba h
  obtain ⟨h7, h8⟩ := ba h
  exact .base (.ins e c (eqO_ok h5) (eqO_ok h6) (of_decide_eq_true h7) (of_decide_eq_true h8))

/-! ### a table with text keys -/
theorem nsIn_keys {K : PySem.W.Frag} {d : Addr} {es : Array DictEntry} {n : Nat} {P : Params} {z : Str} (hl : K.lookup d = some ⟨.type "dict", none, .dict es n, #[]⟩) (hk : PySem.W.KeysLit P es.toList) :
    (∃ u, PySem.W.nsIn K d z = some (some u)) ∨ PySem.W.nsIn K d z = some none := by
  unfold PySem.W.nsIn
  rw [hl]
  dsimp only
  have hr : es.toList.any (·.refKey) = false := by
    rw [List.any_eq_false]
    intro e he
    obtain ⟨x, t, q, _⟩ := hk.all e he
    unfold DictEntry.refKey
    rw [q]
    simp
  split
  · exact .inl ⟨_, rfl⟩
  · rw [hr]
    exact .inr rfl
def allSome (K : PySem.W.Frag) (d : Addr) (tab : List (Str × Dv)) : Bool := match K.lookup d with
  | some ⟨_, _, .dict es _, _⟩ => es.toList.all fun e => match e.key with
    | .str x _ => (tab.lookup x).isSome
    | _ => false
  | _ => false
theorem lookup_map {f : Dv → V} (z : Str) : ∀ tab : List (Str × Dv), (tab.map fun q => (q.1, f q.2)).lookup z = (tab.lookup z).map f
  | [] => rfl
  | (k, v) :: r => by
    show List.lookup z ((k, f v) :: r.map fun q => (q.1, f q.2)) = Option.map f (List.lookup z ((k, v) :: r))
    rw [List.lookup_cons, List.lookup_cons]
    cases z == k
    · exact lookup_map z r
    · rfl
theorem ktab_of {K : PySem.W.Frag} {w : World} {d : Addr} {tab : List (Str × Dv)} (h : ∃ es n, KDict K w d es n) (hv : valsB K d tab = true) (ha : allSome K d tab = true) : KN.KTab K w d (tab.map fun q => (q.1, q.2.v K)) := by
  obtain ⟨es, n, D⟩ := h
  refine ⟨es, n, D, fun z => ?_⟩
  rw [lookup_map]
  cases e : tab.lookup z with
  | some v =>
    have hm : (z, v) ∈ tab := PySem.mem_of_lookup e
    obtain ⟨u, e1, r⟩ := valsB_ok hv hm
    exact ⟨some u, e1, r⟩
  | none =>
    refine ⟨none, ?_, True.intro⟩
    rcases nsIn_keys D.at_ D.lit (z := z) with ⟨u, e1⟩ | e1
    · exfalso
      have e2 := e1
      unfold PySem.W.nsIn at e1
      rw [D.at_] at e1
      dsimp only at e1
      split at e1
      · rename_i en hf
        have hmem := List.mem_of_find?_eq_some hf
        have hp := List.find?_some hf
        unfold allSome at ha
        rw [D.at_] at ha
        have q := List.all_eq_true.mp ha en hmem
        obtain ⟨x, t, hk, _⟩ := D.lit.all en hmem
        rw [hk] at q
        have q2 : (tab.lookup x).isSome = true := q
        have hx : x = z := by
          rw [hk] at hp
          simpa [Value.isStr] using hp
        rw [hx, e] at q2
        cases q2
      · split at e1 <;> cases e1
    · exact e1

/-! ### the Hook: what the module's names reach, and the statics -/
def asC (g : Addr → Option Obj) (n : Nat) : List Addr := cStatics :: asD g n
def frC (n : Nat) (g : Addr → Option Obj) : PySem.W.Frag := frG g (asC g n)
abbrev AlC : Type := AlT × Bool
def obsC (n : Nat) (fn : List DefD) (ts : List Tab) (ex : PySem.W.Frag → Bool) (g : Addr → Option Obj) : AlC := (obsT [] fn ts (frC n g), ex (frC n g))
structure SaysC (fn : List DefD) (ts : List Tab) (ex : PySem.W.Frag → Bool) (w : World) (K : PySem.W.Frag) : Prop where
  t : SaysT [] fn ts w K
  more : ex K = true
def hookC (n : Nat) (fn : List DefD) (ts : List Tab) (ex : PySem.W.Frag → Bool) : PySem.W.Hook where
  α := AlC
  obs := fun s => obsC n fn ts ex s.heap.get?
  val := fun w => (valT fn ts w, true)
  says := fun w h => ∃ K : PySem.W.Frag, K.In h ∧ SaysC fn ts ex w K
  of := fun _ _ e => ⟨_, frG_in, ⟨congrArg (fun z : AlC => z.1) e, congrArg (fun z : AlC => z.2) e⟩⟩
  keeps := fun _ _ _ ⟨K, hK, c⟩ k => ⟨K, PySem.W.Frag.In.keeps hK k, c⟩
theorem obsC_eq {n : Nat} {fn : List DefD} {ts : List Tab} {ex : PySem.W.Frag → Bool} {g : Addr → Option Obj} {s : Shared} (h : ∀ a, g a = s.heap.get? a) : obsC n fn ts ex g = (hookC n fn ts ex).obs s := by
  have e : g = s.heap.get? := funext h
  rw [e] <;> rfl
end KH
end
/-! part KS -/
section
set_option Elab.async false
set_option linter.all false
set_option maxRecDepth 100000
set_option maxHeartbeats 4000000
/-! own layer, part 3: steps of readings; heaps; data -/
namespace KN
open PySem PySem.Spec PyProof.Rows L2
/-- str(x), x an int or a text -/
abbrev rStrA : List V → Hp → VK → Prop := fun xs H Q => (∃ i, xs = [.int i] ∧ i.natAbs.log2 < 1920 ∧ Q (.str (toString i)) H) ∨ ∃ a, xs = [.str a] ∧ Q (.str a) H
theorem call_strA {X : Cx} : CallR X (.type "str") rStrA := by
  intro pins s σ H xs us Q I r h
  rcases h with h | h
  · exact call_str_int pins s σ H xs us Q I r h
  · exact SkE.call_str_str pins s σ H xs us Q I r h

section
variable {K : PySem.W.Frag} {σ : L2.St} {H : Hp} {Q : VK} {QB : Bool → Hp → Prop} {QA : List V → Hp → Prop} {D : Ends} {te ta tb tc : TE} {tt uu : TT} {t u v' : TS} {tA tr : TA} {g : TG} {v x y : V} {i j : Int} {n : Nat} {b : Bool}
theorem s_seq (h : t { D with nx := u D } σ H) : tSeq t u D σ H := h
theorem s_asg (h : te σ H fun x H1 => g x σ H1 D.nx) : tAsg te g D σ H := h
theorem s_name {Qs : L2.St → Hp → Prop} (h : Qs (σ.set n (some v)) H) : gName n v σ H Qs := h
theorem s_drop (h : te σ H fun _ H1 => D.nx σ H1) : tDrop te D σ H := h
theorem s_ret (h : te σ H D.rt) : tRet te D σ H := h
theorem s_retN (h : D.rt .non H) : tRetN D σ H := h
theorem s_next (h : D.nx σ H) : tNext D σ H := h
theorem s_brk (h : D.bk σ H) : tBreak D σ H := h
theorem s_ct (h : D.ct σ H) : tCont D σ H := h
theorem s_if (h : tt σ H fun b H1 => if b = true then t D σ H1 else u D σ H1) : tIfS tt t u D σ H := h
theorem s_var (h : σ[n]? = some (some v)) (q : Q v H) : tVar n σ H Q := ⟨v, h, q⟩
theorem s_c (q : Q v H) : tC v σ H Q := q
theorem s_op {r : R2} (h : ta σ H fun x H1 => tb σ H1 fun y H2 => r x y H2 Q) : tOp r ta tb σ H Q := h
theorem s_rI0 {g : Int → Int → V} (q : Q (g i j) H) : rI0 g (.int i) (.int j) H Q := ⟨i, j, rfl, rfl, q⟩
theorem s_rI {C : Int → Int → Prop} {g : Int → Int → V} (c : C i j) (q : Q (g i j) H) : rI C g (.int i) (.int j) H Q := ⟨i, j, rfl, rfl, c, q⟩
theorem s_un {r : V → Hp → VK → Prop} (h : ta σ H fun x H1 => r x H1 Q) : tUn r ta σ H Q := h
theorem s_rU {g : Int → V} (q : Q (g i) H) : rU g (.int i) H Q := ⟨i, rfl, q⟩
theorem s_addS {s1 s2 : Str} (hl : s1.length + s2.length ≤ sizeLine) (q : Q (.str (s1 ++ s2)) H) : rAddS (.str s1) (.str s2) H Q := ⟨s1, s2, rfl, rfl, hl, q⟩
theorem s_addIB {k : Bool} (q : Q (.int (i + b2i k)) H) : rAddIB (.int i) (.bl k) H Q := ⟨i, k, rfl, rfl, q⟩
theorem s_eq (h : scal x y = true) (q : Q (.bl (decide (x = y))) H) : rEq x y H Q := ⟨h, q⟩
theorem s_ne (h : scal x y = true) (q : Q (.bl (!decide (x = y))) H) : rNe x y H Q := ⟨h, q⟩
theorem s_isN (q : Q (.bl (decide (x = .non))) H) : rIsNon x .non H Q := ⟨rfl, q⟩
theorem s_notN (q : Q (.bl (!decide (x = .non))) H) : rNotNon x .non H Q := ⟨rfl, q⟩
theorem s_test (h : te σ H fun x H' => ∃ k, x = .bl k ∧ QB k H') : tTest te σ H QB := h
theorem s_tB (h : te σ H fun x H' => ∃ k, x = .bl k ∧ QB k H') : tB te σ H QB := h
theorem s_bl (h : QB b H) : ∃ k, V.bl b = V.bl k ∧ QB k H := ⟨b, rfl, h⟩
theorem s_not (h : tt σ H fun c H1 => QB (!c) H1) : tNot tt σ H QB := h
theorem s_and (h : tt σ H fun c H1 => if c = true then uu σ H1 QB else QB false H1) : tAnd tt uu σ H QB := h
theorem s_or (h : tt σ H fun c H1 => if c = true then QB true H1 else uu σ H1 QB) : tOr tt uu σ H QB := h
theorem s_andV (h : ta σ H fun x H1 => ∃ c, x = .bl c ∧ if c = true then tb σ H1 Q else Q (.bl false) H1) : tAndV ta tb σ H Q := h
theorem s_orV (h : ta σ H fun x H1 => ∃ c, x = .bl c ∧ if c = true then Q (.bl true) H1 else tb σ H1 Q) : tOrV ta tb σ H Q := h
theorem s_notV (h : ta σ H fun x H1 => ∃ c, x = .bl c ∧ Q (.bl (!c)) H1) : tNotV ta σ H Q := h
theorem s_ifE (h : tt σ H fun c H1 => if c = true then ta σ H1 Q else tb σ H1 Q) : tIf tt ta tb σ H Q := h
theorem s_cb {r : List V → Hp → VK → Prop} (h : tA σ H fun vs H1 => r vs H1 Q) : tCB r tA σ H Q := h
theorem s_cons (h : ta σ H fun x H1 => tr σ H1 fun xs H2 => QA (x :: xs) H2) : tCons ta tr σ H QA := h
theorem s_nil (h : QA [] H) : tNil σ H QA := h
theorem s_cl {sp : Sp} {E : XK} (h : tA σ H fun vs H1 => sp vs H1 Q E) : tCl sp E tA σ H Q := h
theorem s_clS {sp : Sp} {E : L2.St → XK} (h : tA σ H fun vs H1 => sp vs H1 Q (E σ)) : tCallS sp E tA σ H Q := h
theorem s_mk {C : Addr} {sp : Sp} {E : XK} (h : tA σ H fun vs H1 => ∀ x dx, H1 x = none → H1 dx = none → dx ≠ x → sp (.ref x :: vs) (upd (upd H1 dx (.own x)) x (.ins C dx [])) (fun v H2 => v = .non ∧ Q (.ref x) H2) E) : tMk C sp E tA σ H Q := h
theorem s_mt {C : Addr} {m : Str} {sp : Sp} {E : XK} (h : ta σ H fun x H1 => ∃ a dx fs, x = .ref a ∧ H1 a = some (.ins C dx fs) ∧ fs.lookup m = none ∧ tA σ H1 fun vs H2 => sp (x :: vs) H2 Q E) : tMt C m sp E ta tA σ H Q := h
theorem s_lst (h : tA σ H fun xs H1 => xs.length ≤ sizeLine ∧ ∀ p, H1 p = none → Q (.ref p) (upd H1 p (.lst xs))) : tLst tA σ H Q := h
theorem s_tup (h : tA σ H fun xs H1 => xs.length ≤ sizeLine ∧ ∀ p, H1 p = none → Q (.ref p) (upd H1 p (.tup xs))) : tTup tA σ H Q := h
theorem s_sl {r : V → Option Int → Option Int → Hp → VK → Prop} {tl th : TO} (h : te σ H fun x H1 => tl σ H1 fun l H2 => th σ H2 fun u H3 => r x l u H3 Q) : L2.tSl r te tl th σ H Q := h
theorem s_noP {QO : Option Int → Hp → Prop} (h : QO none H) : tNoPart σ H QO := h
theorem s_part {QO : Option Int → Hp → Prop} (h : te σ H fun x H1 => ∃ i, x = .int i ∧ QO (some i) H1) : tPart te σ H QO := h
theorem s_intE {QO : Option Int → Hp → Prop} (h : QO (some i) H) : ∃ k, V.int i = V.int k ∧ QO (some k) H := ⟨i, rfl, h⟩
theorem s_bm {T : String} {r : V → List V → Hp → VK → Prop} (h : ta σ H fun x H1 => tyV K T x H1 ∧ tA σ H1 fun xs H2 => r x xs H2 Q) : tBM K T r ta tA σ H Q := h
theorem s_bm0 {T : String} {r : V → List V → Hp → VK → Prop} (h : ta σ H fun x H1 => tyV K T x H1 ∧ r x [] H1 Q) : tBM0 K T r ta σ H Q := h
theorem s_m0 {r : V → List V → Hp → VK → Prop} (h : ta σ H fun x H1 => (∃ a, x = .str a) ∧ r x [] H1 Q) : tM0 r ta σ H Q := h
theorem s_m1 {r : V → List V → Hp → VK → Prop} (h : ta σ H fun x H1 => (∃ a, x = .str a) ∧ tb σ H1 fun y H2 => r x [y] H2 Q) : tM1 r ta tb σ H Q := h
theorem s_strE {a : Str} {P : Prop} (h : P) : (∃ b, V.str a = V.str b) ∧ P := ⟨⟨a, rfl⟩, h⟩
theorem s_starts {a b : Str} (q : Q (.bl (Txt.startswith a b)) H) : rStarts (.str a) [.str b] H Q := ⟨a, b, rfl, rfl, q⟩
theorem s_isascii {a : Str} (q : Q (.bl (Txt.isascii a)) H) : rIsAscii (.str a) [] H Q := ⟨a, rfl, rfl, trivial, q⟩
theorem s_isdigit {a : Str} (q : Q (.bl (Txt.isdigit a)) H) : rIsDigit (.str a) [] H Q := ⟨a, rfl, rfl, trivial, q⟩
theorem s_fld {f : Str} (h : ta σ H fun x H1 => ∃ a C dx fs v, x = .ref a ∧ H1 a = some (.ins C dx fs) ∧ Cls K C ∧ NoAttr K C f ∧ fs.lookup f = some v ∧ Q v H1) : tFld K ta f σ H Q := h
theorem s_abs (q : Q (.int (if i < 0 then -i else i)) H) : rAbs [.int i] H Q := ⟨i, rfl, q⟩
theorem s_int1 (q : Q (.int i) H) : rInt1 [.int i] H Q := .inl ⟨i, rfl, q⟩
theorem s_int1b {k : Bool} (q : Q (.int (if k then 1 else 0)) H) : rInt1 [.bl k] H Q := .inr ⟨k, rfl, q⟩
theorem s_min2 (q : Q (.int (if j < i then j else i)) H) : rMin2 [.int i, .int j] H Q := ⟨i, j, rfl, q⟩
theorem s_max2 (q : Q (.int (if j > i then j else i)) H) : rMax2 [.int i, .int j] H Q := ⟨i, j, rfl, q⟩
theorem s_strI (h : i.natAbs.log2 < 1920) (q : Q (.str (toString i)) H) : rStrI [.int i] H Q := ⟨i, rfl, h, q⟩
theorem s_chain {r r' : R2} (h : ta σ H fun x H1 => tb σ H1 fun y H2 => r x y H2 fun z H3 => ∃ k, z = .bl k ∧ (if k = true then tc σ H3 fun w' H4 => r' y w' H4 Q else Q (.bl false) H3)) : tChain r r' ta tb tc σ H Q := h
theorem s_blP {A B : Hp → Prop} (h : if b = true then A H else B H) : ∃ k, V.bl b = V.bl k ∧ if k = true then A H else B H := ⟨b, rfl, h⟩
theorem s_blV {A B : Prop} (h : if b = true then A else B) : ∃ k, V.bl b = V.bl k ∧ if k = true then A else B := ⟨b, rfl, h⟩
theorem s_blN (h : Q (.bl (!b)) H) : ∃ k, V.bl b = V.bl k ∧ Q (.bl (!k)) H := ⟨b, rfl, h⟩
theorem s_aug {ti : TIp} (h : σ[n]? = some (some x)) (q : te σ H fun y H1 => ti x y H1 fun z H2 => D.nx (σ.set n (some z)) H2) : tAug n te ti D σ H := ⟨x, h, q⟩
theorem s_par {i j : Nat} (h : tA σ H fun vs H1 => ∃ v w, vs = [v, w] ∧ D.nx ((σ.set i (some v)).set j (some w)) H1) : tPar i j tA D σ H := h
theorem s_two {P : V → V → Prop} {v w : V} (h : P v w) : ∃ a b, [v, w] = [a, b] ∧ P a b := ⟨v, w, rfl, h⟩
theorem s_frz (h : te σ H fun v H1 => ∃ d u, v = .ref d ∧ H1 d = some u ∧ Mut (some u) ∧ ∀ od, Q v (upd H1 d (.frz od u))) : tFrz te σ H Q := h
theorem s_dnew (h : ∀ p, H p = none → Q (.ref p) (upd H p (.dK []))) : tDNewK σ H Q := h
/-- what a for asks of the iterator that came -/
def forK (g : TG) (tb : TS) (D : Ends) (σ : L2.St) (J : It) (H1 : Hp) : Prop := ∃ W : Nat → Nat → L2.St → Hp → Prop, (∃ m, W 0 m σ H1) ∧ ∀ i m σ H, W i m σ H →
  (J.stop i H ∧ D.nx σ H) ∨ (J.go i H ∧ ∃ N : L2.St → Hp → Prop, (∀ σ' H', N σ' H' → ∃ m', m' < m ∧ W (i + 1) m' σ' H') ∧ ∀ x H', J.yld i H x H' → g x σ H' fun σ2 H2 => tb { D with nx := N, ct := N, bk := D.nx } σ2 H2)
theorem s_for {wi : TI} (h : wi σ H (forK g t D σ)) : tFor wi g t D σ H := h
theorem s_rng1 {R : It → Hp → Prop} (h : tA σ H fun vs H1 => ∃ j : Int, vs = [.int j] ∧ -(2 ^ 62) ≤ j ∧ j < 2 ^ 62 ∧ R (Itr 0 j.toNat) H1) : iRng1 tA σ H R := h
theorem s_rng2 {R : It → Hp → Prop} (h : tA σ H fun vs H1 => ∃ i j : Int, vs = [.int i, .int j] ∧ (-(2 ^ 62) ≤ i ∧ i < 2 ^ 62 ∧ -(2 ^ 62) ≤ j ∧ j < 2 ^ 62) ∧ R (Itr i (j - i).toNat) H1) : iRng2 tA σ H R := h
theorem s_iList {R : It → Hp → Prop} (h : te σ H fun x H1 => ∃ a, x = .ref a ∧ (∃ xs, SqL K H1 a xs) ∧ R (Itl K a) H1) : iList K te σ H R := h
theorem s_iTup {R : It → Hp → Prop} (h : te σ H fun x H1 => ∃ a, x = .ref a ∧ (∃ xs, SqT K H1 a xs) ∧ R (Itt K a) H1) : iTup K te σ H R := h
theorem s_iSeq {R : It → Hp → Prop} (h : te σ H fun x H1 => ∃ a, x = .ref a ∧ (((∃ xs, SqL K H1 a xs) ∧ R (Itl K a) H1) ∨ ((∃ xs, SqT K H1 a xs) ∧ R (Itt K a) H1))) : iSeq K te σ H R := h
theorem s_iEnum {R : It → Hp → Prop} (h : tA σ H fun vs H1 => ∃ a xs, vs = [.ref a] ∧ SqL K H1 a xs ∧ R (Ite K a) H1) : iEnum K tA σ H R := h
theorem f_range {lo : Int} (Pv : Nat → L2.St → Hp → Prop) (h0 : Pv 0 σ H)
    (hs : ∀ i σ H, i < n → Pv i σ H → g (.int (lo + i)) σ H fun σ2 H2 => t { D with nx := Pv (i + 1), ct := Pv (i + 1), bk := D.nx } σ2 H2) (hd : ∀ σ H, Pv n σ H → D.nx σ H) : forK g t D σ (Itr lo n) H := for_range Pv h0 hs hd
theorem f_list {a : Addr} {xs : List V} (Pv : Nat → L2.St → Hp → Prop) (h0 : Pv 0 σ H) (hl : ∀ i σ H, i ≤ xs.length → Pv i σ H → SqL K H a xs)
    (hs : ∀ i x σ H, xs[i]? = some x → Pv i σ H → g x σ H fun σ2 H2 => t { D with nx := Pv (i + 1), ct := Pv (i + 1), bk := D.nx } σ2 H2) (hd : ∀ σ H, Pv xs.length σ H → D.nx σ H) : forK g t D σ (Itl K a) H := for_list Pv h0 hl hs hd
theorem f_tup {a : Addr} {xs : List V} (Pv : Nat → L2.St → Hp → Prop) (h0 : Pv 0 σ H) (hl : ∀ i σ H, i ≤ xs.length → Pv i σ H → SqT K H a xs)
    (hs : ∀ i x σ H, xs[i]? = some x → Pv i σ H → g x σ H fun σ2 H2 => t { D with nx := Pv (i + 1), ct := Pv (i + 1), bk := D.nx } σ2 H2) (hd : ∀ σ H, Pv xs.length σ H → D.nx σ H) : forK g t D σ (Itt K a) H := for_tup Pv h0 hl hs hd
theorem ite_dec {p A B : Prop} [Decidable p] (h1 : p → A) (h2 : ¬ p → B) : if decide p = true then A else B := by
  by_cases h : p
  · rw [decide_eq_true h]; exact iteT (h1 h)
  · rw [decide_eq_false h]; exact iteF (h2 h)
theorem ite_b {A B : Prop} (h1 : b = true → A) (h2 : b = false → B) : if b = true then A else B := by
  cases b
  · exact iteF (h2 rfl)
  · exact iteT (h1 rfl)
theorem ite_yes {A B : Prop} (e : b = true) (h : A) : if b = true then A else B := by rw [e]; exact iteT h
theorem ite_no {A B : Prop} (e : b = false) (h : B) : if b = true then A else B := by rw [e]; exact iteF h
end

theorem sz_of {n : Nat} (h : n ≤ 100000) : n ≤ sizeLine := Nat.le_trans h (by decide)
theorem sz_lt {n : Nat} (h : n < 100000) : n < sizeLine := Nat.lt_of_lt_of_le h (by decide)
theorem cmul_small {i j : Int} (h1 : -(2 ^ 200) < i) (h2 : i < 2 ^ 200) (h3 : -(2 ^ 200) < j) (h4 : j < 2 ^ 200) : CMulW i j :=
  wide_mul (a := 200) (b := 200) (by omega) (by omega) (by decide) (by decide) (by decide)
theorem cdiv_small {i j : Int} (h1 : 0 < j) (h2 : j < 2 ^ 200) : CDivW i j := wide_div (b := 200) h1 (by omega) (by decide) (by decide)
theorem get_ints {ns : List Int} {i : Nat} {v : V} (h : (ns.map V.int)[i]? = some v) : ∃ z, ns[i]? = some z ∧ v = .int z := by
  rw [List.getElem?_map] at h
  cases e : ns[i]? with
  | none => rw [e] at h; cases h
  | some z => rw [e] at h; exact ⟨z, rfl, (Option.some.inj h).symm⟩

end KN
namespace L2
open PySem PySem.Spec PyProof.Rows
theorem same_new {H : Hp} {p : Addr} {o : HO} (h : H p = none) : Same H (upd H p o) := fun c u e => by
  rw [upd_ne (ne_of_none e h)]
  exact e
theorem Same.new {H H1 : Hp} {p : Addr} {o : HO} (a : Same H H1) (h : H1 p = none) : Same H (upd H1 p o) := a.trans (same_new h)
theorem Same.mut {H H1 : Hp} {p : Addr} {o : HO} (a : Same H H1) (h : H p = none) : Same H (upd H1 p o) := fun c u e => by
  rw [upd_ne (ne_of_none e h)]
  exact a c u e
theorem Same.rd {H H' : Hp} {a : Addr} {u : HO} (e : Same H H') (h : Rd H a u) : Rd H' a u := by
  rcases h with h | ⟨o, h⟩
  · exact .inl (e _ _ h)
  · exact .inr ⟨o, e _ _ h⟩
theorem Same.sqt {K : PySem.W.Frag} {H H' : Hp} {a : Addr} {xs : List V} (e : Same H H') (h : SqT K H a xs) : SqT K H' a xs := by
  rcases h with (h | ⟨o, h⟩) | h
  · exact .inl (.inl (e _ _ h))
  · exact .inl (.inr ⟨o, e _ _ h⟩)
  · exact .inr h

/-! ### data -/
section
variable {K : PySem.W.Frag} {H H' : Hp}
mutual
theorem Dp.mono (e : Same H H') : ∀ {v : V} {d : PyData}, Dp K H v d → Dp K H' v d
  | _, _, .non => .non
  | _, _, .bl b => .bl b
  | _, _, .int i => .int i
  | _, _, .str x => .str x
  | _, _, .lst h a => .lst (Same.seq e h) (DpAll.mono e a)
  | _, _, .tup h a => .tup (Same.sqt e h) (DpAll.mono e a)
theorem DpAll.mono (e : Same H H') : ∀ {vs : List V} {ds : List PyData}, DpAll K H vs ds → DpAll K H' vs ds
  | _, _, .nil => .nil
  | _, _, .cons h a => .cons (Dp.mono e h) (DpAll.mono e a)
end
theorem DpAll.length : ∀ {vs : List V} {ds : List PyData}, DpAll K H vs ds → vs.length = ds.length
  | _, _, .nil => rfl
  | _, _, .cons _ a => congrArg (· + 1) (DpAll.length a)
theorem DpAll.get : ∀ {vs : List V} {ds : List PyData}, DpAll K H vs ds → ∀ {i : Nat} {v : V}, vs[i]? = some v → ∃ d, ds[i]? = some d ∧ Dp K H v d
  | _, _, .nil, i, v, h => by simp at h
  | _, _, .cons h a, 0, v, e => by simp at e; subst e; exact ⟨_, rfl, h⟩
  | _, _, .cons h a, i + 1, v, e => by
    obtain ⟨d, h1, h2⟩ := DpAll.get a (i := i) (v := v) (by simpa using e)
    exact ⟨d, by simpa using h1, h2⟩
theorem DpAll.append : ∀ {vs ws : List V} {ds es : List PyData}, DpAll K H vs ds → DpAll K H ws es → DpAll K H (vs ++ ws) (ds ++ es)
  | _, _, _, _, .nil, s => s
  | _, _, _, _, .cons h a, s => .cons h (DpAll.append a s)
theorem DpAll.ints : ∀ ns : List Int, DpAll K H (ns.map V.int) (ns.map PyData.int)
  | [] => .nil
  | n :: r => .cons (.int n) (DpAll.ints r)
theorem DpAll.strs : ∀ ns : List Str, DpAll K H (ns.map V.str) (ns.map PyData.str)
  | [] => .nil
  | n :: r => .cons (.str n) (DpAll.strs r)
theorem DpAll.of_ints : ∀ {vs : List V} {ns : List Int}, DpAll K H vs (ns.map PyData.int) → vs = ns.map V.int
  | _, [], .nil => rfl
  | _, n :: r, .cons (.int _) a => by rw [DpAll.of_ints a]; rfl
theorem DpAll.of_strs : ∀ {vs : List V} {ns : List Str}, DpAll K H vs (ns.map PyData.str) → vs = ns.map V.str
  | _, [], .nil => rfl
  | _, n :: r, .cons (.str _) a => by rw [DpAll.of_strs a]; rfl
end
end L2
namespace KN
open PySem PySem.Spec PyProof.Rows L2
/-! ### heaps -/
/-- all that was tracked, but what stands in S, is as it was -/
def Kp (S : List Addr) (H H' : Hp) : Prop := ∀ b o, H b = some o → b ∉ S → H' b = some o
theorem Kp.refl (S : List Addr) (H : Hp) : Kp S H H := fun _ _ h _ => h
theorem Kp.trans {S : List Addr} {H H1 H2 : Hp} (a : Kp S H H1) (b : Kp S H1 H2) : Kp S H H2 := fun c o h n => b c o (a c o h n) n
theorem Kp.mono {S T : List Addr} {H H1 : Hp} (a : Kp S H H1) (h : ∀ x ∈ S, x ∈ T) : Kp T H H1 := fun c o e n => a c o e fun m => n (h c m)
theorem Kp.of {S : List Addr} {H H1 : Hp} (a : Same H H1) : Kp S H H1 := fun c o e _ => a c o e
theorem Kp.same {H H1 : Hp} (a : Kp [] H H1) : Same H H1 := fun c o e => a c o e (by simp)
theorem Kp.new {S : List Addr} {H H1 : Hp} {p : Addr} {o : HO} (a : Kp S H H1) (h : H1 p = none) : Kp S H (upd H1 p o) := fun c u e n => by
  rw [upd_ne (ne_of_none (a c u e n) h)]
  exact a c u e n
/-- what was not tracked ahead may change -/
theorem Kp.mut {S : List Addr} {H H1 : Hp} {p : Addr} {o : HO} (a : Kp S H H1) (h : H p = none) : Kp S H (upd H1 p o) := fun c u e n => by
  rw [upd_ne (ne_of_none e h)]
  exact a c u e n
theorem Kp.put {S : List Addr} {H H1 : Hp} {p : Addr} {o : HO} (a : Kp S H H1) (h : p ∈ S) : Kp S H (upd H1 p o) := fun c u e n => by
  have z : c ≠ p := fun q => n (by rw [q]; exact h)
  rw [upd_ne z]
  exact a c u e n
theorem Kp.back {S : List Addr} {H H1 : Hp} {p : Addr} (a : Kp S H H1) (h : H1 p = none) (n : p ∉ S) : H p = none := by
  cases e : H p with
  | none => rfl
  | some o => rw [a p o e n] at h; cases h
/-- the heap without what stands in S -/
def hide (S : List Addr) (H : Hp) : Hp := fun b => if b ∈ S then none else H b
theorem hide_sub (S : List Addr) (H : Hp) : Same (hide S H) H := fun b o h => by
  unfold hide at h
  split at h
  · cases h
  · exact h
theorem hide_of {S : List Addr} {H : Hp} {b : Addr} {o : HO} (h : H b = some o) (n : b ∉ S) : hide S H b = some o := by unfold hide; rw [if_neg n]; exact h
theorem hide_nil (H : Hp) : hide [] H = H := by funext b; unfold hide; simp
theorem Kp.hide {S : List Addr} {H H1 : Hp} (a : Kp S H H1) : Same (hide S H) (hide S H1) := fun b o h => by
  have n : b ∉ S := fun m => by unfold KN.hide at h; rw [if_pos m] at h; cases h
  exact hide_of (a b o (hide_sub S H b o h) n) n
end KN
end
/-! part KG -/
section
set_option Elab.async false
set_option linter.all false
set_option maxRecDepth 100000
set_option maxHeartbeats 4000000
open PySem PySem.Spec PyProof.Rows L2 KN
local macro_rules | `(tactic| walk_at "st") => `(tactic| first
  | (with_reducible refine s_seq ?_) | (with_reducible refine s_asg ?_) | (with_reducible refine s_name ?_) | (with_reducible refine s_drop ?_) | (with_reducible refine s_ret ?_) | (with_reducible refine s_retN ?_)
  | (with_reducible refine s_next ?_) | (with_reducible refine s_brk ?_) | (with_reducible refine s_ct ?_) | (with_reducible refine s_if ?_) | ((with_reducible refine' s_var ?h ?_); (case h => rfl)) | (with_reducible refine s_c ?_)
  | (with_reducible refine s_op ?_) | (with_reducible refine s_rI0 ?_) | ((with_reducible refine s_rI ?h ?_); (case h => first | assumption | decide | (show (0 : Int) < _; omega) | exact ⟨by decide, by decide, by decide⟩ | exact cmul_small (by omega) (by omega) (by omega) (by omega) | exact cdiv_small (by omega) (by omega))) | (with_reducible refine s_un ?_) | (with_reducible refine s_rU ?_)
  | (with_reducible refine s_addIB ?_) | ((with_reducible refine' s_eq ?h ?_); (case h => first | rfl | decide)) | ((with_reducible refine' s_ne ?h ?_); (case h => first | rfl | decide)) | (with_reducible refine s_isN ?_) | (with_reducible refine s_notN ?_) | (with_reducible refine s_test ?_) | (with_reducible refine s_tB ?_)
  | (with_reducible refine s_bl ?_) | (with_reducible refine s_not ?_) | (with_reducible refine s_and ?_) | (with_reducible refine s_or ?_) | (with_reducible refine s_andV ?_) | (with_reducible refine s_orV ?_) | (with_reducible refine s_notV ?_)
  | (with_reducible refine s_ifE ?_) | (with_reducible refine s_cb ?_) | (with_reducible refine s_cons ?_) | (with_reducible refine s_nil ?_) | (with_reducible refine s_cl ?_) | (with_reducible refine s_clS ?_) | (with_reducible refine s_mk ?_) | (with_reducible refine s_mt ?_)
  | (with_reducible refine s_lst ?_) | (with_reducible refine s_tup ?_) | (with_reducible refine s_sl ?_) | (with_reducible refine s_noP ?_) | (with_reducible refine s_part ?_) | (with_reducible refine s_intE ?_) | (with_reducible refine s_bm ?_) | (with_reducible refine s_bm0 ?_)
  | (with_reducible refine s_m0 ?_) | (with_reducible refine s_m1 ?_) | (with_reducible refine s_strE ?_) | (with_reducible refine s_starts ?_) | (with_reducible refine s_isascii ?_) | (with_reducible refine s_isdigit ?_) | (with_reducible refine s_fld ?_)
  | (with_reducible refine s_abs ?_) | (with_reducible refine s_int1 ?_) | (with_reducible refine s_int1b ?_) | (with_reducible refine s_min2 ?_) | (with_reducible refine s_max2 ?_) | (with_reducible refine s_chain ?_) | (with_reducible refine s_blP ?_) | (with_reducible refine s_blV ?_) | (with_reducible refine s_blN ?_) | (with_reducible refine s_blG ?_) | (with_reducible refine s_intG ?_)
  | ((with_reducible refine' s_aug ?h ?_); (case h => rfl)) | (with_reducible refine s_par ?_) | (with_reducible refine s_two ?_) | (with_reducible refine s_frz ?_) | (with_reducible refine s_dnew ?_) | (with_reducible refine s_for ?_) | (with_reducible refine s_lc ?_) | (with_reducible refine s_vei ?_) | (with_reducible refine s_ost ?_) | (with_reducible refine s_rz ?_) | (with_reducible refine s_xm ?_) | (with_reducible refine s_rng1 ?_) | (with_reducible refine s_rng2 ?_) | (with_reducible refine s_iList ?_) | (with_reducible refine s_iTup ?_) | (with_reducible refine s_iSeq ?_) | (with_reducible refine s_iEnum ?_))
local macro_rules | `(tactic| walk_at "go") => `(tactic| repeat walk_at "st")
local macro_rules | `(tactic| walk_at "hp") => `(tactic| first
  | assumption
  | exact upd_same
  | (refine (upd_ne ?n).trans ?_; (case n => first | assumption | (apply Ne.symm; assumption) | exact ne_of_none (by walk_at "hp") (by assumption) | exact (ne_of_none (by walk_at "hp") (by assumption)).symm); walk_at "hp"))
/-! ### decks, news, comprehensions -/
namespace KN
open PySem PySem.Spec PyProof.Rows L2

def Deck (H : Hp) (d : Addr) : Prop := ∃ xs : List Int, H d = some (.lst (xs.map V.int)) ∧ xs.length ≤ 1200
/-- from H to H': what was tracked stands as it was, but the decks in S, which are decks still -/
structure Go (S : List Addr) (H H' : Hp) : Prop where
  kp : Kp S H H'
  d0 : ∀ d ∈ S, Deck H d
  d1 : ∀ d ∈ S, Deck H' d
theorem Deck.some {H : Hp} {d : Addr} (h : Deck H d) : H d ≠ none := by obtain ⟨_, h, _⟩ := h; rw [h]; simp
theorem Deck.upd {H : Hp} {d p : Addr} {o : HO} (h : Deck H d) (n : H p = none) : Deck (upd H p o) d := by
  obtain ⟨xs, h, l⟩ := h
  exact ⟨xs, by rw [upd_ne (ne_of_none h n)]; exact h, l⟩
theorem Go.refl {S : List Addr} {H : Hp} (h : ∀ d ∈ S, Deck H d) : Go S H H := ⟨Kp.refl _ _, h, h⟩
theorem Go.nil (H : Hp) : Go [] H H := ⟨Kp.refl _ _, by simp, by simp⟩
theorem Go.trans {S : List Addr} {H H1 H2 : Hp} (a : Go S H H1) (b : Go S H1 H2) : Go S H H2 := ⟨a.kp.trans b.kp, a.d0, b.d1⟩
theorem Go.out {S : List Addr} {H H1 : Hp} {p : Addr} (a : Go S H H1) (h : H p = none) : p ∉ S := fun m => (a.d0 p m).some h
theorem Go.back {S : List Addr} {H H1 : Hp} {p : Addr} (a : Go S H H1) (h : H1 p = none) : H p = none := a.kp.back h fun m => (a.d1 p m).some h
theorem Go.out1 {S : List Addr} {H H1 : Hp} {p : Addr} (a : Go S H H1) (h : H1 p = none) : p ∉ S := a.out (a.back h)
theorem Go.deck {d : Addr} {H H' : Hp} (g : Go [d] H H') : Deck H' d := g.d1 d (by simp)
theorem deck1 {d : Addr} {H : Hp} (h : Deck H d) : ∀ c ∈ [d], Deck H c := fun c m => by
  rw [List.mem_singleton] at m
  subst m
  exact h
theorem Go.new {S : List Addr} {H H1 : Hp} {p : Addr} {o : HO} (a : Go S H H1) (h : H1 p = none) : Go S H (upd H1 p o) := ⟨a.kp.new h, a.d0, fun d m => (a.d1 d m).upd h⟩
theorem Go.mut {S : List Addr} {H H1 : Hp} {p : Addr} {o : HO} (a : Go S H H1) (h : H p = none) : Go S H (upd H1 p o) := ⟨a.kp.mut h, a.d0, fun d m => by
  have z : d ≠ p := fun e => a.out h (e ▸ m)
  obtain ⟨xs, q, l⟩ := a.d1 d m
  exact ⟨xs, by rw [upd_ne z]; exact q, l⟩⟩
theorem Go.same {H H1 : Hp} (a : Go [] H H1) : Same H H1 := a.kp.same
theorem Go.ofSame {H H1 : Hp} (a : Same H H1) : Go [] H H1 := ⟨Kp.of a, by simp, by simp⟩
theorem Deck.same {H H1 : Hp} {d : Addr} (h : Deck H d) (e : Same H H1) : Deck H1 d := by
  obtain ⟨xs, q, l⟩ := h
  exact ⟨xs, e _ _ q, l⟩
theorem Go.and {S : List Addr} {H H1 H2 : Hp} (a : Go S H H1) (b : Same H1 H2) : Go S H H2 := ⟨a.kp.trans (Kp.of b), a.d0, fun d m => (a.d1 d m).same b⟩
theorem Go.of {S : List Addr} {H H1 : Hp} (h : ∀ d ∈ S, Deck H d) (a : Same H H1) : Go S H H1 := (Go.refl h).and a
theorem Go.hide {S : List Addr} {H H1 : Hp} (a : Go S H H1) : Same (hide S H) (hide S H1) := a.kp.hide
theorem Go.wide {S T : List Addr} {H H1 : Hp} (a : Go S H H1) (h : ∀ x ∈ S, x ∈ T) (hd : ∀ d ∈ T, Deck H d) : Go T H H1 := ⟨a.kp.mono h, hd, fun d m => by
  by_cases q : d ∈ S
  · exact a.d1 d q
  · obtain ⟨xs, e, l⟩ := hd d m
    exact ⟨xs, a.kp d _ e q, l⟩⟩
theorem Go.at {S : List Addr} {H H1 : Hp} {p : Addr} {o : HO} (a : Go S H H1) (h : H p = some o) (n : p ∉ S) : H1 p = some o := a.kp p o h n
theorem hide_at {S : List Addr} {H : Hp} {p : Addr} {o : HO} (h : hide S H p = some o) : H p = some o := hide_sub S H p o h
/-- what is new since H -/
def fresh (H H' : Hp) : Hp := fun b => if H b = none then H' b else none
/-- what is new since H, but D -/
def news (H : Hp) (D : Addr) (H' : Hp) : Hp := fun b => if H b = none ∧ b ≠ D then H' b else none
theorem fresh_at {H H' : Hp} {b : Addr} {o : HO} (h0 : H b = none) (h : H' b = some o) : fresh H H' b = some o := by unfold fresh; rw [if_pos h0]; exact h
theorem fresh_inv {H H' : Hp} {b : Addr} {o : HO} (h : fresh H H' b = some o) : H b = none ∧ H' b = some o := by
  unfold fresh at h
  split at h
  · exact ⟨‹_›, h⟩
  · cases h
theorem news_inv {H H' : Hp} {D b : Addr} {o : HO} (h : news H D H' b = some o) : H b = none ∧ b ≠ D ∧ H' b = some o := by
  unfold news at h
  split at h
  · exact ⟨‹_ ∧ _›.1, ‹_ ∧ _›.2, h⟩
  · cases h
theorem news_at {H H' : Hp} {D b : Addr} {o : HO} (h0 : H b = none) (n : b ≠ D) (h : H' b = some o) : news H D H' b = some o := by unfold news; rw [if_pos ⟨h0, n⟩]; exact h
theorem fresh_sub (H H' : Hp) : Same (fresh H H') H' := fun _ _ h => (fresh_inv h).2
theorem news_sub (H : Hp) (D : Addr) (H' : Hp) : Same (news H D H') (fresh H H') := fun _ _ h => fresh_at (news_inv h).1 (news_inv h).2.2
theorem fresh_hide {S : List Addr} {H H1 H2 : Hp} (a : Go S H H1) : Same (fresh H1 H2) (hide S H2) := fun b o h => by
  obtain ⟨h1, h2⟩ := fresh_inv h
  exact hide_of h2 fun m => (a.d1 b m).some h1
theorem fresh_hide' {S : List Addr} {H H2 : Hp} (a : ∀ d ∈ S, Deck H d) : Same (fresh H H2) (hide S H2) := fresh_hide (Go.refl a)
/-- later news are news -/
theorem fresh_fresh {S : List Addr} {H H1 H2 : Hp} (a : Go S H H1) : Same (fresh H1 H2) (fresh H H2) := fun b o h => by
  obtain ⟨h1, h2⟩ := fresh_inv h
  exact fresh_at (a.back h1) h2
theorem fresh_keep {S : List Addr} {H H1 H2 : Hp} (a : Go S H H1) (b : Go S H1 H2) : Same (fresh H H1) (fresh H H2) := fun c o h => by
  obtain ⟨h1, h2⟩ := fresh_inv h
  exact fresh_at h1 (b.kp c o h2 (a.out h1))
theorem fresh_mut {H H1 : Hp} {p : Addr} {o : HO} (h : H1 p = none) : Same (fresh H H1) (fresh H (upd H1 p o)) := fun c u q => by
  obtain ⟨h1, h2⟩ := fresh_inv q
  exact fresh_at h1 (by rw [upd_ne (ne_of_none h2 h)]; exact h2)
theorem news_keep {S : List Addr} {D : Addr} {H H1 H2 : Hp} (a : Go S H H1) (b : Go S H1 H2) : Same (news H D H1) (news H D H2) := fun c o h => by
  obtain ⟨h1, n, h2⟩ := news_inv h
  exact news_at h1 n (b.kp c o h2 (a.out h1))
theorem news_fresh {S : List Addr} {D : Addr} {u : HO} {H H1 H2 : Hp} (a : Go S H H1) (hD : H1 D = some u) : Same (fresh H1 H2) (news H D H2) := fun c o h => by
  obtain ⟨h1, h2⟩ := fresh_inv h
  exact news_at (a.back h1) (fun e => by rw [e, hD] at h1; cases h1) h2
theorem news_upd {H H1 : Hp} {D : Addr} {o : HO} : Same (news H D H1) (news H D (upd H1 D o)) := fun c u q => by
  obtain ⟨h1, n, h2⟩ := news_inv q
  exact news_at h1 n (by rw [upd_ne n]; exact h2)
theorem fresh_nil {H H1 : Hp} {P : Prop} (h : P) : P := h

/-! ### comprehensions -/
def lcK (g : TG) (tt : TT) (te : TE) (vs : List Nat) (σ : L2.St) (Q : VK) (J : It) (H1 : Hp) : Prop := ∀ D, H1 D = none → ∃ W : Nat → Nat → Hp → Prop, (∃ m, W 0 m (upd H1 D (.lst []))) ∧ ∀ i m H, W i m H →
  (J.stop i H ∧ Q (.ref D) H) ∨ (J.go i H ∧ ∃ Nx : Hp → Prop, (∀ H', Nx H' → ∃ m', m' < m ∧ W (i + 1) m' H') ∧ ∀ x H', J.yld i H x H' → g x (wipe σ vs) H' fun σ2 H2 => wipe σ2 vs = wipe σ vs ∧ tt σ2 H2 fun b H3 =>
    if b = true then te σ2 H3 fun y H4 => ∃ acc, H4 D = some (.lst acc) ∧ acc.length < sizeLine ∧ Nx (upd H4 D (.lst (acc ++ [y]))) else Nx H3)
theorem s_lc {wi : TI} {g : TG} {tt : TT} {te : TE} {vs : List Nat} {σ : L2.St} {H : Hp} {Q : VK} (h : wi σ H (lcK g tt te vs σ Q)) : tLc wi g tt te vs σ H Q := h
section
variable {K : PySem.W.Frag} {g : TG} {te : TE} {vs : List Nat} {σ : L2.St} {H1 : Hp} {Q : VK} {S : List Addr} {a : Addr} {xs : List V}
theorem SqL.sub {F H : Hp} (e : Same F H) (h : SqL K F a xs) : SqL K H a xs := e.seq h
theorem lc_goL (gS : ∀ d ∈ S, Deck H1 d) (hl : SqL K (hide S H1) a xs) (hz : xs.length ≤ 100000) (P : Nat → List V → Hp → Prop) (mono : ∀ i ys F F', Same F F' → P i ys F → P i ys F')
    (h0 : ∀ D H', P 0 [] (news H1 D H'))
    (hs : ∀ i x ys D H' (N : VK), xs[i]? = some x → ys.length = i → Go S H1 H' → H' D = some (.lst ys) → H1 D = none → P i ys (news H1 D H') → (∀ y H4, Go S H' H4 → P (i + 1) (ys ++ [y]) (news H1 D H4) → N y H4) → g x (wipe σ vs) H' fun σ2 H2 => wipe σ2 vs = wipe σ vs ∧ te σ2 H2 N)
    (hd : ∀ ys D H', Go S H1 H' → H1 D = none → H' D = some (.lst ys) → ys.length = xs.length → P xs.length ys (news H1 D H') → Q (.ref D) H') : lcK g tYes te vs σ Q (Itl K a) H1 := by
  intro D hD
  refine lc_list (xs := xs) (fun i H' => ∃ ys, Go S H1 H' ∧ H' D = some (.lst ys) ∧ ys.length = i ∧ P i ys (news H1 D H')) ⟨[], (Go.refl gS).new hD, upd_same, rfl, h0 D _⟩ ?_ ?_ ?_
  · rintro i H' hi ⟨ys, gg, _, _, _⟩
    exact (hide_sub S H').seq (gg.hide.seq hl)
  · rintro i x H' hx ⟨ys, gg, hd', hy, p⟩
    simp only [tYes, if_true]
    refine hs i x ys D H' _ hx hy gg hd' hD p ?_
    rintro y H4 g4 p4
    have hD4 : H4 D = some (.lst ys) := g4.kp D _ hd' (gg.out hD)
    have hi : i < xs.length := by
      rw [List.getElem?_eq_some_iff] at hx
      exact hx.1
    exact ⟨ys, hD4, sz_lt (by omega), ys ++ [y], (gg.trans g4).mut hD, upd_same, by simp [hy], mono _ _ _ _ news_upd p4⟩
  · rintro H' ⟨ys, gg, hd', hy, p⟩
    exact hd ys D H' gg hD hd' hy p
theorem lc_goT (gS : ∀ d ∈ S, Deck H1 d) (hl : SqT K (hide S H1) a xs) (hz : xs.length ≤ 100000) (P : Nat → List V → Hp → Prop) (mono : ∀ i ys F F', Same F F' → P i ys F → P i ys F')
    (h0 : ∀ D H', P 0 [] (news H1 D H'))
    (hs : ∀ i x ys D H' (N : VK), xs[i]? = some x → ys.length = i → Go S H1 H' → H' D = some (.lst ys) → H1 D = none → P i ys (news H1 D H') → (∀ y H4, Go S H' H4 → P (i + 1) (ys ++ [y]) (news H1 D H4) → N y H4) → g x (wipe σ vs) H' fun σ2 H2 => wipe σ2 vs = wipe σ vs ∧ te σ2 H2 N)
    (hd : ∀ ys D H', Go S H1 H' → H1 D = none → H' D = some (.lst ys) → ys.length = xs.length → P xs.length ys (news H1 D H') → Q (.ref D) H') : lcK g tYes te vs σ Q (Itt K a) H1 := by
  intro D hD
  refine lc_tup (xs := xs) (fun i H' => ∃ ys, Go S H1 H' ∧ H' D = some (.lst ys) ∧ ys.length = i ∧ P i ys (news H1 D H')) ⟨[], (Go.refl gS).new hD, upd_same, rfl, h0 D _⟩ ?_ ?_ ?_
  · rintro i H' hi ⟨ys, gg, _, _, _⟩
    exact Same.sqt (hide_sub S H') (Same.sqt gg.hide hl)
  · rintro i x H' hx ⟨ys, gg, hd', hy, p⟩
    simp only [tYes, if_true]
    refine hs i x ys D H' _ hx hy gg hd' hD p ?_
    rintro y H4 g4 p4
    have hD4 : H4 D = some (.lst ys) := g4.kp D _ hd' (gg.out hD)
    have hi : i < xs.length := by
      rw [List.getElem?_eq_some_iff] at hx
      exact hx.1
    exact ⟨ys, hD4, sz_lt (by omega), ys ++ [y], (gg.trans g4).mut hD, upd_same, by simp [hy], mono _ _ _ _ news_upd p4⟩
  · rintro H' ⟨ys, gg, hd', hy, p⟩
    exact hd ys D H' gg hD hd' hy p
theorem lc_goR {lo : Int} {n : Nat} (gS : ∀ d ∈ S, Deck H1 d) (hz : n ≤ 100000) (P : Nat → List V → Hp → Prop) (mono : ∀ i ys F F', Same F F' → P i ys F → P i ys F')
    (h0 : ∀ D H', P 0 [] (news H1 D H'))
    (hs : ∀ i ys D H' (N : VK), i < n → ys.length = i → Go S H1 H' → H' D = some (.lst ys) → H1 D = none → P i ys (news H1 D H') → (∀ y H4, Go S H' H4 → P (i + 1) (ys ++ [y]) (news H1 D H4) → N y H4) → g (.int (lo + i)) (wipe σ vs) H' fun σ2 H2 => wipe σ2 vs = wipe σ vs ∧ te σ2 H2 N)
    (hd : ∀ ys D H', Go S H1 H' → H1 D = none → H' D = some (.lst ys) → ys.length = n → P n ys (news H1 D H') → Q (.ref D) H') : lcK g tYes te vs σ Q (Itr lo n) H1 := by
  intro D hD
  refine lc_range (lo := lo) (n := n) (fun i H' => ∃ ys, Go S H1 H' ∧ H' D = some (.lst ys) ∧ ys.length = i ∧ P i ys (news H1 D H')) ⟨[], (Go.refl gS).new hD, upd_same, rfl, h0 D _⟩ ?_ ?_
  · rintro i H' hx ⟨ys, gg, hd', hy, p⟩
    simp only [tYes, if_true]
    refine hs i ys D H' _ hx hy gg hd' hD p ?_
    rintro y H4 g4 p4
    have hD4 : H4 D = some (.lst ys) := g4.kp D _ hd' (gg.out hD)
    exact ⟨ys, hD4, sz_lt (by omega), ys ++ [y], (gg.trans g4).mut hD, upd_same, by simp [hy], mono _ _ _ _ news_upd p4⟩
  · rintro H' ⟨ys, gg, hd', hy, p⟩
    exact hd ys D H' gg hD hd' hy p
end
theorem s_blG {b : Bool} {P : Bool → Prop} (h : P b) : ∃ k, V.bl b = V.bl k ∧ P k := ⟨b, rfl, h⟩
theorem s_intG {i : Int} {P : Int → Prop} (h : P i) : ∃ k, V.int i = V.int k ∧ P k := ⟨i, rfl, h⟩
theorem pick2 {K : PySem.W.Frag} {H : Hp} {Q : VK} {a b : V} {p : Addr} {t : Int} (ht0 : 0 ≤ t) (ht : t < 2) (hp : SqL K H p [a, b]) (q0 : t = 0 → Q a H) (q1 : t = 1 → Q b H) : rIxL K (.ref p) (.int t) H Q := by
  by_cases h : t = 0
  · subst h
    exact ⟨p, _, 0, a, rfl, rfl, hp, at_of (j := 0) rfl rfl, q0 rfl⟩
  · have h1 : t = 1 := by omega
    subst h1
    exact ⟨p, _, 1, b, rfl, rfl, hp, at_of (j := 1) rfl rfl, q1 rfl⟩
/-- a list read at a drawn place -/
theorem pickN {K : PySem.W.Frag} {H : Hp} {Q : VK} {xs : List V} {p : Addr} {t : Int} (ht0 : 0 ≤ t) (ht : t < xs.length) (hp : SqL K H p xs) (q : ∀ (i : Nat) (v : V), t = i → xs[i]? = some v → Q v H) : rIxL K (.ref p) (.int t) H Q := by
  have h : t.toNat < xs.length := by omega
  exact ⟨p, _, t, xs[t.toNat], rfl, rfl, hp, at_of (j := t.toNat) (by omega) (List.getElem?_eq_getElem h), q t.toNat _ (by omega) (List.getElem?_eq_getElem h)⟩
/-! ### own errors -/
theorem s_vei {K : PySem.W.Frag} {ta : TA} {σ : L2.St} {H : Hp} {Q : VK} (h : ta σ H fun vs H1 => ∃ (a C : Addr) (ws : List V), vs = .ref a :: ws ∧ ws.length ≤ 1000 ∧ OexC K C ∧ H1 a = some (exo a C none) ∧ Q .non H1) : tVeI K ta σ H Q := h
theorem s_ost {K : PySem.W.Frag} {f : Str} {to te : TE} {D : Ends} {σ : L2.St} {H : Hp} (h : te σ H fun y H1 => to σ H1 fun x H2 => ∃ a C : Addr, x = .ref a ∧ OexC K C ∧ PySem.W.findIn K (.ref C) f = some none ∧
  ((H2 a = some (exo a C none) ∧ ∀ dx, H2 dx = none → dx ≠ a → D.nx σ (upd (upd H2 dx (exd dx [(f, y)])) a (exo a C (some dx)))) ∨
    ∃ (dx : Addr) (fs : List (Str × V)), H2 a = some (exo a C (some dx)) ∧ H2 dx = some (exd dx fs) ∧ fs.length ≤ 900 ∧ D.nx σ (upd H2 dx (exd dx ((f, y) :: fs))))) : tOst K f to te D σ H := h
/-! ### errors of one text, of one int -/
/-- what an own error's __init__(self, x) leaves: its field f -/
def sXI (K : PySem.W.Frag) (C : Addr) (f : Str) (ok : V → Prop) : Sp := fun vs H Q _ => ∃ (a : Addr) (x : V), vs = [.ref a, x] ∧ ok x ∧ H a = some (exo a C none) ∧ ∀ dx, H dx = none → dx ≠ a → Q .non (upd (upd H dx (exd dx [(f, x)])) a (exo a C (some dx)))
theorem len_sXI {K : PySem.W.Frag} {C : Addr} {f : Str} {ok : V → Prop} {n : Nat} (vs : List V) (H : Hp) (Q : VK) (E : XK) (h : sXI K C f ok vs H Q E) (hn : n = 2 := by rfl) : vs.length = n := by
  obtain ⟨_, _, rfl, _⟩ := h
  exact hn.symm
def okTxt (x : V) : Prop := ∃ z : Str, x = .str z ∧ z.length ≤ 1000
def okInt (x : V) : Prop := ∃ i : Int, x = .int i ∧ i.natAbs.log2 < 60
/-- X(e, ..) as the raise reads it -/
def xmK (C : Addr) (sp : Sp) (Q : XK) : List V → Hp → Prop := fun vs H1 => vs.length ≤ 1000 ∧ ∀ a, H1 a = none → sp (.ref a :: vs) (upd H1 a (exo a C none))
  (fun v H2 => v = .non ∧ ∃ (d : Addr) (fs : List (Str × V)), H2 a = some (exo a C (some d)) ∧ H2 d = some (exd d fs) ∧ H1 d = none ∧ Q (.ref C) (some d) (upd (del H2 a) d (.xd fs))) (fun _ _ _ => False)
theorem s_rz {W : WX} {t : L2.St → Hp → XK → Prop} {D : Ends} {σ : L2.St} {H : Hp} (h : t σ H fun cls d H' => W cls d σ H') : tRz W t D σ H := h
theorem s_xm {C : Addr} {sp : Sp} {ta : TA} {σ : L2.St} {H : Hp} {Q : XK} (h : ta σ H (xmK C sp Q)) : tXm C sp ta σ H Q := h
theorem xm_xi {K : PySem.W.Frag} {C : Addr} {f : Str} {ok : V → Prop} {Q : XK} {H1 : Hp} {x : V} (hok : ok x) (k : ∀ (d : Addr) (H' : Hp), Same H1 H' → H1 d = none → H' d = some (.xd [(f, x)]) → Q (.ref C) (some d) H') : xmK C (sXI K C f ok) Q [x] H1 := by
  refine ⟨by simp, fun a ha => ⟨a, x, rfl, hok, upd_same, fun dx hdx na => ⟨rfl, dx, [(f, x)], upd_same, by rw [upd_ne na, upd_same], ?_, ?_⟩⟩⟩
  · rw [upd_ne na] at hdx
    exact hdx
  · have hdx' : H1 dx = none := by rw [upd_ne na] at hdx; exact hdx
    refine k dx _ (fun c u q => ?_) hdx' upd_same
    have n1 : c ≠ dx := ne_of_none q hdx'
    have n2 : c ≠ a := ne_of_none q ha
    rw [upd_ne n1]
    unfold del
    rw [if_neg n2, upd_ne n2, upd_ne n1, upd_ne n2]
    exact q
end KN
end
/-! part RC -/
section
set_option Elab.async false
set_option linter.all false
set_option maxRecDepth 100000
set_option maxHeartbeats 8000000
namespace KN
open PySem PySem.Spec PyProof.Rows L2

abbrev N_InvalidBraid_init : List Str := ["self", "what"]
abbrev P_InvalidBraid_init : List Str := ["self", "what"]
def t_InvalidBraid_init (K : PySem.W.Frag) (w : World) : TS :=
  (tSeq (tDrop (tVeI K (tCons (tVar 0) (tCons (tOp rAddS (tC (.str "invalid braid: ")) (tVar 1)) tNil))))
  (tOst K "what" (tVar 0) (tVar 1)))
abbrev N_InvalidLine_init : List Str := ["self", "line"]
abbrev P_InvalidLine_init : List Str := ["self", "line"]
def t_InvalidLine_init (K : PySem.W.Frag) (w : World) : TS :=
  (tSeq (tDrop (tVeI K (tCons (tVar 0) (tCons (tJoin [(tC (.str "invalid line ")), (tFmt (tVar 1))]) tNil))))
  (tOst K "line" (tVar 0) (tVar 1)))
abbrev N_TooMany_init : List Str := ["self", "what"]
abbrev P_TooMany_init : List Str := ["self", "what"]
def t_TooMany_init (K : PySem.W.Frag) (w : World) : TS :=
  (tSeq (tDrop (tVeI K (tCons (tVar 0) (tCons (tOp rAddS (tC (.str "too many ")) (tVar 1)) tNil))))
  (tOst K "what" (tVar 0) (tVar 1)))
abbrev N_integer_of : List Str := ["word", "digits"]
abbrev P_integer_of : List Str := ["word"]
def t_integer_of (K : PySem.W.Frag) (w : World) : TS :=
  (tSeq (tAsg (tVar 0) (gName 1))
  (tSeq (tIfS (tB (tM1 rStarts (tVar 0) (tC (.str "-"))))
  (tAsg (tSl rSlS (tVar 0) (tPart (tC (.int 1))) tNoPart) (gName 1))
  tNext)
  (tSeq (tIfS (tOr (tNot (tB (tM0 rIsAscii (tVar 1)))) (tOr (tNot (tB (tM0 rIsDigit (tVar 1)))) (tTest (tOp rGtI (tCB rLenStr (tCons (tVar 1) tNil)) (tC (.int 40))))))
  (tRet (tC .non))
  tNext)
  (tSeq (tIfS (tAnd (tB (tM1 rStarts (tVar 1) (tC (.str "0")))) (tTest (tOp rNe (tVar 0) (tC (.str "0")))))
  (tRet (tC .non))
  tNext)
  (tRet (tCB rIntS (tCons (tVar 0) tNil)))))))
abbrev N_integers_of : List Str := ["words", "found", "word"]
abbrev P_integers_of : List Str := ["words"]
def t_integers_of (K : PySem.W.Frag) (w : World) (sp_integer_of : Sp) : TS :=
  (tSeq (tAsg (tLc (iList K (tVar 0)) (gName 2) tYes (tCl sp_integer_of E0 (tCons (tVar 2) tNil)) [2]) (gName 1))
  (tSeq (tIfS (tTest (tOp (rIn K false) (tC .non) (tVar 1)))
  (tRet (tC .non))
  tNext)
  (tRet (tVar 1))))
abbrev N__law_deck : List Str := ["script", "cells", "each", "deck", "seed", "k", "cell", "rest", "at"]
abbrev P__law_deck : List Str := ["script", "cells", "each"]
def t__law_deck (K : PySem.W.Frag) (w : World) : TS :=
  (tSeq (tAsg (tLst tNil) (gName 3))
  (tSeq (tAsg (tOp rAddI (tC (.int 7)) (tCB (rLenSq K) (tCons (tVar 0) tNil))) (gName 4))
  (tSeq (tFor (iRng1 (tCons (tVar 1) tNil)) (gName 5)
  (tSeq (tAsg (tC (.int 0)) (gName 6))
  (tSeq (tIfS (tTest (tOp rLtI (tVar 5) (tCB (rLenSq K) (tCons (tVar 0) tNil))))
  (tAsg (tOp (rIxL K) (tVar 0) (tVar 5)) (gName 6))
  tNext)
  (tSeq (tAsg (tCB rAbs (tCons (tVar 6) tNil)) (gName 7))
  (tIfS (tTest (tOp rGeI (tVar 7) (tOp rPowI (tC (.int 10)) (tC (.int 30)))))
  (tFor (iRng1 (tCons (tVar 2) tNil)) (gName 8)
  (tSeq (tDrop (tBM K "list" rAppend (tVar 3) (tCons (tOp rModI (tCB rInt1 (tCons (tVar 7) tNil)) (tC (.int 1000003))) tNil)))
  (tAsg (tOp rDivI (tVar 7) (tC (.int 1000003))) (gName 7))))
  (tSeq (tAsg (tOp rModI (tCB rInt1 (tCons (tOp rAddI (tOp rAddI (tOp rAddI (tOp rMulI (tVar 4) (tC (.int 48271))) (tOp rMulI (tC (.int 2)) (tVar 7))) (tCB rInt1 (tCons (tOp rLtI (tVar 6) (tC (.int 0))) tNil))) (tVar 5)) tNil)) (tC (.int 2147483647))) (gName 4))
  (tFor (iRng1 (tCons (tVar 2) tNil)) (gName 8)
  (tSeq (tAsg (tOp rModI (tCB rInt1 (tCons (tOp rAddI (tOp rAddI (tOp rMulI (tVar 4) (tC (.int 69621))) (tVar 8)) (tC (.int 1))) tNil)) (tC (.int 2147483629))) (gName 4))
  (tDrop (tBM K "list" rAppend (tVar 3) (tCons (tOp rModI (tCB rInt1 (tCons (tOp rDivI (tVar 4) (tC (.int 5))) tNil)) (tC (.int 1000003))) tNil)))))))))))
  (tSeq (tDrop (tBM0 K "list" rReverse (tVar 3)))
  (tRet (tVar 3))))))
abbrev N__law_take : List Str := ["deck", "many"]
abbrev P__law_take : List Str := ["deck", "many"]
def t__law_take (K : PySem.W.Frag) (w : World) : TS :=
  (tSeq (tIfS (tTest (tOp rEq (tCB (rLenSq K) (tCons (tVar 0) tNil)) (tC (.int 0))))
  (tRet (tC (.int 0)))
  tNext)
  (tRet (tOp rModI (tCB rInt1 (tCons (tBM0 K "list" rPop (tVar 0)) tNil)) (tVar 1))))
abbrev N__law_plain : List Str := ["value", "item"]
abbrev P__law_plain : List Str := ["value"]
def t__law_plain (K : PySem.W.Frag) (w : World) (sp__law_plain : Sp) : TS :=
  (tSeq (tIfS (tB (tCB (rIsiT K) (tCons (tVar 0) (tCons (tTup (tCons (tC (.ty "tuple")) (tCons (tC (.ty "list")) tNil))) tNil))))
  (tRet (tOp rCat (tLst (tCons (tCB (rIsi K) (tCons (tVar 0) (tCons (tC (.ty "list")) tNil))) tNil)) (tLc (iSeq K (tVar 0)) (gName 1) tYes (tCl sp__law_plain E0 (tCons (tVar 1) tNil)) [1])))
  tNext)
  (tSeq (tIfS (tOr (tTest (tOp rIsNon (tVar 0) (tC .non))) (tB (tCB (rIsi K) (tCons (tVar 0) (tCons (tC (.ty "bool")) tNil)))))
  (tRet (tOp (rIxL K) (tLst (tCons (tC (.str "None")) (tCons (tC (.str "False")) (tCons (tC (.str "True")) tNil)))) (tOp rAddI (tCB rInt1 (tCons (tOp rNotNon (tVar 0) (tC .non)) tNil)) (tCB rInt1 (tCons (tOp rIsBN (tVar 0) (tC (.bl true))) tNil)))))
  tNext)
  (tSeq (tIfS (tB (tCB (rIsiT K) (tCons (tVar 0) (tCons (tTup (tCons (tC (.ty "int")) (tCons (tC (.ty "str")) tNil))) tNil))))
  (tRet (tLst (tCons (tCB (rIsi K) (tCons (tVar 0) (tCons (tC (.ty "str")) tNil))) (tCons (tVar 0) tNil))))
  tNext)
  (tRet (tC (.str "another"))))))
abbrev N__law_spoil : List Str := ["value", "item"]
abbrev P__law_spoil : List Str := ["value"]
def t__law_spoil (K : PySem.W.Frag) (w : World) (sp__law_spoil : Sp) : TS :=
  (tSeq (tIfS (tB (tCB (rIsiT K) (tCons (tVar 0) (tCons (tTup (tCons (tC (.ty "list")) (tCons (tC (.ty "tuple")) tNil))) tNil))))
  (tFor (iSeq K (tVar 0)) (gName 1)
  (tDrop (tCl sp__law_spoil E0 (tCons (tVar 1) tNil))))
  tNext)
  (tIfS (tB (tCB (rIsi K) (tCons (tVar 0) (tCons (tC (.ty "list")) tNil))))
  (tDrop (tBM K "list" rAppend (tVar 0) (tCons (tC (.int 77)) tNil)))
  tNext))
end KN
end
/-! part PC -/
section
set_option Elab.async false
set_option linter.all false
set_option maxRecDepth 100000
set_option maxHeartbeats 4000000
open PySem PySem.Spec PyProof.Rows L2 KN
local macro_rules | `(tactic| walk_at "st") => `(tactic| first
  | (with_reducible refine s_seq ?_) | (with_reducible refine s_asg ?_) | (with_reducible refine s_name ?_) | (with_reducible refine s_drop ?_) | (with_reducible refine s_ret ?_) | (with_reducible refine s_retN ?_)
  | (with_reducible refine s_next ?_) | (with_reducible refine s_brk ?_) | (with_reducible refine s_ct ?_) | (with_reducible refine s_if ?_) | ((with_reducible refine' s_var ?h ?_); (case h => rfl)) | (with_reducible refine s_c ?_)
  | (with_reducible refine s_op ?_) | (with_reducible refine s_rI0 ?_) | ((with_reducible refine s_rI ?h ?_); (case h => first | assumption | decide | (show (0 : Int) < _; omega) | exact ⟨by decide, by decide, by decide⟩ | exact cmul_small (by omega) (by omega) (by omega) (by omega) | exact cdiv_small (by omega) (by omega))) | (with_reducible refine s_un ?_) | (with_reducible refine s_rU ?_)
  | (with_reducible refine s_addIB ?_) | ((with_reducible refine' s_eq ?h ?_); (case h => first | rfl | decide)) | ((with_reducible refine' s_ne ?h ?_); (case h => first | rfl | decide)) | (with_reducible refine s_isN ?_) | (with_reducible refine s_notN ?_) | (with_reducible refine s_test ?_) | (with_reducible refine s_tB ?_)
  | (with_reducible refine s_bl ?_) | (with_reducible refine s_not ?_) | (with_reducible refine s_and ?_) | (with_reducible refine s_or ?_) | (with_reducible refine s_andV ?_) | (with_reducible refine s_orV ?_) | (with_reducible refine s_notV ?_)
  | (with_reducible refine s_ifE ?_) | (with_reducible refine s_cb ?_) | (with_reducible refine s_cons ?_) | (with_reducible refine s_nil ?_) | (with_reducible refine s_cl ?_) | (with_reducible refine s_clS ?_) | (with_reducible refine s_mk ?_) | (with_reducible refine s_mt ?_)
  | (with_reducible refine s_lst ?_) | (with_reducible refine s_tup ?_) | (with_reducible refine s_sl ?_) | (with_reducible refine s_noP ?_) | (with_reducible refine s_part ?_) | (with_reducible refine s_intE ?_) | (with_reducible refine s_bm ?_) | (with_reducible refine s_bm0 ?_)
  | (with_reducible refine s_m0 ?_) | (with_reducible refine s_m1 ?_) | (with_reducible refine s_strE ?_) | (with_reducible refine s_starts ?_) | (with_reducible refine s_isascii ?_) | (with_reducible refine s_isdigit ?_) | (with_reducible refine s_fld ?_)
  | (with_reducible refine s_abs ?_) | (with_reducible refine s_int1 ?_) | (with_reducible refine s_int1b ?_) | (with_reducible refine s_min2 ?_) | (with_reducible refine s_max2 ?_) | (with_reducible refine s_chain ?_) | (with_reducible refine s_blP ?_) | (with_reducible refine s_blV ?_) | (with_reducible refine s_blN ?_) | (with_reducible refine s_blG ?_) | (with_reducible refine s_intG ?_)
  | ((with_reducible refine' s_aug ?h ?_); (case h => rfl)) | (with_reducible refine s_par ?_) | (with_reducible refine s_two ?_) | (with_reducible refine s_frz ?_) | (with_reducible refine s_dnew ?_) | (with_reducible refine s_for ?_) | (with_reducible refine s_lc ?_) | (with_reducible refine s_vei ?_) | (with_reducible refine s_ost ?_) | (with_reducible refine s_rz ?_) | (with_reducible refine s_xm ?_) | (with_reducible refine s_rng1 ?_) | (with_reducible refine s_rng2 ?_) | (with_reducible refine s_iList ?_) | (with_reducible refine s_iTup ?_) | (with_reducible refine s_iSeq ?_) | (with_reducible refine s_iEnum ?_))
local macro_rules | `(tactic| walk_at "go") => `(tactic| repeat walk_at "st")
local macro_rules | `(tactic| walk_at "hp") => `(tactic| first
  | assumption
  | exact upd_same
  | (refine (upd_ne ?n).trans ?_; (case n => first | assumption | (apply Ne.symm; assumption) | exact ne_of_none (by walk_at "hp") (by assumption) | exact (ne_of_none (by walk_at "hp") (by assumption)).symm); walk_at "hp"))
/-! the promises of what all laws share, and their pure theorems -/
namespace KN
open PySem PySem.Spec PyProof.Rows L2

/-! ### _law_deck -/
def S__law_deck (K : PySem.W.Frag) (w : World) : Sp := fun vs H Q _ => ∃ (a : Addr) (ns : List Int) (c e : Nat), vs = [.ref a, .int (c : Int), .int (e : Int)] ∧ SqL K H a (ns.map V.int) ∧ ns.length ≤ 63 ∧ c ≤ 60 ∧ e ≤ 20 ∧
  ∀ (d : Addr) (xs : List Int) (H' : Hp), Same H H' → H d = none → H' d = some (.lst (xs.map V.int)) → xs.length ≤ 1200 → Q (.ref d) H'
theorem len__law_deck {K : PySem.W.Frag} {w : World} (vs : List V) (H : Hp) (Q : VK) (E : XK) (h : S__law_deck K w vs H Q E) : vs.length = P__law_deck.length := by
  obtain ⟨_, _, _, _, rfl, _⟩ := h
  rfl

/-- one cell of the deck -/
theorem deck_turn {K : PySem.W.Frag} {Q : VK} {H H2 : Hp} {a d : Addr} {c e i : Nat} {z seed : Int} {at' re : Option V} {xs : List Int} (he : (i + 1) * e ≤ 1200 ∧ e ≤ 20) (hi : i < 60) (hd : H d = none) (s2 : Same H H2) (h2 : H2 d = some (.lst (xs.map V.int))) (hl : xs.length ≤ i * e) (hs0 : 0 ≤ seed) (hs1 : seed < 2 ^ 40) :
    (tSeq (tAsg (tCB rAbs (tCons (tVar 6) tNil)) (gName 7))
        (tIfS (tTest (tOp rGeI (tVar 7) (tOp rPowI (tC (.int 10)) (tC (.int 30)))))
        (tFor (iRng1 (tCons (tVar 2) tNil)) (gName 8)
        (tSeq (tDrop (tBM K "list" rAppend (tVar 3) (tCons (tOp rModI (tCB rInt1 (tCons (tVar 7) tNil)) (tC (.int 1000003))) tNil)))
        (tAsg (tOp rDivI (tVar 7) (tC (.int 1000003))) (gName 7))))
        (tSeq (tAsg (tOp rModI (tCB rInt1 (tCons (tOp rAddI (tOp rAddI (tOp rAddI (tOp rMulI (tVar 4) (tC (.int 48271))) (tOp rMulI (tC (.int 2)) (tVar 7))) (tCB rInt1 (tCons (tOp rLtI (tVar 6) (tC (.int 0))) tNil))) (tVar 5)) tNil)) (tC (.int 2147483647))) (gName 4))
        (tFor (iRng1 (tCons (tVar 2) tNil)) (gName 8)
        (tSeq (tAsg (tOp rModI (tCB rInt1 (tCons (tOp rAddI (tOp rAddI (tOp rMulI (tVar 4) (tC (.int 69621))) (tVar 8)) (tC (.int 1))) tNil)) (tC (.int 2147483629))) (gName 4))
        (tDrop (tBM K "list" rAppend (tVar 3) (tCons (tOp rModI (tCB rInt1 (tCons (tOp rDivI (tVar 4) (tC (.int 5))) tNil)) (tC (.int 1000003))) tNil))))))))
        { nx := fun σ H2 => ∃ (xs : List Int) (seed : Int) (kk ce re at' : Option V), σ = [some (.ref a), some (.int c), some (.int e), some (.ref d), some (.int seed), kk, ce, re, at'] ∧ 0 ≤ seed ∧ seed < 2 ^ 40 ∧ Same H H2 ∧ H2 d = some (.lst (xs.map V.int)) ∧ xs.length ≤ (i + 1) * e,
          rt := Q, bk := Bk, ct := fun σ H2 => ∃ (xs : List Int) (seed : Int) (kk ce re at' : Option V), σ = [some (.ref a), some (.int c), some (.int e), some (.ref d), some (.int seed), kk, ce, re, at'] ∧ 0 ≤ seed ∧ seed < 2 ^ 40 ∧ Same H H2 ∧ H2 d = some (.lst (xs.map V.int)) ∧ xs.length ≤ (i + 1) * e }
        [some (.ref a), some (.int c), some (.int e), some (.ref d), some (.int seed), some (.int (0 + (i : Int))), some (.int z), re, at'] H2 := by
  have ee : (i + 1) * e = i * e + e := Nat.succ_mul i e
  walk_at "go"
  generalize hr : (if z < 0 then -z else z) = rest
  have hr0 : 0 ≤ rest := by rw [← hr]; split <;> omega
  refine ite_dec (fun hb => ?_) (fun hb => ?_)
  · walk_at "go"
    refine ⟨e, rfl, by omega, by omega, ?_⟩
    rw [Int.toNat_natCast]
    refine f_range (lo := 0) (n := e) (fun j σ H3 => ∃ (ys : List Int) (r a8 : Option V) (q : Int), σ = [some (.ref a), some (.int c), some (.int e), some (.ref d), some (.int seed), some (.int (0 + (i : Int))), some (.int z), some (.int q), a8] ∧ Same H H3 ∧ H3 d = some (.lst (ys.map V.int)) ∧ ys.length ≤ i * e + j)
      ⟨xs, none, at', rest, rfl, s2, h2, by omega⟩ ?_ ?_
    · rintro j σ H3 hj ⟨ys, r, a8, q, rfl, s3, h3, hl3⟩
      walk_at "go"
      refine ⟨.inl ⟨rfl, _, SqL.of h3⟩, ?_⟩
      walk_at "go"
      refine ⟨d, ys.map V.int, _, rfl, rfl, h3, sz_lt (by rw [List.length_map]; omega), ?_⟩
      walk_at "go"
      exact ⟨ys ++ [q % 1000003], none, _, q / 1000003, rfl, s3.mut hd, by rw [upd_same, List.map_append]; rfl, by simp; omega⟩
    · rintro σ H3 ⟨ys, r, a8, q, rfl, s3, h3, hl3⟩
      exact ⟨ys, seed, _, _, _, _, rfl, hs0, hs1, s3, h3, by omega⟩
  · have hb' : rest < 10 ^ 30 := by
      have : ¬ ((10 : Int) ^ (30 : Int).toNat ≤ rest) := hb
      have e30 : (30 : Int).toNat = 30 := rfl
      rw [e30] at this
      omega
    walk_at "go"
    generalize hsd : (_ % 2147483647 : Int) = sd
    have g0 : 0 ≤ sd ∧ sd < 2147483647 := by rw [← hsd]; exact ⟨Int.emod_nonneg _ (by decide), Int.emod_lt_of_pos _ (by decide)⟩
    refine ⟨e, rfl, by omega, by omega, ?_⟩
    rw [Int.toNat_natCast]
    refine f_range (lo := 0) (n := e) (fun j σ H3 => ∃ (ys : List Int) (a8 : Option V) (q : Int), σ = [some (.ref a), some (.int c), some (.int e), some (.ref d), some (.int q), some (.int (0 + (i : Int))), some (.int z), some (.int rest), a8] ∧ 0 ≤ q ∧ q < 2147483647 ∧ Same H H3 ∧ H3 d = some (.lst (ys.map V.int)) ∧ ys.length ≤ i * e + j)
      ⟨xs, at', sd, rfl, g0.1, g0.2, s2, h2, by omega⟩ ?_ ?_
    · rintro j σ H3 hj ⟨ys, a8, q, rfl, q0, q1, s3, h3, hl3⟩
      walk_at "go"
      generalize hq2 : (_ % 2147483629 : Int) = q2
      have g2 : 0 ≤ q2 ∧ q2 < 2147483629 := by rw [← hq2]; exact ⟨Int.emod_nonneg _ (by decide), Int.emod_lt_of_pos _ (by decide)⟩
      refine ⟨.inl ⟨rfl, _, SqL.of h3⟩, ?_⟩
      walk_at "go"
      refine ⟨d, ys.map V.int, _, rfl, rfl, h3, sz_lt (by rw [List.length_map]; omega), ?_⟩
      exact ⟨ys ++ [q2 / 5 % 1000003], _, q2, rfl, g2.1, by omega, s3.mut hd, by rw [upd_same, List.map_append]; rfl, by simp; omega⟩
    · rintro σ H3 ⟨ys, a8, q, rfl, q0, q1, s3, h3, hl3⟩
      exact ⟨ys, q, _, _, _, _, rfl, q0, by omega, s3, h3, by omega⟩
theorem pure__law_deck {K : PySem.W.Frag} {w : World} {vs : List V} {H : Hp} {Q : VK} {E : XK} (h : S__law_deck K w vs H Q E) : t__law_deck K w { nx := fun _ H' => Q .non H', rt := Q } (start N__law_deck vs) H := by
  obtain ⟨a, ns, c, e, rfl, hS, hn, hc, he, k⟩ := h
  show t__law_deck K w _ [some (.ref a), some (.int c), some (.int e), none, none, none, none, none, none] H
  unfold t__law_deck
  walk_at "go"
  refine ⟨by decide, fun d hd => ?_⟩
  have sd : Same H (upd H d (.lst [])) := same_new hd
  walk_at "go"
  refine ⟨a, ns.map V.int, rfl, .inl (sd.seq hS), ?_⟩
  walk_at "go"
  refine ⟨c, rfl, by omega, by omega, ?_⟩
  rw [Int.toNat_natCast]
  refine f_range (lo := 0) (n := c) (fun i σ H2 => ∃ (xs : List Int) (seed : Int) (kk ce re at' : Option V), σ = [some (.ref a), some (.int c), some (.int e), some (.ref d), some (.int seed), kk, ce, re, at'] ∧ 0 ≤ seed ∧ seed < 2 ^ 40 ∧ Same H H2 ∧ H2 d = some (.lst (xs.map V.int)) ∧ xs.length ≤ i * e)
    ⟨[], _, none, none, none, none, rfl, by omega, by simp; omega, sd, upd_same, by simp⟩ ?_ ?_
  · rintro i σ H2 hi ⟨xs, seed, kk, ce, re, at', rfl, hs0, hs1, s2, h2, hl⟩
    have hie : i * e ≤ 60 * 20 := Nat.mul_le_mul (by omega) he
    have hie2 : (i + 1) * e ≤ 60 * 20 := Nat.mul_le_mul (by omega) he
    walk_at "go"
    refine ⟨a, ns.map V.int, rfl, .inl (s2.seq hS), ?_⟩
    walk_at "go"
    refine ite_dec (fun hlt => ?_) (fun hlt => ?_)
    · walk_at "go"
      rw [List.length_map] at hlt
      have hlt' : i < ns.length := by omega
      refine ⟨a, ns.map V.int, 0 + (i : Int), V.int (ns[i]'hlt'), rfl, rfl, s2.seq hS, at_of (j := i) (by omega) (by rw [List.getElem?_map, List.getElem?_eq_getElem hlt']; rfl), ?_⟩
      with_reducible refine s_name ?_
      exact deck_turn (K := K) (Q := Q) (a := a) (d := d) (c := c) (e := e) (i := i) (at' := at') (re := re) (seed := seed) ⟨hie2, he⟩ (by omega) hd s2 h2 hl hs0 hs1
    · with_reducible refine s_next ?_
      exact deck_turn (K := K) (Q := Q) (a := a) (d := d) (c := c) (e := e) (i := i) (at' := at') (re := re) (seed := seed) ⟨hie2, he⟩ (by omega) hd s2 h2 hl hs0 hs1
  · rintro σ H2 ⟨xs, seed, kk, ce, re, at', rfl, hs0, hs1, s2, h2, hl⟩
    have hie : c * e ≤ 60 * 20 := Nat.mul_le_mul (by omega) he
    walk_at "go"
    refine ⟨.inl ⟨rfl, _, SqL.of h2⟩, d, xs.map V.int, rfl, rfl, h2, ?_⟩
    walk_at "go"
    exact k d xs.reverse _ (s2.mut hd) hd (by rw [upd_same, List.map_reverse]) (by simp; omega)
end KN
end
/-! part PD -/
section
set_option Elab.async false
set_option linter.all false
set_option maxRecDepth 100000
set_option maxHeartbeats 4000000
open PySem PySem.Spec PyProof.Rows L2 KN
local macro_rules | `(tactic| walk_at "st") => `(tactic| first
  | (with_reducible refine s_seq ?_) | (with_reducible refine s_asg ?_) | (with_reducible refine s_name ?_) | (with_reducible refine s_drop ?_) | (with_reducible refine s_ret ?_) | (with_reducible refine s_retN ?_)
  | (with_reducible refine s_next ?_) | (with_reducible refine s_brk ?_) | (with_reducible refine s_ct ?_) | (with_reducible refine s_if ?_) | ((with_reducible refine' s_var ?h ?_); (case h => rfl)) | (with_reducible refine s_c ?_)
  | (with_reducible refine s_op ?_) | (with_reducible refine s_rI0 ?_) | ((with_reducible refine s_rI ?h ?_); (case h => first | assumption | decide | (show (0 : Int) < _; omega) | exact ⟨by decide, by decide, by decide⟩ | exact cmul_small (by omega) (by omega) (by omega) (by omega) | exact cdiv_small (by omega) (by omega))) | (with_reducible refine s_un ?_) | (with_reducible refine s_rU ?_)
  | (with_reducible refine s_addIB ?_) | ((with_reducible refine' s_eq ?h ?_); (case h => first | rfl | decide)) | ((with_reducible refine' s_ne ?h ?_); (case h => first | rfl | decide)) | (with_reducible refine s_isN ?_) | (with_reducible refine s_notN ?_) | (with_reducible refine s_test ?_) | (with_reducible refine s_tB ?_)
  | (with_reducible refine s_bl ?_) | (with_reducible refine s_not ?_) | (with_reducible refine s_and ?_) | (with_reducible refine s_or ?_) | (with_reducible refine s_andV ?_) | (with_reducible refine s_orV ?_) | (with_reducible refine s_notV ?_)
  | (with_reducible refine s_ifE ?_) | (with_reducible refine s_cb ?_) | (with_reducible refine s_cons ?_) | (with_reducible refine s_nil ?_) | (with_reducible refine s_cl ?_) | (with_reducible refine s_clS ?_) | (with_reducible refine s_mk ?_) | (with_reducible refine s_mt ?_)
  | (with_reducible refine s_lst ?_) | (with_reducible refine s_tup ?_) | (with_reducible refine s_sl ?_) | (with_reducible refine s_noP ?_) | (with_reducible refine s_part ?_) | (with_reducible refine s_intE ?_) | (with_reducible refine s_bm ?_) | (with_reducible refine s_bm0 ?_)
  | (with_reducible refine s_m0 ?_) | (with_reducible refine s_m1 ?_) | (with_reducible refine s_strE ?_) | (with_reducible refine s_starts ?_) | (with_reducible refine s_isascii ?_) | (with_reducible refine s_isdigit ?_) | (with_reducible refine s_fld ?_)
  | (with_reducible refine s_abs ?_) | (with_reducible refine s_int1 ?_) | (with_reducible refine s_int1b ?_) | (with_reducible refine s_min2 ?_) | (with_reducible refine s_max2 ?_) | (with_reducible refine s_chain ?_) | (with_reducible refine s_blP ?_) | (with_reducible refine s_blV ?_) | (with_reducible refine s_blN ?_) | (with_reducible refine s_blG ?_) | (with_reducible refine s_intG ?_)
  | ((with_reducible refine' s_aug ?h ?_); (case h => rfl)) | (with_reducible refine s_par ?_) | (with_reducible refine s_two ?_) | (with_reducible refine s_frz ?_) | (with_reducible refine s_dnew ?_) | (with_reducible refine s_for ?_) | (with_reducible refine s_lc ?_) | (with_reducible refine s_vei ?_) | (with_reducible refine s_ost ?_) | (with_reducible refine s_rz ?_) | (with_reducible refine s_xm ?_) | (with_reducible refine s_rng1 ?_) | (with_reducible refine s_rng2 ?_) | (with_reducible refine s_iList ?_) | (with_reducible refine s_iTup ?_) | (with_reducible refine s_iSeq ?_) | (with_reducible refine s_iEnum ?_))
local macro_rules | `(tactic| walk_at "go") => `(tactic| repeat walk_at "st")
local macro_rules | `(tactic| walk_at "hp") => `(tactic| first
  | assumption
  | exact upd_same
  | (refine (upd_ne ?n).trans ?_; (case n => first | assumption | (apply Ne.symm; assumption) | exact ne_of_none (by walk_at "hp") (by assumption) | exact (ne_of_none (by walk_at "hp") (by assumption)).symm); walk_at "hp"))
namespace KN
open PySem PySem.Spec PyProof.Rows L2
/-! ### _law_take -/
def S__law_take (K : PySem.W.Frag) (w : World) : Sp := fun vs H Q _ => ∃ (d : Addr) (m : Int), vs = [.ref d, .int m] ∧ Deck H d ∧ 0 < m ∧ ∀ (t : Int) (H' : Hp), Go [d] H H' → 0 ≤ t → t < m → Q (.int t) H'
theorem len__law_take {K : PySem.W.Frag} {w : World} (vs : List V) (H : Hp) (Q : VK) (E : XK) (h : S__law_take K w vs H Q E) : vs.length = P__law_take.length := by
  obtain ⟨_, _, rfl, _⟩ := h
  rfl
theorem pure__law_take {K : PySem.W.Frag} {w : World} {vs : List V} {H : Hp} {Q : VK} {E : XK} (h : S__law_take K w vs H Q E) : t__law_take K w { nx := fun _ H' => Q .non H', rt := Q } (start N__law_take vs) H := by
  obtain ⟨d, m, rfl, hD, hm, k⟩ := h
  have hD0 := hD
  obtain ⟨xs, hd, hl⟩ := hD
  show t__law_take K w _ [some (.ref d), some (.int m)] H
  unfold t__law_take
  walk_at "go"
  refine ⟨d, xs.map V.int, rfl, .inl (SqL.of hd), ?_⟩
  walk_at "go"
  have dg : ∀ c ∈ [d], Deck H c := fun c m => by
    rw [List.mem_singleton] at m
    subst m
    exact hD0
  refine ite_dec (fun e => ?_) (fun e => ?_)
  · walk_at "go"
    exact k 0 H (Go.refl dg) (by omega) hm
  · walk_at "go"
    have hx : xs ≠ [] := fun z => e (by rw [z]; rfl)
    have hlt : xs.length - 1 < xs.length := by have := List.length_pos_iff.mpr hx; omega
    refine ⟨.inl ⟨rfl, _, SqL.of hd⟩, d, xs.map V.int, .int (xs[xs.length - 1]'hlt), rfl, rfl, hd, by rw [List.length_map, List.getElem?_map, List.getElem?_eq_getElem hlt]; rfl, ?_⟩
    walk_at "go"
    refine k _ _ ⟨(Kp.refl _ _).put (by simp), dg, fun c m => ?_⟩ (Int.emod_nonneg _ (by omega)) (Int.emod_lt_of_pos _ hm)
    rw [List.mem_singleton] at m
    subst m
    exact ⟨xs.dropLast, by rw [upd_same, List.map_dropLast], by simp; omega⟩

theorem xi_txt {K : PySem.W.Frag} {C : Addr} {p f : Str} {vs : List V} {H : Hp} {Q : VK} {E : XK} (hp : p.length ≤ 1000) (px : OexC K C ∧ PySem.W.findIn K (.ref C) f = some none) (h : sXI K C f okTxt vs H Q E) :
    (tSeq (tDrop (tVeI K (tCons (tVar 0) (tCons (tOp rAddS (tC (.str p)) (tVar 1)) tNil)))) (tOst K f (tVar 0) (tVar 1))) { nx := fun _ H' => Q .non H', rt := Q } (start ["self", "what"] vs) H := by
  obtain ⟨a, x, rfl, ⟨z, rfl, hz⟩, ea, k⟩ := h
  show (tSeq _ _) _ [some (.ref a), some (.str z)] H
  walk_at "go"
  refine s_addS (s1 := p) (s2 := z) (sz_of (by omega)) ?_
  walk_at "go"
  refine ⟨a, C, [.str (p ++ z)], rfl, by simp, px.1, ea, ?_⟩
  walk_at "go"
  exact ⟨a, C, rfl, px.1, px.2, .inl ⟨ea, k⟩⟩
end KN
end
/-! part PE -/
section
set_option Elab.async false
set_option linter.all false
set_option maxRecDepth 100000
set_option maxHeartbeats 4000000
open PySem PySem.Spec PyProof.Rows L2 KN
local macro_rules | `(tactic| walk_at "st") => `(tactic| first
  | (with_reducible refine s_seq ?_) | (with_reducible refine s_asg ?_) | (with_reducible refine s_name ?_) | (with_reducible refine s_drop ?_) | (with_reducible refine s_ret ?_) | (with_reducible refine s_retN ?_)
  | (with_reducible refine s_next ?_) | (with_reducible refine s_brk ?_) | (with_reducible refine s_ct ?_) | (with_reducible refine s_if ?_) | ((with_reducible refine' s_var ?h ?_); (case h => rfl)) | (with_reducible refine s_c ?_)
  | (with_reducible refine s_op ?_) | (with_reducible refine s_rI0 ?_) | ((with_reducible refine s_rI ?h ?_); (case h => first | assumption | decide | (show (0 : Int) < _; omega) | exact ⟨by decide, by decide, by decide⟩ | exact cmul_small (by omega) (by omega) (by omega) (by omega) | exact cdiv_small (by omega) (by omega))) | (with_reducible refine s_un ?_) | (with_reducible refine s_rU ?_)
  | (with_reducible refine s_addIB ?_) | ((with_reducible refine' s_eq ?h ?_); (case h => first | rfl | decide)) | ((with_reducible refine' s_ne ?h ?_); (case h => first | rfl | decide)) | (with_reducible refine s_isN ?_) | (with_reducible refine s_notN ?_) | (with_reducible refine s_test ?_) | (with_reducible refine s_tB ?_)
  | (with_reducible refine s_bl ?_) | (with_reducible refine s_not ?_) | (with_reducible refine s_and ?_) | (with_reducible refine s_or ?_) | (with_reducible refine s_andV ?_) | (with_reducible refine s_orV ?_) | (with_reducible refine s_notV ?_)
  | (with_reducible refine s_ifE ?_) | (with_reducible refine s_cb ?_) | (with_reducible refine s_cons ?_) | (with_reducible refine s_nil ?_) | (with_reducible refine s_cl ?_) | (with_reducible refine s_clS ?_) | (with_reducible refine s_mk ?_) | (with_reducible refine s_mt ?_)
  | (with_reducible refine s_lst ?_) | (with_reducible refine s_tup ?_) | (with_reducible refine s_sl ?_) | (with_reducible refine s_noP ?_) | (with_reducible refine s_part ?_) | (with_reducible refine s_intE ?_) | (with_reducible refine s_bm ?_) | (with_reducible refine s_bm0 ?_)
  | (with_reducible refine s_m0 ?_) | (with_reducible refine s_m1 ?_) | (with_reducible refine s_strE ?_) | (with_reducible refine s_starts ?_) | (with_reducible refine s_isascii ?_) | (with_reducible refine s_isdigit ?_) | (with_reducible refine s_fld ?_)
  | (with_reducible refine s_abs ?_) | (with_reducible refine s_int1 ?_) | (with_reducible refine s_int1b ?_) | (with_reducible refine s_min2 ?_) | (with_reducible refine s_max2 ?_) | (with_reducible refine s_chain ?_) | (with_reducible refine s_blP ?_) | (with_reducible refine s_blV ?_) | (with_reducible refine s_blN ?_) | (with_reducible refine s_blG ?_) | (with_reducible refine s_intG ?_)
  | ((with_reducible refine' s_aug ?h ?_); (case h => rfl)) | (with_reducible refine s_par ?_) | (with_reducible refine s_two ?_) | (with_reducible refine s_frz ?_) | (with_reducible refine s_dnew ?_) | (with_reducible refine s_for ?_) | (with_reducible refine s_lc ?_) | (with_reducible refine s_vei ?_) | (with_reducible refine s_ost ?_) | (with_reducible refine s_rz ?_) | (with_reducible refine s_xm ?_) | (with_reducible refine s_rng1 ?_) | (with_reducible refine s_rng2 ?_) | (with_reducible refine s_iList ?_) | (with_reducible refine s_iTup ?_) | (with_reducible refine s_iSeq ?_) | (with_reducible refine s_iEnum ?_))
local macro_rules | `(tactic| walk_at "go") => `(tactic| repeat walk_at "st")
local macro_rules | `(tactic| walk_at "hp") => `(tactic| first
  | assumption
  | exact upd_same
  | (refine (upd_ne ?n).trans ?_; (case n => first | assumption | (apply Ne.symm; assumption) | exact ne_of_none (by walk_at "hp") (by assumption) | exact (ne_of_none (by walk_at "hp") (by assumption)).symm); walk_at "hp"))
namespace KN
open PySem PySem.Spec PyProof.Rows L2
/-! ### _law_plain -/
mutual
def plainD : PyData → PyData
  | .none => .str "None"
  | .bool b => .str (if b then "True" else "False")
  | .int i => .list [.bool false, .int i]
  | .str x => .list [.bool true, .str x]
  | .list ds => .list (.bool true :: plainAll ds)
  | .tuple ds => .list (.bool false :: plainAll ds)
  | .dict _ => .none
def plainAll : List PyData → List PyData
  | [] => []
  | d :: ds => plainD d :: plainAll ds
end
theorem plainAll_map : ∀ ds : List PyData, plainAll ds = ds.map plainD
  | [] => rfl
  | d :: ds => by show plainD d :: plainAll ds = plainD d :: ds.map plainD; rw [plainAll_map ds]
/-- data of depth n at most, of no long lists, without dicts -/
def fits : Nat → PyData → Prop
  | _, .none => True
  | _, .bool _ => True
  | _, .int _ => True
  | _, .str _ => True
  | _, .dict _ => False
  | 0, .list _ => False
  | 0, .tuple _ => False
  | n + 1, .list ds => ds.length ≤ 50000 ∧ ∀ d ∈ ds, fits n d
  | n + 1, .tuple ds => ds.length ≤ 50000 ∧ ∀ d ∈ ds, fits n d
def SpPlain (K : PySem.W.Frag) (n : Nat) : Sp := fun vs H Q _ => ∃ (v : V) (d : PyData), vs = [v] ∧ Dp K H v d ∧ fits n d ∧ ∀ (v' : V) (H' : Hp), Same H H' → Dp K (fresh H H') v' (plainD d) → Q v' H'
theorem len_SpPlain {K : PySem.W.Frag} {n : Nat} (vs : List V) (H : Hp) (Q : VK) (E : XK) (h : SpPlain K n vs H Q E) : vs.length = P__law_plain.length := by
  obtain ⟨_, _, rfl, _⟩ := h
  rfl
theorem kit2 {K : PySem.W.Frag} {t a b : String} {r1 r2 : Bool} (h1 : kitB t a = some r1) (h2 : kitB t b = some r2) : PySem.W.kitAny K (.type t) [.type a, .type b] = some (r1 || r2) := by
  cases r1 with
  | true => exact kitAny_cons (kit_ty h1) (fun z => by cases z) (fun _ => rfl)
  | false => exact kitAny_cons (kit_ty h1) (fun _ => by
      cases r2 with
      | true => exact kitAny_cons (kit_ty h2) (fun z => by cases z) (fun _ => rfl)
      | false => exact kitAny_cons (kit_ty h2) (fun _ => kitAny_nil) (fun z => by cases z)) (fun z => by cases z)
section
variable {K : PySem.W.Frag} {H : Hp} {Q : VK} {v : V} {t a b : String}
theorem r_isi {r : Bool} (ty : TyX K H v (.type t)) (h : kitB t a = some r) (q : Q (.bl r) H) : rIsi K [v, .ty a] H Q := ⟨v, .ty a, _, _, r, rfl, .ty a, ty, kit_ty h, q⟩
theorem r_isiT {r1 r2 : Bool} {tp : Addr} (ty : TyX K H v (.type t)) (ht : H tp = some (.tup [.ty a, .ty b])) (h1 : kitB t a = some r1) (h2 : kitB t b = some r2) (q : Q (.bl (r1 || r2)) H) : rIsiT K [v, .ref tp] H Q :=
  ⟨v, tp, [.ty a, .ty b], _, [.type a, .type b], r1 || r2, rfl, ht, .cons (.ty a) (.cons (.ty b) .nil), ty, kit2 h1 h2, q⟩
theorem ty_l {p : Addr} {xs : List V} (h : SqL K H p xs) : TyX K H (.ref p) (.type "list") := by
  rcases h with (h | ⟨o, h⟩) | ⟨o, its, n, h, hc, _⟩
  · exact .base (.lst h)
  · exact .base (.frz h)
  · exact .kList h hc
theorem ty_t {p : Addr} {xs : List V} (h : SqT K H p xs) : TyX K H (.ref p) (.type "tuple") := by
  rcases h with (h | ⟨o, h⟩) | ⟨o, its, n, h, hc, _⟩
  · exact .base (.tup h)
  · exact .fTuple h
  · exact .kTuple h hc
end
theorem TyX.up {K : PySem.W.Frag} {H H' : Hp} {v : V} {t : String} (h : (∃ p xs, v = .ref p ∧ SqL K H p xs ∧ t = "list") ∨ (∃ p xs, v = .ref p ∧ SqT K H p xs ∧ t = "tuple")) (e : Same H H') : TyX K H' v (.type t) := by
  rcases h with ⟨p, xs, rfl, h, rfl⟩ | ⟨p, xs, rfl, h, rfl⟩
  · exact ty_l (e.seq h)
  · exact ty_t (Same.sqt e h)
theorem all_news {K : PySem.W.Frag} {H1 : Hp} {ds : List PyData} {f : PyData → PyData} {i : Nat} {ys : List V} {y : V} {d : PyData} {F : Hp} (hd : ds[i]? = some d) (h : DpAll K F ys ((ds.take i).map f)) (hy : Dp K F y (f d)) : DpAll K F (ys ++ [y]) ((ds.take (i + 1)).map f) := by
  have e : ds.take (i + 1) = ds.take i ++ [d] := by rw [List.take_add_one, hd]; rfl
  rw [e, List.map_append]
  exact h.append (.cons hy .nil)
theorem fits_get {n : Nat} {ds : List PyData} {i : Nat} {d : PyData} (h : ∀ d ∈ ds, fits n d) (e : ds[i]? = some d) : fits n d := h d (List.mem_of_getElem? e)
/-- the tail of both cases: [flag] + [..] -/
theorem plain_seq {K : PySem.W.Frag} {H : Hp} {Q : VK} {n : Nat} {p : Addr} {xs : List V} {ds : List PyData} {nm : String} {bb : Bool} {wit : Option V} (hs : (SqL K H p xs ∧ nm = "list" ∧ bb = true) ∨ (SqT K H p xs ∧ nm = "tuple" ∧ bb = false)) (ha : DpAll K H xs ds) (hz : ds.length ≤ 50000) (hf : ∀ d ∈ ds, fits n d)
    {H2 : Hp} (s2 : Same H H2) (k : ∀ (v' : V) (H' : Hp), Same H H' → Dp K (fresh H H') v' (.list (.bool bb :: plainAll ds)) → Q v' H') :
    (tRet (tOp rCat (tLst (tCons (tCB (rIsi K) (tCons (tVar 0) (tCons (tC (.ty "list")) tNil))) tNil)) (tLc (iSeq K (tVar 0)) (gName 1) tYes (tCl (SpPlain K n) E0 (tCons (tVar 1) tNil)) [1]))) { nx := fun _ H' => Q .non H', rt := Q } [some (.ref p), wit] H2 := by
  walk_at "go"
  have ty : TyX K H2 (.ref p) (.type nm) := by
    rcases hs with ⟨h, rfl, _⟩ | ⟨h, rfl, _⟩
    · exact ty_l (s2.seq h)
    · exact ty_t (Same.sqt s2 h)
  have kk : kitB nm "list" = some bb := by
    rcases hs with ⟨_, rfl, rfl⟩ | ⟨_, rfl, rfl⟩ <;> decide +kernel
  refine r_isi ty kk ?_
  walk_at "go"
  refine ⟨by simp [sizeLine_eq], fun q hq => ?_⟩
  walk_at "go"
  have s3 : Same H (upd H2 q (.lst [.bl bb])) := s2.new hq
  have main : ∀ (J : It), ((SqL K H p xs ∧ J = Itl K p) ∨ (SqT K H p xs ∧ J = Itt K p)) → lcK (gName 1) tYes (tCl (SpPlain K n) E0 (tCons (tVar 1) tNil)) [1] [some (.ref p), wit] (fun y H' => ∃ l b xs zs, V.ref q = .ref l ∧ y = .ref b ∧ H' l = some (.lst xs) ∧ H' b = some (.lst zs) ∧ xs.length + zs.length ≤ sizeLine ∧ ∀ p, H' p = none → Q (.ref p) (upd H' p (.lst (xs ++ zs)))) J (upd H2 q (.lst [.bl bb])) := by
    intro J hJ
    have turn : ∀ i x (ys : List V) D H' (N : VK), xs[i]? = some x → Same (upd H2 q (.lst [.bl bb])) H' → H' D = some (.lst ys) → (upd H2 q (.lst [.bl bb])) D = none → DpAll K (news (upd H2 q (.lst [.bl bb])) D H') ys ((ds.take i).map plainD) →
        (∀ y H4, Go [] H' H4 → DpAll K (news (upd H2 q (.lst [.bl bb])) D H4) (ys ++ [y]) ((ds.take (i + 1)).map plainD) → N y H4) → gName 1 x (wipe [some (.ref p), wit] [1]) H' fun σ2 H2 => wipe σ2 [1] = wipe [some (.ref p), wit] [1] ∧ tCl (SpPlain K n) E0 (tCons (tVar 1) tNil) σ2 H2 N := by
      intro i x ys D H' N hx gg hD hD0 hys kN
      obtain ⟨d, hd, dx⟩ := ha.get hx
      with_reducible refine s_name ?_
      refine ⟨rfl, ?_⟩
      walk_at "go"
      refine ⟨x, d, rfl, dx.mono (s3.trans gg), fits_get hf hd, fun v' H4 s4 dv => ?_⟩
      exact kN v' H4 (Go.ofSame s4) (all_news (H1 := H) hd (hys.mono (news_keep (Go.ofSame gg) (Go.ofSame s4))) (dv.mono (news_fresh (Go.ofSame gg) hD)))
    have fin : ∀ (ys : List V) D H', Same (upd H2 q (.lst [.bl bb])) H' → (upd H2 q (.lst [.bl bb])) D = none → H' D = some (.lst ys) → ys.length = xs.length → DpAll K (news (upd H2 q (.lst [.bl bb])) D H') ys ((ds.take xs.length).map plainD) →
        ∃ l b xs zs, V.ref q = .ref l ∧ V.ref D = .ref b ∧ H' l = some (.lst xs) ∧ H' b = some (.lst zs) ∧ xs.length + zs.length ≤ sizeLine ∧ ∀ p, H' p = none → Q (.ref p) (upd H' p (.lst (xs ++ zs))) := by
      intro ys D H' gg hD0 hD hy hys
      have el : xs.length = ds.length := ha.length
      refine ⟨q, D, [.bl bb], ys, rfl, rfl, gg _ _ upd_same, hD, ?_, fun r hr => ?_⟩
      · rw [sizeLine_eq]; simp only [List.length_cons, List.length_nil]; omega
      · refine k _ _ ((s3.trans gg).new hr) ?_
        have hr0 : H r = none := by
          cases e : H r with
          | none => rfl
          | some o => rw [(s3.trans gg) _ _ e] at hr; cases hr
        refine .lst (SqL.of (fresh_at hr0 upd_same)) ?_
        refine .cons (.bl bb) ?_
        have e1 : (ds.take xs.length).map plainD = plainAll ds := by rw [el, List.take_length, plainAll_map]
        rw [← e1]
        refine hys.mono (((news_sub _ _ _).trans ?_).trans (fresh_mut hr))
        exact fresh_fresh (S := []) (Go.ofSame s3)
    rcases hJ with ⟨h, rfl⟩ | ⟨h, rfl⟩
    · refine lc_goL (S := []) (xs := xs) (by simp) (by rw [hide_nil]; exact s3.seq h) (by rw [ha.length]; omega) (fun i ys F => DpAll K F ys ((ds.take i).map plainD)) (fun i ys F F' e h => h.mono e) (fun _ _ => by simpa using DpAll.nil) (fun i x ys D H' N hx _ gg hD hD0 hys kN => turn i x ys D H' N hx gg.same hD hD0 hys kN) (fun ys D H' gg hD0 hD hy hys => fin ys D H' gg.same hD0 hD hy hys)
    · refine lc_goT (S := []) (xs := xs) (by simp) (by rw [hide_nil]; exact Same.sqt s3 h) (by rw [ha.length]; omega) (fun i ys F => DpAll K F ys ((ds.take i).map plainD)) (fun i ys F F' e h => h.mono e) (fun _ _ => by simpa using DpAll.nil) (fun i x ys D H' N hx _ gg hD hD0 hys kN => turn i x ys D H' N hx gg.same hD hD0 hys kN) (fun ys D H' gg hD0 hD hy hys => fin ys D H' gg.same hD0 hD hy hys)
  rcases hs with ⟨h, rfl, rfl⟩ | ⟨h, rfl, rfl⟩
  · exact ⟨p, rfl, .inl ⟨⟨xs, s3.seq h⟩, main _ (.inl ⟨h, rfl⟩)⟩⟩
  · exact ⟨p, rfl, .inr ⟨⟨xs, Same.sqt s3 h⟩, main _ (.inr ⟨h, rfl⟩)⟩⟩
end KN
end
/-! part PF -/
section
set_option Elab.async false
set_option linter.all false
set_option maxRecDepth 100000
set_option maxHeartbeats 4000000
open PySem PySem.Spec PyProof.Rows L2 KN
local macro_rules | `(tactic| walk_at "st") => `(tactic| first
  | (with_reducible refine s_seq ?_) | (with_reducible refine s_asg ?_) | (with_reducible refine s_name ?_) | (with_reducible refine s_drop ?_) | (with_reducible refine s_ret ?_) | (with_reducible refine s_retN ?_)
  | (with_reducible refine s_next ?_) | (with_reducible refine s_brk ?_) | (with_reducible refine s_ct ?_) | (with_reducible refine s_if ?_) | ((with_reducible refine' s_var ?h ?_); (case h => rfl)) | (with_reducible refine s_c ?_)
  | (with_reducible refine s_op ?_) | (with_reducible refine s_rI0 ?_) | ((with_reducible refine s_rI ?h ?_); (case h => first | assumption | decide | (show (0 : Int) < _; omega) | exact ⟨by decide, by decide, by decide⟩ | exact cmul_small (by omega) (by omega) (by omega) (by omega) | exact cdiv_small (by omega) (by omega))) | (with_reducible refine s_un ?_) | (with_reducible refine s_rU ?_)
  | (with_reducible refine s_addIB ?_) | ((with_reducible refine' s_eq ?h ?_); (case h => first | rfl | decide)) | ((with_reducible refine' s_ne ?h ?_); (case h => first | rfl | decide)) | (with_reducible refine s_isN ?_) | (with_reducible refine s_notN ?_) | (with_reducible refine s_test ?_) | (with_reducible refine s_tB ?_)
  | (with_reducible refine s_bl ?_) | (with_reducible refine s_not ?_) | (with_reducible refine s_and ?_) | (with_reducible refine s_or ?_) | (with_reducible refine s_andV ?_) | (with_reducible refine s_orV ?_) | (with_reducible refine s_notV ?_)
  | (with_reducible refine s_ifE ?_) | (with_reducible refine s_cb ?_) | (with_reducible refine s_cons ?_) | (with_reducible refine s_nil ?_) | (with_reducible refine s_cl ?_) | (with_reducible refine s_clS ?_) | (with_reducible refine s_mk ?_) | (with_reducible refine s_mt ?_)
  | (with_reducible refine s_lst ?_) | (with_reducible refine s_tup ?_) | (with_reducible refine s_sl ?_) | (with_reducible refine s_noP ?_) | (with_reducible refine s_part ?_) | (with_reducible refine s_intE ?_) | (with_reducible refine s_bm ?_) | (with_reducible refine s_bm0 ?_)
  | (with_reducible refine s_m0 ?_) | (with_reducible refine s_m1 ?_) | (with_reducible refine s_strE ?_) | (with_reducible refine s_starts ?_) | (with_reducible refine s_isascii ?_) | (with_reducible refine s_isdigit ?_) | (with_reducible refine s_fld ?_)
  | (with_reducible refine s_abs ?_) | (with_reducible refine s_int1 ?_) | (with_reducible refine s_int1b ?_) | (with_reducible refine s_min2 ?_) | (with_reducible refine s_max2 ?_) | (with_reducible refine s_chain ?_) | (with_reducible refine s_blP ?_) | (with_reducible refine s_blV ?_) | (with_reducible refine s_blN ?_) | (with_reducible refine s_blG ?_) | (with_reducible refine s_intG ?_)
  | ((with_reducible refine' s_aug ?h ?_); (case h => rfl)) | (with_reducible refine s_par ?_) | (with_reducible refine s_two ?_) | (with_reducible refine s_frz ?_) | (with_reducible refine s_dnew ?_) | (with_reducible refine s_for ?_) | (with_reducible refine s_lc ?_) | (with_reducible refine s_vei ?_) | (with_reducible refine s_ost ?_) | (with_reducible refine s_rz ?_) | (with_reducible refine s_xm ?_) | (with_reducible refine s_rng1 ?_) | (with_reducible refine s_rng2 ?_) | (with_reducible refine s_iList ?_) | (with_reducible refine s_iTup ?_) | (with_reducible refine s_iSeq ?_) | (with_reducible refine s_iEnum ?_))
local macro_rules | `(tactic| walk_at "go") => `(tactic| repeat walk_at "st")
local macro_rules | `(tactic| walk_at "hp") => `(tactic| first
  | assumption
  | exact upd_same
  | (refine (upd_ne ?n).trans ?_; (case n => first | assumption | (apply Ne.symm; assumption) | exact ne_of_none (by walk_at "hp") (by assumption) | exact (ne_of_none (by walk_at "hp") (by assumption)).symm); walk_at "hp"))
namespace KN
open PySem PySem.Spec PyProof.Rows L2
def prevP (K : PySem.W.Frag) : Nat → Sp
  | 0 => fun _ _ _ _ => False
  | n + 1 => SpPlain K n
theorem pure_plain {K : PySem.W.Frag} {w : World} {n : Nat} {vs : List V} {H : Hp} {Q : VK} {E : XK} (h : SpPlain K n vs H Q E) : t__law_plain K w (prevP K n) { nx := fun _ H' => Q .non H', rt := Q } (start N__law_plain vs) H := by
  obtain ⟨v, d, rfl, dv, hf, k⟩ := h
  show t__law_plain K w (prevP K n) _ [some v, none] H
  unfold t__law_plain
  walk_at "go"
  refine ⟨by simp [sizeLine_eq], fun tp htp => ?_⟩
  walk_at "go"
  have s1 : Same H (upd H tp (.tup [.ty "tuple", .ty "list"])) := same_new htp
  have flat : ∀ {t : String} {v : V}, TyX K (upd H tp (.tup [.ty "tuple", .ty "list"])) v (.type t) → kitB t "tuple" = some false → kitB t "list" = some false → ∀ {Q' : VK}, Q' (.bl false) (upd H tp (.tup [.ty "tuple", .ty "list"])) → rIsiT K [v, .ref tp] (upd H tp (.tup [.ty "tuple", .ty "list"])) Q' := fun ty h1 h2 Q' q => r_isiT ty upd_same h1 h2 q
  have hp0 : (upd H tp (.tup [.ty "tuple", .ty "list"])) tp = some (.tup [.ty "tuple", .ty "list"]) := upd_same
  generalize (upd H tp (.tup [.ty "tuple", .ty "list"])) = H1 at *
  cases dv with
  | non =>
    refine flat (.base .non) (by decide +kernel) (by decide +kernel) ?_
    walk_at "go"
    refine iteF ?_
    walk_at "go"
    refine ite_dec (fun _ => ?_) (fun z => absurd rfl z)
    refine iteT ?_
    walk_at "go"
    refine ⟨by simp [sizeLine_eq], fun p hp => ?_⟩
    walk_at "go"
    refine ⟨true, rfl, .inl rfl, ?_⟩
    walk_at "go"
    exact ⟨p, _, _, .str "None", rfl, rfl, SqL.of upd_same, rfl, k _ _ (s1.new hp) (.str _)⟩
  | bl b =>
    refine flat (.base (.bl b)) (by decide +kernel) (by decide +kernel) ?_
    walk_at "go"
    refine iteF ?_
    walk_at "go"
    refine ite_dec (fun z => by cases z) (fun _ => ?_)
    walk_at "go"
    refine r_isi (t := "bool") (a := "bool") (r := true) (.base (.bl b)) (by decide +kernel) ?_
    walk_at "go"
    refine iteT ?_
    walk_at "go"
    refine ⟨by simp [sizeLine_eq], fun p hp => ?_⟩
    walk_at "go"
    refine ⟨true, rfl, .inr ⟨b, rfl⟩, ?_⟩
    walk_at "go"
    refine ⟨p, _, _, .str (if b then "True" else "False"), rfl, rfl, SqL.of upd_same, ?_, k _ _ (s1.new hp) (.str _)⟩
    cases b <;> rfl
  | int i =>
    refine flat (.base (.int i)) (by decide +kernel) (by decide +kernel) ?_
    walk_at "go"
    refine iteF ?_
    walk_at "go"
    refine ite_dec (fun z => by cases z) (fun _ => ?_)
    walk_at "go"
    refine r_isi (t := "int") (a := "bool") (r := false) (.base (.int i)) (by decide +kernel) ?_
    walk_at "go"
    refine iteF ?_
    walk_at "go"
    refine ⟨by simp [sizeLine_eq], fun p hp => ?_⟩
    walk_at "go"
    refine r_isiT (t := "int") (.base (.int i)) upd_same (r1 := true) (r2 := false) (by decide +kernel) (by decide +kernel) ?_
    walk_at "go"
    refine iteT ?_
    walk_at "go"
    refine r_isi (t := "int") (a := "str") (r := false) (.base (.int i)) (by decide +kernel) ?_
    walk_at "go"
    refine ⟨by simp [sizeLine_eq], fun q hq => ?_⟩
    have s3 := s1.new (o := .tup [.ty "int", .ty "str"]) hp
    exact k _ _ (s3.new hq) (.lst (SqL.of (fresh_at (Go.back (S := []) (Go.ofSame s3) hq) upd_same)) (.cons (.bl _) (.cons (.int _) .nil)))
  | str x =>
    refine flat (.base (.str x)) (by decide +kernel) (by decide +kernel) ?_
    walk_at "go"
    refine iteF ?_
    walk_at "go"
    refine ite_dec (fun z => by cases z) (fun _ => ?_)
    walk_at "go"
    refine r_isi (t := "str") (a := "bool") (r := false) (.base (.str x)) (by decide +kernel) ?_
    walk_at "go"
    refine iteF ?_
    walk_at "go"
    refine ⟨by simp [sizeLine_eq], fun p hp => ?_⟩
    walk_at "go"
    refine r_isiT (t := "str") (.base (.str x)) upd_same (r1 := false) (r2 := true) (by decide +kernel) (by decide +kernel) ?_
    walk_at "go"
    refine iteT ?_
    walk_at "go"
    refine r_isi (t := "str") (a := "str") (r := true) (.base (.str x)) (by decide +kernel) ?_
    walk_at "go"
    refine ⟨by simp [sizeLine_eq], fun q hq => ?_⟩
    have s3 := s1.new (o := .tup [.ty "int", .ty "str"]) hp
    exact k _ _ (s3.new hq) (.lst (SqL.of (fresh_at (Go.back (S := []) (Go.ofSame s3) hq) upd_same)) (.cons (.bl _) (.cons (.str _) .nil)))
  | @lst p xs ds hs ha => 
    refine r_isiT (ty_l (s1.seq hs)) hp0 (r1 := false) (r2 := true) (by decide +kernel) (by decide +kernel) ?_
    walk_at "go"
    cases n with
    | zero => exact hf.elim
    | succ n =>
      refine plain_seq (.inl ⟨hs, rfl, rfl⟩) ha hf.1 hf.2 s1 k
  | @tup p xs ds hs ha =>
    refine r_isiT (ty_t (Same.sqt s1 hs)) hp0 (r1 := true) (r2 := false) (by decide +kernel) (by decide +kernel) ?_
    walk_at "go"
    cases n with
    | zero => exact hf.elim
    | succ n =>
      refine plain_seq (.inr ⟨hs, rfl, rfl⟩) ha hf.1 hf.2 s1 k
end KN
end
/-! part PS -/
section
set_option Elab.async false
set_option linter.all false
set_option maxRecDepth 100000
set_option maxHeartbeats 4000000
open PySem PySem.Spec PyProof.Rows L2 KN
local macro_rules | `(tactic| walk_at "st") => `(tactic| first
  | (with_reducible refine s_seq ?_) | (with_reducible refine s_asg ?_) | (with_reducible refine s_name ?_) | (with_reducible refine s_drop ?_) | (with_reducible refine s_ret ?_) | (with_reducible refine s_retN ?_)
  | (with_reducible refine s_next ?_) | (with_reducible refine s_brk ?_) | (with_reducible refine s_ct ?_) | (with_reducible refine s_if ?_) | ((with_reducible refine' s_var ?h ?_); (case h => rfl)) | (with_reducible refine s_c ?_)
  | (with_reducible refine s_op ?_) | (with_reducible refine s_rI0 ?_) | ((with_reducible refine s_rI ?h ?_); (case h => first | assumption | decide | (show (0 : Int) < _; omega) | exact ⟨by decide, by decide, by decide⟩ | exact cmul_small (by omega) (by omega) (by omega) (by omega) | exact cdiv_small (by omega) (by omega))) | (with_reducible refine s_un ?_) | (with_reducible refine s_rU ?_)
  | (with_reducible refine s_addIB ?_) | ((with_reducible refine' s_eq ?h ?_); (case h => first | rfl | decide)) | ((with_reducible refine' s_ne ?h ?_); (case h => first | rfl | decide)) | (with_reducible refine s_isN ?_) | (with_reducible refine s_notN ?_) | (with_reducible refine s_test ?_) | (with_reducible refine s_tB ?_)
  | (with_reducible refine s_bl ?_) | (with_reducible refine s_not ?_) | (with_reducible refine s_and ?_) | (with_reducible refine s_or ?_) | (with_reducible refine s_andV ?_) | (with_reducible refine s_orV ?_) | (with_reducible refine s_notV ?_)
  | (with_reducible refine s_ifE ?_) | (with_reducible refine s_cb ?_) | (with_reducible refine s_cons ?_) | (with_reducible refine s_nil ?_) | (with_reducible refine s_cl ?_) | (with_reducible refine s_clS ?_) | (with_reducible refine s_mk ?_) | (with_reducible refine s_mt ?_)
  | (with_reducible refine s_lst ?_) | (with_reducible refine s_tup ?_) | (with_reducible refine s_sl ?_) | (with_reducible refine s_noP ?_) | (with_reducible refine s_part ?_) | (with_reducible refine s_intE ?_) | (with_reducible refine s_bm ?_) | (with_reducible refine s_bm0 ?_)
  | (with_reducible refine s_m0 ?_) | (with_reducible refine s_m1 ?_) | (with_reducible refine s_strE ?_) | (with_reducible refine s_starts ?_) | (with_reducible refine s_isascii ?_) | (with_reducible refine s_isdigit ?_) | (with_reducible refine s_fld ?_)
  | (with_reducible refine s_abs ?_) | (with_reducible refine s_int1 ?_) | (with_reducible refine s_int1b ?_) | (with_reducible refine s_min2 ?_) | (with_reducible refine s_max2 ?_) | (with_reducible refine s_chain ?_) | (with_reducible refine s_blP ?_) | (with_reducible refine s_blV ?_) | (with_reducible refine s_blN ?_) | (with_reducible refine s_blG ?_) | (with_reducible refine s_intG ?_)
  | ((with_reducible refine' s_aug ?h ?_); (case h => rfl)) | (with_reducible refine s_par ?_) | (with_reducible refine s_two ?_) | (with_reducible refine s_frz ?_) | (with_reducible refine s_dnew ?_) | (with_reducible refine s_for ?_) | (with_reducible refine s_lc ?_) | (with_reducible refine s_vei ?_) | (with_reducible refine s_ost ?_) | (with_reducible refine s_rz ?_) | (with_reducible refine s_xm ?_) | (with_reducible refine s_rng1 ?_) | (with_reducible refine s_rng2 ?_) | (with_reducible refine s_iList ?_) | (with_reducible refine s_iTup ?_) | (with_reducible refine s_iSeq ?_) | (with_reducible refine s_iEnum ?_))
local macro_rules | `(tactic| walk_at "go") => `(tactic| repeat walk_at "st")
local macro_rules | `(tactic| walk_at "hp") => `(tactic| first
  | assumption
  | exact upd_same
  | (refine (upd_ne ?n).trans ?_; (case n => first | assumption | (apply Ne.symm; assumption) | exact ne_of_none (by walk_at "hp") (by assumption) | exact (ne_of_none (by walk_at "hp") (by assumption)).symm); walk_at "hp"))
namespace KN
open PySem PySem.Spec PyProof.Rows L2
/-! ### _law_spoil -/
def flt1 : V → Prop
  | .non | .bl _ | .int _ | .str _ => True
  | _ => False
def Disj (a b : List Addr) : Prop := ∀ x ∈ a, x ∉ b
/-- data whose lists are its own (as: they), pairwise apart -/
def Sep (K : PySem.W.Frag) (H : Hp) : Nat → V → List Addr → Prop
  | 0, v, as => flt1 v ∧ as = []
  | n + 1, v, as => (flt1 v ∧ as = []) ∨
    (∃ (a : Addr) (xs : List V) (ass : List (List Addr)), v = .ref a ∧ H a = some (.lst xs) ∧ xs.length ≤ 50000 ∧ as = a :: ass.flatten ∧ a ∉ ass.flatten ∧ ass.length = xs.length ∧ (∀ (i : Nat) (x : V) (l : List Addr), xs[i]? = some x → ass[i]? = some l → Sep K H n x l) ∧ ass.Pairwise Disj) ∨
    (∃ (a : Addr) (xs : List V) (ass : List (List Addr)), v = .ref a ∧ SqT K H a xs ∧ as = ass.flatten ∧ ass.length = xs.length ∧ (∀ (i : Nat) (x : V) (l : List Addr), xs[i]? = some x → ass[i]? = some l → Sep K H n x l) ∧ ass.Pairwise Disj)
theorem Sep.lists {K : PySem.W.Frag} {H : Hp} : ∀ {n : Nat} {v : V} {as : List Addr}, Sep K H n v as → ∀ s ∈ as, ∃ xs, H s = some (.lst xs) ∧ xs.length ≤ 50000
  | 0, _, _, ⟨_, e⟩, s, m => by rw [e] at m; cases m
  | n + 1, _, _, h, s, m => by
    have key : ∀ {xs : List V} {ass : List (List Addr)}, ass.length = xs.length → (∀ (i : Nat) (x : V) (l : List Addr), xs[i]? = some x → ass[i]? = some l → Sep K H n x l) → s ∈ ass.flatten → ∃ xs, H s = some (.lst xs) ∧ xs.length ≤ 50000 := by
      intro xs ass hl hs m
      obtain ⟨l, hl2, m2⟩ := List.mem_flatten.mp m
      obtain ⟨i, hi, e⟩ := List.getElem_of_mem hl2
      have hx : i < xs.length := by omega
      exact (hs i xs[i] l (List.getElem?_eq_getElem hx) (by rw [List.getElem?_eq_getElem hi, e])).lists s m2
    rcases h with ⟨_, e⟩ | ⟨a, xs, ass, _, ha, hz, e, _, hl, hs, _⟩ | ⟨a, xs, ass, _, _, e, hl, hs, _⟩
    · rw [e] at m; cases m
    · rw [e] at m
      rcases List.mem_cons.mp m with rfl | m
      · exact ⟨xs, ha, hz⟩
      · exact key hl hs m
    · rw [e] at m
      exact key hl hs m
theorem Kp.sqt {K : PySem.W.Frag} {S : List Addr} {H H' : Hp} {a : Addr} {xs : List V} (e : Kp S H H') (hS : ∀ s ∈ S, ∃ xs, H s = some (.lst xs)) (h : SqT K H a xs) : SqT K H' a xs := by
  rcases h with (h | ⟨o, h⟩) | h
  · exact .inl (.inl (e _ _ h fun m => by obtain ⟨ys, q⟩ := hS _ m; rw [h] at q; cases q))
  · exact .inl (.inr ⟨o, e _ _ h fun m => by obtain ⟨ys, q⟩ := hS _ m; rw [h] at q; cases q⟩)
  · exact .inr h
theorem Sep.keep {K : PySem.W.Frag} {H H' : Hp} {S : List Addr} (e : Kp S H H') (hS : ∀ s ∈ S, ∃ xs, H s = some (.lst xs)) : ∀ {n : Nat} {v : V} {as : List Addr}, Disj as S → Sep K H n v as → Sep K H' n v as
  | 0, _, _, _, h => h
  | n + 1, _, _, d, h => by
    have key : ∀ {xs : List V} {ass : List (List Addr)}, (∀ x ∈ ass.flatten, x ∉ S) → (∀ (i : Nat) (x : V) (l : List Addr), xs[i]? = some x → ass[i]? = some l → Sep K H n x l) → ∀ (i : Nat) (x : V) (l : List Addr), xs[i]? = some x → ass[i]? = some l → Sep K H' n x l := by
      intro xs ass d2 hs i x l hx hl
      exact Sep.keep e hS (fun y m => d2 y (List.mem_flatten.mpr ⟨l, List.mem_of_getElem? hl, m⟩)) (hs i x l hx hl)
    rcases h with h | ⟨a, xs, ass, ev, ha, hz, ea, hn, hl, hs, hp⟩ | ⟨a, xs, ass, ev, ha, ea, hl, hs, hp⟩
    · exact .inl h
    · subst ea
      exact .inr (.inl ⟨a, xs, ass, ev, e _ _ ha (d a List.mem_cons_self), hz, rfl, hn, hl, key (fun x m => d x (List.mem_cons_of_mem _ m)) hs, hp⟩)
    · subst ea
      exact .inr (.inr ⟨a, xs, ass, ev, e.sqt hS ha, rfl, hl, key d hs, hp⟩)
def SpSpoil (K : PySem.W.Frag) (n : Nat) : Sp := fun vs H Q _ => ∃ (v : V) (as : List Addr), vs = [v] ∧ Sep K H n v as ∧ ∀ (H' : Hp), Kp as H H' → Q .non H'
theorem len_SpSpoil {K : PySem.W.Frag} {n : Nat} (vs : List V) (H : Hp) (Q : VK) (E : XK) (h : SpSpoil K n vs H Q E) : vs.length = P__law_spoil.length := by
  obtain ⟨_, _, rfl, _⟩ := h
  rfl
def prevS (K : PySem.W.Frag) : Nat → Sp
  | 0 => fun _ _ _ _ => False
  | n + 1 => SpSpoil K n
theorem take_flat_sub {ass : List (List Addr)} {i : Nat} {x : Addr} (h : x ∈ (ass.take i).flatten) : x ∈ ass.flatten := by
  obtain ⟨l, hl, m⟩ := List.mem_flatten.mp h
  exact List.mem_flatten.mpr ⟨l, List.mem_of_mem_take hl, m⟩
theorem disj_take {ass : List (List Addr)} (hp : ass.Pairwise Disj) {i : Nat} {l : List Addr} (hl : ass[i]? = some l) : Disj l (ass.take i).flatten := by
  intro x mx m
  obtain ⟨l', hl', m'⟩ := List.mem_flatten.mp m
  obtain ⟨j, hj, e⟩ := List.getElem_of_mem hl'
  rw [List.getElem_take] at e
  rw [List.length_take] at hj
  rw [List.getElem?_eq_some_iff] at hl
  obtain ⟨hi, e2⟩ := hl
  have := List.pairwise_iff_getElem.mp hp j i (by omega) hi (by omega)
  rw [e, e2] at this
  exact this x m' mx
/-- the loop over the items -/
theorem spoil_turn {K : PySem.W.Frag} {D : Ends} {n : Nat} {a : Addr} {xs : List V} {ass : List (List Addr)} {H H1 : Hp} {wit : Option V} {J : It} (hJ : (J = Itl K a ∧ H a = some (.lst xs) ∧ a ∉ ass.flatten) ∨ (J = Itt K a ∧ SqT K H a xs))
    (hl : ass.length = xs.length) (hs : ∀ (i : Nat) (x : V) (l : List Addr), xs[i]? = some x → ass[i]? = some l → Sep K H n x l) (hp : ass.Pairwise Disj) (s1 : Same H H1) (k : ∀ (H' : Hp) wit, Kp ass.flatten H H' → D.nx [some (.ref a), wit] H') :
    forK (gName 1) (tDrop (tCl (SpSpoil K n) E0 (tCons (tVar 1) tNil))) D [some (.ref a), wit] J H1 := by
  have hS : ∀ s ∈ ass.flatten, ∃ xs, H s = some (.lst xs) := by
    intro s m
    obtain ⟨l, hl2, m2⟩ := List.mem_flatten.mp m
    obtain ⟨i, hi, e⟩ := List.getElem_of_mem hl2
    have hx : i < xs.length := by omega
    obtain ⟨ys, h1, _⟩ := (hs i xs[i] l (List.getElem?_eq_getElem hx) (by rw [List.getElem?_eq_getElem hi, e])).lists s m2
    exact ⟨ys, h1⟩
  have turn : ∀ (i : Nat) (x : V) (σ : L2.St) (H' : Hp), xs[i]? = some x → (∃ wit, σ = [some (.ref a), wit] ∧ Kp (ass.take i).flatten H H') → gName 1 x σ H' fun σ2 H2 => (tDrop (tCl (SpSpoil K n) E0 (tCons (tVar 1) tNil))) { D with nx := fun σ H' => ∃ wit, σ = [some (.ref a), wit] ∧ Kp (ass.take (i + 1)).flatten H H', ct := fun σ H' => ∃ wit, σ = [some (.ref a), wit] ∧ Kp (ass.take (i + 1)).flatten H H', bk := D.nx } σ2 H2 := by
    rintro i x σ H' hx ⟨wit, rfl, kp⟩
    walk_at "go"
    have hi : i < ass.length := by
      rw [List.getElem?_eq_some_iff] at hx
      obtain ⟨hx, _⟩ := hx
      omega
    have hl2 : ass[i]? = some ass[i] := List.getElem?_eq_getElem hi
    refine ⟨x, ass[i], rfl, (hs i x _ hx hl2).keep kp (fun s m => hS s (take_flat_sub m)) (disj_take hp hl2), fun H4 k4 => ⟨some x, rfl, ?_⟩⟩
    have e1 : (ass.take (i + 1)).flatten = (ass.take i).flatten ++ ass[i] := by rw [List.take_add_one, hl2, List.flatten_append]; simp
    rw [e1]
    exact (kp.mono fun y m => List.mem_append_left _ m).trans (k4.mono fun y m => List.mem_append_right _ m)
  rcases hJ with ⟨rfl, ha, hn⟩ | ⟨rfl, ha⟩
  · refine f_list (xs := xs) (fun i σ H' => ∃ wit, σ = [some (.ref a), wit] ∧ Kp (ass.take i).flatten H H') ⟨wit, rfl, by simpa using Kp.of s1⟩ ?_ (fun i x σ H' hx p => turn i x σ H' hx p) ?_
    · rintro i σ H' hi ⟨w, _, kp⟩
      exact SqL.of (kp _ _ ha fun m => hn (take_flat_sub m))
    · rintro σ H' ⟨w, rfl, kp⟩
      refine k H' w ?_
      rw [← hl, List.take_length] at kp
      exact kp
  · refine f_tup (xs := xs) (fun i σ H' => ∃ wit, σ = [some (.ref a), wit] ∧ Kp (ass.take i).flatten H H') ⟨wit, rfl, by simpa using Kp.of s1⟩ ?_ (fun i x σ H' hx p => turn i x σ H' hx p) ?_
    · rintro i σ H' hi ⟨w, _, kp⟩
      exact kp.sqt (fun s m => hS s (take_flat_sub m)) ha
    · rintro σ H' ⟨w, rfl, kp⟩
      refine k H' w ?_
      rw [← hl, List.take_length] at kp
      exact kp
theorem flt_ty {K : PySem.W.Frag} {H : Hp} {v : V} (h : flt1 v) : ∃ t, TyX K H v (.type t) ∧ kitB t "list" = some false ∧ kitB t "tuple" = some false := by
  cases v with
  | non => exact ⟨"NoneType", .base .non, by decide +kernel, by decide +kernel⟩
  | bl b => exact ⟨"bool", .base (.bl b), by decide +kernel, by decide +kernel⟩
  | int i => exact ⟨"int", .base (.int i), by decide +kernel, by decide +kernel⟩
  | str x => exact ⟨"str", .base (.str x), by decide +kernel, by decide +kernel⟩
  | _ => exact h.elim
theorem pure_spoil {K : PySem.W.Frag} {w : World} {n : Nat} {vs : List V} {H : Hp} {Q : VK} {E : XK} (h : SpSpoil K n vs H Q E) : t__law_spoil K w (prevS K n) { nx := fun _ H' => Q .non H', rt := Q } (start N__law_spoil vs) H := by
  obtain ⟨v, as, rfl, sp, k⟩ := h
  show t__law_spoil K w (prevS K n) _ [some v, none] H
  unfold t__law_spoil
  walk_at "go"
  refine ⟨by simp [sizeLine_eq], fun tp htp => ?_⟩
  walk_at "go"
  have s1 : Same H (upd H tp (.tup [.ty "list", .ty "tuple"])) := same_new htp
  have hp0 : (upd H tp (.tup [.ty "list", .ty "tuple"])) tp = some (.tup [.ty "list", .ty "tuple"]) := upd_same
  have hk1 : ∀ S, Kp S H (upd H tp (.tup [.ty "list", .ty "tuple"])) := fun S => (Kp.refl S H).new htp
  generalize (upd H tp (.tup [.ty "list", .ty "tuple"])) = H1 at *
  have flat : flt1 v → as = [] → rIsiT K [v, .ref tp] H1 fun x H' => ∃ k, x = V.bl k ∧ if k = true then (tFor (iSeq K (tVar 0)) (gName 1) (tDrop (tCl (prevS K n) E0 (tCons (tVar 1) tNil)))) { nx := (tIfS (tB (tCB (rIsi K) (tCons (tVar 0) (tCons (tC (.ty "list")) tNil)))) (tDrop (tBM K "list" rAppend (tVar 0) (tCons (tC (.int 77)) tNil))) tNext) { nx := fun _ H' => Q .non H', rt := Q }, rt := Q } [some v, none] H' else tNext { nx := (tIfS (tB (tCB (rIsi K) (tCons (tVar 0) (tCons (tC (.ty "list")) tNil)))) (tDrop (tBM K "list" rAppend (tVar 0) (tCons (tC (.int 77)) tNil))) tNext) { nx := fun _ H' => Q .non H', rt := Q }, rt := Q } [some v, none] H' := by
    intro f e
    obtain ⟨t, ty, h1, h2⟩ := flt_ty (K := K) (H := H1) f
    refine r_isiT ty hp0 h1 h2 ?_
    walk_at "go"
    refine iteF ?_
    walk_at "go"
    refine r_isi ty h1 ?_
    walk_at "go"
    refine iteF ?_
    walk_at "go"
    exact k _ (hk1 as)
  cases n with
  | zero => exact flat sp.1 sp.2
  | succ n =>
    rcases sp with ⟨f, e⟩ | ⟨a, xs, ass, rfl, ha, hz, ea, hn, hl, hs, hp⟩ | ⟨a, xs, ass, rfl, ha, ea, hl, hs, hp⟩
    · exact flat f e
    · refine r_isiT (ty_l (SqL.of (s1 _ _ ha))) hp0 (r1 := true) (r2 := false) (by decide +kernel) (by decide +kernel) ?_
      walk_at "go"
      refine iteT ?_
      walk_at "go"
      refine ⟨a, rfl, .inl ⟨⟨xs, SqL.of (s1 _ _ ha)⟩, ?_⟩⟩
      refine spoil_turn (.inl ⟨rfl, ha, hn⟩) hl hs hp s1 fun H' w kp => ?_
      walk_at "go"
      have ha' : H' a = some (.lst xs) := kp _ _ ha hn
      refine r_isi (ty_l (SqL.of ha')) (r := true) (by decide +kernel) ?_
      walk_at "go"
      refine iteT ?_
      walk_at "go"
      refine ⟨.inl ⟨rfl, _, SqL.of ha'⟩, ?_⟩
      walk_at "go"
      refine ⟨a, xs, _, rfl, rfl, ha', sz_lt (by omega), ?_⟩
      subst ea
      exact k _ ((kp.mono fun y m => List.mem_cons_of_mem _ m).put List.mem_cons_self)
    · refine r_isiT (ty_t (Same.sqt s1 ha)) hp0 (r1 := false) (r2 := true) (by decide +kernel) (by decide +kernel) ?_
      walk_at "go"
      refine iteT ?_
      walk_at "go"
      refine ⟨a, rfl, .inr ⟨⟨xs, Same.sqt s1 ha⟩, ?_⟩⟩
      refine spoil_turn (.inr ⟨rfl, ha⟩) hl hs hp s1 fun H' w kp => ?_
      walk_at "go"
      have hS : ∀ s ∈ ass.flatten, ∃ xs, H s = some (.lst xs) := by
        intro s m
        obtain ⟨l, hl2, m2⟩ := List.mem_flatten.mp m
        obtain ⟨i, hi, e⟩ := List.getElem_of_mem hl2
        have hx : i < xs.length := by omega
        obtain ⟨ys, h1, _⟩ := (hs i xs[i] l (List.getElem?_eq_getElem hx) (by rw [List.getElem?_eq_getElem hi, e])).lists s m2
        exact ⟨ys, h1⟩
      refine r_isi (ty_t (kp.sqt hS ha)) (r := false) (by decide +kernel) ?_
      walk_at "go"
      refine iteF ?_
      walk_at "go"
      subst ea
      exact k _ kp
end KN
namespace KN
open PySem PySem.Spec PyProof.Rows L2
def S__law_plain (K : PySem.W.Frag) (w : World) : Sp := SpPlain K 39
def S__law_spoil (K : PySem.W.Frag) (w : World) : Sp := SpSpoil K 39
end KN
end
/-! part TX -/
section
set_option Elab.async false
set_option linter.all false
set_option maxRecDepth 100000
set_option maxHeartbeats 4000000
open PySem PySem.Spec PyProof.Rows L2 KN
local macro_rules | `(tactic| walk_at "st") => `(tactic| first
  | (with_reducible refine s_seq ?_) | (with_reducible refine s_asg ?_) | (with_reducible refine s_name ?_) | (with_reducible refine s_drop ?_) | (with_reducible refine s_ret ?_) | (with_reducible refine s_retN ?_)
  | (with_reducible refine s_next ?_) | (with_reducible refine s_brk ?_) | (with_reducible refine s_ct ?_) | (with_reducible refine s_if ?_) | ((with_reducible refine' s_var ?h ?_); (case h => rfl)) | (with_reducible refine s_c ?_)
  | (with_reducible refine s_op ?_) | (with_reducible refine s_rI0 ?_) | ((with_reducible refine s_rI ?h ?_); (case h => first | assumption | decide | (show (0 : Int) < _; omega) | exact ⟨by decide, by decide, by decide⟩ | exact cmul_small (by omega) (by omega) (by omega) (by omega) | exact cdiv_small (by omega) (by omega))) | (with_reducible refine s_un ?_) | (with_reducible refine s_rU ?_)
  | (with_reducible refine s_addIB ?_) | ((with_reducible refine' s_eq ?h ?_); (case h => first | rfl | decide)) | ((with_reducible refine' s_ne ?h ?_); (case h => first | rfl | decide)) | (with_reducible refine s_isN ?_) | (with_reducible refine s_notN ?_) | (with_reducible refine s_test ?_) | (with_reducible refine s_tB ?_)
  | (with_reducible refine s_bl ?_) | (with_reducible refine s_not ?_) | (with_reducible refine s_and ?_) | (with_reducible refine s_or ?_) | (with_reducible refine s_andV ?_) | (with_reducible refine s_orV ?_) | (with_reducible refine s_notV ?_)
  | (with_reducible refine s_ifE ?_) | (with_reducible refine s_cb ?_) | (with_reducible refine s_cons ?_) | (with_reducible refine s_nil ?_) | (with_reducible refine s_cl ?_) | (with_reducible refine s_clS ?_) | (with_reducible refine s_mk ?_) | (with_reducible refine s_mt ?_)
  | (with_reducible refine s_lst ?_) | (with_reducible refine s_tup ?_) | (with_reducible refine s_sl ?_) | (with_reducible refine s_noP ?_) | (with_reducible refine s_part ?_) | (with_reducible refine s_intE ?_) | (with_reducible refine s_bm ?_) | (with_reducible refine s_bm0 ?_)
  | (with_reducible refine s_m0 ?_) | (with_reducible refine s_m1 ?_) | (with_reducible refine s_strE ?_) | (with_reducible refine s_starts ?_) | (with_reducible refine s_isascii ?_) | (with_reducible refine s_isdigit ?_) | (with_reducible refine s_fld ?_)
  | (with_reducible refine s_abs ?_) | (with_reducible refine s_int1 ?_) | (with_reducible refine s_int1b ?_) | (with_reducible refine s_min2 ?_) | (with_reducible refine s_max2 ?_) | (with_reducible refine s_chain ?_) | (with_reducible refine s_blP ?_) | (with_reducible refine s_blV ?_) | (with_reducible refine s_blN ?_) | (with_reducible refine s_blG ?_) | (with_reducible refine s_intG ?_)
  | ((with_reducible refine' s_aug ?h ?_); (case h => rfl)) | (with_reducible refine s_par ?_) | (with_reducible refine s_two ?_) | (with_reducible refine s_frz ?_) | (with_reducible refine s_dnew ?_) | (with_reducible refine s_for ?_) | (with_reducible refine s_lc ?_) | (with_reducible refine s_vei ?_) | (with_reducible refine s_ost ?_) | (with_reducible refine s_rz ?_) | (with_reducible refine s_xm ?_) | (with_reducible refine s_rng1 ?_) | (with_reducible refine s_rng2 ?_) | (with_reducible refine s_iList ?_) | (with_reducible refine s_iTup ?_) | (with_reducible refine s_iSeq ?_) | (with_reducible refine s_iEnum ?_))
local macro_rules | `(tactic| walk_at "go") => `(tactic| repeat walk_at "st")
local macro_rules | `(tactic| walk_at "hp") => `(tactic| first
  | assumption
  | exact upd_same
  | (refine (upd_ne ?n).trans ?_; (case n => first | assumption | (apply Ne.symm; assumption) | exact ne_of_none (by walk_at "hp") (by assumption) | exact (ne_of_none (by walk_at "hp") (by assumption)).symm); walk_at "hp"))
/-! texts: ints written, words joined, ints read -/
namespace KN
open PySem PySem.Spec PyProof.Rows L2
abbrev tl (x : Str) : List Nat := TL.tl x
def dec (z : Int) : Str := Str.ofString (toString z)
def decL (z : Int) : List Nat := if z < 0 then 45 :: TL.numL z.natAbs else TL.numL z.natAbs
theorem tl_dec (z : Int) : tl (dec z) = decL z := by
  unfold dec decL
  cases z with
  | ofNat n =>
    rw [if_neg (by show ¬ ((n : Int) < 0); omega)]
    exact TL.tl_num n
  | negSucc n =>
    rw [if_pos (by omega)]
    show TL.tl (Str.ofString ("-" ++ toString (n + 1))) = _
    have e : TL.tl (Str.ofString (toString (n + 1))) = TL.numL (n + 1) := TL.tl_num (n + 1)
    rw [TL.tl_ofString, String.toList_append, List.map_append]
    rw [TL.tl_ofString] at e
    rw [e]
    rfl
theorem mem_decL {z : Int} {c : Nat} (h : c ∈ decL z) : c = 45 ∨ (48 ≤ c ∧ c ≤ 57) := by
  unfold decL at h
  split at h
  · rcases List.mem_cons.mp h with e | h
    · exact .inl e
    · exact .inr (TL.numL_digits _ c h)
  · exact .inr (TL.numL_digits _ c h)
theorem decL_ne (z : Int) : decL z ≠ [] := by
  unfold decL
  split
  · simp
  · exact TL.numL_ne _
theorem decL_free {z : Int} {c : Nat} (h : c ≠ 45) (h2 : c < 48 ∨ 57 < c) : c ∉ decL z := fun m => by
  have := mem_decL m
  omega
theorem decL_len {z : Int} {k : Nat} (hk : 0 < k) (h : z.natAbs < 10 ^ k) : (decL z).length ≤ k + 1 := by
  have := TL.numL_len hk h
  unfold decL
  split
  · simp only [List.length_cons]; omega
  · omega
/-- no leading nought -/
theorem numL_head : ∀ n : Nat, 0 < n → ∃ c r, TL.numL n = c :: r ∧ c ≠ 48 := by
  intro n
  induction n using Nat.strongRecOn with
  | _ n ih =>
    intro hn
    by_cases h : n < 10
    · exact ⟨48 + n, [], TL.numL_lt h, by omega⟩
    · obtain ⟨c, r, e, hc⟩ := ih (n / 10) (by omega) (by omega)
      exact ⟨c, r ++ [48 + n % 10], by rw [TL.numL_step (by omega), e]; rfl, hc⟩
/-- what integer_of reads -/
def digs (l : List Nat) : List Nat := match l with
  | 45 :: r => r
  | _ => l
def readL (l : List Nat) : Option Int :=
  if digs l = [] ∨ (∃ c ∈ digs l, ¬ (48 ≤ c ∧ c ≤ 57)) ∨ 40 < (digs l).length ∨ ((digs l).head? = some 48 ∧ l ≠ [48]) then none
  else some (if l.head? = some 45 then -(NumText.digitsVal (digs l) : Int) else (NumText.digitsVal (digs l) : Int))
def optI : Option Int → V
  | none => .non
  | some z => .int z
theorem digs_num (n : Nat) : digs (TL.numL n) = TL.numL n := by
  obtain ⟨c, r, e⟩ : ∃ c r, TL.numL n = c :: r := by
    cases h : TL.numL n with
    | nil => exact absurd h (TL.numL_ne n)
    | cons c r => exact ⟨c, r, rfl⟩
  have hc := TL.numL_digits n c (by rw [e]; exact List.mem_cons_self)
  rw [e]
  unfold digs
  split
  · rename_i heq
    have := (List.cons.inj heq).1
    omega
  · rfl
theorem readL_dec {z : Int} (h : z.natAbs < 10 ^ 40) : readL (decL z) = some z := by
  have hl := TL.numL_len (k := 40) (by decide) h
  have hd := TL.numL_digits z.natAbs
  have hn := TL.numL_ne z.natAbs
  by_cases hz : z < 0
  · have e : decL z = 45 :: TL.numL z.natAbs := by unfold decL; rw [if_pos hz]
    have ed : digs (decL z) = TL.numL z.natAbs := by rw [e]; rfl
    obtain ⟨c, r, ec, hc⟩ := numL_head z.natAbs (by omega)
    unfold readL
    rw [ed]
    rw [if_neg ?_]
    · rw [e, TL.numL_val]
      simp only [List.head?_cons, if_true]
      congr 1
      omega
    · rintro (h1 | ⟨c, m, h2⟩ | h3 | ⟨h4, _⟩)
      · exact hn h1
      · exact h2 (hd c m)
      · omega
      · rw [ec] at h4
        exact hc (by simpa using h4)
  · have e : decL z = TL.numL z.natAbs := by unfold decL; rw [if_neg hz]
    have ed : digs (decL z) = TL.numL z.natAbs := by rw [e, digs_num]
    unfold readL
    rw [ed, if_neg ?_]
    · rw [e, TL.numL_val]
      rw [if_neg]
      · congr 1
        omega
      · intro h
        have : (45 : Nat) ∈ TL.numL z.natAbs := List.mem_of_head? h
        have := hd 45 this
        omega
    · rintro (h1 | ⟨c, m, h2⟩ | h3 | ⟨h4, h5⟩)
      · exact hn h1
      · exact h2 (hd c m)
      · omega
      · by_cases h0 : z.natAbs = 0
        · rw [e, h0] at h5
          exact h5 (by rw [TL.numL_lt (by decide)])
        · obtain ⟨c, r, ec, hc⟩ := numL_head z.natAbs (by omega)
          rw [ec] at h4
          exact hc (by simpa using h4)
/-- a sign that no int has -/
theorem readL_bad {l : List Nat} {c : Nat} (m : c ∈ l) (h : c ≠ 45) (h2 : c < 48 ∨ 57 < c) : readL l = none := by
  unfold readL
  rw [if_pos]
  refine .inr (.inl ⟨c, ?_, by omega⟩)
  unfold digs
  split
  · rcases List.mem_cons.mp m with e | m
    · exact absurd e h
    · exact m
  · exact m
theorem tl_one (c : Nat) : tl ⟨#[c]⟩ = [c] := rfl
theorem startsC (x : Str) (c : Nat) : Txt.startswith x ⟨#[c]⟩ = decide ((tl x).head? = some c) := by
  unfold Txt.startswith Builtin.Str.subAt
  have e1 : x.length = (tl x).length := TL.len_tl x
  have e2 : (x.cps.extract 0 (0 + (⟨#[c]⟩ : Str).length) == #[c]) = decide (((tl x).take 1) = [c]) := by
    show (x.cps.extract 0 1 == #[c]) = _
    rw [Bool.eq_iff_iff, beq_iff_eq, decide_eq_true_iff]
    rw [← Array.toList_inj]
    show (x.cps.extract 0 1).toList = [c] ↔ _
    rw [Array.toList_extract, List.extract_eq_drop_take]
    rfl
  show (decide (0 + 1 ≤ x.length) && (x.cps.extract 0 (0 + (⟨#[c]⟩ : Str).length) == #[c])) = _
  rw [e2, e1]
  cases tl x with
  | nil => rfl
  | cons a r => simp
theorem isDigit_ascii : ∀ c : Nat, c < 128 → Unicode.isDigit c = decide (48 ≤ c ∧ c ≤ 57) := by
  have h : (List.range 128).all (fun c => Unicode.isDigit c == decide (48 ≤ c ∧ c ≤ 57)) = true := by decide +kernel
  intro c hc
  exact beq_iff_eq.mp (List.all_eq_true.mp h c (List.mem_range.mpr hc))
theorem all_tl (x : Str) (p : Nat → Bool) : x.cps.all p = (tl x).all p := by
  show x.cps.all p = x.cps.toList.all p
  rw [← Array.all_toList]
/-- not ascii or no digits -/
theorem digit_test (x : Str) : (!Txt.isascii x || !Txt.isdigit x) = decide (tl x = [] ∨ ∃ c ∈ tl x, ¬ (48 ≤ c ∧ c ≤ 57)) := by
  unfold Txt.isascii Txt.isdigit
  rw [all_tl, all_tl, TL.len_tl]
  rw [Bool.eq_iff_iff]
  simp only [Bool.or_eq_true, Bool.not_eq_true', Bool.and_eq_false_iff, decide_eq_true_iff, decide_eq_false_iff_not]
  constructor
  · rintro (h | h | h)
    · rw [List.all_eq_false] at h
      obtain ⟨c, m, hc⟩ := h
      exact .inr ⟨c, m, by simp at hc; omega⟩
    · exact .inl (by rw [← List.length_eq_zero_iff]; have : ¬ (0 < (tl x).length) := h; omega)
    · rw [List.all_eq_false] at h
      obtain ⟨c, m, hc⟩ := h
      refine .inr ⟨c, m, fun z => ?_⟩
      rw [isDigit_ascii c (by omega)] at hc
      exact hc (decide_eq_true z)
  · rintro (h | ⟨c, m, hc⟩)
    · have h' : TL.tl x = [] := h
      exact .inr (.inl (by rw [h']; simp))
    · by_cases h : c < 128
      · refine .inr (.inr ?_)
        rw [List.all_eq_false]
        refine ⟨c, m, ?_⟩
        rw [isDigit_ascii c h]
        simpa using hc
      · refine .inl ?_
        rw [List.all_eq_false]
        exact ⟨c, m, by simpa using h⟩
theorem tl_cut1 (x : Str) : tl (cutS x (some 1) none) = (tl x).drop 1 := by
  unfold cutS
  show ((x.cps.toList.drop (HT.sIx x.length 0 (some ((1 : Nat) : Int)))).take (HT.sIx x.length x.length none - HT.sIx x.length 0 (some ((1 : Nat) : Int)))) = x.cps.toList.drop 1
  rw [HT.sIx_none, HT.sIx_nat]
  have e : x.length = x.cps.toList.length := TL.len_tl x
  rw [e]
  cases x.cps.toList with
  | nil => rfl
  | cons a r =>
    have : min 1 (a :: r).length = 1 := by simp
    rw [this]
    simp
/-! ### integer_of -/
def S_integer_of (K : PySem.W.Frag) (w : World) : Sp := fun vs H Q _ => ∃ x : Str, vs = [.str x] ∧ x.length ≤ 100000 ∧ Q (optI (readL (tl x))) H
theorem len_integer_of {K : PySem.W.Frag} {w : World} (vs : List V) (H : Hp) (Q : VK) (E : XK) (h : S_integer_of K w vs H Q E) : vs.length = P_integer_of.length := by
  obtain ⟨_, rfl, _⟩ := h
  rfl
theorem allDigits_of {l : List Nat} (h : ¬ (l = [] ∨ ∃ c ∈ l, ¬ (48 ≤ c ∧ c ≤ 57))) : l ≠ [] ∧ NumText.AllDigits l := by
  refine ⟨fun e => h (.inl e), fun c m => Decidable.byContradiction fun z => h (.inr ⟨c, m, z⟩)⟩
theorem str_eq_iff {x : Str} {c : Nat} : (V.str x = V.str ⟨#[c]⟩) ↔ tl x = [c] := by
  constructor
  · intro h
    rw [V.str.inj h]
  · intro h
    rw [TL.ext_tl (x := x) (y := ⟨#[c]⟩) h]
/-- the rest, digits known -/
theorem integer_rest {K : PySem.W.Frag} {w : World} {H : Hp} {Q : VK} {x y : Str} (hx : x.length ≤ 100000) (hy : y.length ≤ 100000) (ey : tl y = digs (tl x)) (k : Q (optI (readL (tl x))) H) :
    (tSeq (tIfS (tOr (tNot (tB (tM0 rIsAscii (tVar 1)))) (tOr (tNot (tB (tM0 rIsDigit (tVar 1)))) (tTest (tOp rGtI (tCB rLenStr (tCons (tVar 1) tNil)) (tC (.int 40))))))
  (tRet (tC .non))
  tNext)
  (tSeq (tIfS (tAnd (tB (tM1 rStarts (tVar 1) (tC (.str "0")))) (tTest (tOp rNe (tVar 0) (tC (.str "0")))))
  (tRet (tC .non))
  tNext)
  (tRet (tCB rIntS (tCons (tVar 0) tNil))))) { nx := fun _ H' => Q .non H', rt := Q } [some (.str x), some (.str y)] H := by
  walk_at "go"
  have dt := digit_test y
  rw [ey] at dt
  have bad : (digs (tl x) = [] ∨ ∃ c ∈ digs (tl x), ¬ (48 ≤ c ∧ c ≤ 57)) → Q .non H := fun h => by
    have e : readL (tl x) = none := by
      unfold readL
      rw [if_pos]
      rcases h with h | h
      · exact .inl h
      · exact .inr (.inl h)
    rw [e] at k
    exact k
  refine ite_b (fun ha => ?_) (fun ha => ?_)
  · refine iteT ?_
    walk_at "go"
    refine bad ?_
    rw [ha, Bool.true_or] at dt
    exact of_decide_eq_true dt.symm
  · walk_at "go"
    refine ite_b (fun hd => ?_) (fun hd => ?_)
    · refine iteT ?_
      walk_at "go"
      refine bad ?_
      rw [hd, Bool.or_true] at dt
      exact of_decide_eq_true dt.symm
    · rw [ha, hd] at dt
      have ok := allDigits_of (of_decide_eq_false dt.symm)
      walk_at "go"
      refine ⟨y, rfl, sz_of hy, ?_⟩
      walk_at "go"
      have yl : y.length = (digs (tl x)).length := by rw [TL.len_tl]; exact congrArg List.length ey
      refine ite_dec (fun hl => ?_) (fun hl => ?_)
      · walk_at "go"
        have e : readL (tl x) = none := by
          unfold readL
          rw [if_pos]
          exact .inr (.inr (.inl (by omega)))
        rw [e] at k
        exact k
      · walk_at "go"
        have e0 : Txt.startswith y "0" = decide ((tl y).head? = some 48) := startsC y 48
        rw [e0]
        have fin : ¬ ((digs (tl x)).head? = some 48 ∧ tl x ≠ [48]) → (tRet (tCB rIntS (tCons (tVar 0) tNil))) { nx := fun _ H' => Q .non H', rt := Q } [some (.str x), some (.str y)] H := by
          intro hn
          walk_at "go"
          have ek : readL (tl x) = some (if (tl x).head? = some 45 then -(NumText.digitsVal (digs (tl x)) : Int) else (NumText.digitsVal (digs (tl x)) : Int)) := by
            unfold readL
            rw [if_neg]
            rintro (h1 | ⟨c, m, h2⟩ | h3 | h4)
            · exact ok.1 h1
            · exact h2 (ok.2 c m)
            · omega
            · exact hn h4
          have xl : x.length = (tl x).length := TL.len_tl x
          by_cases hm : (tl x).head? = some 45
          · obtain ⟨r, er⟩ : ∃ r, tl x = 45 :: r := by
              cases h : tl x with
              | nil => rw [h] at hm; cases hm
              | cons a r => rw [h] at hm; exact ⟨r, by rw [List.head?_cons] at hm; rw [Option.some.inj hm]⟩
            have ed : digs (tl x) = r := by rw [er]; rfl
            rw [ed] at ok yl ek
            have xs : x.length ≤ 640 := by
              rw [xl, er, List.length_cons]; omega
            refine ⟨x, _, rfl, PySem.intText_neg (x := x) er ok.2 ok.1 (by omega), xs, ?_⟩
            rw [ek, if_pos hm] at k
            exact k
          · have ed : digs (tl x) = tl x := by
              unfold digs
              split
              · rename_i r heq
                exfalso
                apply hm
                rw [heq]
                rfl
              · rfl
            rw [ed] at ok yl ek
            have xs : x.length ≤ 640 := by omega
            refine ⟨x, _, rfl, PySem.intText_digits (x := x) ok.2 ok.1 (by omega), xs, ?_⟩
            rw [ek, if_neg hm] at k
            exact k
        refine ite_dec (fun h0 => ?_) (fun h0 => ?_)
        · walk_at "go"
          rw [ey] at h0
          have q48 : (V.str x = V.str "0") ↔ tl x = [48] := str_eq_iff (c := 48)
          by_cases hw : tl x = [48]
          · have e1 : (!decide (V.str x = V.str "0")) = false := by
              rw [decide_eq_true (q48.mpr hw)]
              rfl
            refine ite_no e1 ?_
            walk_at "st"
            exact fin fun z => z.2 hw
          · have e1 : (!decide (V.str x = V.str "0")) = true := by
              rw [decide_eq_false (fun z => hw (q48.mp z))]
              rfl
            refine ite_yes e1 ?_
            walk_at "go"
            have e : readL (tl x) = none := by
              unfold readL
              rw [if_pos]
              exact .inr (.inr (.inr ⟨h0, hw⟩))
            rw [e] at k
            exact k
        · refine iteF ?_
          walk_at "st"
          rw [ey] at h0
          exact fin fun z => h0 z.1
theorem pure_integer_of {K : PySem.W.Frag} {w : World} {vs : List V} {H : Hp} {Q : VK} {E : XK} (h : S_integer_of K w vs H Q E) : t_integer_of K w { nx := fun _ H' => Q .non H', rt := Q } (start N_integer_of vs) H := by
  obtain ⟨x, rfl, hx, k⟩ := h
  show t_integer_of K w _ [some (.str x), none] H
  unfold t_integer_of
  walk_at "go"
  have e0 : Txt.startswith x "-" = decide ((tl x).head? = some 45) := startsC x 45
  rw [e0]
  refine ite_dec (fun h0 => ?_) (fun h0 => ?_)
  · walk_at "go"
    refine ⟨x, rfl, sz_of hx, ?_⟩
    with_reducible refine s_name ?_
    have hc : (cutS x (some 1) none).length ≤ 100000 := Nat.le_trans (cutS_length _ _ _) hx
    refine integer_rest (K := K) (w := w) hx hc ?_ k
    rw [tl_cut1]
    cases h : tl x with
    | nil => rw [h] at h0; cases h0
    | cons a r =>
      rw [h] at h0
      rw [List.head?_cons] at h0
      rw [Option.some.inj h0]
      rfl
  · with_reducible refine s_next ?_
    refine integer_rest (K := K) (w := w) hx hx ?_ k
    unfold digs
    split
    · rename_i r heq
      exfalso
      apply h0
      rw [heq]
      rfl
    · rfl
end KN
end
/-! part TY -/
section
set_option Elab.async false
set_option linter.all false
set_option maxRecDepth 100000
set_option maxHeartbeats 4000000
open PySem PySem.Spec PyProof.Rows L2 KN
local macro_rules | `(tactic| walk_at "st") => `(tactic| first
  | (with_reducible refine s_seq ?_) | (with_reducible refine s_asg ?_) | (with_reducible refine s_name ?_) | (with_reducible refine s_drop ?_) | (with_reducible refine s_ret ?_) | (with_reducible refine s_retN ?_)
  | (with_reducible refine s_next ?_) | (with_reducible refine s_brk ?_) | (with_reducible refine s_ct ?_) | (with_reducible refine s_if ?_) | ((with_reducible refine' s_var ?h ?_); (case h => rfl)) | (with_reducible refine s_c ?_)
  | (with_reducible refine s_op ?_) | (with_reducible refine s_rI0 ?_) | ((with_reducible refine s_rI ?h ?_); (case h => first | assumption | decide | (show (0 : Int) < _; omega) | exact ⟨by decide, by decide, by decide⟩ | exact cmul_small (by omega) (by omega) (by omega) (by omega) | exact cdiv_small (by omega) (by omega))) | (with_reducible refine s_un ?_) | (with_reducible refine s_rU ?_)
  | (with_reducible refine s_addIB ?_) | ((with_reducible refine' s_eq ?h ?_); (case h => first | rfl | decide)) | ((with_reducible refine' s_ne ?h ?_); (case h => first | rfl | decide)) | (with_reducible refine s_isN ?_) | (with_reducible refine s_notN ?_) | (with_reducible refine s_test ?_) | (with_reducible refine s_tB ?_)
  | (with_reducible refine s_bl ?_) | (with_reducible refine s_not ?_) | (with_reducible refine s_and ?_) | (with_reducible refine s_or ?_) | (with_reducible refine s_andV ?_) | (with_reducible refine s_orV ?_) | (with_reducible refine s_notV ?_)
  | (with_reducible refine s_ifE ?_) | (with_reducible refine s_cb ?_) | (with_reducible refine s_cons ?_) | (with_reducible refine s_nil ?_) | (with_reducible refine s_cl ?_) | (with_reducible refine s_clS ?_) | (with_reducible refine s_mk ?_) | (with_reducible refine s_mt ?_)
  | (with_reducible refine s_lst ?_) | (with_reducible refine s_tup ?_) | (with_reducible refine s_sl ?_) | (with_reducible refine s_noP ?_) | (with_reducible refine s_part ?_) | (with_reducible refine s_intE ?_) | (with_reducible refine s_bm ?_) | (with_reducible refine s_bm0 ?_)
  | (with_reducible refine s_m0 ?_) | (with_reducible refine s_m1 ?_) | (with_reducible refine s_strE ?_) | (with_reducible refine s_starts ?_) | (with_reducible refine s_isascii ?_) | (with_reducible refine s_isdigit ?_) | (with_reducible refine s_fld ?_)
  | (with_reducible refine s_abs ?_) | (with_reducible refine s_int1 ?_) | (with_reducible refine s_int1b ?_) | (with_reducible refine s_min2 ?_) | (with_reducible refine s_max2 ?_) | (with_reducible refine s_chain ?_) | (with_reducible refine s_blP ?_) | (with_reducible refine s_blV ?_) | (with_reducible refine s_blN ?_) | (with_reducible refine s_blG ?_) | (with_reducible refine s_intG ?_)
  | ((with_reducible refine' s_aug ?h ?_); (case h => rfl)) | (with_reducible refine s_par ?_) | (with_reducible refine s_two ?_) | (with_reducible refine s_frz ?_) | (with_reducible refine s_dnew ?_) | (with_reducible refine s_for ?_) | (with_reducible refine s_lc ?_) | (with_reducible refine s_vei ?_) | (with_reducible refine s_ost ?_) | (with_reducible refine s_rz ?_) | (with_reducible refine s_xm ?_) | (with_reducible refine s_rng1 ?_) | (with_reducible refine s_rng2 ?_) | (with_reducible refine s_iList ?_) | (with_reducible refine s_iTup ?_) | (with_reducible refine s_iSeq ?_) | (with_reducible refine s_iEnum ?_))
local macro_rules | `(tactic| walk_at "go") => `(tactic| repeat walk_at "st")
local macro_rules | `(tactic| walk_at "hp") => `(tactic| first
  | assumption
  | exact upd_same
  | (refine (upd_ne ?n).trans ?_; (case n => first | assumption | (apply Ne.symm; assumption) | exact ne_of_none (by walk_at "hp") (by assumption) | exact (ne_of_none (by walk_at "hp") (by assumption)).symm); walk_at "hp"))
/-! texts of words -/
namespace KN
open PySem PySem.Spec PyProof.Rows L2
theorem log2_small {z : Int} (h : z.natAbs < 10 ^ 40) : z.natAbs.log2 < 1920 := by
  by_cases h0 : z.natAbs = 0
  · rw [h0]; decide
  · exact (Nat.log2_lt h0).mpr (Nat.lt_of_lt_of_le h (Nat.le_trans (by decide : 10 ^ 40 ≤ 2 ^ 200) (Nat.pow_le_pow_right (by decide) (by decide))))
/-- a word: no blank, no strange sign, not long -/
def okW (w : Str) : Prop := w.length ≤ 100 ∧ ∀ c ∈ tl w, c ≠ 32 ∧ c < 256
def okWs (ws : List Str) : Prop := ∀ w ∈ ws, okW w
abbrev line (ws : List Str) : Str := Txt.join " " ws
theorem tl_line (ws : List Str) : tl (line ws) = TL.joinL [32] (ws.map tl) := by
  show TL.tl (Txt.join " " ws) = _
  rw [TL.join_eq, TL.tl_join]
  rfl
theorem mem_joinL {c : Nat} {S : List Nat} : ∀ {ps : List (List Nat)}, c ∈ TL.joinL S ps → c ∈ S ∨ ∃ p ∈ ps, c ∈ p
  | [], h => by cases h
  | [p], h => .inr ⟨p, List.mem_singleton.mpr rfl, h⟩
  | p :: q :: r, h => by
    rcases List.mem_append.mp (show c ∈ p ++ (S ++ TL.joinL S (q :: r)) from h) with h | h
    · exact .inr ⟨p, List.mem_cons_self, h⟩
    · rcases List.mem_append.mp h with h | h
      · exact .inl h
      · rcases mem_joinL h with h | ⟨x, m, h⟩
        · exact .inl h
        · exact .inr ⟨x, List.mem_cons_of_mem _ m, h⟩
theorem line_lt {ws : List Str} (h : okWs ws) : ∀ c ∈ tl (line ws), c < 256 := by
  intro c m
  rw [tl_line] at m
  rcases mem_joinL m with m | ⟨p, mp, m⟩
  · rw [List.mem_singleton.mp m]; decide
  · obtain ⟨w, mw, rfl⟩ := List.mem_map.mp mp
    exact ((h w mw).2 c m).2
theorem strOk_of {x : Str} (h : ∀ c ∈ tl x, c < 256) : PyData.strOk x = true := by
  unfold PyData.strOk
  rw [all_tl]
  exact List.all_eq_true.mpr fun c m => decide_eq_true (by have := h c m; omega)
theorem split_sp {ws : List Str} (hne : ws ≠ []) (h : okWs ws) : Txt.split (line ws) " " = ws :=
  TL.split_join (s := 32) (S := []) rfl (by decide +kernel) hne fun p m z => ((h p m).2 32 z).1 rfl
theorem sum_len {ws : List Str} (h : okWs ws) : (ws.map (·.length)).sum + ws.length * (" " : Str).length ≤ 101 * ws.length := by
  have e : (" " : Str).length = 1 := rfl
  rw [e]
  induction ws with
  | nil => simp
  | cons w r ih =>
    have h1 := (h w List.mem_cons_self).1
    have h2 := ih fun x m => h x (List.mem_cons_of_mem _ m)
    simp only [List.map_cons, List.sum_cons, List.length_cons]
    omega
theorem line_len {ws : List Str} (h : okWs ws) : (line ws).length ≤ 101 * ws.length := by
  have := StrLaws.join_length_le " " ws
  show (Txt.join " " ws).length ≤ _
  rw [TL.join_eq]
  exact Nat.le_trans this (sum_len h)
theorem line_append {us vs : List Str} (hu : us ≠ []) (hv : vs ≠ []) : line us ++ " " ++ line vs = line (us ++ vs) := by
  show Txt.join " " us ++ " " ++ Txt.join " " vs = Txt.join " " (us ++ vs)
  rw [TL.join_eq, TL.join_eq, TL.join_eq]
  induction us with
  | nil => exact absurd rfl hu
  | cons a r ih =>
    cases r with
    | nil =>
      cases vs with
      | nil => exact absurd rfl hv
      | cons b s => rfl
    | cons b s =>
      show (a ++ " " ++ Str.join " " (b :: s)) ++ " " ++ Str.join " " vs = a ++ " " ++ Str.join " " ((b :: s) ++ vs)
      rw [← ih (by simp)]
      apply TL.ext_tl
      simp only [TL.tl_append, List.append_assoc]
theorem okW_dec {z : Int} (h : z.natAbs < 10 ^ 40) : okW (dec z) := by
  constructor
  · have := decL_len (k := 40) (by decide) h
    have e : (dec z).length = (decL z).length := by rw [← tl_dec]; exact TL.len_tl _
    omega
  · intro c m
    rw [tl_dec] at m
    have := mem_decL m
    omega
theorem okW_by {w : Str} (h : (decide (w.length ≤ 100) && (tl w).all fun c => decide (c ≠ 32 ∧ c < 256)) = true) : okW w := by
  rw [Bool.and_eq_true, decide_eq_true_iff, List.all_eq_true] at h
  exact ⟨h.1, fun c m => of_decide_eq_true (h.2 c m)⟩
section
variable {K : PySem.W.Frag} {σ : L2.St} {H : Hp} {Q : VK} {to te : TE}
theorem s_joinS (h : to σ H fun x H1 => (∃ a, x = .str a) ∧ te σ H1 fun y H2 => ∃ a p, ∃ ys : List Str, x = .str a ∧ [y] = [.ref p] ∧ (SqL K H2 p (ys.map V.str) ∨ SqT K H2 p (ys.map V.str)) ∧ (ys.map (·.length)).sum + ys.length * a.length ≤ 16777216 ∧ Q (.str (Txt.join a ys)) H2) : tJoinS K to te σ H Q := h
theorem s_split (h : to σ H fun x H1 => (∃ a, x = .str a) ∧ te σ H1 fun y H2 => ∃ a b, x = .str a ∧ [y] = [.str b] ∧ (b.length == 0) = false ∧ a.length + 2 ≤ sizeLine ∧ ∀ p, H2 p = none → Q (.ref p) (upd H2 p (.lst ((Txt.split a b).map V.str)))) : tSplit to te σ H Q := h
theorem s_partn (h : to σ H fun x H1 => (∃ a, x = .str a) ∧ te σ H1 fun y H2 => ∃ a b, x = .str a ∧ [y] = [.str b] ∧ (b.length == 0) = false ∧ a.length ≤ sizeLine ∧ ∀ p, H2 p = none → Q (.ref p) (upd H2 p (.tup [.str (Txt.partition a b).1, .str (Txt.partition a b).2.1, .str (Txt.partition a b).2.2]))) : tPartn to te σ H Q := h
theorem s_setf {ta tv : TE} {f : Str} {D : Ends} (h : tv σ H fun y H1 => ta σ H1 fun x H2 => ∃ a C dx fs, x = .ref a ∧ H2 a = some (.ins C dx fs) ∧ Cls K C ∧ NoAttr K C f ∧ fs.length < 1000 ∧ D.nx σ (upd H2 a (.ins C dx (putF f y fs)))) : sFld K ta tv f D σ H := h
theorem s_strD {i : Int} (h : i.natAbs < 10 ^ 40) (q : Q (.str (dec i)) H) : rStrI [.int i] H Q := ⟨i, rfl, log2_small h, q⟩
theorem at0 {v : V} {xs : List V} : atI (v :: xs) 0 = some v := at_of (j := 0) rfl rfl
theorem s_gsub {ti : TE} {t : TSet} {QS : L2.St → Hp → Prop} (h : to σ H fun o H1 => ti σ H1 fun i H2 => t o i v H2 fun H3 => QS σ H3) : gSub to ti t v σ H QS := h
theorem s_join1 {t : TE} {ts : List TE} (h : tJs (t :: ts) Str.empty σ H fun out H1 => Q (.str out) H1) : tJoin (t :: ts) σ H Q := h
theorem s_strA (h : (∃ i, [v] = [V.int i] ∧ i.natAbs.log2 < 1920 ∧ Q (.str (toString i)) H) ∨ ∃ a, [v] = [V.str a] ∧ Q (.str a) H) : rStrA [v] H Q := h
end
/-- " ".join of a list of words -/
theorem do_join {K : PySem.W.Frag} {H : Hp} {Q : VK} {p : Addr} {ws : List Str} (hs : SqL K H p (ws.map V.str)) (h : okWs ws) (hz : ws.length ≤ 100000) (q : Q (.str (line ws)) H) :
    ∃ a p', ∃ ys : List Str, V.str " " = .str a ∧ [V.ref p] = [.ref p'] ∧ (SqL K H p' (ys.map V.str) ∨ SqT K H p' (ys.map V.str)) ∧ (ys.map (·.length)).sum + ys.length * a.length ≤ 16777216 ∧ Q (.str (Txt.join a ys)) H :=
  ⟨" ", p, ws, rfl, rfl, .inl hs, by have := sum_len h; omega, q⟩
/-- [f(x) for x in a list], flat results -/
theorem lc_mapL {K : PySem.W.Frag} {g : TG} {te : TE} {vs : List Nat} {σ : L2.St} {H1 : Hp} {Q : VK} {a : Addr} {xs : List V} (f : V → V) (hl : SqL K H1 a xs) (hz : xs.length ≤ 100000)
    (hs : ∀ x, x ∈ xs → ∀ H' (N : VK), Same H1 H' → (∀ H'', Same H' H'' → N (f x) H'') → g x (wipe σ vs) H' fun σ2 H2 => wipe σ2 vs = wipe σ vs ∧ te σ2 H2 N)
    (hd : ∀ D H', Same H1 H' → H1 D = none → H' D = some (.lst (xs.map f)) → Q (.ref D) H') : lcK g tYes te vs σ Q (Itl K a) H1 := by
  refine lc_goL (S := []) (xs := xs) (by simp) (by rw [hide_nil]; exact hl) hz (fun i ys F => ys = (xs.take i).map f) (fun i ys F F' _ h => h) (fun _ _ => rfl) ?_ ?_
  · intro i x ys D H' N hx hy gg hD hD0 p kN
    refine hs x (List.mem_of_getElem? hx) H' N gg.same fun H'' s => kN _ _ (Go.ofSame s) ?_
    rw [p, List.take_add_one, hx, List.map_append]
    rfl
  · intro ys D H' gg hD0 hD hy p
    rw [List.take_length] at p
    exact hd D H' gg.same hD0 (by rw [hD, p])
theorem lc_mapT {K : PySem.W.Frag} {g : TG} {te : TE} {vs : List Nat} {σ : L2.St} {H1 : Hp} {Q : VK} {a : Addr} {xs : List V} (f : V → V) (hl : SqT K H1 a xs) (hz : xs.length ≤ 100000)
    (hs : ∀ x, x ∈ xs → ∀ H' (N : VK), Same H1 H' → (∀ H'', Same H' H'' → N (f x) H'') → g x (wipe σ vs) H' fun σ2 H2 => wipe σ2 vs = wipe σ vs ∧ te σ2 H2 N)
    (hd : ∀ D H', Same H1 H' → H1 D = none → H' D = some (.lst (xs.map f)) → Q (.ref D) H') : lcK g tYes te vs σ Q (Itt K a) H1 := by
  refine lc_goT (S := []) (xs := xs) (by simp) (by rw [hide_nil]; exact hl) hz (fun i ys F => ys = (xs.take i).map f) (fun i ys F F' _ h => h) (fun _ _ => rfl) ?_ ?_
  · intro i x ys D H' N hx hy gg hD hD0 p kN
    refine hs x (List.mem_of_getElem? hx) H' N gg.same fun H'' s => kN _ _ (Go.ofSame s) ?_
    rw [p, List.take_add_one, hx, List.map_append]
    rfl
  · intro ys D H' gg hD0 hD hy p
    rw [List.take_length] at p
    exact hd D H' gg.same hD0 (by rw [hD, p])
theorem _root_.L2.Same.back {H H1 : Hp} {p : Addr} (a : Same H H1) (h : H1 p = none) : H p = none := Go.back (S := []) (Go.ofSame a) h
theorem ix_nat {n : Nat} {i : Int} {j : Nat} (e : i = (j : Int)) (h : j < n) : ixN n i = some j := by
  subst e
  unfold ixN
  rw [if_pos (by omega), if_pos (by omega), Int.toNat_natCast]
theorem join_sz {ws : List Str} (h : okWs ws) (hz : ws.length ≤ 100000) : (ws.map (·.length)).sum + ws.length * (" " : Str).length ≤ 16777216 := by have := sum_len h; omega
section
variable {K : PySem.W.Frag} {w : World} {σ : L2.St} {H : Hp} {Q : VK} {ta tb : TE}
theorem s_kin (h : ta σ H fun x H1 => tb σ H1 fun y H2 => ∃ (z : Str) (d : Addr) (tab : List (Str × V)), x = .str z ∧ y = .ref d ∧ KTab K w d tab ∧ Q (.bl (tab.lookup z).isSome) H2) : tKIn K w ta tb σ H Q := h
theorem s_knotin (h : ta σ H fun x H1 => tb σ H1 fun y H2 => ∃ (z : Str) (d : Addr) (tab : List (Str × V)), x = .str z ∧ y = .ref d ∧ KTab K w d tab ∧ Q (.bl (!(tab.lookup z).isSome)) H2) : tKNotIn K w ta tb σ H Q := h
theorem s_kget (h : ta σ H fun x H1 => tb σ H1 fun y H2 => ∃ (z : Str) (d : Addr) (tab : List (Str × V)) (v : V), x = .ref d ∧ y = .str z ∧ KTab K w d tab ∧ tab.lookup z = some v ∧ Q v H2) : tKGet K w ta tb σ H Q := h
theorem f_enum {g : TG} {t : TS} {D : Ends} {a : Addr} {xs : List V} (Pv : Nat → L2.St → Hp → Prop) (h0 : Pv 0 σ H) (hl : ∀ i σ H, i ≤ xs.length → Pv i σ H → SqL K H a xs)
    (hs : ∀ i x σ H T, xs[i]? = some x → Pv i σ H → H T = none → g (.ref T) σ (upd H T (.tup [.int (i : Nat), x])) fun σ2 H2 => t { D with nx := Pv (i + 1), ct := Pv (i + 1), bk := D.nx } σ2 H2) (hd : ∀ σ H, Pv xs.length σ H → D.nx σ H) : forK g t D σ (Ite K a) H := by
  refine ⟨fun i m σ H => m = xs.length - i ∧ i ≤ xs.length ∧ Pv i σ H, ⟨xs.length, by simp, Nat.zero_le _, h0⟩, ?_⟩
  rintro i m σ H ⟨rfl, hi, p⟩
  have q := hl i σ H hi p
  by_cases hlt : i < xs.length
  · refine .inr ⟨⟨xs, xs[i], q, by simp [hlt]⟩, Pv (i + 1), fun σ' H' p' => ⟨xs.length - (i + 1), by omega, rfl, hlt, p'⟩, fun x H' y => ?_⟩
    obtain ⟨T, x0, rfl, hT, rfl, y⟩ := y
    exact hs i x0 σ _ T (y xs q) p hT
  · have e : i = xs.length := by omega
    subst e
    exact .inl ⟨⟨xs, q, Nat.le_refl _⟩, hd σ H p⟩
/-- a, b = the tuple just laid -/
theorem s_tgt2 {i j : Nat} {T : Addr} {x y : V} {QS : L2.St → Hp → Prop} (h : H T = some (.tup [x, y])) (q : QS ((σ.set i (some x)).set j (some y)) H) : gTup K 2 (gCons (gName i) (gCons (gName j) gNil)) (.ref T) σ H QS :=
  ⟨T, [x, y], rfl, SqT.of h, rfl, x, [y], rfl, y, [], rfl, rfl, q⟩
theorem cut1 (xs : List V) : cutV xs (some 1) none = xs.drop 1 := by
  unfold cutV
  rw [HT.sIx_none]
  show (xs.drop (HT.sIx xs.length 0 (some ((1 : Nat) : Int)))).take (xs.length - HT.sIx xs.length 0 (some ((1 : Nat) : Int))) = _
  rw [HT.sIx_nat]
  cases xs with
  | nil => rfl
  | cons a r =>
    have : min 1 (a :: r).length = 1 := by simp
    rw [this]
    simp
theorem cutN (xs : List V) (n : Nat) : cutV xs (some (n : Int)) none = xs.drop n := by
  unfold cutV
  rw [HT.sIx_none, HT.sIx_nat]
  by_cases h : n ≤ xs.length
  · rw [Nat.min_eq_left h, List.take_of_length_le (by rw [List.length_drop]; omega)]
  · rw [Nat.min_eq_right (by omega)]
    simp
    omega
theorem cutT (xs : List V) (n : Nat) : cutV xs none (some (n : Int)) = xs.take n := by
  unfold cutV
  rw [HT.sIx_none, HT.sIx_nat]
  simp
end
end KN
end
/-! part TZ -/
section
set_option Elab.async false
set_option linter.all false
set_option maxRecDepth 100000
set_option maxHeartbeats 4000000
open PySem PySem.Spec PyProof.Rows L2 KN
local macro_rules | `(tactic| walk_at "st") => `(tactic| first
  | (with_reducible refine s_seq ?_) | (with_reducible refine s_asg ?_) | (with_reducible refine s_name ?_) | (with_reducible refine s_drop ?_) | (with_reducible refine s_ret ?_) | (with_reducible refine s_retN ?_)
  | (with_reducible refine s_next ?_) | (with_reducible refine s_brk ?_) | (with_reducible refine s_ct ?_) | (with_reducible refine s_if ?_) | ((with_reducible refine' s_var ?h ?_); (case h => rfl)) | (with_reducible refine s_c ?_)
  | (with_reducible refine s_op ?_) | (with_reducible refine s_rI0 ?_) | ((with_reducible refine s_rI ?h ?_); (case h => first | assumption | decide | (show (0 : Int) < _; omega) | exact ⟨by decide, by decide, by decide⟩ | exact cmul_small (by omega) (by omega) (by omega) (by omega) | exact cdiv_small (by omega) (by omega))) | (with_reducible refine s_un ?_) | (with_reducible refine s_rU ?_)
  | (with_reducible refine s_addIB ?_) | ((with_reducible refine' s_eq ?h ?_); (case h => first | rfl | decide)) | ((with_reducible refine' s_ne ?h ?_); (case h => first | rfl | decide)) | (with_reducible refine s_isN ?_) | (with_reducible refine s_notN ?_) | (with_reducible refine s_test ?_) | (with_reducible refine s_tB ?_)
  | (with_reducible refine s_bl ?_) | (with_reducible refine s_not ?_) | (with_reducible refine s_and ?_) | (with_reducible refine s_or ?_) | (with_reducible refine s_andV ?_) | (with_reducible refine s_orV ?_) | (with_reducible refine s_notV ?_)
  | (with_reducible refine s_ifE ?_) | (with_reducible refine s_cb ?_) | (with_reducible refine s_cons ?_) | (with_reducible refine s_nil ?_) | (with_reducible refine s_cl ?_) | (with_reducible refine s_clS ?_) | (with_reducible refine s_mk ?_) | (with_reducible refine s_mt ?_)
  | (with_reducible refine s_lst ?_) | (with_reducible refine s_tup ?_) | (with_reducible refine s_sl ?_) | (with_reducible refine s_noP ?_) | (with_reducible refine s_part ?_) | (with_reducible refine s_intE ?_) | (with_reducible refine s_bm ?_) | (with_reducible refine s_bm0 ?_)
  | (with_reducible refine s_m0 ?_) | (with_reducible refine s_m1 ?_) | (with_reducible refine s_strE ?_) | (with_reducible refine s_starts ?_) | (with_reducible refine s_isascii ?_) | (with_reducible refine s_isdigit ?_) | (with_reducible refine s_fld ?_)
  | (with_reducible refine s_abs ?_) | (with_reducible refine s_int1 ?_) | (with_reducible refine s_int1b ?_) | (with_reducible refine s_min2 ?_) | (with_reducible refine s_max2 ?_) | (with_reducible refine s_chain ?_) | (with_reducible refine s_blP ?_) | (with_reducible refine s_blV ?_) | (with_reducible refine s_blN ?_) | (with_reducible refine s_blG ?_) | (with_reducible refine s_intG ?_)
  | ((with_reducible refine' s_aug ?h ?_); (case h => rfl)) | (with_reducible refine s_par ?_) | (with_reducible refine s_two ?_) | (with_reducible refine s_frz ?_) | (with_reducible refine s_dnew ?_) | (with_reducible refine s_for ?_) | (with_reducible refine s_lc ?_) | (with_reducible refine s_joinS ?_) | (with_reducible refine s_gsub ?_) | (with_reducible refine s_kin ?_) | (with_reducible refine s_knotin ?_) | (with_reducible refine s_kget ?_) | (with_reducible refine s_setf ?_) | (with_reducible refine s_split ?_) | (with_reducible refine s_partn ?_) | (with_reducible refine s_vei ?_) | (with_reducible refine s_ost ?_) | (with_reducible refine s_rz ?_) | (with_reducible refine s_xm ?_) | (with_reducible refine s_rng1 ?_) | (with_reducible refine s_rng2 ?_) | (with_reducible refine s_iList ?_) | (with_reducible refine s_iTup ?_) | (with_reducible refine s_iSeq ?_) | (with_reducible refine s_iEnum ?_))
local macro_rules | `(tactic| walk_at "go") => `(tactic| repeat walk_at "st")
local macro_rules | `(tactic| walk_at "hp") => `(tactic| first
  | assumption
  | exact upd_same
  | (refine (upd_ne ?n).trans ?_; (case n => first | assumption | (apply Ne.symm; assumption) | exact ne_of_none (by walk_at "hp") (by assumption) | exact (ne_of_none (by walk_at "hp") (by assumption)).symm); walk_at "hp"))
/-! integers_of, the errors' classes -/
namespace KN
open PySem PySem.Spec PyProof.Rows L2
/-- what integers_of reads -/
def readAll : List Str → Option (List Int)
  | [] => some []
  | w :: ws => match readL (tl w), readAll ws with
    | some z, some zs => some (z :: zs)
    | _, _ => none
theorem readAll_dec : ∀ {zs : List Int}, (∀ z ∈ zs, z.natAbs < 10 ^ 40) → readAll (zs.map dec) = some zs
  | [], _ => rfl
  | z :: zs, h => by
    show (match readL (tl (dec z)), readAll (zs.map dec) with
      | some z, some zs => some (z :: zs)
      | _, _ => none) = _
    rw [tl_dec, readL_dec (h z List.mem_cons_self), readAll_dec fun x m => h x (List.mem_cons_of_mem _ m)]
theorem readAll_none : ∀ {ws : List Str}, (∃ w ∈ ws, readL (tl w) = none) → readAll ws = none
  | [], h => by obtain ⟨_, m, _⟩ := h; cases m
  | w :: ws, h => by
    show (match readL (tl w), readAll ws with
      | some z, some zs => some (z :: zs)
      | _, _ => none) = none
    obtain ⟨x, m, e⟩ := h
    rcases List.mem_cons.mp m with rfl | m
    · rw [e]
    · rw [readAll_none ⟨x, m, e⟩]
      cases readL (tl w) <;> rfl
theorem readAll_some : ∀ {ws : List Str} {zs : List Int}, readAll ws = some zs → ws.map (fun w => optI (readL (tl w))) = zs.map V.int
  | [], zs, h => by cases (Option.some.inj h); rfl
  | w :: ws, zs, h => by
    have h' : (match readL (tl w), readAll ws with
      | some z, some zs => some (z :: zs)
      | _, _ => none) = some zs := h
    cases e1 : readL (tl w) with
    | none => rw [e1] at h'; cases h'
    | some z =>
      cases e2 : readAll ws with
      | none => rw [e1, e2] at h'; cases h'
      | some r =>
        rw [e1, e2] at h'
        cases Option.some.inj h'
        show optI (readL (tl w)) :: ws.map _ = _
        rw [e1, readAll_some e2]
        rfl
theorem readAll_has : ∀ {ws : List Str}, readAll ws = none → ∃ w ∈ ws, readL (tl w) = none
  | [], h => by cases h
  | w :: ws, h => by
    have h' : (match readL (tl w), readAll ws with
      | some z, some zs => some (z :: zs)
      | _, _ => none) = none := h
    cases e1 : readL (tl w) with
    | none => exact ⟨w, List.mem_cons_self, e1⟩
    | some z =>
      cases e2 : readAll ws with
      | none => obtain ⟨x, m, e⟩ := readAll_has e2; exact ⟨x, List.mem_cons_of_mem _ m, e⟩
      | some r => rw [e1, e2] at h'; cases h'
theorem readAll_len : ∀ {ws : List Str} {zs : List Int}, readAll ws = some zs → zs.length = ws.length := by
  intro ws zs h
  have := congrArg List.length (readAll_some h)
  simpa using this.symm
def S_integers_of (K : PySem.W.Frag) (w : World) : Sp := fun vs H Q _ => ∃ (a : Addr) (ws : List Str), vs = [.ref a] ∧ SqL K H a (ws.map V.str) ∧ (∀ w ∈ ws, w.length ≤ 100000) ∧ ws.length ≤ 100000 ∧
  ∀ H', Same H H' → match readAll ws with
    | none => Q .non H'
    | some zs => ∀ p, H p = none → H' p = some (.lst (zs.map V.int)) → Q (.ref p) H'
theorem len_integers_of {K : PySem.W.Frag} {w : World} (vs : List V) (H : Hp) (Q : VK) (E : XK) (h : S_integers_of K w vs H Q E) : vs.length = P_integers_of.length := by
  obtain ⟨_, _, rfl, _⟩ := h
  rfl
theorem optI_flat (o : Option Int) : flatV (optI o) = true := by cases o <;> rfl
theorem inV_opt (xs : List (Option Int)) : inV .non (xs.map optI) = xs.any (·.isNone) := by
  unfold inV
  rw [List.any_map]
  congr 1
  funext o
  cases o <;> rfl
theorem pure_integers_of {K : PySem.W.Frag} {w : World} {vs : List V} {H : Hp} {Q : VK} {E : XK} (h : S_integers_of K w vs H Q E) : t_integers_of K w (S_integer_of K w) { nx := fun _ H' => Q .non H', rt := Q } (start N_integers_of vs) H := by
  obtain ⟨a, ws, rfl, hs, hw, hz, k⟩ := h
  show t_integers_of K w (S_integer_of K w) _ [some (.ref a), none, none] H
  unfold t_integers_of
  walk_at "go"
  refine ⟨a, rfl, ⟨_, hs⟩, ?_⟩
  refine lc_goL (S := []) (xs := ws.map V.str) (by simp) (by rw [hide_nil]; exact hs) (by rw [List.length_map]; exact hz) (fun i ys F => ys = (ws.take i).map fun w => optI (readL (tl w))) (fun i ys F F' _ h => h) (fun _ _ => rfl) ?_ ?_
  · intro i x ys D H' N hx hy gg hD hD0 p kN
    rw [List.getElem?_map] at hx
    cases e : ws[i]? with
    | none => rw [e] at hx; cases hx
    | some x0 =>
      rw [e] at hx
      cases Option.some.inj hx
      with_reducible refine s_name ?_
      refine ⟨rfl, ?_⟩
      walk_at "go"
      refine ⟨x0, rfl, hw x0 (List.mem_of_getElem? e), kN _ _ (Go.nil _) ?_⟩
      rw [p, List.take_add_one, e, List.map_append]
      rfl
  · intro ys D H' gg hD0 hD hy p
    rw [List.length_map, List.take_length] at p
    have gs := gg.same
    with_reducible refine s_name ?_
    walk_at "go"
    have ea : ys = (ws.map fun w => readL (tl w)).map optI := by rw [p, List.map_map]; rfl
    refine ⟨D, ys, rfl, .inl (SqL.of hD), rfl, ?_, ?_⟩
    · rw [ea, List.all_map]
      exact List.all_eq_true.mpr fun o _ => optI_flat o
    · walk_at "go"
      have kk := k H' gs
      rw [ea, inV_opt, List.any_map]
      cases hr : readAll ws with
      | none =>
        rw [hr] at kk
        refine ite_yes ?_ ?_
        · obtain ⟨x, m, e⟩ := readAll_has hr
          exact List.any_eq_true.mpr ⟨x, m, by show (readL (tl x)).isNone = true; rw [e]; rfl⟩
        · walk_at "go"
          exact kk
      | some zs =>
        rw [hr] at kk
        refine ite_no ?_ ?_
        · rw [Bool.eq_false_iff]
          intro h
          obtain ⟨x, m, e⟩ := List.any_eq_true.mp h
          have : readL (tl x) = none := Option.isNone_iff_eq_none.mp e
          rw [readAll_none ⟨x, m, this⟩] at hr
          cases hr
        · walk_at "go"
          refine kk D hD0 ?_
          rw [hD, p, readAll_some hr]
/-- raised: the class C, its one field -/
def Thrown (C : Addr) (f : Str) (v : V) (H : Hp) (E : XK) : Prop := ∀ (d : Addr) (H' : Hp), Same H H' → H d = none → H' d = some (.xd [(f, v)]) → E (.ref C) (some d) H'
theorem Thrown.same {C : Addr} {f : Str} {v : V} {H H' : Hp} {E : XK} (h : Thrown C f v H E) (s : Same H H') : Thrown C f v H' E := fun d H2 s2 hd e => h d H2 (s.trans s2) (Go.back (S := []) (Go.ofSame s) hd) e
/-- raise C(x) -/
theorem do_raise {K : PySem.W.Frag} {C : Addr} {f : Str} {ok : V → Prop} {H : Hp} {x : V} {E : XK} (hok : ok x) (h : Thrown C f x H E) : xmK C (sXI K C f ok) (fun cls d H' => E cls d H') [x] H := xm_xi hok h
end KN
end
/-! part TE -/
section
set_option Elab.async false
set_option linter.all false
set_option maxRecDepth 100000
set_option maxHeartbeats 4000000
open PySem PySem.Spec PyProof.Rows L2 KN
local macro_rules | `(tactic| walk_at "st") => `(tactic| first
  | (with_reducible refine s_seq ?_) | (with_reducible refine s_asg ?_) | (with_reducible refine s_name ?_) | (with_reducible refine s_drop ?_) | (with_reducible refine s_ret ?_) | (with_reducible refine s_retN ?_)
  | (with_reducible refine s_next ?_) | (with_reducible refine s_brk ?_) | (with_reducible refine s_ct ?_) | (with_reducible refine s_if ?_) | ((with_reducible refine' s_var ?h ?_); (case h => rfl)) | (with_reducible refine s_c ?_)
  | (with_reducible refine s_op ?_) | (with_reducible refine s_rI0 ?_) | ((with_reducible refine s_rI ?h ?_); (case h => first | assumption | decide | (show (0 : Int) < _; omega) | exact ⟨by decide, by decide, by decide⟩ | exact cmul_small (by omega) (by omega) (by omega) (by omega) | exact cdiv_small (by omega) (by omega))) | (with_reducible refine s_un ?_) | (with_reducible refine s_rU ?_)
  | (with_reducible refine s_addIB ?_) | ((with_reducible refine' s_eq ?h ?_); (case h => first | rfl | decide)) | ((with_reducible refine' s_ne ?h ?_); (case h => first | rfl | decide)) | (with_reducible refine s_isN ?_) | (with_reducible refine s_notN ?_) | (with_reducible refine s_test ?_) | (with_reducible refine s_tB ?_)
  | (with_reducible refine s_bl ?_) | (with_reducible refine s_not ?_) | (with_reducible refine s_and ?_) | (with_reducible refine s_or ?_) | (with_reducible refine s_andV ?_) | (with_reducible refine s_orV ?_) | (with_reducible refine s_notV ?_)
  | (with_reducible refine s_ifE ?_) | (with_reducible refine s_cb ?_) | (with_reducible refine s_cons ?_) | (with_reducible refine s_nil ?_) | (with_reducible refine s_cl ?_) | (with_reducible refine s_clS ?_) | (with_reducible refine s_mk ?_) | (with_reducible refine s_mt ?_)
  | (with_reducible refine s_lst ?_) | (with_reducible refine s_tup ?_) | (with_reducible refine s_sl ?_) | (with_reducible refine s_noP ?_) | (with_reducible refine s_part ?_) | (with_reducible refine s_intE ?_) | (with_reducible refine s_bm ?_) | (with_reducible refine s_bm0 ?_)
  | (with_reducible refine s_m0 ?_) | (with_reducible refine s_m1 ?_) | (with_reducible refine s_strE ?_) | (with_reducible refine s_starts ?_) | (with_reducible refine s_isascii ?_) | (with_reducible refine s_isdigit ?_) | (with_reducible refine s_fld ?_)
  | (with_reducible refine s_abs ?_) | (with_reducible refine s_int1 ?_) | (with_reducible refine s_int1b ?_) | (with_reducible refine s_min2 ?_) | (with_reducible refine s_max2 ?_) | (with_reducible refine s_chain ?_) | (with_reducible refine s_blP ?_) | (with_reducible refine s_blV ?_) | (with_reducible refine s_blN ?_) | (with_reducible refine s_blG ?_) | (with_reducible refine s_intG ?_)
  | ((with_reducible refine' s_aug ?h ?_); (case h => rfl)) | (with_reducible refine s_par ?_) | (with_reducible refine s_two ?_) | (with_reducible refine s_frz ?_) | (with_reducible refine s_dnew ?_) | (with_reducible refine s_for ?_) | (with_reducible refine s_lc ?_) | (with_reducible refine s_joinS ?_) | (with_reducible refine s_gsub ?_) | (with_reducible refine s_kin ?_) | (with_reducible refine s_knotin ?_) | (with_reducible refine s_kget ?_) | (with_reducible refine s_setf ?_) | (with_reducible refine s_split ?_) | (with_reducible refine s_partn ?_) | (with_reducible refine s_vei ?_) | (with_reducible refine s_ost ?_) | (with_reducible refine s_rz ?_) | (with_reducible refine s_xm ?_) | (with_reducible refine s_rng1 ?_) | (with_reducible refine s_rng2 ?_) | (with_reducible refine s_iList ?_) | (with_reducible refine s_iTup ?_) | (with_reducible refine s_iSeq ?_) | (with_reducible refine s_iEnum ?_))
local macro_rules | `(tactic| walk_at "go") => `(tactic| repeat walk_at "st")
local macro_rules | `(tactic| walk_at "hp") => `(tactic| first
  | assumption
  | exact upd_same
  | (refine (upd_ne ?n).trans ?_; (case n => first | assumption | (apply Ne.symm; assumption) | exact ne_of_none (by walk_at "hp") (by assumption) | exact (ne_of_none (by walk_at "hp") (by assumption)).symm); walk_at "hp"))
/-! the errors' own __init__ -/
namespace KN
open PySem PySem.Spec PyProof.Rows L2
def S_InvalidBraid_init (K : PySem.W.Frag) (w : World) : Sp := sXI K (He.ga K "InvalidBraid") "what" okTxt
def S_TooMany_init (K : PySem.W.Frag) (w : World) : Sp := sXI K (He.ga K "TooMany") "what" okTxt
def S_InvalidLine_init (K : PySem.W.Frag) (w : World) : Sp := sXI K (He.ga K "InvalidLine") "line" okInt
theorem len_InvalidBraid_init {K : PySem.W.Frag} {w : World} (vs : List V) (H : Hp) (Q : VK) (E : XK) (h : S_InvalidBraid_init K w vs H Q E) : vs.length = P_InvalidBraid_init.length := len_sXI vs H Q E h
theorem len_TooMany_init {K : PySem.W.Frag} {w : World} (vs : List V) (H : Hp) (Q : VK) (E : XK) (h : S_TooMany_init K w vs H Q E) : vs.length = P_TooMany_init.length := len_sXI vs H Q E h
theorem len_InvalidLine_init {K : PySem.W.Frag} {w : World} (vs : List V) (H : Hp) (Q : VK) (E : XK) (h : S_InvalidLine_init K w vs H Q E) : vs.length = P_InvalidLine_init.length := len_sXI vs H Q E h
theorem pure_InvalidBraid_init {K : PySem.W.Frag} {w : World} {vs : List V} {H : Hp} {Q : VK} {E : XK} (px : OexC K (He.ga K "InvalidBraid") ∧ PySem.W.findIn K (.ref (He.ga K "InvalidBraid")) "what" = some none) (h : S_InvalidBraid_init K w vs H Q E) : t_InvalidBraid_init K w { nx := fun _ H' => Q .non H', rt := Q } (start N_InvalidBraid_init vs) H :=
  xi_txt (by decide +kernel) px h
theorem pure_TooMany_init {K : PySem.W.Frag} {w : World} {vs : List V} {H : Hp} {Q : VK} {E : XK} (px : OexC K (He.ga K "TooMany") ∧ PySem.W.findIn K (.ref (He.ga K "TooMany")) "what" = some none) (h : S_TooMany_init K w vs H Q E) : t_TooMany_init K w { nx := fun _ H' => Q .non H', rt := Q } (start N_TooMany_init vs) H :=
  xi_txt (by decide +kernel) px h
theorem pure_InvalidLine_init {K : PySem.W.Frag} {w : World} {vs : List V} {H : Hp} {Q : VK} {E : XK} (px : OexC K (He.ga K "InvalidLine") ∧ PySem.W.findIn K (.ref (He.ga K "InvalidLine")) "line" = some none) (h : S_InvalidLine_init K w vs H Q E) : t_InvalidLine_init K w { nx := fun _ H' => Q .non H', rt := Q } (start N_InvalidLine_init vs) H := by
  obtain ⟨a, x, rfl, ⟨i, rfl, hi⟩, ea, k⟩ := h
  show t_InvalidLine_init K w _ [some (.ref a), some (.int i)] H
  unfold t_InvalidLine_init
  walk_at "go"
  have hl : (Str.ofString (toString i)).length ≤ 100 := by
    have hb : i.natAbs < 10 ^ 40 := by
      by_cases h0 : i.natAbs = 0
      · rw [h0]; decide
      · exact Nat.lt_trans ((Nat.log2_lt h0).mp hi) (by decide)
    exact (okW_dec hb).1
  show tJs _ _ _ _ _
  unfold tJs
  walk_at "go"
  refine ⟨"invalid line ", rfl, by decide +kernel, ?_⟩
  unfold tJs
  show tFmt _ _ _ _
  unfold tFmt
  walk_at "go"
  refine .inr ⟨i, rfl, by omega, Str.ofString (toString i), rfl, ?_, ?_⟩
  · have e2 : ∀ x y : Str, (x ++ y).length = x.length + y.length := fun x y => by rw [TL.len_tl, TL.len_tl, TL.len_tl, TL.tl_append, List.length_append]
    have e3 : (Str.empty ++ ("invalid line " : Str)).length = 13 := by decide +kernel
    rw [e2, e3]
    exact sz_of (by omega)
  · unfold tJs
    walk_at "go"
    refine ⟨a, _, [_], rfl, by simp, px.1, ea, ?_⟩
    walk_at "go"
    exact ⟨a, _, rfl, px.1, px.2, .inl ⟨ea, k⟩⟩
end KN
end
/-! part TD -/
section
set_option Elab.async false
set_option linter.all false
set_option maxRecDepth 100000
set_option maxHeartbeats 4000000
open PySem PySem.Spec PyProof.Rows L2 KN
local macro_rules | `(tactic| walk_at "st") => `(tactic| first
  | (with_reducible refine s_seq ?_) | (with_reducible refine s_asg ?_) | (with_reducible refine s_name ?_) | (with_reducible refine s_drop ?_) | (with_reducible refine s_ret ?_) | (with_reducible refine s_retN ?_)
  | (with_reducible refine s_next ?_) | (with_reducible refine s_brk ?_) | (with_reducible refine s_ct ?_) | (with_reducible refine s_if ?_) | ((with_reducible refine' s_var ?h ?_); (case h => rfl)) | (with_reducible refine s_c ?_)
  | (with_reducible refine s_op ?_) | (with_reducible refine s_rI0 ?_) | ((with_reducible refine s_rI ?h ?_); (case h => first | assumption | decide | (show (0 : Int) < _; omega) | exact ⟨by decide, by decide, by decide⟩ | exact cmul_small (by omega) (by omega) (by omega) (by omega) | exact cdiv_small (by omega) (by omega))) | (with_reducible refine s_un ?_) | (with_reducible refine s_rU ?_)
  | (with_reducible refine s_addIB ?_) | ((with_reducible refine' s_eq ?h ?_); (case h => first | rfl | decide)) | ((with_reducible refine' s_ne ?h ?_); (case h => first | rfl | decide)) | (with_reducible refine s_isN ?_) | (with_reducible refine s_notN ?_) | (with_reducible refine s_test ?_) | (with_reducible refine s_tB ?_)
  | (with_reducible refine s_bl ?_) | (with_reducible refine s_not ?_) | (with_reducible refine s_and ?_) | (with_reducible refine s_or ?_) | (with_reducible refine s_andV ?_) | (with_reducible refine s_orV ?_) | (with_reducible refine s_notV ?_)
  | (with_reducible refine s_ifE ?_) | (with_reducible refine s_cb ?_) | (with_reducible refine s_cons ?_) | (with_reducible refine s_nil ?_) | (with_reducible refine s_cl ?_) | (with_reducible refine s_clS ?_) | (with_reducible refine s_mk ?_) | (with_reducible refine s_mt ?_)
  | (with_reducible refine s_lst ?_) | (with_reducible refine s_tup ?_) | (with_reducible refine s_sl ?_) | (with_reducible refine s_noP ?_) | (with_reducible refine s_part ?_) | (with_reducible refine s_intE ?_) | (with_reducible refine s_bm ?_) | (with_reducible refine s_bm0 ?_)
  | (with_reducible refine s_m0 ?_) | (with_reducible refine s_m1 ?_) | (with_reducible refine s_strE ?_) | (with_reducible refine s_starts ?_) | (with_reducible refine s_isascii ?_) | (with_reducible refine s_isdigit ?_) | (with_reducible refine s_fld ?_)
  | (with_reducible refine s_abs ?_) | (with_reducible refine s_int1 ?_) | (with_reducible refine s_int1b ?_) | (with_reducible refine s_min2 ?_) | (with_reducible refine s_max2 ?_) | (with_reducible refine s_chain ?_) | (with_reducible refine s_blP ?_) | (with_reducible refine s_blV ?_) | (with_reducible refine s_blN ?_) | (with_reducible refine s_blG ?_) | (with_reducible refine s_intG ?_)
  | ((with_reducible refine' s_aug ?h ?_); (case h => rfl)) | (with_reducible refine s_par ?_) | (with_reducible refine s_two ?_) | (with_reducible refine s_frz ?_) | (with_reducible refine s_dnew ?_) | (with_reducible refine s_for ?_) | (with_reducible refine s_lc ?_) | (with_reducible refine s_joinS ?_) | (with_reducible refine s_gsub ?_) | (with_reducible refine s_kin ?_) | (with_reducible refine s_knotin ?_) | (with_reducible refine s_kget ?_) | (with_reducible refine s_setf ?_) | (with_reducible refine s_split ?_) | (with_reducible refine s_partn ?_) | (with_reducible refine s_vei ?_) | (with_reducible refine s_ost ?_) | (with_reducible refine s_rz ?_) | (with_reducible refine s_xm ?_) | (with_reducible refine s_rng1 ?_) | (with_reducible refine s_rng2 ?_) | (with_reducible refine s_iList ?_) | (with_reducible refine s_iTup ?_) | (with_reducible refine s_iSeq ?_) | (with_reducible refine s_iEnum ?_))
local macro_rules | `(tactic| walk_at "go") => `(tactic| repeat walk_at "st")
local macro_rules | `(tactic| walk_at "hp") => `(tactic| first
  | assumption
  | exact upd_same
  | (refine (upd_ne ?n).trans ?_; (case n => first | assumption | (apply Ne.symm; assumption) | exact ne_of_none (by walk_at "hp") (by assumption) | exact (ne_of_none (by walk_at "hp") (by assumption)).symm); walk_at "hp"))
/-! data compared -/
namespace KN
open PySem PySem.Spec PyProof.Rows L2
mutual
theorem canLay0_plain : ∀ d : PyData, d.canLay0 = true → (plainD d).canLay0 = true
  | .none, _ => by show PyData.strOk "None" = true; decide +kernel
  | .bool b, _ => by
    cases b
    · show PyData.strOk "False" = true; decide +kernel
    · show PyData.strOk "True" = true; decide +kernel
  | .int i, _ => by simp [plainD, PyData.canLay0, PyData.canLayAll0]
  | .str x, h => by
    have h' : PyData.strOk x = true := by simpa [PyData.canLay0] using h
    simp [plainD, PyData.canLay0, PyData.canLayAll0, h']
  | .list ds, h => by
    have h' : PyData.canLayAll0 ds = true := by simpa [PyData.canLay0] using h
    simp [plainD, PyData.canLay0, PyData.canLayAll0, canLayAll0_plain ds h']
  | .tuple ds, h => by
    have h' : PyData.canLayAll0 ds = true := by simpa [PyData.canLay0] using h
    simp [plainD, PyData.canLay0, PyData.canLayAll0, canLayAll0_plain ds h']
  | .dict _, h => by simp [PyData.canLay0] at h
theorem canLayAll0_plain : ∀ ds : List PyData, PyData.canLayAll0 ds = true → PyData.canLayAll0 (plainAll ds) = true
  | [], _ => rfl
  | d :: ds, h => by
    have h' : d.canLay0 = true ∧ PyData.canLayAll0 ds = true := by simpa [PyData.canLayAll0] using h
    simp [plainAll, PyData.canLayAll0, canLay0_plain d h'.1, canLayAll0_plain ds h'.2]
end
theorem depthAll_le {n : Nat} : ∀ {ds : List PyData}, (∀ d ∈ ds, d.depth ≤ n) → PyData.depthAll ds ≤ n
  | [], _ => by simp [PyData.depthAll]
  | d :: ds, h => by
    have h1 := h d List.mem_cons_self
    have h2 := depthAll_le (ds := ds) fun x m => h x (List.mem_cons_of_mem _ m)
    simp only [PyData.depthAll]
    omega
theorem depth_fits : ∀ {n : Nat} {d : PyData}, fits n d → d.depth ≤ n + 1
  | n, .none, _ => by simp [PyData.depth]
  | n, .bool _, _ => by simp [PyData.depth]
  | n, .int _, _ => by simp [PyData.depth]
  | n, .str _, _ => by simp [PyData.depth]
  | n, .dict _, h => by cases n <;> exact h.elim
  | 0, .list _, h => h.elim
  | 0, .tuple _, h => h.elim
  | n + 1, .list ds, h => by
    have := depthAll_le (n := n + 1) (ds := ds) fun d m => depth_fits (h.2 d m)
    simp only [PyData.depth]
    omega
  | n + 1, .tuple ds, h => by
    have := depthAll_le (n := n + 1) (ds := ds) fun d m => depth_fits (h.2 d m)
    simp only [PyData.depth]
    omega
theorem depth_plain : ∀ {n : Nat} {d : PyData}, fits n d → (plainD d).depth ≤ n + 2
  | n, .none, _ => by simp [plainD, PyData.depth]
  | n, .bool b, _ => by simp [plainD, PyData.depth]
  | n, .int _, _ => by simp [plainD, PyData.depth, PyData.depthAll]
  | n, .str _, _ => by simp [plainD, PyData.depth, PyData.depthAll]
  | n, .dict _, h => by cases n <;> exact h.elim
  | 0, .list _, h => h.elim
  | 0, .tuple _, h => h.elim
  | n + 1, .list ds, h => by
    have := depthAll_le (n := n + 2) (ds := plainAll ds) fun d m => by
      rw [plainAll_map] at m
      obtain ⟨x, mx, rfl⟩ := List.mem_map.mp m
      exact depth_plain (h.2 x mx)
    simp only [plainD, PyData.depth, PyData.depthAll]
    omega
  | n + 1, .tuple ds, h => by
    have := depthAll_le (n := n + 2) (ds := plainAll ds) fun d m => by
      rw [plainAll_map] at m
      obtain ⟨x, mx, rfl⟩ := List.mem_map.mp m
      exact depth_plain (h.2 x mx)
    simp only [plainD, PyData.depth, PyData.depthAll]
    omega
theorem shaped_of {d : PyData} (h : d.canLay0 = true) (hd : d.depth ≤ 64) : SeqAt.shaped d = true := by
  unfold SeqAt.shaped
  rw [h, decide_eq_true hd]
  rfl
section
variable {K : PySem.W.Frag} {H : Hp} {Q : VK} {x y : V} {d : PyData} {n : Nat}
theorem eqD_same (hx : Dp K H x d) (hy : Dp K H y d) (hc : d.canLay0 = true) (hd : d.depth ≤ 64) (q : Q (.bl true) H) : rEqD K x y H Q :=
  ⟨d, d, hx, hy, shaped_of hc hd, shaped_of hc hd, by rw [SeqAt.eqv_refl d hc]; exact q⟩
theorem neD_same (hx : Dp K H x d) (hy : Dp K H y d) (hc : d.canLay0 = true) (hd : d.depth ≤ 64) (q : Q (.bl false) H) : rNeD K x y H Q :=
  ⟨d, d, hx, hy, shaped_of hc hd, shaped_of hc hd, by rw [SeqAt.eqv_refl d hc]; exact q⟩
theorem eqP_same (hx : Dp K H x (plainD d)) (hy : Dp K H y (plainD d)) (hc : d.canLay0 = true) (hf : fits n d) (hn : n ≤ 40) (q : Q (.bl true) H) : rEqD K x y H Q :=
  eqD_same hx hy (canLay0_plain d hc) (by have := depth_plain hf; omega) q
theorem neP_same (hx : Dp K H x (plainD d)) (hy : Dp K H y (plainD d)) (hc : d.canLay0 = true) (hf : fits n d) (hn : n ≤ 40) (q : Q (.bl false) H) : rNeD K x y H Q :=
  neD_same hx hy (canLay0_plain d hc) (by have := depth_plain hf; omega) q
end
theorem fits_mono : ∀ {n m : Nat} {d : PyData}, n ≤ m → fits n d → fits m d
  | n, m, .none, _, _ => by cases m <;> trivial
  | n, m, .bool _, _, _ => by cases m <;> trivial
  | n, m, .int _, _, _ => by cases m <;> trivial
  | n, m, .str _, _, _ => by cases m <;> trivial
  | n, m, .dict _, _, h => by cases n <;> exact h.elim
  | 0, m, .list _, _, h => h.elim
  | 0, m, .tuple _, _, h => h.elim
  | n + 1, 0, .list ds, hm, h => by omega
  | n + 1, 0, .tuple ds, hm, h => by omega
  | n + 1, m + 1, .list ds, hm, h => ⟨h.1, fun d md => fits_mono (by omega) (h.2 d md)⟩
  | n + 1, m + 1, .tuple ds, hm, h => ⟨h.1, fun d md => fits_mono (by omega) (h.2 d md)⟩
theorem canLayAll0_iff : ∀ {ds : List PyData}, PyData.canLayAll0 ds = true ↔ ∀ d ∈ ds, d.canLay0 = true
  | [] => by simp [PyData.canLayAll0]
  | d :: ds => by
    simp only [PyData.canLayAll0, Bool.and_eq_true, canLayAll0_iff (ds := ds), List.mem_cons, forall_eq_or_imp]
end KN
end
/-! part R57 -/
section
set_option Elab.async false
set_option linter.all false
set_option maxRecDepth 100000
set_option maxHeartbeats 8000000
namespace K57
open PySem PySem.Spec PyProof.Rows L2 KN

abbrev N_Braid_init : List Str := ["self", "strands", "word", "letter"]
abbrev P_Braid_init : List Str := ["self", "strands", "word"]
def t_Braid_init (K : PySem.W.Frag) (w : World) (E : XK) (sp_InvalidBraid_init : Sp) (sp_TooMany_init : Sp) : TS :=
  (tSeq (tIfS (tNot (tTest (tChain rLeI rLeI (tC (.int 1)) (tVar 1) (tC (.int 8)))))
  (tRz (fun cls d _ H => E cls d H) (tXm (He.ga K "InvalidBraid") sp_InvalidBraid_init (tCons (tC (.str "strands")) tNil)))
  tNext)
  (tSeq (tFor (iList K (tVar 2)) (gName 3)
  (tIfS (tOr (tTest (tOp rEq (tVar 3) (tC (.int 0)))) (tTest (tOp rGeI (tCB rAbs (tCons (tVar 3) tNil)) (tVar 1))))
  (tRz (fun cls d _ H => E cls d H) (tXm (He.ga K "InvalidBraid") sp_InvalidBraid_init (tCons (tC (.str "word")) tNil)))
  tNext))
  (tSeq (tIfS (tTest (tOp rGtI (tCB (rLenSq K) (tCons (tVar 2) tNil)) (tC (.int 2000))))
  (tRz (fun cls d _ H => E cls d H) (tXm (He.ga K "TooMany") sp_TooMany_init (tCons (tC (.str "letters")) tNil)))
  tNext)
  (tSeq (sFld K (tVar 0) (tVar 1) "strands")
  (sFld K (tVar 0) (tCB (rListOf K) (tCons (tVar 2) tNil)) "word")))))
abbrev N_write_braid : List Str := ["braid", "letter"]
abbrev P_write_braid : List Str := ["braid"]
def t_write_braid (K : PySem.W.Frag) (w : World) : TS :=
  (tRet (tJoinS K (tC (.str " ")) (tOp rCat (tLst (tCons (tC (.str "braid")) (tCons (tCB rStrI (tCons (tFld K (tVar 0) "strands") tNil)) tNil))) (tLc (iList K (tFld K (tVar 0) "word")) (gName 1) tYes (tCB rStrI (tCons (tVar 1) tNil)) [1]))))
abbrev N_read_braid : List Str := ["line", "words", "numbers"]
abbrev P_read_braid : List Str := ["line"]
def t_read_braid (K : PySem.W.Frag) (w : World) (E : XK) (sp_integers_of : Sp) (sp_InvalidLine_init : Sp) (sp_Braid_init : Sp) : TS :=
  (tSeq (tAsg (tSplit (tVar 0) (tC (.str " "))) (gName 1))
  (tSeq (tAsg (tCl sp_integers_of E0 (tCons (tSl (rSlL K) (tVar 1) (tPart (tC (.int 1))) tNoPart) tNil)) (gName 2))
  (tSeq (tIfS (tOr (tTest (tOp rNe (tOp (rIxL K) (tVar 1) (tC (.int 0))) (tC (.str "braid")))) (tOr (tTest (tOp rIsNon (tVar 2) (tC .non))) (tTest (tOp rEq (tCB (rLenSq K) (tCons (tVar 2) tNil)) (tC (.int 0))))))
  (tRz (fun cls d _ H => E cls d H) (tXm (He.ga K "InvalidLine") sp_InvalidLine_init (tCons (tC (.int 0)) tNil)))
  tNext)
  (tRet (tMk (He.ga K "Braid") sp_Braid_init E (tCons (tOp (rIxL K) (tVar 2) (tC (.int 0))) (tCons (tSl (rSlL K) (tVar 2) (tPart (tC (.int 1))) tNoPart) tNil)))))))
abbrev N_write_paper : List Str := ["moves", "lines", "move", "words", "item"]
abbrev P_write_paper : List Str := ["moves"]
def t_write_paper (K : PySem.W.Frag) (w : World) : TS :=
  (tSeq (tAsg (tLst tNil) (gName 1))
  (tSeq (tFor (iList K (tVar 0)) (gName 2)
  (tSeq (tAsg (tLst (tCons (tOp (rIxT K) (tVar 2) (tC (.int 0))) tNil)) (gName 3))
  (tSeq (tFor (iTup K (tSl (rSlT K) (tVar 2) (tPart (tC (.int 1))) tNoPart)) (gName 4)
  (tIfS (tTest (tOp rIsNon (tVar 4) (tC .non)))
  (tDrop (tBM K "list" rAppend (tVar 3) (tCons (tC (.str "none")) tNil)))
  (tDrop (tBM K "list" rAppend (tVar 3) (tCons (tCB rStrA (tCons (tVar 4) tNil)) tNil)))))
  (tDrop (tBM K "list" rAppend (tVar 1) (tCons (tJoinS K (tC (.str " ")) (tVar 3)) tNil))))))
  (tRet (tVar 1))))
abbrev N_read_move : List Str := ["line", "words", "items", "free", "word"]
abbrev P_read_move : List Str := ["line"]
def t_read_move (K : PySem.W.Frag) (w : World) (sp_integer_of : Sp) : TS :=
  (tSeq (tAsg (tSplit (tVar 0) (tC (.str " "))) (gName 1))
  (tSeq (tIfS (tOr (tB (tKNotIn K w (tOp (rIxL K) (tVar 1) (tC (.int 0))) (tC (.ref (He.ga K "ARGUMENTS"))))) (tTest (tOp rNe (tCB (rLenSq K) (tCons (tVar 1) tNil)) (tOp rAddI (tKGet K w (tC (.ref (He.ga K "ARGUMENTS"))) (tOp (rIxL K) (tVar 1) (tC (.int 0)))) (tC (.int 1))))))
  (tRet (tC .non))
  tNext)
  (tSeq (tAsg (tLc (iList K (tSl (rSlL K) (tVar 1) (tPart (tC (.int 1))) tNoPart)) (gName 4) tYes (tCl sp_integer_of E0 (tCons (tVar 4) tNil)) [4]) (gName 2))
  (tSeq (tAsg (tAndV (tOp rEq (tOp (rIxL K) (tVar 1) (tC (.int 0))) (tC (.str "curl"))) (tOp rEq (tOp (rIxL K) (tVar 1) (tC (.int 1))) (tC (.str "none")))) (gName 3))
  (tSeq (tIfS (tTest (tOp (rIn K false) (tC .non) (tSl (rSlL K) (tVar 2) (tPart (tCB rInt1 (tCons (tVar 3) tNil))) tNoPart)))
  (tRet (tC .non))
  tNext)
  (tRet (tOp (rCatT K) (tTup (tCons (tOp (rIxL K) (tVar 1) (tC (.int 0))) tNil)) (tCB (rTupOf K) (tCons (tVar 2) tNil)))))))))
abbrev N_read_paper : List Str := ["lines", "moves", "at", "line", "move"]
abbrev P_read_paper : List Str := ["lines"]
def t_read_paper (K : PySem.W.Frag) (w : World) (E : XK) (sp_read_move : Sp) (sp_InvalidLine_init : Sp) : TS :=
  (tSeq (tAsg (tLst tNil) (gName 1))
  (tSeq (tFor (iEnum K (tCons (tVar 0) tNil)) (gTup K 2 (gCons (gName 2) (gCons (gName 3) gNil)))
  (tSeq (tAsg (tCl sp_read_move E0 (tCons (tVar 3) tNil)) (gName 4))
  (tSeq (tIfS (tTest (tOp rIsNon (tVar 4) (tC .non)))
  (tRz (fun cls d _ H => E cls d H) (tXm (He.ga K "InvalidLine") sp_InvalidLine_init (tCons (tVar 2) tNil)))
  tNext)
  (tDrop (tBM K "list" rAppend (tVar 1) (tCons (tVar 4) tNil))))))
  (tRet (tVar 1))))
abbrev N__law_word : List Str := ["deck", "strands", "most", "word", "turn"]
abbrev P__law_word : List Str := ["deck", "strands", "most"]
def t__law_word (K : PySem.W.Frag) (w : World) (sp__law_take : Sp) : TS :=
  (tSeq (tAsg (tLst tNil) (gName 3))
  (tSeq (tFor (iRng1 (tCons (tOp rMulI (tCl sp__law_take E0 (tCons (tVar 0) (tCons (tOp rAddI (tVar 2) (tC (.int 1))) tNil))) (tCB rInt1 (tCons (tOp rGtI (tVar 1) (tC (.int 1))) tNil))) tNil)) (gName 4)
  (tDrop (tBM K "list" rAppend (tVar 3) (tCons (tOp rMulI (tOp rAddI (tC (.int 1)) (tCl sp__law_take E0 (tCons (tVar 0) (tCons (tOp rSubI (tVar 1) (tC (.int 1))) tNil)))) (tOp (rIxL K) (tLst (tCons (tC (.int 1)) (tCons (tUn rNegI (tC (.int 1))) tNil))) (tCl sp__law_take E0 (tCons (tVar 0) (tCons (tC (.int 2)) tNil))))) tNil))))
  (tRet (tVar 3))))
abbrev N__law_written : List Str := ["items", "item"]
abbrev P__law_written : List Str := ["items"]
def t__law_written (K : PySem.W.Frag) (w : World) : TS :=
  (tRet (tJoinS K (tC (.str " ")) (tLc (iList K (tVar 0)) (gName 1) tYes (tIf (tTest (tOp rNotNon (tVar 1) (tC .non))) (tCB rStrA (tCons (tVar 1) tNil)) (tC (.str "none"))) [1])))
abbrev N__law_integer : List Str := ["deck", "way"]
abbrev P__law_integer : List Str := ["deck"]
def t__law_integer (K : PySem.W.Frag) (w : World) (sp__law_take : Sp) : TS :=
  (tSeq (tAsg (tCl sp__law_take E0 (tCons (tVar 0) (tCons (tC (.int 5)) tNil))) (gName 1))
  (tSeq (tIfS (tTest (tOp rLtI (tVar 1) (tC (.int 3))))
  (tRet (tOp rSubI (tCl sp__law_take E0 (tCons (tVar 0) (tCons (tC (.int 21)) tNil))) (tC (.int 10))))
  tNext)
  (tSeq (tIfS (tTest (tOp rEq (tVar 1) (tC (.int 3))))
  (tRet (tOp rMulI (tCl sp__law_take E0 (tCons (tVar 0) (tCons (tC (.int 1000003)) tNil))) (tOp (rIxL K) (tLst (tCons (tC (.int 1)) (tCons (tUn rNegI (tC (.int 1))) tNil))) (tCl sp__law_take E0 (tCons (tVar 0) (tCons (tC (.int 2)) tNil))))))
  tNext)
  (tRet (tOp rMulI (tOp rSubI (tOp rSubI (tOp rPowI (tC (.int 10)) (tC (.int 40))) (tC (.int 1))) (tCl sp__law_take E0 (tCons (tVar 0) (tCons (tC (.int 9)) tNil)))) (tOp (rIxL K) (tLst (tCons (tC (.int 1)) (tCons (tUn rNegI (tC (.int 1))) tNil))) (tCl sp__law_take E0 (tCons (tVar 0) (tCons (tC (.int 2)) tNil)))))))))
abbrev N__law_move : List Str := ["deck", "word", "many", "items", "turn"]
abbrev P__law_move : List Str := ["deck"]
def t__law_move (K : PySem.W.Frag) (w : World) (sp__law_take : Sp) (sp__law_integer : Sp) : TS :=
  (tSeq (tAsg (tOp (rIxL K) (tLst (tCons (tTup (tCons (tC (.str "curl")) (tCons (tC (.int 3)) tNil))) (tCons (tTup (tCons (tC (.str "uncurl")) (tCons (tC (.int 1)) tNil))) (tCons (tTup (tCons (tC (.str "lay")) (tCons (tC (.int 4)) tNil))) (tCons (tTup (tCons (tC (.str "draw")) (tCons (tC (.int 2)) tNil))) (tCons (tTup (tCons (tC (.str "turn")) (tCons (tC (.int 3)) tNil))) tNil)))))) (tCl sp__law_take E0 (tCons (tVar 0) (tCons (tC (.int 5)) tNil)))) (gTup K 2 (gCons (gName 1) (gCons (gName 2) gNil))))
  (tSeq (tAsg (tLc (iRng1 (tCons (tVar 2) tNil)) (gName 4) tYes (tCl sp__law_integer E0 (tCons (tVar 0) tNil)) [4]) (gName 3))
  (tSeq (tIfS (tAnd (tTest (tOp rEq (tVar 1) (tC (.str "curl")))) (tTest (tOp rEq (tCl sp__law_take E0 (tCons (tVar 0) (tCons (tC (.int 3)) tNil))) (tC (.int 0)))))
  (tAsg (tC .non) (gSub (tVar 3) (tC (.int 0)) rSetL))
  tNext)
  (tRet (tOp (rCatT K) (tTup (tCons (tVar 1) tNil)) (tCB (rTupOf K) (tCons (tVar 3) tNil)))))))
abbrev N__law_bad_number : List Str := ["deck", "bad"]
abbrev P__law_bad_number : List Str := ["deck"]
def t__law_bad_number (K : PySem.W.Frag) (w : World) (sp__law_take : Sp) : TS :=
  (tSeq (tAsg (tLst (tCons (tC (.str "")) (tCons (tC (.str "01")) (tCons (tC (.str "-0")) (tCons (tC (.str "+1")) (tCons (tC (.str "1_0")) (tCons (tC (.str "1.0")) (tCons (tC (.str "x")) (tCons (tC (.str "-")) (tCons (tC (.str "None")) (tCons (tOp rAddS (tC (.str "1")) (tOp rMulS (tC (.str "0")) (tC (.int 40)))) (tCons (tOp rAddS (tC (.str "-")) (tOp rMulS (tC (.str "9")) (tC (.int 41)))) (tCons (tC (.str "NONE")) tNil))))))))))))) (gName 1))
  (tRet (tOp (rIxL K) (tVar 1) (tCl sp__law_take E0 (tCons (tVar 0) (tCons (tCB (rLenSq K) (tCons (tVar 1) tNil)) tNil))))))
abbrev N__law_bent : List Str := ["deck", "line", "words", "at", "way"]
abbrev P__law_bent : List Str := ["deck", "line"]
def t__law_bent (K : PySem.W.Frag) (w : World) (sp__law_take : Sp) (sp__law_bad_number : Sp) : TS :=
  (tSeq (tAsg (tSplit (tVar 1) (tC (.str " "))) (gName 2))
  (tSeq (tAsg (tOp rAddI (tC (.int 1)) (tCl sp__law_take E0 (tCons (tVar 0) (tCons (tOp rSubI (tCB (rLenSq K) (tCons (tVar 2) tNil)) (tC (.int 1))) tNil)))) (gName 3))
  (tSeq (tAsg (tCl sp__law_take E0 (tCons (tVar 0) (tCons (tC (.int 8)) tNil))) (gName 4))
  (tSeq (tIfS (tTest (tOp rEq (tVar 4) (tC (.int 0))))
  (tRet (tOp rAddS (tVar 1) (tOp (rIxL K) (tLst (tCons (tC (.str " ")) (tCons (tC (.str "\t")) (tCons (tC (.str "\n")) (tCons (tC (.str " 7 x")) tNil))))) (tCl sp__law_take E0 (tCons (tVar 0) (tCons (tC (.int 4)) tNil))))))
  tNext)
  (tSeq (tIfS (tTest (tOp rEq (tVar 4) (tC (.int 1))))
  (tRet (tOp rAddS (tOp (rIxL K) (tLst (tCons (tC (.str " ")) (tCons (tC (.str "7 ")) (tCons (tC (.str "\t")) tNil)))) (tCl sp__law_take E0 (tCons (tVar 0) (tCons (tC (.int 3)) tNil)))) (tVar 1)))
  tNext)
  (tSeq (tIfS (tTest (tOp rEq (tVar 4) (tC (.int 2))))
  (tRet (tOp rAddS (tOp rAddS (tJoinS K (tC (.str " ")) (tSl (rSlL K) (tVar 2) tNoPart (tPart (tVar 3)))) (tC (.str "  "))) (tJoinS K (tC (.str " ")) (tSl (rSlL K) (tVar 2) (tPart (tVar 3)) tNoPart))))
  tNext)
  (tSeq (tIfS (tTest (tOp rEq (tVar 4) (tC (.int 3))))
  (tRet (tOp rAddS (tOp rAddS (tJoinS K (tC (.str " ")) (tSl (rSlL K) (tVar 2) tNoPart (tPart (tVar 3)))) (tC (.str "\t"))) (tJoinS K (tC (.str " ")) (tSl (rSlL K) (tVar 2) (tPart (tVar 3)) tNoPart))))
  tNext)
  (tSeq (tIfS (tTest (tOp rEq (tVar 4) (tC (.int 4))))
  (tRet (tJoinS K (tC (.str " ")) (tOp rCat (tLst (tCons (tOp (rIxL K) (tLst (tCons (tC (.str "")) (tCons (tC (.str "Curl")) (tCons (tC (.str "braids")) (tCons (tC (.str "lays")) (tCons (tC (.str "twist")) (tCons (tC (.str "7")) tNil))))))) (tCl sp__law_take E0 (tCons (tVar 0) (tCons (tC (.int 6)) tNil)))) tNil)) (tSl (rSlL K) (tVar 2) (tPart (tC (.int 1))) tNoPart))))
  tNext)
  (tSeq (tIfS (tTest (tOp rEq (tVar 4) (tC (.int 5))))
  (tRet (tOp (rIxL K) (tVar 2) (tC (.int 0))))
  tNext)
  (tSeq (tIfS (tAnd (tTest (tOp rEq (tVar 4) (tC (.int 6)))) (tTest (tOp rNe (tOp (rIxL K) (tVar 2) (tC (.int 0))) (tC (.str "curl")))))
  (tSeq (tAsg (tC (.str "none")) (gSub (tVar 2) (tC (.int 1)) rSetL))
  (tRet (tJoinS K (tC (.str " ")) (tVar 2))))
  tNext)
  (tSeq (tAsg (tCl sp__law_bad_number E0 (tCons (tVar 0) tNil)) (gSub (tVar 2) (tVar 3) rSetL))
  (tRet (tJoinS K (tC (.str " ")) (tVar 2))))))))))))))
abbrev N__law_bent_move : List Str := ["deck", "line", "way"]
abbrev P__law_bent_move : List Str := ["deck", "line"]
def t__law_bent_move (K : PySem.W.Frag) (w : World) (sp__law_take : Sp) (sp__law_bent : Sp) : TS :=
  (tSeq (tAsg (tCl sp__law_take E0 (tCons (tVar 0) (tCons (tC (.int 5)) tNil))) (gName 2))
  (tSeq (tIfS (tTest (tOp rEq (tVar 2) (tC (.int 0))))
  (tRet (tOp rAddS (tVar 1) (tC (.str " 3"))))
  tNext)
  (tSeq (tIfS (tTest (tOp rEq (tVar 2) (tC (.int 1))))
  (tRet (tJoinS K (tC (.str " ")) (tSl (rSlL K) (tSplit (tVar 1) (tC (.str " "))) tNoPart (tPart (tUn rNegI (tC (.int 1)))))))
  tNext)
  (tRet (tCl sp__law_bent E0 (tCons (tVar 0) (tCons (tVar 1) tNil)))))))
abbrev N__law_why : List Str := ["ask", "handed", "error"]
abbrev P__law_why : List Str := ["ask", "handed"]
def t__law_why (K : PySem.W.Frag) (w : World) (sp_read_braid : Sp) (sp_read_paper : Sp) : TS :=
  (tSeq (tTryAs K (.ref (He.ga K "KnotError")) 2 (fun W => (tSeq (tIfS (tTest (tOp rEq (tVar 0) (tC (.int 0))))
  (tRet (tCallS sp_read_braid (WE W) (tCons (tVar 1) tNil)))
  tNext)
  (tRet (tCallS sp_read_paper (WE W) (tCons (tVar 1) tNil)))))
  (fun a cls d => (tSeq (tIfS (tAnd (tB (tCB (rIsX K a cls d) (tCons (tVar 2) (tCons (tC (.ref (He.ga K "InvalidLine"))) tNil)))) (tNot (tB (tCB (rIsXT K a cls d) (tCons (tVar 2) (tCons (tTup (tCons (tC (.ref (He.ga K "InvalidBraid"))) (tCons (tC (.ref (He.ga K "TooMany"))) tNil))) tNil))))))
  (tRet (tTup (tCons (tC (.str "line")) (tCons (tXfX K a cls d "line" (tVar 2)) tNil))))
  tNext)
  (tSeq (tIfS (tAnd (tB (tCB (rIsX K a cls d) (tCons (tVar 2) (tCons (tC (.ref (He.ga K "InvalidBraid"))) tNil)))) (tNot (tB (tCB (rIsXT K a cls d) (tCons (tVar 2) (tCons (tTup (tCons (tC (.ref (He.ga K "InvalidLine"))) (tCons (tC (.ref (He.ga K "TooMany"))) tNil))) tNil))))))
  (tRet (tTup (tCons (tC (.str "braid")) (tCons (tXfX K a cls d "what" (tVar 2)) tNil))))
  tNext)
  (tIfS (tAnd (tB (tCB (rIsX K a cls d) (tCons (tVar 2) (tCons (tC (.ref (He.ga K "TooMany"))) tNil)))) (tNot (tB (tCB (rIsXT K a cls d) (tCons (tVar 2) (tCons (tTup (tCons (tC (.ref (He.ga K "InvalidLine"))) (tCons (tC (.ref (He.ga K "InvalidBraid"))) tNil))) tNil))))))
  (tRet (tTup (tCons (tC (.str "many")) (tCons (tXfX K a cls d "what" (tVar 2)) tNil))))
  tNext)))))
  (tRet (tC (.str "another"))))
abbrev N__law_braid_right : List Str := ["strands", "word", "line", "braid", "told"]
abbrev P__law_braid_right : List Str := ["strands", "word"]
def t__law_braid_right (K : PySem.W.Frag) (w : World) (sp__law_written : Sp) (sp_Braid_init : Sp) (sp_write_braid : Sp) (sp__law_plain : Sp) (sp_read_braid : Sp) : TS :=
  (tSeq (tAsg (tCl sp__law_written E0 (tCons (tOp rCat (tLst (tCons (tC (.str "braid")) (tCons (tVar 0) tNil))) (tVar 1)) tNil)) (gName 2))
  (tSeq (tAsg (tMk (He.ga K "Braid") sp_Braid_init E0 (tCons (tVar 0) (tCons (tCB (rListOf K) (tCons (tVar 1) tNil)) tNil))) (gName 3))
  (tSeq (tIfS (tTest (tOp (rNeD K) (tCl sp__law_plain E0 (tCons (tCl sp_write_braid E0 (tCons (tVar 3) tNil)) tNil)) (tCl sp__law_plain E0 (tCons (tVar 2) tNil))))
  (tRet (tC (.bl false)))
  tNext)
  (tSeq (tAsg (tCl sp_read_braid E0 (tCons (tVar 2) tNil)) (gName 4))
  (tRet (tAndV (tCB (rIsi K) (tCons (tVar 4) (tCons (tC (.ref (He.ga K "Braid"))) tNil))) (tOp (rEqD K) (tCl sp__law_plain E0 (tCons (tLst (tCons (tFld K (tVar 4) "strands") (tCons (tFld K (tVar 4) "word") tNil))) tNil)) (tCl sp__law_plain E0 (tCons (tLst (tCons (tVar 0) (tCons (tVar 1) tNil))) tNil)))))))))
abbrev N__law_braids_refused : List Str := ["deck", "strands", "word", "line", "some", "place", "letter"]
abbrev P__law_braids_refused : List Str := ["deck", "strands", "word"]
def t__law_braids_refused (K : PySem.W.Frag) (w : World) (sp__law_written : Sp) (sp__law_bent : Sp) (sp__law_why : Sp) (sp__law_plain : Sp) (sp__law_take : Sp) (sp__law_braid_right : Sp) : TS :=
  (tSeq (tAsg (tCl sp__law_written E0 (tCons (tOp rCat (tLst (tCons (tC (.str "braid")) (tCons (tVar 1) tNil))) (tVar 2)) tNil)) (gName 3))
  (tSeq (tIfS (tOr (tTest (tOp (rNeD K) (tCl sp__law_plain E0 (tCons (tCl sp__law_why E0 (tCons (tC (.int 0)) (tCons (tCl sp__law_bent E0 (tCons (tVar 0) (tCons (tVar 3) tNil))) tNil))) tNil)) (tCl sp__law_plain E0 (tCons (tTup (tCons (tC (.str "line")) (tCons (tC (.int 0)) tNil))) tNil)))) (tTest (tOp (rNeD K) (tCl sp__law_why E0 (tCons (tC (.int 0)) (tCons (tC (.str "")) tNil))) (tTup (tCons (tC (.str "line")) (tCons (tC (.int 0)) tNil))))))
  (tRet (tC (.bl false)))
  tNext)
  (tSeq (tAsg (tOp (rIxL K) (tLst (tCons (tC (.int 0)) (tCons (tC (.int 9)) (tCons (tUn rNegI (tC (.int 1))) (tCons (tOp rPowI (tC (.int 10)) (tC (.int 20))) tNil))))) (tCl sp__law_take E0 (tCons (tVar 0) (tCons (tC (.int 4)) tNil)))) (gName 4))
  (tSeq (tIfS (tTest (tOp (rNeD K) (tCl sp__law_why E0 (tCons (tC (.int 0)) (tCons (tCl sp__law_written E0 (tCons (tOp rCat (tLst (tCons (tC (.str "braid")) (tCons (tVar 4) tNil))) (tVar 2)) tNil)) tNil))) (tTup (tCons (tC (.str "braid")) (tCons (tC (.str "strands")) tNil)))))
  (tRet (tC (.bl false)))
  tNext)
  (tSeq (tAsg (tCl sp__law_take E0 (tCons (tVar 0) (tCons (tOp rAddI (tCB (rLenSq K) (tCons (tVar 2) tNil)) (tC (.int 1))) tNil))) (gName 5))
  (tSeq (tAsg (tOp (rIxL K) (tLst (tCons (tC (.int 0)) (tCons (tVar 1) (tCons (tUn rNegI (tVar 1)) (tCons (tOp rPowI (tC (.int 10)) (tC (.int 39))) tNil))))) (tCl sp__law_take E0 (tCons (tVar 0) (tCons (tC (.int 4)) tNil)))) (gName 6))
  (tSeq (tIfS (tTest (tOp (rNeD K) (tCl sp__law_why E0 (tCons (tC (.int 0)) (tCons (tCl sp__law_written E0 (tCons (tOp rCat (tOp rCat (tOp rCat (tLst (tCons (tC (.str "braid")) (tCons (tVar 1) tNil))) (tSl (rSlL K) (tVar 2) tNoPart (tPart (tVar 5)))) (tLst (tCons (tVar 6) tNil))) (tSl (rSlL K) (tVar 2) (tPart (tVar 5)) tNoPart)) tNil)) tNil))) (tTup (tCons (tC (.str "braid")) (tCons (tC (.str "word")) tNil)))))
  (tRet (tC (.bl false)))
  tNext)
  (tSeq (tIfS (tTest (tOp rEq (tCl sp__law_take E0 (tCons (tVar 0) (tCons (tC (.int 10)) tNil))) (tC (.int 0))))
  (tSeq (tIfS (tTest (tOp (rNeD K) (tCl sp__law_why E0 (tCons (tC (.int 0)) (tCons (tCl sp__law_written E0 (tCons (tOp rCat (tLst (tCons (tC (.str "braid")) (tCons (tC (.int 3)) tNil))) (tOp rRep (tLst (tCons (tC (.int 1)) (tCons (tUn rNegI (tC (.int 2))) (tCons (tC (.int 2)) tNil)))) (tC (.int 667)))) tNil)) tNil))) (tTup (tCons (tC (.str "many")) (tCons (tC (.str "letters")) tNil)))))
  (tRet (tC (.bl false)))
  tNext)
  (tRet (tCl sp__law_braid_right E0 (tCons (tC (.int 3)) (tCons (tOp rRep (tLst (tCons (tC (.int 1)) (tCons (tUn rNegI (tC (.int 2))) tNil))) (tC (.int 1000))) tNil)))))
  tNext)
  (tRet (tC (.bl true)))))))))))
abbrev N_law : List Str := ["script", "deck", "strands", "word", "moves", "lines", "handed", "given", "places", "at", "turn", "move"]
abbrev P_law : List Str := ["script"]
def t_law (K : PySem.W.Frag) (w : World) (sp__law_deck : Sp) (sp__law_take : Sp) (sp__law_word : Sp) (sp__law_braid_right : Sp) (sp__law_braids_refused : Sp) (sp__law_move : Sp) (sp__law_written : Sp) (sp_read_paper : Sp) (sp_write_paper : Sp) (sp__law_spoil : Sp) (sp__law_plain : Sp) (sp__law_why : Sp) (sp__law_bent_move : Sp) : TS :=
  (tSeq (tAsg (tCl sp__law_deck E0 (tCons (tVar 0) (tCons (tC (.int 50)) (tCons (tC (.int 14)) tNil)))) (gName 1))
  (tSeq (tAsg (tOp rAddI (tC (.int 1)) (tCl sp__law_take E0 (tCons (tVar 1) (tCons (tC (.int 8)) tNil)))) (gName 2))
  (tSeq (tAsg (tCl sp__law_word E0 (tCons (tVar 1) (tCons (tVar 2) (tCons (tC (.int 12)) tNil)))) (gName 3))
  (tSeq (tIfS (tOr (tNot (tB (tCl sp__law_braid_right E0 (tCons (tVar 2) (tCons (tVar 3) tNil))))) (tNot (tB (tCl sp__law_braids_refused E0 (tCons (tVar 1) (tCons (tVar 2) (tCons (tVar 3) tNil)))))))
  (tRet (tC (.bl false)))
  tNext)
  (tSeq (tAsg (tLc (iRng1 (tCons (tCl sp__law_take E0 (tCons (tVar 1) (tCons (tC (.int 7)) tNil))) tNil)) (gName 10) tYes (tCl sp__law_move E0 (tCons (tVar 1) tNil)) [10]) (gName 4))
  (tSeq (tAsg (tLc (iList K (tVar 4)) (gName 11) tYes (tCl sp__law_written E0 (tCons (tCB (rListOf K) (tCons (tVar 11) tNil)) tNil)) [11]) (gName 5))
  (tSeq (tAsg (tCB (rListOf K) (tCons (tVar 4) tNil)) (gName 6))
  (tSeq (tDrop (tCl sp__law_spoil E0 (tCons (tLst (tCons (tCl sp_write_paper E0 (tCons (tVar 6) tNil)) (tCons (tCl sp_read_paper E0 (tCons (tCB (rListOf K) (tCons (tVar 5) tNil)) tNil)) tNil))) tNil)))
  (tSeq (tIfS (tOr (tTest (tOp (rNeD K) (tCl sp__law_plain E0 (tCons (tCl sp_write_paper E0 (tCons (tVar 6) tNil)) tNil)) (tCl sp__law_plain E0 (tCons (tVar 5) tNil)))) (tTest (tOp (rNeD K) (tVar 6) (tVar 4))))
  (tRet (tC (.bl false)))
  tNext)
  (tSeq (tAsg (tCB (rListOf K) (tCons (tVar 5) tNil)) (gName 7))
  (tSeq (tIfS (tOr (tTest (tOp (rNeD K) (tCl sp__law_plain E0 (tCons (tCl sp_read_paper E0 (tCons (tVar 7) tNil)) tNil)) (tCl sp__law_plain E0 (tCons (tVar 4) tNil)))) (tTest (tOp (rNeD K) (tVar 7) (tVar 5))))
  (tRet (tC (.bl false)))
  tNext)
  (tSeq (tIfS (tTest (tOp rEq (tCB (rLenSq K) (tCons (tVar 4) tNil)) (tC (.int 0))))
  (tRet (tOp (rEqD K) (tCl sp__law_why E0 (tCons (tC (.int 1)) (tCons (tLst (tCons (tC (.str "")) tNil)) tNil))) (tTup (tCons (tC (.str "line")) (tCons (tC (.int 0)) tNil)))))
  tNext)
  (tSeq (tAsg (tLc (iRng1 (tCons (tOp rAddI (tC (.int 1)) (tCl sp__law_take E0 (tCons (tVar 1) (tCons (tC (.int 2)) tNil)))) tNil)) (gName 10) tYes (tCl sp__law_take E0 (tCons (tVar 1) (tCons (tCB (rLenSq K) (tCons (tVar 5) tNil)) tNil))) [10]) (gName 8))
  (tSeq (tFor (iList K (tVar 8)) (gName 9)
  (tAsg (tCl sp__law_bent_move E0 (tCons (tVar 1) (tCons (tOp (rIxL K) (tVar 5) (tVar 9)) tNil))) (gSub (tVar 7) (tVar 9) rSetL)))
  (tRet (tOp (rEqD K) (tCl sp__law_plain E0 (tCons (tCl sp__law_why E0 (tCons (tC (.int 1)) (tCons (tVar 7) tNil))) tNil)) (tCl sp__law_plain E0 (tCons (tTup (tCons (tC (.str "line")) (tCons (tCB (rMin K) (tCons (tVar 8) tNil)) tNil))) tNil))))))))))))))))))
end K57
end
/-! part G57 -/
section
set_option Elab.async false
set_option linter.all false
set_option maxRecDepth 100000
set_option maxHeartbeats 8000000
namespace K57
open PySem PySem.Spec PyProof.Rows L2 KN
def top (i : Nat) : Stmt := PySem.Challenge.pw_knotwork_k57_lines_of_braids_and_papers.main.body.getD i (.Pass ⟨0, 0, 0, 0⟩)
abbrev s_InvalidBraid_init : Stmt := inClass (top 3) 0
abbrev s_InvalidLine_init : Stmt := inClass (top 4) 0
abbrev s_TooMany_init : Stmt := inClass (top 5) 0
abbrev s_Braid_init : Stmt := inClass (top 9) 0
abbrev s_integer_of : Stmt := top 12
abbrev s_integers_of : Stmt := top 13
abbrev s_write_braid : Stmt := top 16
abbrev s_read_braid : Stmt := top 17
abbrev s_write_paper : Stmt := top 18
abbrev s_read_move : Stmt := top 19
abbrev s_read_paper : Stmt := top 20
abbrev s__law_deck : Stmt := top 22
abbrev s__law_take : Stmt := top 23
abbrev s__law_plain : Stmt := top 24
abbrev s__law_spoil : Stmt := top 25
abbrev s__law_word : Stmt := top 26
abbrev s__law_written : Stmt := top 27
abbrev s__law_integer : Stmt := top 28
abbrev s__law_move : Stmt := top 29
abbrev s__law_bad_number : Stmt := top 30
abbrev s__law_bent : Stmt := top 31
abbrev s__law_bent_move : Stmt := top 32
abbrev s__law_why : Stmt := top 33
abbrev s__law_braid_right : Stmt := top 34
abbrev s__law_braids_refused : Stmt := top 35
abbrev s_law : Stmt := top 36
structure Txt (K : PySem.W.Frag) (mg : Str → Option Value) (w : World) : Prop where
  f_InvalidBraid_init : ∃ fd, FunD K "__init__" "InvalidBraid.__init__" (defArgs s_InvalidBraid_init) (defBody s_InvalidBraid_init) (defScope s_InvalidBraid_init) [] [] (He.ma K (He.ga K "InvalidBraid") "__init__") fd
  f_InvalidLine_init : ∃ fd, FunD K "__init__" "InvalidLine.__init__" (defArgs s_InvalidLine_init) (defBody s_InvalidLine_init) (defScope s_InvalidLine_init) [] [] (He.ma K (He.ga K "InvalidLine") "__init__") fd
  f_TooMany_init : ∃ fd, FunD K "__init__" "TooMany.__init__" (defArgs s_TooMany_init) (defBody s_TooMany_init) (defScope s_TooMany_init) [] [] (He.ma K (He.ga K "TooMany") "__init__") fd
  f_Braid_init : ∃ fd, FunD K "__init__" "Braid.__init__" (defArgs s_Braid_init) (defBody s_Braid_init) (defScope s_Braid_init) [] [] (He.ma K (He.ga K "Braid") "__init__") fd
  f_integer_of : ∃ fd, FunD K "integer_of" "integer_of" (defArgs s_integer_of) (defBody s_integer_of) (defScope s_integer_of) [] [] (He.ga K "integer_of") fd
  g_integer_of : mg "integer_of" = some (.ref (He.ga K "integer_of"))
  f_integers_of : ∃ fd, FunD K "integers_of" "integers_of" (defArgs s_integers_of) (defBody s_integers_of) (defScope s_integers_of) [] [] (He.ga K "integers_of") fd
  g_integers_of : mg "integers_of" = some (.ref (He.ga K "integers_of"))
  f_write_braid : ∃ fd, FunD K "write_braid" "write_braid" (defArgs s_write_braid) (defBody s_write_braid) (defScope s_write_braid) [] [] (He.ga K "write_braid") fd
  g_write_braid : mg "write_braid" = some (.ref (He.ga K "write_braid"))
  f_read_braid : ∃ fd, FunD K "read_braid" "read_braid" (defArgs s_read_braid) (defBody s_read_braid) (defScope s_read_braid) [] [] (He.ga K "read_braid") fd
  g_read_braid : mg "read_braid" = some (.ref (He.ga K "read_braid"))
  f_write_paper : ∃ fd, FunD K "write_paper" "write_paper" (defArgs s_write_paper) (defBody s_write_paper) (defScope s_write_paper) [] [] (He.ga K "write_paper") fd
  g_write_paper : mg "write_paper" = some (.ref (He.ga K "write_paper"))
  f_read_move : ∃ fd, FunD K "read_move" "read_move" (defArgs s_read_move) (defBody s_read_move) (defScope s_read_move) [] [] (He.ga K "read_move") fd
  g_read_move : mg "read_move" = some (.ref (He.ga K "read_move"))
  f_read_paper : ∃ fd, FunD K "read_paper" "read_paper" (defArgs s_read_paper) (defBody s_read_paper) (defScope s_read_paper) [] [] (He.ga K "read_paper") fd
  g_read_paper : mg "read_paper" = some (.ref (He.ga K "read_paper"))
  f__law_deck : ∃ fd, FunD K "_law_deck" "_law_deck" (defArgs s__law_deck) (defBody s__law_deck) (defScope s__law_deck) [] [] (He.ga K "_law_deck") fd
  g__law_deck : mg "_law_deck" = some (.ref (He.ga K "_law_deck"))
  f__law_take : ∃ fd, FunD K "_law_take" "_law_take" (defArgs s__law_take) (defBody s__law_take) (defScope s__law_take) [] [] (He.ga K "_law_take") fd
  g__law_take : mg "_law_take" = some (.ref (He.ga K "_law_take"))
  f__law_plain : ∃ fd, FunD K "_law_plain" "_law_plain" (defArgs s__law_plain) (defBody s__law_plain) (defScope s__law_plain) [] [] (He.ga K "_law_plain") fd
  g__law_plain : mg "_law_plain" = some (.ref (He.ga K "_law_plain"))
  f__law_spoil : ∃ fd, FunD K "_law_spoil" "_law_spoil" (defArgs s__law_spoil) (defBody s__law_spoil) (defScope s__law_spoil) [] [] (He.ga K "_law_spoil") fd
  g__law_spoil : mg "_law_spoil" = some (.ref (He.ga K "_law_spoil"))
  f__law_word : ∃ fd, FunD K "_law_word" "_law_word" (defArgs s__law_word) (defBody s__law_word) (defScope s__law_word) [] [] (He.ga K "_law_word") fd
  g__law_word : mg "_law_word" = some (.ref (He.ga K "_law_word"))
  f__law_written : ∃ fd, FunD K "_law_written" "_law_written" (defArgs s__law_written) (defBody s__law_written) (defScope s__law_written) [] [] (He.ga K "_law_written") fd
  g__law_written : mg "_law_written" = some (.ref (He.ga K "_law_written"))
  f__law_integer : ∃ fd, FunD K "_law_integer" "_law_integer" (defArgs s__law_integer) (defBody s__law_integer) (defScope s__law_integer) [] [] (He.ga K "_law_integer") fd
  g__law_integer : mg "_law_integer" = some (.ref (He.ga K "_law_integer"))
  f__law_move : ∃ fd, FunD K "_law_move" "_law_move" (defArgs s__law_move) (defBody s__law_move) (defScope s__law_move) [] [] (He.ga K "_law_move") fd
  g__law_move : mg "_law_move" = some (.ref (He.ga K "_law_move"))
  f__law_bad_number : ∃ fd, FunD K "_law_bad_number" "_law_bad_number" (defArgs s__law_bad_number) (defBody s__law_bad_number) (defScope s__law_bad_number) [] [] (He.ga K "_law_bad_number") fd
  g__law_bad_number : mg "_law_bad_number" = some (.ref (He.ga K "_law_bad_number"))
  f__law_bent : ∃ fd, FunD K "_law_bent" "_law_bent" (defArgs s__law_bent) (defBody s__law_bent) (defScope s__law_bent) [] [] (He.ga K "_law_bent") fd
  g__law_bent : mg "_law_bent" = some (.ref (He.ga K "_law_bent"))
  f__law_bent_move : ∃ fd, FunD K "_law_bent_move" "_law_bent_move" (defArgs s__law_bent_move) (defBody s__law_bent_move) (defScope s__law_bent_move) [] [] (He.ga K "_law_bent_move") fd
  g__law_bent_move : mg "_law_bent_move" = some (.ref (He.ga K "_law_bent_move"))
  f__law_why : ∃ fd, FunD K "_law_why" "_law_why" (defArgs s__law_why) (defBody s__law_why) (defScope s__law_why) [] [] (He.ga K "_law_why") fd
  g__law_why : mg "_law_why" = some (.ref (He.ga K "_law_why"))
  f__law_braid_right : ∃ fd, FunD K "_law_braid_right" "_law_braid_right" (defArgs s__law_braid_right) (defBody s__law_braid_right) (defScope s__law_braid_right) [] [] (He.ga K "_law_braid_right") fd
  g__law_braid_right : mg "_law_braid_right" = some (.ref (He.ga K "_law_braid_right"))
  f__law_braids_refused : ∃ fd, FunD K "_law_braids_refused" "_law_braids_refused" (defArgs s__law_braids_refused) (defBody s__law_braids_refused) (defScope s__law_braids_refused) [] [] (He.ga K "_law_braids_refused") fd
  g__law_braids_refused : mg "_law_braids_refused" = some (.ref (He.ga K "_law_braids_refused"))
  f_law : ∃ fd, FunD K "law" "law" (defArgs s_law) (defBody s_law) (defScope s_law) [] [] (He.ga K "law") fd
  g_law : mg "law" = some (.ref (He.ga K "law"))
  b_abs : mg "abs" = none
  b_len : mg "len" = none
  b_list : mg "list" = none
  b_int : mg "int" = none
  b_str : mg "str" = none
  b_tuple : mg "tuple" = none
  b_enumerate : mg "enumerate" = none
  b_range : mg "range" = none
  b_isinstance : mg "isinstance" = none
  b_bool : mg "bool" = none
  b_min : mg "min" = none
  c_MOST_STRANDS : ∃ u, mg "MOST_STRANDS" = some u ∧ RelV (.int 8) u
  c_MOST_LETTERS : ∃ u, mg "MOST_LETTERS" = some u ∧ RelV (.int 2000) u
  c_MOST_DIGITS : ∃ u, mg "MOST_DIGITS" = some u ∧ RelV (.int 40) u
  c_ARGUMENTS : ∃ u, mg "ARGUMENTS" = some u ∧ RelV (.ref (He.ga K "ARGUMENTS")) u
  v_ARGUMENTS : KTab K w (He.ga K "ARGUMENTS") ([("curl", .int 3), ("uncurl", .int 1), ("lay", .int 4), ("draw", .int 2), ("turn", .int 3)] : List (Str × V))
  g_KnotError : mg "KnotError" = some (.ref (He.ga K "KnotError"))
  r_KnotError : ClX.CRead K (He.ga K "KnotError") (.type "type")
  i_KnotError : PySem.W.findCls K (.ref (He.ga K "KnotError")) (.type "type") "__init__" = some (.val (.builtin "ValueError.__init__"))
  g_InvalidBraid : mg "InvalidBraid" = some (.ref (He.ga K "InvalidBraid"))
  ox_InvalidBraid : OexC K (He.ga K "InvalidBraid")
  oi_InvalidBraid : PySem.W.findIn K (.ref (He.ga K "InvalidBraid")) "__init__" = some (some (.ref (He.ma K (He.ga K "InvalidBraid") "__init__"))) ∧ PySem.W.typeIn K (.ref (He.ma K (He.ga K "InvalidBraid") "__init__")) = some (.type "function")
  ex_InvalidBraid : ExcC K (He.ga K "InvalidBraid") ∧ XfC K (He.ga K "InvalidBraid")
  na_InvalidBraid_what : PySem.W.findIn K (.ref (He.ga K "InvalidBraid")) "what" = some none
  xm_InvalidBraid_KnotError : PySem.W.exmOne K (.ref (He.ga K "InvalidBraid")) (.ref (He.ga K "KnotError")) = some true
  xm_InvalidBraid_InvalidBraid : PySem.W.exmOne K (.ref (He.ga K "InvalidBraid")) (.ref (He.ga K "InvalidBraid")) = some true
  ki_InvalidBraid_InvalidBraid : PySem.W.kitOne K (.ref (He.ga K "InvalidBraid")) (.ref (He.ga K "InvalidBraid")) = some true
  xm_InvalidBraid_InvalidLine : PySem.W.exmOne K (.ref (He.ga K "InvalidBraid")) (.ref (He.ga K "InvalidLine")) = some false
  ki_InvalidBraid_InvalidLine : PySem.W.kitOne K (.ref (He.ga K "InvalidBraid")) (.ref (He.ga K "InvalidLine")) = some false
  xm_InvalidBraid_TooMany : PySem.W.exmOne K (.ref (He.ga K "InvalidBraid")) (.ref (He.ga K "TooMany")) = some false
  ki_InvalidBraid_TooMany : PySem.W.kitOne K (.ref (He.ga K "InvalidBraid")) (.ref (He.ga K "TooMany")) = some false
  g_InvalidLine : mg "InvalidLine" = some (.ref (He.ga K "InvalidLine"))
  ox_InvalidLine : OexC K (He.ga K "InvalidLine")
  oi_InvalidLine : PySem.W.findIn K (.ref (He.ga K "InvalidLine")) "__init__" = some (some (.ref (He.ma K (He.ga K "InvalidLine") "__init__"))) ∧ PySem.W.typeIn K (.ref (He.ma K (He.ga K "InvalidLine") "__init__")) = some (.type "function")
  ex_InvalidLine : ExcC K (He.ga K "InvalidLine") ∧ XfC K (He.ga K "InvalidLine")
  na_InvalidLine_line : PySem.W.findIn K (.ref (He.ga K "InvalidLine")) "line" = some none
  xm_InvalidLine_KnotError : PySem.W.exmOne K (.ref (He.ga K "InvalidLine")) (.ref (He.ga K "KnotError")) = some true
  xm_InvalidLine_InvalidBraid : PySem.W.exmOne K (.ref (He.ga K "InvalidLine")) (.ref (He.ga K "InvalidBraid")) = some false
  ki_InvalidLine_InvalidBraid : PySem.W.kitOne K (.ref (He.ga K "InvalidLine")) (.ref (He.ga K "InvalidBraid")) = some false
  xm_InvalidLine_InvalidLine : PySem.W.exmOne K (.ref (He.ga K "InvalidLine")) (.ref (He.ga K "InvalidLine")) = some true
  ki_InvalidLine_InvalidLine : PySem.W.kitOne K (.ref (He.ga K "InvalidLine")) (.ref (He.ga K "InvalidLine")) = some true
  xm_InvalidLine_TooMany : PySem.W.exmOne K (.ref (He.ga K "InvalidLine")) (.ref (He.ga K "TooMany")) = some false
  ki_InvalidLine_TooMany : PySem.W.kitOne K (.ref (He.ga K "InvalidLine")) (.ref (He.ga K "TooMany")) = some false
  g_TooMany : mg "TooMany" = some (.ref (He.ga K "TooMany"))
  ox_TooMany : OexC K (He.ga K "TooMany")
  oi_TooMany : PySem.W.findIn K (.ref (He.ga K "TooMany")) "__init__" = some (some (.ref (He.ma K (He.ga K "TooMany") "__init__"))) ∧ PySem.W.typeIn K (.ref (He.ma K (He.ga K "TooMany") "__init__")) = some (.type "function")
  ex_TooMany : ExcC K (He.ga K "TooMany") ∧ XfC K (He.ga K "TooMany")
  na_TooMany_what : PySem.W.findIn K (.ref (He.ga K "TooMany")) "what" = some none
  xm_TooMany_KnotError : PySem.W.exmOne K (.ref (He.ga K "TooMany")) (.ref (He.ga K "KnotError")) = some true
  xm_TooMany_InvalidBraid : PySem.W.exmOne K (.ref (He.ga K "TooMany")) (.ref (He.ga K "InvalidBraid")) = some false
  ki_TooMany_InvalidBraid : PySem.W.kitOne K (.ref (He.ga K "TooMany")) (.ref (He.ga K "InvalidBraid")) = some false
  xm_TooMany_InvalidLine : PySem.W.exmOne K (.ref (He.ga K "TooMany")) (.ref (He.ga K "InvalidLine")) = some false
  ki_TooMany_InvalidLine : PySem.W.kitOne K (.ref (He.ga K "TooMany")) (.ref (He.ga K "InvalidLine")) = some false
  xm_TooMany_TooMany : PySem.W.exmOne K (.ref (He.ga K "TooMany")) (.ref (He.ga K "TooMany")) = some true
  ki_TooMany_TooMany : PySem.W.kitOne K (.ref (He.ga K "TooMany")) (.ref (He.ga K "TooMany")) = some true
  g_Braid : mg "Braid" = some (.ref (He.ga K "Braid"))
  cl_Braid : Cls K (He.ga K "Braid")
  mk_Braid : Mk K (He.ga K "Braid") (He.ma K (He.ga K "Braid") "__init__")
  is_Braid : KH.isiB "Braid" K = true
  ki_Braid : PySem.W.kitOne K (.ref (He.ga K "Braid")) (.ref (He.ga K "Braid")) = some true
  ki_Braid_list : PySem.W.kitOne K (.ref (He.ga K "Braid")) (.type "list") = some false
  ki_Braid_tuple : PySem.W.kitOne K (.ref (He.ga K "Braid")) (.type "tuple") = some false
  ki_Braid_int : PySem.W.kitOne K (.ref (He.ga K "Braid")) (.type "int") = some false
  ki_Braid_str : PySem.W.kitOne K (.ref (He.ga K "Braid")) (.type "str") = some false
  ki_Braid_bool : PySem.W.kitOne K (.ref (He.ga K "Braid")) (.type "bool") = some false
  ki_Braid_dict : PySem.W.kitOne K (.ref (He.ga K "Braid")) (.type "dict") = some false
  na_Braid_strands : NoAttr K (He.ga K "Braid") "strands"
  na_Braid_word : NoAttr K (He.ga K "Braid") "word"
section
variable {P : Program} {w : World} {K : PySem.W.Frag} {mg : Str → Option Value} {base : Heap} {f : Addr} {cdv : Value} {A : Around} {outer : List Env} {s : Shared} {H : Hp} {E : XK}
theorem sc_InvalidBraid_init : FnScope N_InvalidBraid_init P_InvalidBraid_init (defScope s_InvalidBraid_init) := ⟨rfl, rfl, rfl, by decide +kernel, rfl, by decide +kernel, by decide +kernel⟩
theorem d_InvalidBraid_init  (T : Txt K mg w)  (hr : Room 0 (A.deeper (envOfC "InvalidBraid.__init__" (defScope s_InvalidBraid_init) s.heap.objs.size f cdv))) :
    PSs ((cxOf CX0 P w K mg base N_InvalidBraid_init "InvalidBraid.__init__" (defScope s_InvalidBraid_init) f cdv A outer s H E).nox) (defBody s_InvalidBraid_init) (t_InvalidBraid_init K w) := by
  have hu := hu_of hr
  exact (pss_cons (ps_expr (pe_kinit T.g_KnotError T.r_KnotError T.i_KnotError (pa_cons (pv 0) (pa_cons (pe_op op_add_str pe_str (pv 1)) pa_nil))))
  (pss_one (ps_ost (pv 0) (pv 1))))
theorem sc_InvalidLine_init : FnScope N_InvalidLine_init P_InvalidLine_init (defScope s_InvalidLine_init) := ⟨rfl, rfl, rfl, by decide +kernel, rfl, by decide +kernel, by decide +kernel⟩
theorem d_InvalidLine_init  (T : Txt K mg w)  (hr : Room 0 (A.deeper (envOfC "InvalidLine.__init__" (defScope s_InvalidLine_init) s.heap.objs.size f cdv))) :
    PSs ((cxOf CX0 P w K mg base N_InvalidLine_init "InvalidLine.__init__" (defScope s_InvalidLine_init) f cdv A outer s H E).nox) (defBody s_InvalidLine_init) (t_InvalidLine_init K w) := by
  have hu := hu_of hr
  exact (pss_cons (ps_expr (pe_kinit T.g_KnotError T.r_KnotError T.i_KnotError (pa_cons (pv 0) (pa_cons (pe_joined (PJ.cons pe_str (PJ.cons (pe_fmt (pv 1)) PJ.nil))) pa_nil))))
  (pss_one (ps_ost (pv 0) (pv 1))))
theorem sc_TooMany_init : FnScope N_TooMany_init P_TooMany_init (defScope s_TooMany_init) := ⟨rfl, rfl, rfl, by decide +kernel, rfl, by decide +kernel, by decide +kernel⟩
theorem d_TooMany_init  (T : Txt K mg w)  (hr : Room 0 (A.deeper (envOfC "TooMany.__init__" (defScope s_TooMany_init) s.heap.objs.size f cdv))) :
    PSs ((cxOf CX0 P w K mg base N_TooMany_init "TooMany.__init__" (defScope s_TooMany_init) f cdv A outer s H E).nox) (defBody s_TooMany_init) (t_TooMany_init K w) := by
  have hu := hu_of hr
  exact (pss_cons (ps_expr (pe_kinit T.g_KnotError T.r_KnotError T.i_KnotError (pa_cons (pv 0) (pa_cons (pe_op op_add_str pe_str (pv 1)) pa_nil))))
  (pss_one (ps_ost (pv 0) (pv 1))))
theorem sc_Braid_init : FnScope N_Braid_init P_Braid_init (defScope s_Braid_init) := ⟨rfl, rfl, rfl, by decide +kernel, rfl, by decide +kernel, by decide +kernel⟩
theorem d_Braid_init {sp_InvalidBraid_init : Sp} {sp_TooMany_init : Sp} (T : Txt K mg w) (c_InvalidBraid_init : Exm P w K mg base 1 "InvalidBraid" (He.ga K "InvalidBraid") sp_InvalidBraid_init) (c_TooMany_init : Exm P w K mg base 1 "TooMany" (He.ga K "TooMany") sp_TooMany_init) (hr : Room 2 (A.deeper (envOfC "Braid.__init__" (defScope s_Braid_init) s.heap.objs.size f cdv))) :
    PSs ((cxOf (L2.CX P w) P w K mg base N_Braid_init "Braid.__init__" (defScope s_Braid_init) f cdv A outer s H E)) (defBody s_Braid_init) (t_Braid_init K w E sp_InvalidBraid_init sp_TooMany_init) := by
  have hu := hu_of hr
  have tk0 : Takes ((cxOf (L2.CX P w) P w K mg base N_Braid_init "Braid.__init__" (defScope s_Braid_init) f cdv A outer s H E)) (fun cls d _ H => E cls d H) := takes_of rfl rfl rfl rfl
  exact (pss_cons (ps_if (pt_not (pt_chain op_le op_le pe_int (pv 1) (pe_gc (by rfl) T.c_MOST_STRANDS)))
  (pss_one (ps_rz rfl tk0 (pmk_exm c_InvalidBraid_init hr (by decide) (pa_cons pe_str pa_nil))))
  pss_nil)
  (pss_cons (ps_for (passes_of rfl) rfl (pi_list (pv 2)) (pg_name (i := 3) sc_Braid_init.nd rfl (Or.inl rfl))
  (pss_one (ps_if (PW.pt (pw_or (pt_cmpR op_eq (pv 3) pe_int (nomark _)) (pw_or1 (pt_cmpR op_ge (pe_callB call_abs (by rfl) T.b_abs (by decide +kernel) (pa_cons (pv 3) pa_nil)) (pv 1) (nomark _)))))
  (pss_one (ps_rz rfl tk0 (pmk_exm c_InvalidBraid_init hr (by decide) (pa_cons pe_str pa_nil))))
  pss_nil)))
  (pss_cons (ps_if (pt_cmpR op_gt (pe_callB call_len_seq (by rfl) T.b_len (by decide +kernel) (pa_cons (pv 2) pa_nil)) (pe_gc (by rfl) T.c_MOST_LETTERS) (nomark _))
  (pss_one (ps_rz rfl tk0 (pmk_exm c_TooMany_init hr (by decide) (pa_cons pe_str pa_nil))))
  pss_nil)
  (pss_cons (ps_fld (pv 0) (pv 1) rfl)
  (pss_one (ps_fld (pv 0) (pe_callTy call_list_of (by rfl) T.b_list (by decide +kernel) (pa_cons (pv 2) pa_nil)) rfl))))))
theorem sc_integer_of : FnScope N_integer_of P_integer_of (defScope s_integer_of) := ⟨rfl, rfl, rfl, by decide +kernel, rfl, by decide +kernel, by decide +kernel⟩
theorem d_integer_of  (T : Txt K mg w)  (hr : Room 0 (A.deeper (envOfC "integer_of" (defScope s_integer_of) s.heap.objs.size f cdv))) :
    PSs ((cxOf CX0 P w K mg base N_integer_of "integer_of" (defScope s_integer_of) f cdv A outer s H E).nox) (defBody s_integer_of) (t_integer_of K w) := by
  have hu := hu_of hr
  exact (pss_cons (ps_set (i := 1) sc_integer_of.nd rfl (Or.inl rfl) (pv 0))
  (pss_cons (ps_if (pt_val (pe_m1 PySem.F.slot_str_startswith PySem.F.type_str_startswith mt_startswith (pv 0) pe_str))
  (pss_one (ps_set (i := 1) sc_integer_of.nd rfl (Or.inl rfl) (pe_slice sl_str (pv 0) (po_some pe_int) po_none)))
  pss_nil)
  (pss_cons (ps_if (PW.pt (pw_or (pt_not (pt_val (pe_m0 PySem.F.slot_str_isascii PySem.F.type_str_isascii mt_isascii (pv 1)))) (pw_or (pt_not (pt_val (pe_m0 PySem.F.slot_str_isdigit PySem.F.type_str_isdigit mt_isdigit (pv 1)))) (pw_or1 (pt_cmpR op_gt (pe_callB call_len_str (by rfl) T.b_len (by decide +kernel) (pa_cons (pv 1) pa_nil)) (pe_gc (by rfl) T.c_MOST_DIGITS) (nomark _))))))
  (pss_one (ps_ret pe_non))
  pss_nil)
  (pss_cons (ps_if (PW.pt (pw_and (pt_val (pe_m1 PySem.F.slot_str_startswith PySem.F.type_str_startswith mt_startswith (pv 1) pe_str)) (pw_and1 (pt_cmpR op_ne (pv 0) pe_str (nomark _)))))
  (pss_one (ps_ret pe_non))
  pss_nil)
  (pss_one (ps_ret (pe_callTy call_int_str (by rfl) T.b_int (by decide +kernel) (pa_cons (pv 0) pa_nil))))))))
theorem sc_integers_of : FnScope N_integers_of P_integers_of (defScope s_integers_of) := ⟨rfl, rfl, rfl, by decide +kernel, rfl, by decide +kernel, by decide +kernel⟩
theorem d_integers_of {sp_integer_of : Sp} (T : Txt K mg w) (c_integer_of : Cl CX0 P w K mg base 1 "integer_of" sp_integer_of) (hr : Room 1 (A.deeper (envOfC "integers_of" (defScope s_integers_of) s.heap.objs.size f cdv))) :
    PSs ((cxOf CX0 P w K mg base N_integers_of "integers_of" (defScope s_integers_of) f cdv A outer s H E).nox) (defBody s_integers_of) (t_integers_of K w sp_integer_of) := by
  have hu := hu_of hr
  exact (pss_cons (ps_setLc (i := 1) (own := [("word", 2)]) (g := (gName 2)) (tt := tYes) rfl sc_integers_of.nd rfl rfl (sw_true rfl rfl rfl (by decide +kernel)) (pi_list (pv 0)) (blkOk_by (own := [("word", 2)]) (N := N_integers_of) (sc := defScope s_integers_of) (by decide +kernel)) (fun _ _ _ _ _ => (pg_name (i := 2) sc_integers_of.nd rfl (Or.inl rfl))) (fun _ _ _ _ _ => pts_nil) (fun _ _ _ _ _ => (pe_cl c_integer_of hr (by decide) pass0 (pa_cons (pv 2) pa_nil))))
  (pss_cons (ps_if (pt_cmpR op_in_seq pe_non (pv 1) (by with_unfolding_all rfl))
  (pss_one (ps_ret pe_non))
  pss_nil)
  (pss_one (ps_ret (pv 1)))))
theorem sc_write_braid : FnScope N_write_braid P_write_braid (defScope s_write_braid) := ⟨rfl, rfl, rfl, by decide +kernel, rfl, by decide +kernel, by decide +kernel⟩
theorem d_write_braid  (T : Txt K mg w)  (hr : Room 0 (A.deeper (envOfC "write_braid" (defScope s_write_braid) s.heap.objs.size f cdv))) :
    PSs ((cxOf CX0 P w K mg base N_write_braid "write_braid" (defScope s_write_braid) f cdv A outer s H E).nox) (defBody s_write_braid) (t_write_braid K w) := by
  have hu := hu_of hr
  exact (pss_one (ps_ret (pe_join pe_str (pe_op op_cat (pe_lst (pa_cons pe_str (pa_cons (pe_callTy call_str_int (by rfl) T.b_str (by decide +kernel) (pa_cons (pe_fld (pv 0) rfl) pa_nil)) pa_nil))) (pe_lc (own := [("letter", 1)]) (g := (gName 1)) (tt := tYes) rfl sc_write_braid.nd (pi_list (pe_fld (pv 0) rfl)) (blkOk_by (own := [("letter", 1)]) (N := N_write_braid) (sc := defScope s_write_braid) (by decide +kernel)) (fun _ _ _ _ _ => (pg_name (i := 1) sc_write_braid.nd rfl (Or.inl rfl))) (fun _ _ _ _ _ => pts_nil) (fun _ _ _ _ _ => (pe_callTy call_str_int (by rfl) T.b_str (by decide +kernel) (pa_cons (pv 1) pa_nil))))))))
theorem sc_read_braid : FnScope N_read_braid P_read_braid (defScope s_read_braid) := ⟨rfl, rfl, rfl, by decide +kernel, rfl, by decide +kernel, by decide +kernel⟩
theorem d_read_braid {sp_integers_of : Sp} {sp_InvalidLine_init : Sp} {sp_Braid_init : Sp} (T : Txt K mg w) (c_integers_of : Cl CX0 P w K mg base 2 "integers_of" sp_integers_of) (c_InvalidLine_init : Exm P w K mg base 1 "InvalidLine" (He.ga K "InvalidLine") sp_InvalidLine_init) (c_Braid_init : Mkr (L2.CX P w) P w K mg base 3 "Braid" (He.ga K "Braid") sp_Braid_init) (hr : Room 4 (A.deeper (envOfC "read_braid" (defScope s_read_braid) s.heap.objs.size f cdv))) :
    PSs ((cxOf (L2.CX P w) P w K mg base N_read_braid "read_braid" (defScope s_read_braid) f cdv A outer s H E)) (defBody s_read_braid) (t_read_braid K w E sp_integers_of sp_InvalidLine_init sp_Braid_init) := by
  have hu := hu_of hr
  have tk0 : Takes ((cxOf (L2.CX P w) P w K mg base N_read_braid "read_braid" (defScope s_read_braid) f cdv A outer s H E)) (fun cls d _ H => E cls d H) := takes_of rfl rfl rfl rfl
  exact (pss_cons (ps_set (i := 1) sc_read_braid.nd rfl (Or.inl rfl) (pe_split (pv 0) pe_str))
  (pss_cons (ps_set (i := 2) sc_read_braid.nd rfl (Or.inl rfl) (pe_cl c_integers_of hr (by decide) pass0 (pa_cons (pe_slice sl_list (pv 1) (po_some pe_int) po_none) pa_nil)))
  (pss_cons (ps_if (PW.pt (pw_or (pt_cmpR op_ne (pe_ix ix_list (pv 1) pe_int (fun _ _ => rfl)) pe_str (nomark _)) (pw_or (pt_cmpR op_isN (pv 2) pe_non (nomark _)) (pw_or1 (pt_cmpR op_eq (pe_callB call_len_seq (by rfl) T.b_len (by decide +kernel) (pa_cons (pv 2) pa_nil)) pe_int (nomark _))))))
  (pss_one (ps_rz rfl tk0 (pmk_exm c_InvalidLine_init hr (by decide) (pa_cons pe_int pa_nil))))
  pss_nil)
  (pss_one (ps_ret (pe_mkr c_Braid_init hr (by decide) (passes_call tk0 fun _ _ _ _ h => h) (pa_cons (pe_ix ix_list (pv 2) pe_int (fun _ _ => rfl)) (pa_cons (pe_slice sl_list (pv 2) (po_some pe_int) po_none) pa_nil))))))))
theorem sc_write_paper : FnScope N_write_paper P_write_paper (defScope s_write_paper) := ⟨rfl, rfl, rfl, by decide +kernel, rfl, by decide +kernel, by decide +kernel⟩
theorem d_write_paper  (T : Txt K mg w)  (hr : Room 0 (A.deeper (envOfC "write_paper" (defScope s_write_paper) s.heap.objs.size f cdv))) :
    PSs ((cxOf CX0 P w K mg base N_write_paper "write_paper" (defScope s_write_paper) f cdv A outer s H E).nox) (defBody s_write_paper) (t_write_paper K w) := by
  have hu := hu_of hr
  exact (pss_cons (ps_set (i := 1) sc_write_paper.nd rfl (Or.inl rfl) (pe_lst pa_nil))
  (pss_cons (ps_for PassesOwn.never rfl (pi_list (pv 0)) (pg_name (i := 2) sc_write_paper.nd rfl (Or.inl rfl))
  (pss_cons (ps_set (i := 3) sc_write_paper.nd rfl (Or.inl rfl) (pe_lst (pa_cons (pe_ix ix_tup (pv 2) pe_int (fun _ _ => rfl)) pa_nil)))
  (pss_cons (ps_for PassesOwn.never rfl (pi_tup (pe_slice sl_tup (pv 2) (po_some pe_int) po_none)) (pg_name (i := 4) sc_write_paper.nd rfl (Or.inl rfl))
  (pss_one (ps_if (pt_cmpR op_isN (pv 4) pe_non (nomark _))
  (pss_one (ps_expr (pe_bm PySem.F.plainAttrs_list PySem.F.slot_list_append PySem.F.type_list_append mt_append (pv 3) (pa_cons pe_str pa_nil))))
  (pss_one (ps_expr (pe_bm PySem.F.plainAttrs_list PySem.F.slot_list_append PySem.F.type_list_append mt_append (pv 3) (pa_cons (pe_callTy call_strA (by rfl) T.b_str (by decide +kernel) (pa_cons (pv 4) pa_nil)) pa_nil)))))))
  (pss_one (ps_expr (pe_bm PySem.F.plainAttrs_list PySem.F.slot_list_append PySem.F.type_list_append mt_append (pv 1) (pa_cons (pe_join pe_str (pv 3)) pa_nil)))))))
  (pss_one (ps_ret (pv 1)))))
theorem sc_read_move : FnScope N_read_move P_read_move (defScope s_read_move) := ⟨rfl, rfl, rfl, by decide +kernel, rfl, by decide +kernel, by decide +kernel⟩
theorem d_read_move {sp_integer_of : Sp} (T : Txt K mg w) (c_integer_of : Cl CX0 P w K mg base 1 "integer_of" sp_integer_of) (hr : Room 1 (A.deeper (envOfC "read_move" (defScope s_read_move) s.heap.objs.size f cdv))) :
    PSs ((cxOf CX0 P w K mg base N_read_move "read_move" (defScope s_read_move) f cdv A outer s H E).nox) (defBody s_read_move) (t_read_move K w sp_integer_of) := by
  have hu := hu_of hr
  exact (pss_cons (ps_set (i := 1) sc_read_move.nd rfl (Or.inl rfl) (pe_split (pv 0) pe_str))
  (pss_cons (ps_if (PW.pt (pw_or (pt_cmp (pc_knotin (pe_ix ix_list (pv 1) pe_int (fun _ _ => rfl)) (pe_gc (by rfl) T.c_ARGUMENTS)) (by with_unfolding_all rfl)) (pw_or1 (pt_cmpR op_ne (pe_callB call_len_seq (by rfl) T.b_len (by decide +kernel) (pa_cons (pv 1) pa_nil)) (pe_op op_add (pe_kget (pe_gc (by rfl) T.c_ARGUMENTS) (pe_ix ix_list (pv 1) pe_int (fun _ _ => rfl))) pe_int) (nomark _)))))
  (pss_one (ps_ret pe_non))
  pss_nil)
  (pss_cons (ps_setLc (i := 2) (own := [("word", 4)]) (g := (gName 4)) (tt := tYes) rfl sc_read_move.nd rfl rfl (sw_true rfl rfl rfl (by decide +kernel)) (pi_list (pe_slice sl_list (pv 1) (po_some pe_int) po_none)) (blkOk_by (own := [("word", 4)]) (N := N_read_move) (sc := defScope s_read_move) (by decide +kernel)) (fun _ _ _ _ _ => (pg_name (i := 4) sc_read_move.nd rfl (Or.inl rfl))) (fun _ _ _ _ _ => pts_nil) (fun _ _ _ _ _ => (pe_cl c_integer_of hr (by decide) pass0 (pa_cons (pv 4) pa_nil))))
  (pss_cons (ps_set (i := 3) sc_read_move.nd rfl (Or.inl rfl) (pe_and (pe_cmpR op_eq (pe_ix ix_list (pv 1) pe_int (fun _ _ => rfl)) pe_str (nomark _)) (pe_one (pe_cmpR op_eq (pe_ix ix_list (pv 1) pe_int (fun _ _ => rfl)) pe_str (nomark _)))))
  (pss_cons (ps_if (pt_cmpR op_in_seq pe_non (pe_slice sl_list (pv 2) (po_some (pe_callTy call_int1 (by rfl) T.b_int (by decide +kernel) (pa_cons (pv 3) pa_nil))) po_none) (by with_unfolding_all rfl))
  (pss_one (ps_ret pe_non))
  pss_nil)
  (pss_one (ps_ret (pe_op op_catT (pe_tup (pa_cons (pe_ix ix_list (pv 1) pe_int (fun _ _ => rfl)) pa_nil)) (pe_callTy call_tuple_of (by rfl) T.b_tuple (by decide +kernel) (pa_cons (pv 2) pa_nil))))))))))
theorem sc_read_paper : FnScope N_read_paper P_read_paper (defScope s_read_paper) := ⟨rfl, rfl, rfl, by decide +kernel, rfl, by decide +kernel, by decide +kernel⟩
theorem d_read_paper {sp_read_move : Sp} {sp_InvalidLine_init : Sp} (T : Txt K mg w) (c_read_move : Cl CX0 P w K mg base 2 "read_move" sp_read_move) (c_InvalidLine_init : Exm P w K mg base 1 "InvalidLine" (He.ga K "InvalidLine") sp_InvalidLine_init) (hr : Room 2 (A.deeper (envOfC "read_paper" (defScope s_read_paper) s.heap.objs.size f cdv))) :
    PSs ((cxOf (L2.CX P w) P w K mg base N_read_paper "read_paper" (defScope s_read_paper) f cdv A outer s H E)) (defBody s_read_paper) (t_read_paper K w E sp_read_move sp_InvalidLine_init) := by
  have hu := hu_of hr
  have tk0 : Takes ((cxOf (L2.CX P w) P w K mg base N_read_paper "read_paper" (defScope s_read_paper) f cdv A outer s H E)) (fun cls d _ H => E cls d H) := takes_of rfl rfl rfl rfl
  exact (pss_cons (ps_set (i := 1) sc_read_paper.nd rfl (Or.inl rfl) (pe_lst pa_nil))
  (pss_cons (ps_for (passes_of rfl) rfl (pi_enum (by rfl) T.b_enumerate (pa_cons (pv 0) pa_nil)) (pg_tup rfl (pgs_cons (pg_name (i := 2) sc_read_paper.nd rfl (Or.inl rfl)) (pgs_cons (pg_name (i := 3) sc_read_paper.nd rfl (Or.inl rfl)) pgs_nil)))
  (pss_cons (ps_set (i := 4) sc_read_paper.nd rfl (Or.inl rfl) (pe_cl c_read_move hr (by decide) pass0 (pa_cons (pv 3) pa_nil)))
  (pss_cons (ps_if (pt_cmpR op_isN (pv 4) pe_non (nomark _))
  (pss_one (ps_rz rfl tk0 (pmk_exm c_InvalidLine_init hr (by decide) (pa_cons (pv 2) pa_nil))))
  pss_nil)
  (pss_one (ps_expr (pe_bm PySem.F.plainAttrs_list PySem.F.slot_list_append PySem.F.type_list_append mt_append (pv 1) (pa_cons (pv 4) pa_nil)))))))
  (pss_one (ps_ret (pv 1)))))
theorem sc__law_deck : FnScope N__law_deck P__law_deck (defScope s__law_deck) := ⟨rfl, rfl, rfl, by decide +kernel, rfl, by decide +kernel, by decide +kernel⟩
theorem d__law_deck  (T : Txt K mg w)  (hr : Room 0 (A.deeper (envOfC "_law_deck" (defScope s__law_deck) s.heap.objs.size f cdv))) :
    PSs ((cxOf CX0 P w K mg base N__law_deck "_law_deck" (defScope s__law_deck) f cdv A outer s H E).nox) (defBody s__law_deck) (t__law_deck K w) := by
  have hu := hu_of hr
  exact (pss_cons (ps_set (i := 3) sc__law_deck.nd rfl (Or.inl rfl) (pe_lst pa_nil))
  (pss_cons (ps_set (i := 4) sc__law_deck.nd rfl (Or.inl rfl) (pe_op op_add pe_int (pe_callB call_len_seq (by rfl) T.b_len (by decide +kernel) (pa_cons (pv 0) pa_nil))))
  (pss_cons (ps_for PassesOwn.never rfl (pi_range1 rfl T.b_range (pa_cons (pv 1) pa_nil)) (pg_name (i := 5) sc__law_deck.nd rfl (Or.inl rfl))
  (pss_cons (ps_set (i := 6) sc__law_deck.nd rfl (Or.inl rfl) pe_int)
  (pss_cons (ps_if (pt_cmpR op_lt (pv 5) (pe_callB call_len_seq (by rfl) T.b_len (by decide +kernel) (pa_cons (pv 0) pa_nil)) (nomark _))
  (pss_one (ps_set (i := 6) sc__law_deck.nd rfl (Or.inl rfl) (pe_ix ix_list (pv 0) (pv 5) (fun _ _ => rfl))))
  pss_nil)
  (pss_cons (ps_set (i := 7) sc__law_deck.nd rfl (Or.inl rfl) (pe_callB call_abs (by rfl) T.b_abs (by decide +kernel) (pa_cons (pv 6) pa_nil)))
  (pss_one (ps_if (pt_cmpR op_ge (pv 7) (pe_op op_pow pe_int pe_int) (nomark _))
  (pss_one (ps_for PassesOwn.never rfl (pi_range1 rfl T.b_range (pa_cons (pv 2) pa_nil)) (pg_name (i := 8) sc__law_deck.nd rfl (Or.inl rfl))
  (pss_cons (ps_expr (pe_bm PySem.F.plainAttrs_list PySem.F.slot_list_append PySem.F.type_list_append mt_append (pv 3) (pa_cons (pe_op op_mod (pe_callTy call_int1 (by rfl) T.b_int (by decide +kernel) (pa_cons (pv 7) pa_nil)) pe_int) pa_nil)))
  (pss_one (ps_set (i := 7) sc__law_deck.nd rfl (Or.inl rfl) (pe_op op_fdivW (pv 7) pe_int))))))
  (pss_cons (ps_set (i := 4) sc__law_deck.nd rfl (Or.inl rfl) (pe_op op_mod (pe_callTy call_int1 (by rfl) T.b_int (by decide +kernel) (pa_cons (pe_op op_add (pe_op op_add (pe_op op_add (pe_op op_mulW (pv 4) pe_int) (pe_op op_mulW pe_int (pv 7))) (pe_callTy call_int1 (by rfl) T.b_int (by decide +kernel) (pa_cons (pe_cmpR op_lt (pv 6) pe_int (nomark _)) pa_nil))) (pv 5)) pa_nil)) pe_int))
  (pss_one (ps_for PassesOwn.never rfl (pi_range1 rfl T.b_range (pa_cons (pv 2) pa_nil)) (pg_name (i := 8) sc__law_deck.nd rfl (Or.inl rfl))
  (pss_cons (ps_set (i := 4) sc__law_deck.nd rfl (Or.inl rfl) (pe_op op_mod (pe_callTy call_int1 (by rfl) T.b_int (by decide +kernel) (pa_cons (pe_op op_add (pe_op op_add (pe_op op_mulW (pv 4) pe_int) (pv 8)) pe_int) pa_nil)) pe_int))
  (pss_one (ps_expr (pe_bm PySem.F.plainAttrs_list PySem.F.slot_list_append PySem.F.type_list_append mt_append (pv 3) (pa_cons (pe_op op_mod (pe_callTy call_int1 (by rfl) T.b_int (by decide +kernel) (pa_cons (pe_op op_fdivW (pv 4) pe_int) pa_nil)) pe_int) pa_nil))))))))))))))
  (pss_cons (ps_expr (pe_bm0 PySem.F.plainAttrs_list PySem.F.slot_list_reverse PySem.F.type_list_reverse mt_reverse (pv 3)))
  (pss_one (ps_ret (pv 3)))))))
theorem sc__law_take : FnScope N__law_take P__law_take (defScope s__law_take) := ⟨rfl, rfl, rfl, by decide +kernel, rfl, by decide +kernel, by decide +kernel⟩
theorem d__law_take  (T : Txt K mg w)  (hr : Room 0 (A.deeper (envOfC "_law_take" (defScope s__law_take) s.heap.objs.size f cdv))) :
    PSs ((cxOf CX0 P w K mg base N__law_take "_law_take" (defScope s__law_take) f cdv A outer s H E).nox) (defBody s__law_take) (t__law_take K w) := by
  have hu := hu_of hr
  exact (pss_cons (ps_if (pt_cmpR op_eq (pe_callB call_len_seq (by rfl) T.b_len (by decide +kernel) (pa_cons (pv 0) pa_nil)) pe_int (nomark _))
  (pss_one (ps_ret pe_int))
  pss_nil)
  (pss_one (ps_ret (pe_op op_mod (pe_callTy call_int1 (by rfl) T.b_int (by decide +kernel) (pa_cons (pe_bm0 PySem.F.plainAttrs_list PySem.F.slot_list_pop PySem.F.type_list_pop mt_pop (pv 0)) pa_nil)) (pv 1)))))
theorem sc__law_plain : FnScope N__law_plain P__law_plain (defScope s__law_plain) := ⟨rfl, rfl, rfl, by decide +kernel, rfl, by decide +kernel, by decide +kernel⟩
theorem d__law_plain {n : Nat} {sp__law_plain : Sp} (T : Txt K mg w) (c__law_plain : Cl CX0 P w K mg base n "_law_plain" sp__law_plain) (hr : Room n (A.deeper (envOfC "_law_plain" (defScope s__law_plain) s.heap.objs.size f cdv))) :
    PSs ((cxOf CX0 P w K mg base N__law_plain "_law_plain" (defScope s__law_plain) f cdv A outer s H E).nox) (defBody s__law_plain) (t__law_plain K w sp__law_plain) := by
  have hu := hu_of hr
  exact (pss_cons (ps_if (pt_val (pe_callB call_isiT (by rfl) T.b_isinstance (by decide +kernel) (pa_cons (pv 0) (pa_cons (pe_tup (pa_cons (pe_bltn (by rfl) T.b_tuple (by decide +kernel) rfl) (pa_cons (pe_bltn (by rfl) T.b_list (by decide +kernel) rfl) pa_nil))) pa_nil))))
  (pss_one (ps_ret (pe_op op_cat (pe_lst (pa_cons (pe_callB call_isi (by rfl) T.b_isinstance (by decide +kernel) (pa_cons (pv 0) (pa_cons (pe_bltn (by rfl) T.b_list (by decide +kernel) rfl) pa_nil))) pa_nil)) (pe_lc (own := [("item", 1)]) (g := (gName 1)) (tt := tYes) rfl sc__law_plain.nd (pi_seq (pv 0)) (blkOk_by (own := [("item", 1)]) (N := N__law_plain) (sc := defScope s__law_plain) (by decide +kernel)) (fun _ _ _ _ _ => (pg_name (i := 1) sc__law_plain.nd rfl (Or.inl rfl))) (fun _ _ _ _ _ => pts_nil) (fun _ _ _ _ _ => (pe_cl c__law_plain hr (Nat.le_refl _) pass0 (pa_cons (pv 1) pa_nil)))))))
  pss_nil)
  (pss_cons (ps_if (PW.pt (pw_or (pt_cmpR op_isN (pv 0) pe_non (nomark _)) (pw_or1 (pt_val (pe_callB call_isi (by rfl) T.b_isinstance (by decide +kernel) (pa_cons (pv 0) (pa_cons (pe_bltn (by rfl) T.b_bool (by decide +kernel) rfl) pa_nil)))))))
  (pss_one (ps_ret (pe_ix ix_list (pe_lst (pa_cons pe_str (pa_cons pe_str (pa_cons pe_str pa_nil)))) (pe_op op_add (pe_callTy call_int1 (by rfl) T.b_int (by decide +kernel) (pa_cons (pe_cmpR op_notN (pv 0) pe_non (nomark _)) pa_nil)) (pe_callTy call_int1 (by rfl) T.b_int (by decide +kernel) (pa_cons (pe_cmpR op_isBN (pv 0) pe_bl (nomark _)) pa_nil))) (fun _ _ => rfl))))
  pss_nil)
  (pss_cons (ps_if (pt_val (pe_callB call_isiT (by rfl) T.b_isinstance (by decide +kernel) (pa_cons (pv 0) (pa_cons (pe_tup (pa_cons (pe_bltn (by rfl) T.b_int (by decide +kernel) rfl) (pa_cons (pe_bltn (by rfl) T.b_str (by decide +kernel) rfl) pa_nil))) pa_nil))))
  (pss_one (ps_ret (pe_lst (pa_cons (pe_callB call_isi (by rfl) T.b_isinstance (by decide +kernel) (pa_cons (pv 0) (pa_cons (pe_bltn (by rfl) T.b_str (by decide +kernel) rfl) pa_nil))) (pa_cons (pv 0) pa_nil)))))
  pss_nil)
  (pss_one (ps_ret pe_str)))))
theorem sc__law_spoil : FnScope N__law_spoil P__law_spoil (defScope s__law_spoil) := ⟨rfl, rfl, rfl, by decide +kernel, rfl, by decide +kernel, by decide +kernel⟩
theorem d__law_spoil {n : Nat} {sp__law_spoil : Sp} (T : Txt K mg w) (c__law_spoil : Cl CX0 P w K mg base n "_law_spoil" sp__law_spoil) (hr : Room n (A.deeper (envOfC "_law_spoil" (defScope s__law_spoil) s.heap.objs.size f cdv))) :
    PSs ((cxOf CX0 P w K mg base N__law_spoil "_law_spoil" (defScope s__law_spoil) f cdv A outer s H E).nox) (defBody s__law_spoil) (t__law_spoil K w sp__law_spoil) := by
  have hu := hu_of hr
  exact (pss_cons (ps_if (pt_val (pe_callB call_isiT (by rfl) T.b_isinstance (by decide +kernel) (pa_cons (pv 0) (pa_cons (pe_tup (pa_cons (pe_bltn (by rfl) T.b_list (by decide +kernel) rfl) (pa_cons (pe_bltn (by rfl) T.b_tuple (by decide +kernel) rfl) pa_nil))) pa_nil))))
  (pss_one (ps_for PassesOwn.never rfl (pi_seq (pv 0)) (pg_name (i := 1) sc__law_spoil.nd rfl (Or.inl rfl))
  (pss_one (ps_expr (pe_cl c__law_spoil hr (Nat.le_refl _) pass0 (pa_cons (pv 1) pa_nil))))))
  pss_nil)
  (pss_one (ps_if (pt_val (pe_callB call_isi (by rfl) T.b_isinstance (by decide +kernel) (pa_cons (pv 0) (pa_cons (pe_bltn (by rfl) T.b_list (by decide +kernel) rfl) pa_nil))))
  (pss_one (ps_expr (pe_bm PySem.F.plainAttrs_list PySem.F.slot_list_append PySem.F.type_list_append mt_append (pv 0) (pa_cons pe_int pa_nil))))
  pss_nil)))
theorem sc__law_word : FnScope N__law_word P__law_word (defScope s__law_word) := ⟨rfl, rfl, rfl, by decide +kernel, rfl, by decide +kernel, by decide +kernel⟩
theorem d__law_word {sp__law_take : Sp} (T : Txt K mg w) (c__law_take : Cl CX0 P w K mg base 1 "_law_take" sp__law_take) (hr : Room 1 (A.deeper (envOfC "_law_word" (defScope s__law_word) s.heap.objs.size f cdv))) :
    PSs ((cxOf CX0 P w K mg base N__law_word "_law_word" (defScope s__law_word) f cdv A outer s H E).nox) (defBody s__law_word) (t__law_word K w sp__law_take) := by
  have hu := hu_of hr
  exact (pss_cons (ps_set (i := 3) sc__law_word.nd rfl (Or.inl rfl) (pe_lst pa_nil))
  (pss_cons (ps_for PassesOwn.never rfl (pi_range1 rfl T.b_range (pa_cons (pe_op op_mulW (pe_cl c__law_take hr (by decide) pass0 (pa_cons (pv 0) (pa_cons (pe_op op_add (pv 2) pe_int) pa_nil))) (pe_callTy call_int1 (by rfl) T.b_int (by decide +kernel) (pa_cons (pe_cmpR op_gt (pv 1) pe_int (nomark _)) pa_nil))) pa_nil)) (pg_name (i := 4) sc__law_word.nd rfl (Or.inl rfl))
  (pss_one (ps_expr (pe_bm PySem.F.plainAttrs_list PySem.F.slot_list_append PySem.F.type_list_append mt_append (pv 3) (pa_cons (pe_op op_mulW (pe_op op_add pe_int (pe_cl c__law_take hr (by decide) pass0 (pa_cons (pv 0) (pa_cons (pe_op op_sub (pv 1) pe_int) pa_nil)))) (pe_ix ix_list (pe_lst (pa_cons pe_int (pa_cons (pe_un un_neg pe_int) pa_nil))) (pe_cl c__law_take hr (by decide) pass0 (pa_cons (pv 0) (pa_cons pe_int pa_nil))) (fun _ _ => rfl))) pa_nil)))))
  (pss_one (ps_ret (pv 3)))))
theorem sc__law_written : FnScope N__law_written P__law_written (defScope s__law_written) := ⟨rfl, rfl, rfl, by decide +kernel, rfl, by decide +kernel, by decide +kernel⟩
theorem d__law_written  (T : Txt K mg w)  (hr : Room 0 (A.deeper (envOfC "_law_written" (defScope s__law_written) s.heap.objs.size f cdv))) :
    PSs ((cxOf CX0 P w K mg base N__law_written "_law_written" (defScope s__law_written) f cdv A outer s H E).nox) (defBody s__law_written) (t__law_written K w) := by
  have hu := hu_of hr
  exact (pss_one (ps_ret (pe_join pe_str (pe_lc (own := [("item", 1)]) (g := (gName 1)) (tt := tYes) rfl sc__law_written.nd (pi_list (pv 0)) (blkOk_by (own := [("item", 1)]) (N := N__law_written) (sc := defScope s__law_written) (by decide +kernel)) (fun _ _ _ _ _ => (pg_name (i := 1) sc__law_written.nd rfl (Or.inl rfl))) (fun _ _ _ _ _ => pts_nil) (fun _ _ _ _ _ => (pe_ifExp (pt_cmpR op_notN (pv 1) pe_non (nomark _)) (pe_callTy call_strA (by rfl) T.b_str (by decide +kernel) (pa_cons (pv 1) pa_nil)) pe_str))))))
theorem sc__law_integer : FnScope N__law_integer P__law_integer (defScope s__law_integer) := ⟨rfl, rfl, rfl, by decide +kernel, rfl, by decide +kernel, by decide +kernel⟩
theorem d__law_integer {sp__law_take : Sp} (T : Txt K mg w) (c__law_take : Cl CX0 P w K mg base 1 "_law_take" sp__law_take) (hr : Room 1 (A.deeper (envOfC "_law_integer" (defScope s__law_integer) s.heap.objs.size f cdv))) :
    PSs ((cxOf CX0 P w K mg base N__law_integer "_law_integer" (defScope s__law_integer) f cdv A outer s H E).nox) (defBody s__law_integer) (t__law_integer K w sp__law_take) := by
  have hu := hu_of hr
  exact (pss_cons (ps_set (i := 1) sc__law_integer.nd rfl (Or.inl rfl) (pe_cl c__law_take hr (by decide) pass0 (pa_cons (pv 0) (pa_cons pe_int pa_nil))))
  (pss_cons (ps_if (pt_cmpR op_lt (pv 1) pe_int (nomark _))
  (pss_one (ps_ret (pe_op op_sub (pe_cl c__law_take hr (by decide) pass0 (pa_cons (pv 0) (pa_cons pe_int pa_nil))) pe_int)))
  pss_nil)
  (pss_cons (ps_if (pt_cmpR op_eq (pv 1) pe_int (nomark _))
  (pss_one (ps_ret (pe_op op_mulW (pe_cl c__law_take hr (by decide) pass0 (pa_cons (pv 0) (pa_cons pe_int pa_nil))) (pe_ix ix_list (pe_lst (pa_cons pe_int (pa_cons (pe_un un_neg pe_int) pa_nil))) (pe_cl c__law_take hr (by decide) pass0 (pa_cons (pv 0) (pa_cons pe_int pa_nil))) (fun _ _ => rfl)))))
  pss_nil)
  (pss_one (ps_ret (pe_op op_mulW (pe_op op_sub (pe_op op_sub (pe_op op_pow pe_int pe_int) pe_int) (pe_cl c__law_take hr (by decide) pass0 (pa_cons (pv 0) (pa_cons pe_int pa_nil)))) (pe_ix ix_list (pe_lst (pa_cons pe_int (pa_cons (pe_un un_neg pe_int) pa_nil))) (pe_cl c__law_take hr (by decide) pass0 (pa_cons (pv 0) (pa_cons pe_int pa_nil))) (fun _ _ => rfl))))))))
theorem sc__law_move : FnScope N__law_move P__law_move (defScope s__law_move) := ⟨rfl, rfl, rfl, by decide +kernel, rfl, by decide +kernel, by decide +kernel⟩
theorem d__law_move {sp__law_take : Sp} {sp__law_integer : Sp} (T : Txt K mg w) (c__law_take : Cl CX0 P w K mg base 1 "_law_take" sp__law_take) (c__law_integer : Cl CX0 P w K mg base 2 "_law_integer" sp__law_integer) (hr : Room 2 (A.deeper (envOfC "_law_move" (defScope s__law_move) s.heap.objs.size f cdv))) :
    PSs ((cxOf CX0 P w K mg base N__law_move "_law_move" (defScope s__law_move) f cdv A outer s H E).nox) (defBody s__law_move) (t__law_move K w sp__law_take sp__law_integer) := by
  have hu := hu_of hr
  exact (pss_cons (ps_asg (pe_ix ix_list (pe_lst (pa_cons (pe_tup (pa_cons pe_str (pa_cons pe_int pa_nil))) (pa_cons (pe_tup (pa_cons pe_str (pa_cons pe_int pa_nil))) (pa_cons (pe_tup (pa_cons pe_str (pa_cons pe_int pa_nil))) (pa_cons (pe_tup (pa_cons pe_str (pa_cons pe_int pa_nil))) (pa_cons (pe_tup (pa_cons pe_str (pa_cons pe_int pa_nil))) pa_nil)))))) (pe_cl c__law_take hr (by decide) pass0 (pa_cons (pv 0) (pa_cons pe_int pa_nil))) (fun _ _ => rfl)) (pg_tup rfl (pgs_cons (pg_name (i := 1) sc__law_move.nd rfl (Or.inl rfl)) (pgs_cons (pg_name (i := 2) sc__law_move.nd rfl (Or.inl rfl)) pgs_nil))))
  (pss_cons (ps_setLc (i := 3) (own := [("turn", 4)]) (g := (gName 4)) (tt := tYes) rfl sc__law_move.nd rfl rfl (sw_true rfl rfl rfl (by decide +kernel)) (pi_range1 rfl T.b_range (pa_cons (pv 2) pa_nil)) (blkOk_by (own := [("turn", 4)]) (N := N__law_move) (sc := defScope s__law_move) (by decide +kernel)) (fun _ _ _ _ _ => (pg_name (i := 4) sc__law_move.nd rfl (Or.inl rfl))) (fun _ _ _ _ _ => pts_nil) (fun _ _ _ _ _ => (pe_cl c__law_integer hr (by decide) pass0 (pa_cons (pv 0) pa_nil))))
  (pss_cons (ps_if (PW.pt (pw_and (pt_cmpR op_eq (pv 1) pe_str (nomark _)) (pw_and1 (pt_cmpR op_eq (pe_cl c__law_take hr (by decide) pass0 (pa_cons (pv 0) (pa_cons pe_int pa_nil))) pe_int (nomark _)))))
  (pss_one (ps_asg pe_non (pg_sub (pv 3) pe_int set_list)))
  pss_nil)
  (pss_one (ps_ret (pe_op op_catT (pe_tup (pa_cons (pv 1) pa_nil)) (pe_callTy call_tuple_of (by rfl) T.b_tuple (by decide +kernel) (pa_cons (pv 3) pa_nil))))))))
theorem sc__law_bad_number : FnScope N__law_bad_number P__law_bad_number (defScope s__law_bad_number) := ⟨rfl, rfl, rfl, by decide +kernel, rfl, by decide +kernel, by decide +kernel⟩
theorem d__law_bad_number {sp__law_take : Sp} (T : Txt K mg w) (c__law_take : Cl CX0 P w K mg base 1 "_law_take" sp__law_take) (hr : Room 1 (A.deeper (envOfC "_law_bad_number" (defScope s__law_bad_number) s.heap.objs.size f cdv))) :
    PSs ((cxOf CX0 P w K mg base N__law_bad_number "_law_bad_number" (defScope s__law_bad_number) f cdv A outer s H E).nox) (defBody s__law_bad_number) (t__law_bad_number K w sp__law_take) := by
  have hu := hu_of hr
  exact (pss_cons (ps_set (i := 1) sc__law_bad_number.nd rfl (Or.inl rfl) (pe_lst (pa_cons pe_str (pa_cons pe_str (pa_cons pe_str (pa_cons pe_str (pa_cons pe_str (pa_cons pe_str (pa_cons pe_str (pa_cons pe_str (pa_cons pe_str (pa_cons (pe_op op_add_str pe_str (pe_op op_mulS pe_str pe_int)) (pa_cons (pe_op op_add_str pe_str (pe_op op_mulS pe_str pe_int)) (pa_cons pe_str pa_nil))))))))))))))
  (pss_one (ps_ret (pe_ix ix_list (pv 1) (pe_cl c__law_take hr (by decide) pass0 (pa_cons (pv 0) (pa_cons (pe_callB call_len_seq (by rfl) T.b_len (by decide +kernel) (pa_cons (pv 1) pa_nil)) pa_nil))) (fun _ _ => rfl)))))
theorem sc__law_bent : FnScope N__law_bent P__law_bent (defScope s__law_bent) := ⟨rfl, rfl, rfl, by decide +kernel, rfl, by decide +kernel, by decide +kernel⟩
theorem d__law_bent {sp__law_take : Sp} {sp__law_bad_number : Sp} (T : Txt K mg w) (c__law_take : Cl CX0 P w K mg base 1 "_law_take" sp__law_take) (c__law_bad_number : Cl CX0 P w K mg base 2 "_law_bad_number" sp__law_bad_number) (hr : Room 2 (A.deeper (envOfC "_law_bent" (defScope s__law_bent) s.heap.objs.size f cdv))) :
    PSs ((cxOf CX0 P w K mg base N__law_bent "_law_bent" (defScope s__law_bent) f cdv A outer s H E).nox) (defBody s__law_bent) (t__law_bent K w sp__law_take sp__law_bad_number) := by
  have hu := hu_of hr
  exact (pss_cons (ps_set (i := 2) sc__law_bent.nd rfl (Or.inl rfl) (pe_split (pv 1) pe_str))
  (pss_cons (ps_set (i := 3) sc__law_bent.nd rfl (Or.inl rfl) (pe_op op_add pe_int (pe_cl c__law_take hr (by decide) pass0 (pa_cons (pv 0) (pa_cons (pe_op op_sub (pe_callB call_len_seq (by rfl) T.b_len (by decide +kernel) (pa_cons (pv 2) pa_nil)) pe_int) pa_nil)))))
  (pss_cons (ps_set (i := 4) sc__law_bent.nd rfl (Or.inl rfl) (pe_cl c__law_take hr (by decide) pass0 (pa_cons (pv 0) (pa_cons pe_int pa_nil))))
  (pss_cons (ps_if (pt_cmpR op_eq (pv 4) pe_int (nomark _))
  (pss_one (ps_ret (pe_op op_add_str (pv 1) (pe_ix ix_list (pe_lst (pa_cons pe_str (pa_cons pe_str (pa_cons pe_str (pa_cons pe_str pa_nil))))) (pe_cl c__law_take hr (by decide) pass0 (pa_cons (pv 0) (pa_cons pe_int pa_nil))) (fun _ _ => rfl)))))
  pss_nil)
  (pss_cons (ps_if (pt_cmpR op_eq (pv 4) pe_int (nomark _))
  (pss_one (ps_ret (pe_op op_add_str (pe_ix ix_list (pe_lst (pa_cons pe_str (pa_cons pe_str (pa_cons pe_str pa_nil)))) (pe_cl c__law_take hr (by decide) pass0 (pa_cons (pv 0) (pa_cons pe_int pa_nil))) (fun _ _ => rfl)) (pv 1))))
  pss_nil)
  (pss_cons (ps_if (pt_cmpR op_eq (pv 4) pe_int (nomark _))
  (pss_one (ps_ret (pe_op op_add_str (pe_op op_add_str (pe_join pe_str (pe_slice sl_list (pv 2) po_none (po_some (pv 3)))) pe_str) (pe_join pe_str (pe_slice sl_list (pv 2) (po_some (pv 3)) po_none)))))
  pss_nil)
  (pss_cons (ps_if (pt_cmpR op_eq (pv 4) pe_int (nomark _))
  (pss_one (ps_ret (pe_op op_add_str (pe_op op_add_str (pe_join pe_str (pe_slice sl_list (pv 2) po_none (po_some (pv 3)))) pe_str) (pe_join pe_str (pe_slice sl_list (pv 2) (po_some (pv 3)) po_none)))))
  pss_nil)
  (pss_cons (ps_if (pt_cmpR op_eq (pv 4) pe_int (nomark _))
  (pss_one (ps_ret (pe_join pe_str (pe_op op_cat (pe_lst (pa_cons (pe_ix ix_list (pe_lst (pa_cons pe_str (pa_cons pe_str (pa_cons pe_str (pa_cons pe_str (pa_cons pe_str (pa_cons pe_str pa_nil))))))) (pe_cl c__law_take hr (by decide) pass0 (pa_cons (pv 0) (pa_cons pe_int pa_nil))) (fun _ _ => rfl)) pa_nil)) (pe_slice sl_list (pv 2) (po_some pe_int) po_none)))))
  pss_nil)
  (pss_cons (ps_if (pt_cmpR op_eq (pv 4) pe_int (nomark _))
  (pss_one (ps_ret (pe_ix ix_list (pv 2) pe_int (fun _ _ => rfl))))
  pss_nil)
  (pss_cons (ps_if (PW.pt (pw_and (pt_cmpR op_eq (pv 4) pe_int (nomark _)) (pw_and1 (pt_cmpR op_ne (pe_ix ix_list (pv 2) pe_int (fun _ _ => rfl)) pe_str (nomark _)))))
  (pss_cons (ps_asg pe_str (pg_sub (pv 2) pe_int set_list))
  (pss_one (ps_ret (pe_join pe_str (pv 2)))))
  pss_nil)
  (pss_cons (ps_asg (pe_cl c__law_bad_number hr (by decide) pass0 (pa_cons (pv 0) pa_nil)) (pg_sub (pv 2) (pv 3) set_list))
  (pss_one (ps_ret (pe_join pe_str (pv 2)))))))))))))))
theorem sc__law_bent_move : FnScope N__law_bent_move P__law_bent_move (defScope s__law_bent_move) := ⟨rfl, rfl, rfl, by decide +kernel, rfl, by decide +kernel, by decide +kernel⟩
theorem d__law_bent_move {sp__law_take : Sp} {sp__law_bent : Sp} (T : Txt K mg w) (c__law_take : Cl CX0 P w K mg base 1 "_law_take" sp__law_take) (c__law_bent : Cl CX0 P w K mg base 3 "_law_bent" sp__law_bent) (hr : Room 3 (A.deeper (envOfC "_law_bent_move" (defScope s__law_bent_move) s.heap.objs.size f cdv))) :
    PSs ((cxOf CX0 P w K mg base N__law_bent_move "_law_bent_move" (defScope s__law_bent_move) f cdv A outer s H E).nox) (defBody s__law_bent_move) (t__law_bent_move K w sp__law_take sp__law_bent) := by
  have hu := hu_of hr
  exact (pss_cons (ps_set (i := 2) sc__law_bent_move.nd rfl (Or.inl rfl) (pe_cl c__law_take hr (by decide) pass0 (pa_cons (pv 0) (pa_cons pe_int pa_nil))))
  (pss_cons (ps_if (pt_cmpR op_eq (pv 2) pe_int (nomark _))
  (pss_one (ps_ret (pe_op op_add_str (pv 1) pe_str)))
  pss_nil)
  (pss_cons (ps_if (pt_cmpR op_eq (pv 2) pe_int (nomark _))
  (pss_one (ps_ret (pe_join pe_str (pe_slice sl_list (pe_split (pv 1) pe_str) po_none (po_some (pe_un un_neg pe_int))))))
  pss_nil)
  (pss_one (ps_ret (pe_cl c__law_bent hr (by decide) pass0 (pa_cons (pv 0) (pa_cons (pv 1) pa_nil))))))))
theorem sc__law_why : FnScope N__law_why P__law_why (defScope s__law_why) := ⟨rfl, rfl, rfl, by decide +kernel, rfl, by decide +kernel, by decide +kernel⟩
theorem d__law_why {sp_read_braid : Sp} {sp_read_paper : Sp} (T : Txt K mg w) (c_read_braid : Cl (L2.CX P w) P w K mg base 5 "read_braid" sp_read_braid) (c_read_paper : Cl (L2.CX P w) P w K mg base 3 "read_paper" sp_read_paper) (hr : Room 5 (A.deeper (envOfC "_law_why" (defScope s__law_why) s.heap.objs.size f cdv))) :
    PSs ((cxOf CX0 P w K mg base N__law_why "_law_why" (defScope s__law_why) f cdv A outer s H E).nox) (defBody s__law_why) (t__law_why K w sp_read_braid sp_read_paper) := by
  have hu := hu_of hr
  exact (pss_cons (ps_try_as (i := 2) (tb := fun W => (tSeq (tIfS (tTest (tOp rEq (tVar 0) (tC (.int 0))))
  (tRet (tCallS sp_read_braid (WE W) (tCons (tVar 1) tNil)))
  tNext)
  (tRet (tCallS sp_read_paper (WE W) (tCons (tVar 1) tNil))))) (ts := fun a cls d => (tSeq (tIfS (tAnd (tB (tCB (rIsX K a cls d) (tCons (tVar 2) (tCons (tC (.ref (He.ga K "InvalidLine"))) tNil)))) (tNot (tB (tCB (rIsXT K a cls d) (tCons (tVar 2) (tCons (tTup (tCons (tC (.ref (He.ga K "InvalidBraid"))) (tCons (tC (.ref (He.ga K "TooMany"))) tNil))) tNil))))))
  (tRet (tTup (tCons (tC (.str "line")) (tCons (tXfX K a cls d "line" (tVar 2)) tNil))))
  tNext)
  (tSeq (tIfS (tAnd (tB (tCB (rIsX K a cls d) (tCons (tVar 2) (tCons (tC (.ref (He.ga K "InvalidBraid"))) tNil)))) (tNot (tB (tCB (rIsXT K a cls d) (tCons (tVar 2) (tCons (tTup (tCons (tC (.ref (He.ga K "InvalidLine"))) (tCons (tC (.ref (He.ga K "TooMany"))) tNil))) tNil))))))
  (tRet (tTup (tCons (tC (.str "braid")) (tCons (tXfX K a cls d "what" (tVar 2)) tNil))))
  tNext)
  (tIfS (tAnd (tB (tCB (rIsX K a cls d) (tCons (tVar 2) (tCons (tC (.ref (He.ga K "TooMany"))) tNil)))) (tNot (tB (tCB (rIsXT K a cls d) (tCons (tVar 2) (tCons (tTup (tCons (tC (.ref (He.ga K "InvalidLine"))) (tCons (tC (.ref (He.ga K "InvalidBraid"))) tNil))) tNil))))))
  (tRet (tTup (tCons (tC (.str "many")) (tCons (tXfX K a cls d "what" (tVar 2)) tNil))))
  tNext)))) (Wout := fun _ _ _ _ => False) rfl rfl sc__law_why.nd rfl rfl ⟨rfl, by decide, Or.inl T.g_KnotError⟩ takes0
  (fun W pn xe tk hp => (pss_cons (ps_if (pt_cmpR op_eq (pv 0) pe_int (nomark _))
  (pss_one (ps_ret (pe_clS c_read_braid hr (by decide) (fun σ => passAt tk σ) (pa_cons (pv 1) pa_nil))))
  pss_nil)
  (pss_one (ps_ret (pe_clS c_read_paper hr (by decide) (fun σ => passAt tk σ) (pa_cons (pv 1) pa_nil))))))
  (fun a oe cls d pn hz hf => (pss_cons (ps_if (PW.pt (pw_and (pt_val (pe_callB (call_isX hz hf) (by rfl) T.b_isinstance (by decide +kernel) (pa_cons (pv 2) (pa_cons (pe_gc (by rfl) ⟨_, T.g_InvalidLine, rfl⟩) pa_nil)))) (pw_and1 (pt_not (pt_val (pe_callB (call_isXT hz hf) (by rfl) T.b_isinstance (by decide +kernel) (pa_cons (pv 2) (pa_cons (pe_tup (pa_cons (pe_gc (by rfl) ⟨_, T.g_InvalidBraid, rfl⟩) (pa_cons (pe_gc (by rfl) ⟨_, T.g_TooMany, rfl⟩) pa_nil))) pa_nil))))))))
  (pss_one (ps_ret (pe_tup (pa_cons pe_str (pa_cons (pe_xfX hz hf (pv 2)) pa_nil)))))
  pss_nil)
  (pss_cons (ps_if (PW.pt (pw_and (pt_val (pe_callB (call_isX hz hf) (by rfl) T.b_isinstance (by decide +kernel) (pa_cons (pv 2) (pa_cons (pe_gc (by rfl) ⟨_, T.g_InvalidBraid, rfl⟩) pa_nil)))) (pw_and1 (pt_not (pt_val (pe_callB (call_isXT hz hf) (by rfl) T.b_isinstance (by decide +kernel) (pa_cons (pv 2) (pa_cons (pe_tup (pa_cons (pe_gc (by rfl) ⟨_, T.g_InvalidLine, rfl⟩) (pa_cons (pe_gc (by rfl) ⟨_, T.g_TooMany, rfl⟩) pa_nil))) pa_nil))))))))
  (pss_one (ps_ret (pe_tup (pa_cons pe_str (pa_cons (pe_xfX hz hf (pv 2)) pa_nil)))))
  pss_nil)
  (pss_one (ps_if (PW.pt (pw_and (pt_val (pe_callB (call_isX hz hf) (by rfl) T.b_isinstance (by decide +kernel) (pa_cons (pv 2) (pa_cons (pe_gc (by rfl) ⟨_, T.g_TooMany, rfl⟩) pa_nil)))) (pw_and1 (pt_not (pt_val (pe_callB (call_isXT hz hf) (by rfl) T.b_isinstance (by decide +kernel) (pa_cons (pv 2) (pa_cons (pe_tup (pa_cons (pe_gc (by rfl) ⟨_, T.g_InvalidLine, rfl⟩) (pa_cons (pe_gc (by rfl) ⟨_, T.g_InvalidBraid, rfl⟩) pa_nil))) pa_nil))))))))
  (pss_one (ps_ret (pe_tup (pa_cons pe_str (pa_cons (pe_xfX hz hf (pv 2)) pa_nil)))))
  pss_nil))))))
  (pss_one (ps_ret pe_str)))
theorem sc__law_braid_right : FnScope N__law_braid_right P__law_braid_right (defScope s__law_braid_right) := ⟨rfl, rfl, rfl, by decide +kernel, rfl, by decide +kernel, by decide +kernel⟩
theorem d__law_braid_right {sp__law_written : Sp} {sp_Braid_init : Sp} {sp_write_braid : Sp} {sp__law_plain : Sp} {sp_read_braid : Sp} (T : Txt K mg w) (c__law_written : Cl CX0 P w K mg base 1 "_law_written" sp__law_written) (c_Braid_init : Mkr (L2.CX P w) P w K mg base 3 "Braid" (He.ga K "Braid") sp_Braid_init) (c_write_braid : Cl CX0 P w K mg base 1 "write_braid" sp_write_braid) (c__law_plain : Cl CX0 P w K mg base 40 "_law_plain" sp__law_plain) (c_read_braid : Cl (L2.CX P w) P w K mg base 5 "read_braid" sp_read_braid) (hr : Room 40 (A.deeper (envOfC "_law_braid_right" (defScope s__law_braid_right) s.heap.objs.size f cdv))) :
    PSs ((cxOf CX0 P w K mg base N__law_braid_right "_law_braid_right" (defScope s__law_braid_right) f cdv A outer s H E).nox) (defBody s__law_braid_right) (t__law_braid_right K w sp__law_written sp_Braid_init sp_write_braid sp__law_plain sp_read_braid) := by
  have hu := hu_of hr
  exact (pss_cons (ps_set (i := 2) sc__law_braid_right.nd rfl (Or.inl rfl) (pe_cl c__law_written hr (by decide) pass0 (pa_cons (pe_op op_cat (pe_lst (pa_cons pe_str (pa_cons (pv 0) pa_nil))) (pv 1)) pa_nil)))
  (pss_cons (ps_set (i := 3) sc__law_braid_right.nd rfl (Or.inl rfl) (pe_mkr c_Braid_init hr (by decide) passL (pa_cons (pv 0) (pa_cons (pe_callTy call_list_of (by rfl) T.b_list (by decide +kernel) (pa_cons (pv 1) pa_nil)) pa_nil))))
  (pss_cons (ps_if (pt_cmpR (op_neD hr.units) (pe_cl c__law_plain hr (by decide) pass0 (pa_cons (pe_cl c_write_braid hr (by decide) pass0 (pa_cons (pv 3) pa_nil)) pa_nil)) (pe_cl c__law_plain hr (by decide) pass0 (pa_cons (pv 2) pa_nil)) (nomark _))
  (pss_one (ps_ret pe_bl))
  pss_nil)
  (pss_cons (ps_set (i := 4) sc__law_braid_right.nd rfl (Or.inl rfl) (pe_cl c_read_braid hr (by decide) passL (pa_cons (pv 2) pa_nil)))
  (pss_one (ps_ret (pe_and (pe_callB call_isi (by rfl) T.b_isinstance (by decide +kernel) (pa_cons (pv 4) (pa_cons (pe_gc (by rfl) ⟨_, T.g_Braid, rfl⟩) pa_nil))) (pe_one (pe_cmpR (op_eqD hr.units) (pe_cl c__law_plain hr (by decide) pass0 (pa_cons (pe_lst (pa_cons (pe_fld (pv 4) rfl) (pa_cons (pe_fld (pv 4) rfl) pa_nil))) pa_nil)) (pe_cl c__law_plain hr (by decide) pass0 (pa_cons (pe_lst (pa_cons (pv 0) (pa_cons (pv 1) pa_nil))) pa_nil)) (nomark _))))))))))
theorem sc__law_braids_refused : FnScope N__law_braids_refused P__law_braids_refused (defScope s__law_braids_refused) := ⟨rfl, rfl, rfl, by decide +kernel, rfl, by decide +kernel, by decide +kernel⟩
theorem d__law_braids_refused {sp__law_written : Sp} {sp__law_bent : Sp} {sp__law_why : Sp} {sp__law_plain : Sp} {sp__law_take : Sp} {sp__law_braid_right : Sp} (T : Txt K mg w) (c__law_written : Cl CX0 P w K mg base 1 "_law_written" sp__law_written) (c__law_bent : Cl CX0 P w K mg base 3 "_law_bent" sp__law_bent) (c__law_why : Cl CX0 P w K mg base 6 "_law_why" sp__law_why) (c__law_plain : Cl CX0 P w K mg base 40 "_law_plain" sp__law_plain) (c__law_take : Cl CX0 P w K mg base 1 "_law_take" sp__law_take) (c__law_braid_right : Cl CX0 P w K mg base 41 "_law_braid_right" sp__law_braid_right) (hr : Room 41 (A.deeper (envOfC "_law_braids_refused" (defScope s__law_braids_refused) s.heap.objs.size f cdv))) :
    PSs ((cxOf CX0 P w K mg base N__law_braids_refused "_law_braids_refused" (defScope s__law_braids_refused) f cdv A outer s H E).nox) (defBody s__law_braids_refused) (t__law_braids_refused K w sp__law_written sp__law_bent sp__law_why sp__law_plain sp__law_take sp__law_braid_right) := by
  have hu := hu_of hr
  exact (pss_cons (ps_set (i := 3) sc__law_braids_refused.nd rfl (Or.inl rfl) (pe_cl c__law_written hr (by decide) pass0 (pa_cons (pe_op op_cat (pe_lst (pa_cons pe_str (pa_cons (pv 1) pa_nil))) (pv 2)) pa_nil)))
  (pss_cons (ps_if (PW.pt (pw_or (pt_cmpR (op_neD hr.units) (pe_cl c__law_plain hr (by decide) pass0 (pa_cons (pe_cl c__law_why hr (by decide) pass0 (pa_cons pe_int (pa_cons (pe_cl c__law_bent hr (by decide) pass0 (pa_cons (pv 0) (pa_cons (pv 3) pa_nil))) pa_nil))) pa_nil)) (pe_cl c__law_plain hr (by decide) pass0 (pa_cons (pe_tup (pa_cons pe_str (pa_cons pe_int pa_nil))) pa_nil)) (nomark _)) (pw_or1 (pt_cmpR (op_neD hr.units) (pe_cl c__law_why hr (by decide) pass0 (pa_cons pe_int (pa_cons pe_str pa_nil))) (pe_tup (pa_cons pe_str (pa_cons pe_int pa_nil))) (nomark _)))))
  (pss_one (ps_ret pe_bl))
  pss_nil)
  (pss_cons (ps_set (i := 4) sc__law_braids_refused.nd rfl (Or.inl rfl) (pe_ix ix_list (pe_lst (pa_cons pe_int (pa_cons pe_int (pa_cons (pe_un un_neg pe_int) (pa_cons (pe_op op_pow pe_int pe_int) pa_nil))))) (pe_cl c__law_take hr (by decide) pass0 (pa_cons (pv 0) (pa_cons pe_int pa_nil))) (fun _ _ => rfl)))
  (pss_cons (ps_if (pt_cmpR (op_neD hr.units) (pe_cl c__law_why hr (by decide) pass0 (pa_cons pe_int (pa_cons (pe_cl c__law_written hr (by decide) pass0 (pa_cons (pe_op op_cat (pe_lst (pa_cons pe_str (pa_cons (pv 4) pa_nil))) (pv 2)) pa_nil)) pa_nil))) (pe_tup (pa_cons pe_str (pa_cons pe_str pa_nil))) (nomark _))
  (pss_one (ps_ret pe_bl))
  pss_nil)
  (pss_cons (ps_set (i := 5) sc__law_braids_refused.nd rfl (Or.inl rfl) (pe_cl c__law_take hr (by decide) pass0 (pa_cons (pv 0) (pa_cons (pe_op op_add (pe_callB call_len_seq (by rfl) T.b_len (by decide +kernel) (pa_cons (pv 2) pa_nil)) pe_int) pa_nil))))
  (pss_cons (ps_set (i := 6) sc__law_braids_refused.nd rfl (Or.inl rfl) (pe_ix ix_list (pe_lst (pa_cons pe_int (pa_cons (pv 1) (pa_cons (pe_un un_neg (pv 1)) (pa_cons (pe_op op_pow pe_int pe_int) pa_nil))))) (pe_cl c__law_take hr (by decide) pass0 (pa_cons (pv 0) (pa_cons pe_int pa_nil))) (fun _ _ => rfl)))
  (pss_cons (ps_if (pt_cmpR (op_neD hr.units) (pe_cl c__law_why hr (by decide) pass0 (pa_cons pe_int (pa_cons (pe_cl c__law_written hr (by decide) pass0 (pa_cons (pe_op op_cat (pe_op op_cat (pe_op op_cat (pe_lst (pa_cons pe_str (pa_cons (pv 1) pa_nil))) (pe_slice sl_list (pv 2) po_none (po_some (pv 5)))) (pe_lst (pa_cons (pv 6) pa_nil))) (pe_slice sl_list (pv 2) (po_some (pv 5)) po_none)) pa_nil)) pa_nil))) (pe_tup (pa_cons pe_str (pa_cons pe_str pa_nil))) (nomark _))
  (pss_one (ps_ret pe_bl))
  pss_nil)
  (pss_cons (ps_if (pt_cmpR op_eq (pe_cl c__law_take hr (by decide) pass0 (pa_cons (pv 0) (pa_cons pe_int pa_nil))) pe_int (nomark _))
  (pss_cons (ps_if (pt_cmpR (op_neD hr.units) (pe_cl c__law_why hr (by decide) pass0 (pa_cons pe_int (pa_cons (pe_cl c__law_written hr (by decide) pass0 (pa_cons (pe_op op_cat (pe_lst (pa_cons pe_str (pa_cons pe_int pa_nil))) (pe_op op_rep (pe_lst (pa_cons pe_int (pa_cons (pe_un un_neg pe_int) (pa_cons pe_int pa_nil)))) pe_int)) pa_nil)) pa_nil))) (pe_tup (pa_cons pe_str (pa_cons pe_str pa_nil))) (nomark _))
  (pss_one (ps_ret pe_bl))
  pss_nil)
  (pss_one (ps_ret (pe_cl c__law_braid_right hr (by decide) pass0 (pa_cons pe_int (pa_cons (pe_op op_rep (pe_lst (pa_cons pe_int (pa_cons (pe_un un_neg pe_int) pa_nil))) pe_int) pa_nil))))))
  pss_nil)
  (pss_one (ps_ret pe_bl))))))))))
theorem sc_law : FnScope N_law P_law (defScope s_law) := ⟨rfl, rfl, rfl, by decide +kernel, rfl, by decide +kernel, by decide +kernel⟩
theorem d_law {sp__law_deck : Sp} {sp__law_take : Sp} {sp__law_word : Sp} {sp__law_braid_right : Sp} {sp__law_braids_refused : Sp} {sp__law_move : Sp} {sp__law_written : Sp} {sp_read_paper : Sp} {sp_write_paper : Sp} {sp__law_spoil : Sp} {sp__law_plain : Sp} {sp__law_why : Sp} {sp__law_bent_move : Sp} (T : Txt K mg w) (c__law_deck : Cl CX0 P w K mg base 1 "_law_deck" sp__law_deck) (c__law_take : Cl CX0 P w K mg base 1 "_law_take" sp__law_take) (c__law_word : Cl CX0 P w K mg base 2 "_law_word" sp__law_word) (c__law_braid_right : Cl CX0 P w K mg base 41 "_law_braid_right" sp__law_braid_right) (c__law_braids_refused : Cl CX0 P w K mg base 42 "_law_braids_refused" sp__law_braids_refused) (c__law_move : Cl CX0 P w K mg base 3 "_law_move" sp__law_move) (c__law_written : Cl CX0 P w K mg base 1 "_law_written" sp__law_written) (c_read_paper : Cl (L2.CX P w) P w K mg base 3 "read_paper" sp_read_paper) (c_write_paper : Cl CX0 P w K mg base 1 "write_paper" sp_write_paper) (c__law_spoil : Cl CX0 P w K mg base 40 "_law_spoil" sp__law_spoil) (c__law_plain : Cl CX0 P w K mg base 40 "_law_plain" sp__law_plain) (c__law_why : Cl CX0 P w K mg base 6 "_law_why" sp__law_why) (c__law_bent_move : Cl CX0 P w K mg base 4 "_law_bent_move" sp__law_bent_move) (hr : Room 42 (A.deeper (envOfC "law" (defScope s_law) s.heap.objs.size f cdv))) :
    PSs ((cxOf CX0 P w K mg base N_law "law" (defScope s_law) f cdv A outer s H E).nox) (defBody s_law) (t_law K w sp__law_deck sp__law_take sp__law_word sp__law_braid_right sp__law_braids_refused sp__law_move sp__law_written sp_read_paper sp_write_paper sp__law_spoil sp__law_plain sp__law_why sp__law_bent_move) := by
  have hu := hu_of hr
  exact (pss_cons (ps_set (i := 1) sc_law.nd rfl (Or.inr rfl) (pe_cl c__law_deck hr (by decide) pass0 (pa_cons (pv 0) (pa_cons pe_int (pa_cons pe_int pa_nil)))))
  (pss_cons (ps_set (i := 2) sc_law.nd rfl (Or.inl rfl) (pe_op op_add pe_int (pe_cl c__law_take hr (by decide) pass0 (pa_cons (pv 1) (pa_cons pe_int pa_nil)))))
  (pss_cons (ps_set (i := 3) sc_law.nd rfl (Or.inl rfl) (pe_cl c__law_word hr (by decide) pass0 (pa_cons (pv 1) (pa_cons (pv 2) (pa_cons pe_int pa_nil)))))
  (pss_cons (ps_if (PW.pt (pw_or (pt_not (pt_val (pe_cl c__law_braid_right hr (by decide) pass0 (pa_cons (pv 2) (pa_cons (pv 3) pa_nil))))) (pw_or1 (pt_not (pt_val (pe_cl c__law_braids_refused hr (by decide) pass0 (pa_cons (pv 1) (pa_cons (pv 2) (pa_cons (pv 3) pa_nil)))))))))
  (pss_one (ps_ret pe_bl))
  pss_nil)
  (pss_cons (ps_setLc (i := 4) (own := [("turn", 10)]) (g := (gName 10)) (tt := tYes) rfl sc_law.nd rfl rfl (sw_true rfl rfl rfl (by decide +kernel)) (pi_range1 rfl T.b_range (pa_cons (pe_cl c__law_take hr (by decide) pass0 (pa_cons (pv 1) (pa_cons pe_int pa_nil))) pa_nil)) (blkOk_by (own := [("turn", 10)]) (N := N_law) (sc := defScope s_law) (by decide +kernel)) (fun _ _ _ _ _ => (pg_name (i := 10) sc_law.nd rfl (Or.inl rfl))) (fun _ _ _ _ _ => pts_nil) (fun _ _ _ _ _ => (pe_cl c__law_move hr (by decide) pass0 (pa_cons (pv 1) pa_nil))))
  (pss_cons (ps_set (i := 5) sc_law.nd rfl (Or.inr rfl) (pe_lc (own := [("move", 11)]) (g := (gName 11)) (tt := tYes) rfl sc_law.nd (pi_list (pv 4)) (blkOk_by (own := [("move", 11)]) (N := N_law) (sc := defScope s_law) (by decide +kernel)) (fun _ _ _ _ _ => (pg_name (i := 11) sc_law.nd rfl (Or.inl rfl))) (fun _ _ _ _ _ => pts_nil) (fun _ _ _ _ _ => (pe_cl c__law_written hr (by decide) pass0 (pa_cons (pe_callTy call_list_of (by rfl) T.b_list (by decide +kernel) (pa_cons (pv 11) pa_nil)) pa_nil)))))
  (pss_cons (ps_set (i := 6) sc_law.nd rfl (Or.inl rfl) (pe_callTy call_list_of (by rfl) T.b_list (by decide +kernel) (pa_cons (pv 4) pa_nil)))
  (pss_cons (ps_expr (pe_cl c__law_spoil hr (by decide) pass0 (pa_cons (pe_lst (pa_cons (pe_cl c_write_paper hr (by decide) pass0 (pa_cons (pv 6) pa_nil)) (pa_cons (pe_cl c_read_paper hr (by decide) passL (pa_cons (pe_callTy call_list_of (by rfl) T.b_list (by decide +kernel) (pa_cons (pv 5) pa_nil)) pa_nil)) pa_nil))) pa_nil)))
  (pss_cons (ps_if (PW.pt (pw_or (pt_cmpR (op_neD hr.units) (pe_cl c__law_plain hr (by decide) pass0 (pa_cons (pe_cl c_write_paper hr (by decide) pass0 (pa_cons (pv 6) pa_nil)) pa_nil)) (pe_cl c__law_plain hr (by decide) pass0 (pa_cons (pv 5) pa_nil)) (nomark _)) (pw_or1 (pt_cmpR (op_neD hr.units) (pv 6) (pv 4) (nomark _)))))
  (pss_one (ps_ret pe_bl))
  pss_nil)
  (pss_cons (ps_set (i := 7) sc_law.nd rfl (Or.inl rfl) (pe_callTy call_list_of (by rfl) T.b_list (by decide +kernel) (pa_cons (pv 5) pa_nil)))
  (pss_cons (ps_if (PW.pt (pw_or (pt_cmpR (op_neD hr.units) (pe_cl c__law_plain hr (by decide) pass0 (pa_cons (pe_cl c_read_paper hr (by decide) passL (pa_cons (pv 7) pa_nil)) pa_nil)) (pe_cl c__law_plain hr (by decide) pass0 (pa_cons (pv 4) pa_nil)) (nomark _)) (pw_or1 (pt_cmpR (op_neD hr.units) (pv 7) (pv 5) (nomark _)))))
  (pss_one (ps_ret pe_bl))
  pss_nil)
  (pss_cons (ps_if (pt_cmpR op_eq (pe_callB call_len_seq (by rfl) T.b_len (by decide +kernel) (pa_cons (pv 4) pa_nil)) pe_int (nomark _))
  (pss_one (ps_ret (pe_cmpR (op_eqD hr.units) (pe_cl c__law_why hr (by decide) pass0 (pa_cons pe_int (pa_cons (pe_lst (pa_cons pe_str pa_nil)) pa_nil))) (pe_tup (pa_cons pe_str (pa_cons pe_int pa_nil))) (nomark _))))
  pss_nil)
  (pss_cons (ps_setLc (i := 8) (own := [("turn", 10)]) (g := (gName 10)) (tt := tYes) rfl sc_law.nd rfl rfl (sw_true rfl rfl rfl (by decide +kernel)) (pi_range1 rfl T.b_range (pa_cons (pe_op op_add pe_int (pe_cl c__law_take hr (by decide) pass0 (pa_cons (pv 1) (pa_cons pe_int pa_nil)))) pa_nil)) (blkOk_by (own := [("turn", 10)]) (N := N_law) (sc := defScope s_law) (by decide +kernel)) (fun _ _ _ _ _ => (pg_name (i := 10) sc_law.nd rfl (Or.inl rfl))) (fun _ _ _ _ _ => pts_nil) (fun _ _ _ _ _ => (pe_cl c__law_take hr (by decide) pass0 (pa_cons (pv 1) (pa_cons (pe_callB call_len_seq (by rfl) T.b_len (by decide +kernel) (pa_cons (pv 5) pa_nil)) pa_nil)))))
  (pss_cons (ps_for PassesOwn.never rfl (pi_list (pv 8)) (pg_name (i := 9) sc_law.nd rfl (Or.inl rfl))
  (pss_one (ps_asg (pe_cl c__law_bent_move hr (by decide) pass0 (pa_cons (pv 1) (pa_cons (pe_ix ix_list (pv 5) (pv 9) (fun _ _ => rfl)) pa_nil))) (pg_sub (pv 7) (pv 9) set_list))))
  (pss_one (ps_ret (pe_cmpR (op_eqD hr.units) (pe_cl c__law_plain hr (by decide) pass0 (pa_cons (pe_cl c__law_why hr (by decide) pass0 (pa_cons pe_int (pa_cons (pv 7) pa_nil))) pa_nil)) (pe_cl c__law_plain hr (by decide) pass0 (pa_cons (pe_tup (pa_cons pe_str (pa_cons (pe_callB (cr_min rfl) (by rfl) T.b_min (by decide +kernel) (pa_cons (pv 8) pa_nil)) pa_nil))) pa_nil)) (nomark _))))))))))))))))))
end
end K57
end
/-! part S57a -/
section
set_option Elab.async false
set_option linter.all false
set_option maxRecDepth 100000
set_option maxHeartbeats 4000000
open PySem PySem.Spec PyProof.Rows L2 KN
local macro_rules | `(tactic| walk_at "st") => `(tactic| first
  | (with_reducible refine s_seq ?_) | (with_reducible refine s_asg ?_) | (with_reducible refine s_name ?_) | (with_reducible refine s_drop ?_) | (with_reducible refine s_ret ?_) | (with_reducible refine s_retN ?_)
  | (with_reducible refine s_next ?_) | (with_reducible refine s_brk ?_) | (with_reducible refine s_ct ?_) | (with_reducible refine s_if ?_) | ((with_reducible refine' s_var ?h ?_); (case h => rfl)) | (with_reducible refine s_c ?_)
  | (with_reducible refine s_op ?_) | (with_reducible refine s_rI0 ?_) | ((with_reducible refine s_rI ?h ?_); (case h => first | assumption | decide | (show (0 : Int) < _; omega) | exact ⟨by decide, by decide, by decide⟩ | exact cmul_small (by omega) (by omega) (by omega) (by omega) | exact cdiv_small (by omega) (by omega))) | (with_reducible refine s_un ?_) | (with_reducible refine s_rU ?_)
  | (with_reducible refine s_addIB ?_) | ((with_reducible refine' s_eq ?h ?_); (case h => first | rfl | decide)) | ((with_reducible refine' s_ne ?h ?_); (case h => first | rfl | decide)) | (with_reducible refine s_isN ?_) | (with_reducible refine s_notN ?_) | (with_reducible refine s_test ?_) | (with_reducible refine s_tB ?_)
  | (with_reducible refine s_bl ?_) | (with_reducible refine s_not ?_) | (with_reducible refine s_and ?_) | (with_reducible refine s_or ?_) | (with_reducible refine s_andV ?_) | (with_reducible refine s_orV ?_) | (with_reducible refine s_notV ?_)
  | (with_reducible refine s_ifE ?_) | (with_reducible refine s_cb ?_) | (with_reducible refine s_cons ?_) | (with_reducible refine s_nil ?_) | (with_reducible refine s_cl ?_) | (with_reducible refine s_clS ?_) | (with_reducible refine s_mk ?_) | (with_reducible refine s_mt ?_)
  | (with_reducible refine s_lst ?_) | (with_reducible refine s_tup ?_) | (with_reducible refine s_sl ?_) | (with_reducible refine s_noP ?_) | (with_reducible refine s_part ?_) | (with_reducible refine s_intE ?_) | (with_reducible refine s_bm ?_) | (with_reducible refine s_bm0 ?_)
  | (with_reducible refine s_m0 ?_) | (with_reducible refine s_m1 ?_) | (with_reducible refine s_strE ?_) | (with_reducible refine s_starts ?_) | (with_reducible refine s_isascii ?_) | (with_reducible refine s_isdigit ?_) | (with_reducible refine s_fld ?_)
  | (with_reducible refine s_abs ?_) | (with_reducible refine s_int1 ?_) | (with_reducible refine s_int1b ?_) | (with_reducible refine s_min2 ?_) | (with_reducible refine s_max2 ?_) | (with_reducible refine s_chain ?_) | (with_reducible refine s_blP ?_) | (with_reducible refine s_blV ?_) | (with_reducible refine s_blN ?_) | (with_reducible refine s_blG ?_) | (with_reducible refine s_intG ?_)
  | ((with_reducible refine' s_aug ?h ?_); (case h => rfl)) | (with_reducible refine s_par ?_) | (with_reducible refine s_two ?_) | (with_reducible refine s_frz ?_) | (with_reducible refine s_dnew ?_) | (with_reducible refine s_for ?_) | (with_reducible refine s_lc ?_) | (with_reducible refine s_joinS ?_) | (with_reducible refine s_gsub ?_) | (with_reducible refine s_kin ?_) | (with_reducible refine s_knotin ?_) | (with_reducible refine s_kget ?_) | (with_reducible refine s_setf ?_) | (with_reducible refine s_split ?_) | (with_reducible refine s_partn ?_) | (with_reducible refine s_vei ?_) | (with_reducible refine s_ost ?_) | (with_reducible refine s_rz ?_) | (with_reducible refine s_xm ?_) | (with_reducible refine s_rng1 ?_) | (with_reducible refine s_rng2 ?_) | (with_reducible refine s_iList ?_) | (with_reducible refine s_iTup ?_) | (with_reducible refine s_iSeq ?_) | (with_reducible refine s_iEnum ?_))
local macro_rules | `(tactic| walk_at "go") => `(tactic| repeat walk_at "st")
local macro_rules | `(tactic| walk_at "hp") => `(tactic| first
  | assumption
  | exact upd_same
  | (refine (upd_ne ?n).trans ?_; (case n => first | assumption | (apply Ne.symm; assumption) | exact ne_of_none (by walk_at "hp") (by assumption) | exact (ne_of_none (by walk_at "hp") (by assumption)).symm); walk_at "hp"))
namespace K57
open PySem PySem.Spec PyProof.Rows L2 KN
/-! ### Braid(strands, word) -/
inductive BErr | strands | word | many
deriving DecidableEq
def badL (s : Int) (z : Int) : Bool := decide (z = 0) || decide (s ≤ (if z < 0 then -z else z))
def braidErr (s : Int) (ns : List Int) : Option BErr :=
  if ¬ (1 ≤ s ∧ s ≤ 8) then some .strands else if ns.any (badL s) = true then some .word else if 2000 < ns.length then some .many else none
def BErr.thrown (K : PySem.W.Frag) (H : Hp) (E : XK) : BErr → Prop
  | .strands => Thrown (He.ga K "InvalidBraid") "what" (.str "strands") H E
  | .word => Thrown (He.ga K "InvalidBraid") "what" (.str "word") H E
  | .many => Thrown (He.ga K "TooMany") "what" (.str "letters") H E
theorem BErr.thrown_same {K : PySem.W.Frag} {H H' : Hp} {E : XK} (s : Same H H') : ∀ {b : BErr}, b.thrown K H E → b.thrown K H' E
  | .strands, h => Thrown.same h s
  | .word, h => Thrown.same h s
  | .many, h => Thrown.same h s
def S_Braid_init (K : PySem.W.Frag) (w : World) : Sp := fun vs H Q E => ∃ (x dx a : Addr) (s : Int) (ns : List Int), vs = [.ref x, .int s, .ref a] ∧ H x = some (.ins (He.ga K "Braid") dx []) ∧ a ≠ x ∧ SqL K H a (ns.map V.int) ∧ ns.length ≤ 100000 ∧
  match braidErr s ns with
  | some b => b.thrown K H E
  | none => ∀ l H', Kp [x] H H' → H l = none → H' l = some (.lst (ns.map V.int)) → H' x = some (.ins (He.ga K "Braid") dx [("strands", .int s), ("word", .ref l)]) → Q .non H'
theorem len_Braid_init {K : PySem.W.Frag} {w : World} (vs : List V) (H : Hp) (Q : VK) (E : XK) (h : S_Braid_init K w vs H Q E) : vs.length = P_Braid_init.length := by
  obtain ⟨_, _, _, _, _, rfl, _⟩ := h
  rfl
section
variable {K : PySem.W.Frag} {mg : Str → Option Value} {w : World} {vs : List V} {H : Hp} {Q : VK} {E : XK}
theorem pure_Braid_init (T : Txt K mg w) (h : S_Braid_init K w vs H Q E) : t_Braid_init K w E (S_InvalidBraid_init K w) (S_TooMany_init K w) { nx := fun _ H' => Q .non H', rt := Q } (start N_Braid_init vs) H := by
  obtain ⟨x, dx, a, s, ns, rfl, hx, hax, hs, hz, k⟩ := h
  show t_Braid_init K w E _ _ _ [some (.ref x), some (.int s), some (.ref a), none] H
  unfold t_Braid_init
  walk_at "go"
  have raiseS : ¬ (1 ≤ s ∧ s ≤ 8) → Thrown (He.ga K "InvalidBraid") "what" (.str "strands") H E := fun hn => by
    unfold braidErr at k
    rw [if_pos hn] at k
    exact k
  have cont : (1 ≤ s ∧ s ≤ 8) → (tSeq (tFor (iList K (tVar 2)) (gName 3)
  (tIfS (tOr (tTest (tOp rEq (tVar 3) (tC (.int 0)))) (tTest (tOp rGeI (tCB rAbs (tCons (tVar 3) tNil)) (tVar 1))))
  (tRz (fun cls d _ H => E cls d H) (tXm (He.ga K "InvalidBraid") (S_InvalidBraid_init K w) (tCons (tC (.str "word")) tNil)))
  tNext))
  (tSeq (tIfS (tTest (tOp rGtI (tCB (rLenSq K) (tCons (tVar 2) tNil)) (tC (.int 2000))))
  (tRz (fun cls d _ H => E cls d H) (tXm (He.ga K "TooMany") (S_TooMany_init K w) (tCons (tC (.str "letters")) tNil)))
  tNext)
  (tSeq (sFld K (tVar 0) (tVar 1) "strands")
  (sFld K (tVar 0) (tCB (rListOf K) (tCons (tVar 2) tNil)) "word")))) { nx := fun _ H' => Q .non H', rt := Q } [some (.ref x), some (.int s), some (.ref a), none] H := by
    intro hn
    unfold braidErr at k
    rw [if_neg (fun z => z hn)] at k
    walk_at "go"
    refine ⟨a, rfl, ⟨_, hs⟩, ?_⟩
    refine f_list (xs := ns.map V.int) (fun i σ H' => ∃ y, σ = [some (.ref x), some (.int s), some (.ref a), y] ∧ H' = H ∧ (ns.take i).any (badL s) = false) ⟨none, rfl, rfl, rfl⟩ ?_ ?_ ?_
    · rintro i σ H' _ ⟨y, _, rfl, _⟩
      exact hs
    · rintro i y σ H' hy ⟨y0, rfl, rfl, hany⟩
      obtain ⟨z, hzi, rfl⟩ := get_ints hy
      walk_at "go"
      have thrown : badL s z = true → Thrown (He.ga K "InvalidBraid") "what" (.str "word") H' E := fun hb => by
        have hm : ns.any (badL s) = true := List.any_eq_true.mpr ⟨z, List.mem_of_getElem? hzi, hb⟩
        rw [if_pos hm] at k
        exact k
      refine ite_dec (fun h0 => ?_) (fun h0 => ?_)
      · refine iteT ?_
        walk_at "go"
        refine do_raise ⟨"word", rfl, by decide +kernel⟩ (thrown ?_)
        unfold badL
        rw [decide_eq_true (V.int.inj h0)]
        rfl
      · walk_at "go"
        refine ite_dec (fun h1 => ?_) (fun h1 => ?_)
        · walk_at "go"
          refine do_raise ⟨"word", rfl, by decide +kernel⟩ (thrown ?_)
          unfold badL
          rw [decide_eq_true h1, Bool.or_true]
        · walk_at "go"
          refine ⟨_, rfl, rfl, ?_⟩
          rw [List.take_add_one, hzi, List.any_append, hany]
          show (false || (badL s z || false)) = false
          unfold badL
          rw [decide_eq_false h1, decide_eq_false (fun e => h0 (by rw [e]))]
          rfl
    · rintro σ H' ⟨y, rfl, rfl, hany⟩
      rw [List.length_map, List.take_length] at hany
      rw [if_neg (by rw [hany]; simp)] at k
      walk_at "go"
      refine ⟨a, _, rfl, .inl hs, ?_⟩
      walk_at "go"
      rw [List.length_map]
      refine ite_dec (fun h1 => ?_) (fun h1 => ?_)
      · walk_at "go"
        rw [if_pos (by omega)] at k
        exact do_raise ⟨"letters", rfl, by decide +kernel⟩ k
      · rw [if_neg (by omega)] at k
        walk_at "go"
        refine ⟨x, _, dx, [], rfl, hx, T.cl_Braid, T.na_Braid_strands, by decide, ?_⟩
        walk_at "go"
        have s1 : ∀ {p o}, H' p = some o → p ≠ x → (upd H' x (.ins (He.ga K "Braid") dx [("strands", .int s)])) p = some o := fun h n => by rw [upd_ne n]; exact h
        have hs1 : SqL K (upd H' x (.ins (He.ga K "Braid") dx [("strands", .int s)])) a (ns.map V.int) := by
          rcases hs with (h | ⟨o, h⟩) | h
          · exact .inl (.inl (s1 h hax))
          · exact .inl (.inr ⟨o, s1 h hax⟩)
          · exact .inr h
        refine ⟨a, _, rfl, .inl hs1, fun l hl => ?_⟩
        walk_at "go"
        have hlx : l ≠ x := fun e => by rw [e, upd_same] at hl; cases hl
        refine ⟨x, _, dx, [("strands", .int s)], rfl, ?_, T.cl_Braid, T.na_Braid_word, by simp, ?_⟩
        · rw [upd_ne hlx.symm, upd_same]; rfl
        · have hl0 : H' l = none := by rw [upd_ne hlx] at hl; exact hl
          refine k l _ ?_ hl0 ?_ upd_same
          · exact (((Kp.refl [x] H').put (by simp)).new hl).put (by simp)
          · rw [upd_ne hlx, upd_same]
  refine ite_dec (fun h1 => ?_) (fun h1 => ?_)
  · walk_at "go"
    by_cases h8 : s ≤ 8
    · refine ite_no (by rw [decide_eq_true h8]; rfl) ?_
      walk_at "st"
      exact cont ⟨h1, h8⟩
    · refine ite_yes (by rw [decide_eq_false h8]; rfl) ?_
      walk_at "go"
      exact do_raise ⟨"strands", rfl, by decide +kernel⟩ (raiseS fun z => h8 z.2)
  · walk_at "go"
    refine iteT ?_
    walk_at "go"
    exact do_raise ⟨"strands", rfl, by decide +kernel⟩ (raiseS fun z => h1 z.1)
end
end K57
end
/-! part S57b -/
section
set_option Elab.async false
set_option linter.all false
set_option maxRecDepth 100000
set_option maxHeartbeats 4000000
open PySem PySem.Spec PyProof.Rows L2 KN
local macro_rules | `(tactic| walk_at "st") => `(tactic| first
  | (with_reducible refine s_seq ?_) | (with_reducible refine s_asg ?_) | (with_reducible refine s_name ?_) | (with_reducible refine s_drop ?_) | (with_reducible refine s_ret ?_) | (with_reducible refine s_retN ?_)
  | (with_reducible refine s_next ?_) | (with_reducible refine s_brk ?_) | (with_reducible refine s_ct ?_) | (with_reducible refine s_if ?_) | ((with_reducible refine' s_var ?h ?_); (case h => rfl)) | (with_reducible refine s_c ?_)
  | (with_reducible refine s_op ?_) | (with_reducible refine s_rI0 ?_) | ((with_reducible refine s_rI ?h ?_); (case h => first | assumption | decide | (show (0 : Int) < _; omega) | exact ⟨by decide, by decide, by decide⟩ | exact cmul_small (by omega) (by omega) (by omega) (by omega) | exact cdiv_small (by omega) (by omega))) | (with_reducible refine s_un ?_) | (with_reducible refine s_rU ?_)
  | (with_reducible refine s_addIB ?_) | ((with_reducible refine' s_eq ?h ?_); (case h => first | rfl | decide)) | ((with_reducible refine' s_ne ?h ?_); (case h => first | rfl | decide)) | (with_reducible refine s_isN ?_) | (with_reducible refine s_notN ?_) | (with_reducible refine s_test ?_) | (with_reducible refine s_tB ?_)
  | (with_reducible refine s_bl ?_) | (with_reducible refine s_not ?_) | (with_reducible refine s_and ?_) | (with_reducible refine s_or ?_) | (with_reducible refine s_andV ?_) | (with_reducible refine s_orV ?_) | (with_reducible refine s_notV ?_)
  | (with_reducible refine s_ifE ?_) | (with_reducible refine s_cb ?_) | (with_reducible refine s_cons ?_) | (with_reducible refine s_nil ?_) | (with_reducible refine s_cl ?_) | (with_reducible refine s_clS ?_) | (with_reducible refine s_mk ?_) | (with_reducible refine s_mt ?_)
  | (with_reducible refine s_lst ?_) | (with_reducible refine s_tup ?_) | (with_reducible refine s_sl ?_) | (with_reducible refine s_noP ?_) | (with_reducible refine s_part ?_) | (with_reducible refine s_intE ?_) | (with_reducible refine s_bm ?_) | (with_reducible refine s_bm0 ?_)
  | (with_reducible refine s_m0 ?_) | (with_reducible refine s_m1 ?_) | (with_reducible refine s_strE ?_) | (with_reducible refine s_starts ?_) | (with_reducible refine s_isascii ?_) | (with_reducible refine s_isdigit ?_) | (with_reducible refine s_fld ?_)
  | (with_reducible refine s_abs ?_) | (with_reducible refine s_int1 ?_) | (with_reducible refine s_int1b ?_) | (with_reducible refine s_min2 ?_) | (with_reducible refine s_max2 ?_) | (with_reducible refine s_chain ?_) | (with_reducible refine s_blP ?_) | (with_reducible refine s_blV ?_) | (with_reducible refine s_blN ?_) | (with_reducible refine s_blG ?_) | (with_reducible refine s_intG ?_)
  | ((with_reducible refine' s_aug ?h ?_); (case h => rfl)) | (with_reducible refine s_par ?_) | (with_reducible refine s_two ?_) | (with_reducible refine s_frz ?_) | (with_reducible refine s_dnew ?_) | (with_reducible refine s_for ?_) | (with_reducible refine s_lc ?_) | (with_reducible refine s_joinS ?_) | (with_reducible refine s_gsub ?_) | (with_reducible refine s_kin ?_) | (with_reducible refine s_knotin ?_) | (with_reducible refine s_kget ?_) | (with_reducible refine s_setf ?_) | (with_reducible refine s_split ?_) | (with_reducible refine s_partn ?_) | (with_reducible refine s_vei ?_) | (with_reducible refine s_ost ?_) | (with_reducible refine s_rz ?_) | (with_reducible refine s_xm ?_) | (with_reducible refine s_rng1 ?_) | (with_reducible refine s_rng2 ?_) | (with_reducible refine s_iList ?_) | (with_reducible refine s_iTup ?_) | (with_reducible refine s_iSeq ?_) | (with_reducible refine s_iEnum ?_))
local macro_rules | `(tactic| walk_at "go") => `(tactic| repeat walk_at "st")
local macro_rules | `(tactic| walk_at "hp") => `(tactic| first
  | assumption
  | exact upd_same
  | (refine (upd_ne ?n).trans ?_; (case n => first | assumption | (apply Ne.symm; assumption) | exact ne_of_none (by walk_at "hp") (by assumption) | exact (ne_of_none (by walk_at "hp") (by assumption)).symm); walk_at "hp"))
namespace K57
open PySem PySem.Spec PyProof.Rows L2 KN
/-! ### write_braid, read_braid -/
def lineB (s : Int) (ns : List Int) : List Str := "braid" :: dec s :: ns.map dec
def small (z : Int) : Prop := z.natAbs < 10 ^ 40
theorem okWs_lineB {s : Int} {ns : List Int} (hs : small s) (hn : ∀ z ∈ ns, small z) : okWs (lineB s ns) := by
  intro w m
  rcases List.mem_cons.mp m with rfl | m
  · exact okW_by (by decide +kernel)
  · rcases List.mem_cons.mp m with rfl | m
    · exact okW_dec hs
    · obtain ⟨z, mz, rfl⟩ := List.mem_map.mp m
      exact okW_dec (hn z mz)
/-- a Braid stands at x -/
def IsBraid (K : PySem.W.Frag) (H : Hp) (x : Addr) (s : Int) (ns : List Int) : Prop := ∃ (dx l : Addr), H x = some (.ins (He.ga K "Braid") dx [("strands", .int s), ("word", .ref l)]) ∧ H l = some (.lst (ns.map V.int))
def S_write_braid (K : PySem.W.Frag) (w : World) : Sp := fun vs H Q _ => ∃ (x : Addr) (s : Int) (ns : List Int), vs = [.ref x] ∧ IsBraid K H x s ns ∧ ns.length ≤ 5000 ∧ small s ∧ (∀ z ∈ ns, small z) ∧ ∀ H', Same H H' → Q (.str (line (lineB s ns))) H'
theorem len_write_braid {K : PySem.W.Frag} {w : World} (vs : List V) (H : Hp) (Q : VK) (E : XK) (h : S_write_braid K w vs H Q E) : vs.length = P_write_braid.length := by
  obtain ⟨_, _, _, rfl, _⟩ := h
  rfl
section
variable {K : PySem.W.Frag} {mg : Str → Option Value} {w : World} {vs : List V} {H : Hp} {Q : VK} {E : XK}
theorem pure_write_braid (T : Txt K mg w) (h : S_write_braid K w vs H Q E) : t_write_braid K w { nx := fun _ H' => Q .non H', rt := Q } (start N_write_braid vs) H := by
  obtain ⟨x, s, ns, rfl, ⟨dx, l, hx, hl⟩, hz, hs, hn, k⟩ := h
  show t_write_braid K w _ [some (.ref x), none] H
  unfold t_write_braid
  walk_at "go"
  refine ⟨x, _, dx, _, _, rfl, hx, T.cl_Braid, T.na_Braid_strands, rfl, ?_⟩
  walk_at "go"
  refine s_strD hs ?_
  walk_at "go"
  refine ⟨by simp [sizeLine_eq], fun p hp => ?_⟩
  walk_at "go"
  have s1 : Same H (upd H p (.lst [.str "braid", .str (dec s)])) := same_new hp
  refine ⟨x, _, dx, _, _, rfl, s1 _ _ hx, T.cl_Braid, T.na_Braid_word, rfl, ?_⟩
  refine ⟨l, rfl, ⟨_, SqL.of (s1 _ _ hl)⟩, ?_⟩
  refine lc_mapL (fun v => match v with | .int z => .str (dec z) | v => v) (SqL.of (s1 _ _ hl)) (by rw [List.length_map]; omega) ?_ ?_
  · intro v mv H' N s' kN
    obtain ⟨z, mz, rfl⟩ := List.mem_map.mp mv
    with_reducible refine s_name ?_
    refine ⟨rfl, ?_⟩
    walk_at "go"
    exact s_strD (hn z mz) (kN _ (Same.refl _))
  · intro D H' s' hD0 hD
    rw [List.map_map] at hD
    refine ⟨p, D, _, _, rfl, rfl, s' _ _ upd_same, hD, ?_, fun q hq => ?_⟩
    · rw [List.length_map]; exact sz_of (by simp; omega)
    · have e : ([V.str "braid", V.str (dec s)] ++ ns.map ((fun v => match v with | .int z => .str (dec z) | v => v) ∘ V.int)) = (lineB s ns).map V.str := by
        show V.str "braid" :: V.str (dec s) :: _ = _
        unfold lineB
        rw [List.map_cons, List.map_cons, List.map_map]
        rfl
      rw [e]
      refine do_join (SqL.of upd_same) (okWs_lineB hs hn) (by unfold lineB; simp; omega) ?_
      exact k _ ((s1.trans s').new hq)
/-! ### read_braid -/
inductive BWhy | line | err (b : BErr)
def readBraid (x : Str) : Except BWhy (Int × List Int) := match Txt.split x " " with
  | [] => .error .line
  | h :: t => if h ≠ "braid" then .error .line else match readAll t with
    | none => .error .line
    | some [] => .error .line
    | some (s :: ns) => match braidErr s ns with
      | some b => .error (.err b)
      | none => .ok (s, ns)
def BWhy.thrown (K : PySem.W.Frag) (H : Hp) (E : XK) : BWhy → Prop
  | .line => Thrown (He.ga K "InvalidLine") "line" (.int 0) H E
  | .err b => b.thrown K H E
def S_read_braid (K : PySem.W.Frag) (w : World) : Sp := fun vs H Q E => ∃ (x : Str), vs = [.str x] ∧ x.length ≤ 1000000 ∧ Txt.split x " " ≠ [] ∧ (∀ w ∈ Txt.split x " ", w.length ≤ 100000) ∧ (Txt.split x " ").length ≤ 90000 ∧
  match readBraid x with
  | .error b => b.thrown K H E
  | .ok (s, ns) => ∀ b H', Same H H' → H b = none → IsBraid K (fresh H H') b s ns → Q (.ref b) H'
theorem len_read_braid {K : PySem.W.Frag} {w : World} (vs : List V) (H : Hp) (Q : VK) (E : XK) (h : S_read_braid K w vs H Q E) : vs.length = P_read_braid.length := by
  obtain ⟨_, rfl, _⟩ := h
  rfl
theorem pure_read_braid (T : Txt K mg w) (h : S_read_braid K w vs H Q E) : t_read_braid K w E (S_integers_of K w) (S_InvalidLine_init K w) (S_Braid_init K w) { nx := fun _ H' => Q .non H', rt := Q } (start N_read_braid vs) H := by
  obtain ⟨x, rfl, hx, hne, hw, hz, k⟩ := h
  show t_read_braid K w E _ _ _ _ [some (.str x), none, none] H
  unfold t_read_braid
  walk_at "go"
  refine ⟨x, " ", rfl, rfl, by decide +kernel, ?_, fun p hp => ?_⟩
  · rw [sizeLine_eq]; omega
  walk_at "go"
  unfold readBraid at k
  generalize Txt.split x " " = ws at *
  have s1 : Same H (upd H p (.lst (ws.map V.str))) := same_new hp
  refine ⟨p, _, rfl, SqL.of upd_same, fun q hq => ?_⟩
  rw [cut1, ← List.map_drop]
  walk_at "go"
  have s2 : Same H (upd (upd H p (.lst (ws.map V.str))) q (.lst ((ws.drop 1).map V.str))) := s1.new hq
  have hp2 : (upd (upd H p (.lst (ws.map V.str))) q (.lst ((ws.drop 1).map V.str))) p = some (.lst (ws.map V.str)) := by rw [upd_ne (ne_of_none upd_same hq)]; exact upd_same
  refine ⟨q, ws.drop 1, rfl, SqL.of upd_same, fun w m => hw w (List.mem_of_mem_drop m), by rw [List.length_drop]; omega, fun H3 s3 => ?_⟩
  have hp3 := s3 _ _ hp2
  have s4 := s2.trans s3
  obtain ⟨h0, t0, rfl⟩ : ∃ a r, ws = a :: r := by
    cases ws with
    | nil => exact absurd rfl hne
    | cons a r => exact ⟨a, r, rfl⟩
  rw [List.drop_one, List.tail_cons]
  dsimp only at k
  have first : ∀ {H'}, Same H3 H' → SqL K H' p ((h0 :: t0).map V.str) := fun s => SqL.of (s _ _ hp3)
  have lineE : ∀ {H'}, BWhy.line.thrown K H E → Same H H' → Thrown (He.ga K "InvalidLine") "line" (.int 0) H' E := fun h s => Thrown.same h s
  by_cases hb : h0 = "braid"
  · rw [if_neg (fun z => z hb)] at k
    cases hr : readAll t0 with
    | none =>
      rw [hr] at k
      dsimp only at k ⊢
      walk_at "go"
      refine ⟨p, _, 0, .str h0, rfl, rfl, first (Same.refl _), at0, ?_⟩
      walk_at "go"
      refine ite_no (by rw [hb]; rfl) ?_
      walk_at "go"
      refine iteT ?_
      walk_at "go"
      exact do_raise ⟨0, rfl, by decide⟩ (lineE k s4)
    | some zs =>
      rw [hr] at k
      dsimp only
      intro l hl0 hl
      walk_at "go"
      refine ⟨p, _, 0, .str h0, rfl, rfl, first (Same.refl _), at0, ?_⟩
      walk_at "go"
      refine ite_no (by rw [hb]; rfl) ?_
      walk_at "go"
      refine iteF ?_
      walk_at "go"
      refine ⟨l, _, rfl, .inl (SqL.of hl), ?_⟩
      walk_at "go"
      cases zs with
      | nil =>
        refine iteT ?_
        walk_at "go"
        exact do_raise ⟨0, rfl, by decide⟩ (lineE k s4)
      | cons s ns =>
        dsimp only at k
        refine ite_no (by simp; omega) ?_
        walk_at "go"
        refine ⟨l, _, 0, .int s, rfl, rfl, SqL.of hl, at0, ?_⟩
        walk_at "go"
        refine ⟨l, _, rfl, SqL.of hl, fun m hm => ?_⟩
        rw [cut1, ← List.map_drop, List.drop_one, List.tail_cons]
        walk_at "go"
        intro b dx hb0 hdx hne2
        have s5 : Same H (upd H3 m (.lst (ns.map V.int))) := s4.new hm
        have hmm : (upd H3 m (.lst (ns.map V.int))) m = some (.lst (ns.map V.int)) := upd_same
        generalize (upd H3 m (.lst (ns.map V.int))) = H5 at *
        have s6 : Same H (upd (upd H5 dx (.own b)) b (.ins (He.ga K "Braid") dx [])) := (s5.new hdx).mut (s5.back hb0)
        have nmb : m ≠ b := ne_of_none hmm hb0
        have hm6 : (upd (upd H5 dx (.own b)) b (.ins (He.ga K "Braid") dx [])) m = some (.lst (ns.map V.int)) := by rw [upd_ne nmb, upd_ne (ne_of_none hmm hdx)]; exact hmm
        refine ⟨b, dx, m, s, ns, rfl, upd_same, nmb, SqL.of hm6, ?_, ?_⟩
        · have := readAll_len hr
          simp only [List.length_cons] at this hz
          omega
        · cases hbe : braidErr s ns with
          | some e =>
            rw [hbe] at k
            exact BErr.thrown_same s6 k
          | none =>
            rw [hbe] at k
            dsimp only at k ⊢
            intro l2 H7 kp hl2 hl7 hb7
            have hb0' := s5.back hb0
            have s7 : Same H H7 := fun c u e => by
              have e6 := s6 c u e
              refine kp c u e6 fun z => ?_
              rw [List.mem_singleton] at z
              rw [z, hb0'] at e
              cases e
            exact ⟨rfl, k b H7 s7 hb0' ⟨dx, l2, fresh_at hb0' hb7, fresh_at (s6.back hl2) hl7⟩⟩
  · rw [if_pos hb] at k
    have goal : ∀ (nv : V) (H' : Hp), Same H3 H' → (tSeq (tIfS (tOr (tTest (tOp rNe (tOp (rIxL K) (tVar 1) (tC (.int 0))) (tC (.str "braid")))) (tOr (tTest (tOp rIsNon (tVar 2) (tC .non))) (tTest (tOp rEq (tCB (rLenSq K) (tCons (tVar 2) tNil)) (tC (.int 0))))))
  (tRz (fun cls d _ H => E cls d H) (tXm (He.ga K "InvalidLine") (S_InvalidLine_init K w) (tCons (tC (.int 0)) tNil)))
  tNext)
  (tRet (tMk (He.ga K "Braid") (S_Braid_init K w) E (tCons (tOp (rIxL K) (tVar 2) (tC (.int 0))) (tCons (tSl (rSlL K) (tVar 2) (tPart (tC (.int 1))) tNoPart) tNil))))) { nx := fun _ H' => Q .non H', rt := Q } [some (.str x), some (.ref p), some nv] H' := by
      intro nv H' s
      walk_at "go"
      refine ⟨p, _, 0, .str h0, rfl, rfl, first s, at0, ?_⟩
      walk_at "go"
      refine ite_yes (by rw [decide_eq_false (fun z => hb (V.str.inj z))]; rfl) ?_
      refine iteT ?_
      walk_at "go"
      exact do_raise ⟨0, rfl, by decide⟩ (lineE k (s4.trans s))
    cases hr : readAll t0 with
    | none => exact goal .non H3 (Same.refl _)
    | some zs => exact fun l _ _ => goal (.ref l) H3 (Same.refl _)
end
end K57
end
/-! part S57c -/
section
set_option Elab.async false
set_option linter.all false
set_option maxRecDepth 100000
set_option maxHeartbeats 4000000
open PySem PySem.Spec PyProof.Rows L2 KN
local macro_rules | `(tactic| walk_at "st") => `(tactic| first
  | (with_reducible refine s_seq ?_) | (with_reducible refine s_asg ?_) | (with_reducible refine s_name ?_) | (with_reducible refine s_drop ?_) | (with_reducible refine s_ret ?_) | (with_reducible refine s_retN ?_)
  | (with_reducible refine s_next ?_) | (with_reducible refine s_brk ?_) | (with_reducible refine s_ct ?_) | (with_reducible refine s_if ?_) | ((with_reducible refine' s_var ?h ?_); (case h => rfl)) | (with_reducible refine s_c ?_)
  | (with_reducible refine s_op ?_) | (with_reducible refine s_rI0 ?_) | ((with_reducible refine s_rI ?h ?_); (case h => first | assumption | decide | (show (0 : Int) < _; omega) | exact ⟨by decide, by decide, by decide⟩ | exact cmul_small (by omega) (by omega) (by omega) (by omega) | exact cdiv_small (by omega) (by omega))) | (with_reducible refine s_un ?_) | (with_reducible refine s_rU ?_)
  | (with_reducible refine s_addIB ?_) | ((with_reducible refine' s_eq ?h ?_); (case h => first | rfl | decide)) | ((with_reducible refine' s_ne ?h ?_); (case h => first | rfl | decide)) | (with_reducible refine s_isN ?_) | (with_reducible refine s_notN ?_) | (with_reducible refine s_test ?_) | (with_reducible refine s_tB ?_)
  | (with_reducible refine s_bl ?_) | (with_reducible refine s_not ?_) | (with_reducible refine s_and ?_) | (with_reducible refine s_or ?_) | (with_reducible refine s_andV ?_) | (with_reducible refine s_orV ?_) | (with_reducible refine s_notV ?_)
  | (with_reducible refine s_ifE ?_) | (with_reducible refine s_cb ?_) | (with_reducible refine s_cons ?_) | (with_reducible refine s_nil ?_) | (with_reducible refine s_cl ?_) | (with_reducible refine s_clS ?_) | (with_reducible refine s_mk ?_) | (with_reducible refine s_mt ?_)
  | (with_reducible refine s_lst ?_) | (with_reducible refine s_tup ?_) | (with_reducible refine s_sl ?_) | (with_reducible refine s_noP ?_) | (with_reducible refine s_part ?_) | (with_reducible refine s_intE ?_) | (with_reducible refine s_bm ?_) | (with_reducible refine s_bm0 ?_)
  | (with_reducible refine s_m0 ?_) | (with_reducible refine s_m1 ?_) | (with_reducible refine s_strE ?_) | (with_reducible refine s_starts ?_) | (with_reducible refine s_isascii ?_) | (with_reducible refine s_isdigit ?_) | (with_reducible refine s_fld ?_)
  | (with_reducible refine s_abs ?_) | (with_reducible refine s_int1 ?_) | (with_reducible refine s_int1b ?_) | (with_reducible refine s_min2 ?_) | (with_reducible refine s_max2 ?_) | (with_reducible refine s_chain ?_) | (with_reducible refine s_blP ?_) | (with_reducible refine s_blV ?_) | (with_reducible refine s_blN ?_) | (with_reducible refine s_blG ?_) | (with_reducible refine s_intG ?_)
  | ((with_reducible refine' s_aug ?h ?_); (case h => rfl)) | (with_reducible refine s_par ?_) | (with_reducible refine s_two ?_) | (with_reducible refine s_frz ?_) | (with_reducible refine s_dnew ?_) | (with_reducible refine s_for ?_) | (with_reducible refine s_lc ?_) | (with_reducible refine s_joinS ?_) | (with_reducible refine s_gsub ?_) | (with_reducible refine s_kin ?_) | (with_reducible refine s_knotin ?_) | (with_reducible refine s_kget ?_) | (with_reducible refine s_setf ?_) | (with_reducible refine s_split ?_) | (with_reducible refine s_partn ?_) | (with_reducible refine s_vei ?_) | (with_reducible refine s_ost ?_) | (with_reducible refine s_rz ?_) | (with_reducible refine s_xm ?_) | (with_reducible refine s_rng1 ?_) | (with_reducible refine s_rng2 ?_) | (with_reducible refine s_iList ?_) | (with_reducible refine s_iTup ?_) | (with_reducible refine s_iSeq ?_) | (with_reducible refine s_iEnum ?_))
local macro_rules | `(tactic| walk_at "go") => `(tactic| repeat walk_at "st")
local macro_rules | `(tactic| walk_at "hp") => `(tactic| first
  | assumption
  | exact upd_same
  | (refine (upd_ne ?n).trans ?_; (case n => first | assumption | (apply Ne.symm; assumption) | exact ne_of_none (by walk_at "hp") (by assumption) | exact (ne_of_none (by walk_at "hp") (by assumption)).symm); walk_at "hp"))
namespace K57
open PySem PySem.Spec PyProof.Rows L2 KN
/-! ### moves as lines -/
abbrev Move := Str × List (Option Int)
def wordO : Option Int → Str
  | none => "none"
  | some z => dec z
def optD : Option Int → PyData
  | none => .none
  | some z => .int z
def moveW (m : Move) : List Str := m.1 :: m.2.map wordO
def moveV (m : Move) : List V := V.str m.1 :: m.2.map optI
def moveD (m : Move) : PyData := .tuple (.str m.1 :: m.2.map optD)
def okO : Option Int → Prop
  | none => True
  | some z => small z
def okM (m : Move) : Prop := okW m.1 ∧ m.2.length ≤ 10 ∧ ∀ o ∈ m.2, okO o
theorem okWs_move {m : Move} (h : okM m) : okWs (moveW m) := by
  intro w mw
  rcases List.mem_cons.mp mw with rfl | mw
  · exact h.1
  · obtain ⟨o, mo, rfl⟩ := List.mem_map.mp mw
    cases o with
    | none => exact okW_by (by decide +kernel)
    | some z => exact okW_dec (h.2.2 _ mo)
section
variable {K : PySem.W.Frag} {F : Hp}
theorem opts_of : ∀ {os : List (Option Int)} {vs : List V}, DpAll K F vs (os.map optD) → vs = os.map optI
  | [], _, .nil => rfl
  | none :: r, _, .cons .non a => by rw [opts_of a]; rfl
  | some z :: r, _, .cons (.int _) a => by rw [opts_of a]; rfl
theorem opts_to : ∀ os : List (Option Int), DpAll K F (os.map optI) (os.map optD)
  | [] => .nil
  | none :: r => .cons .non (opts_to r)
  | some z :: r => .cons (.int z) (opts_to r)
theorem move_of {v : V} {m : Move} (h : Dp K F v (moveD m)) : ∃ p, v = .ref p ∧ SqT K F p (moveV m) := by
  cases h with
  | tup hs ha =>
    cases ha with
    | cons h1 h2 =>
      cases h1
      rw [opts_of h2] at hs
      exact ⟨_, rfl, hs⟩
theorem move_to {p : Addr} {m : Move} (h : SqT K F p (moveV m)) : Dp K F (.ref p) (moveD m) := .tup h (.cons (.str _) (opts_to _))
end
def S_write_paper (K : PySem.W.Frag) (w : World) : Sp := fun vs H Q _ => ∃ (a : Addr) (xs : List V) (ms : List Move), vs = [.ref a] ∧ SqL K H a xs ∧ DpAll K H xs (ms.map moveD) ∧ ms.length ≤ 1000 ∧ (∀ m ∈ ms, okM m) ∧
  ∀ p H', Same H H' → H p = none → H' p = some (.lst (ms.map fun m => V.str (line (moveW m)))) → Q (.ref p) H'
theorem len_write_paper {K : PySem.W.Frag} {w : World} (vs : List V) (H : Hp) (Q : VK) (E : XK) (h : S_write_paper K w vs H Q E) : vs.length = P_write_paper.length := by
  obtain ⟨_, _, _, rfl, _⟩ := h
  rfl
section
variable {K : PySem.W.Frag} {mg : Str → Option Value} {w : World} {vs : List V} {H : Hp} {Q : VK} {E : XK}
theorem take_succ {α : Type} {xs : List α} {i : Nat} {x : α} (h : xs[i]? = some x) : xs.take (i + 1) = xs.take i ++ [x] := by rw [List.take_add_one, h]; rfl
theorem pure_write_paper (h : S_write_paper K w vs H Q E) : t_write_paper K w { nx := fun _ H' => Q .non H', rt := Q } (start N_write_paper vs) H := by
  obtain ⟨a, xs, ms, rfl, hs, hd, hz, hok, k⟩ := h
  show t_write_paper K w _ [some (.ref a), none, none, none, none] H
  unfold t_write_paper
  walk_at "go"
  refine ⟨by simp [sizeLine_eq], fun p hp => ?_⟩
  walk_at "go"
  have sp : Same H (upd H p (.lst [])) := same_new hp
  refine ⟨a, rfl, ⟨_, sp.seq hs⟩, ?_⟩
  have el : xs.length = ms.length := by rw [hd.length, List.length_map]
  refine f_list (xs := xs) (fun i σ H' => ∃ mv ws it, σ = [some (.ref a), some (.ref p), mv, ws, it] ∧ Same H H' ∧ H' p = some (.lst ((ms.take i).map fun m => V.str (line (moveW m))))) ⟨none, none, none, rfl, sp, upd_same⟩ ?_ ?_ ?_
  · rintro i σ H' _ ⟨_, _, _, _, s, _⟩
    exact s.seq hs
  · rintro i x σ H' hx ⟨mv, ws, it, rfl, s, hp'⟩
    obtain ⟨d, hdi, dx⟩ := hd.get hx
    rw [List.getElem?_map] at hdi
    obtain ⟨m, hm, rfl⟩ := Option.map_eq_some_iff.mp hdi
    have okm := hok m (List.mem_of_getElem? hm)
    obtain ⟨q, rfl, hq⟩ := move_of dx
    have hq' := Same.sqt s hq
    walk_at "go"
    refine ⟨q, _, 0, .str m.1, rfl, rfl, hq', at0, ?_⟩
    walk_at "go"
    refine ⟨by simp [sizeLine_eq], fun r hr => ?_⟩
    walk_at "go"
    have hr0 : H r = none := s.back hr
    have sr := s.new (o := .lst [.str m.1]) hr
    refine ⟨q, _, rfl, Same.sqt sr hq, ?_, fun u hu => ?_⟩
    · rw [HT.sIx_none]
      show ¬ (HT.sIx _ 0 (some ((1 : Nat) : Int)) = 0 ∧ _)
      rw [HT.sIx_nat]
      intro z
      have z1 := z.1
      unfold moveV at z1
      simp at z1
    rw [cut1]
    walk_at "go"
    have npr : p ≠ r := ne_of_none hp' hr
    have npu : p ≠ u := by
      intro e
      rw [← e, upd_ne npr, hp'] at hu
      cases hu
    have nru : r ≠ u := ne_of_none upd_same hu
    have su := sr.new (o := .tup ((moveV m).drop 1)) hu
    refine ⟨u, rfl, ⟨_, SqT.of upd_same⟩, ?_⟩
    have hu0 : H u = none := sr.back hu
    refine f_tup (xs := (moveV m).drop 1) (fun j σ H2 => ∃ it, σ = [some (.ref a), some (.ref p), some (.ref q), some (.ref r), it] ∧ Same H H2 ∧ H2 p = some (.lst ((ms.take i).map fun m => V.str (line (moveW m)))) ∧ H2 u = some (.tup ((moveV m).drop 1)) ∧ H2 r = some (.lst (((moveW m).take (j + 1)).map V.str))) ⟨it, rfl, su, ?_, upd_same, ?_⟩ ?_ ?_ ?_
    · rw [upd_ne npu, upd_ne npr]; exact hp'
    · rw [upd_ne nru]; exact upd_same
    · rintro j σ H2 _ ⟨_, _, _, _, h, _⟩
      exact SqT.of h
    · rintro j y σ H2 hy ⟨it2, rfl, s2, hp2, hu2, hr2⟩
      have hy2 : (m.2.map optI)[j]? = some y := hy
      rw [List.getElem?_map] at hy2
      obtain ⟨o, ho, rfl⟩ := Option.map_eq_some_iff.mp hy2
      have oko := okm.2.2 o (List.mem_of_getElem? ho)
      have hw : (moveW m)[j + 1]? = some (wordO o) := by
        show (m.2.map wordO)[j]? = _
        rw [List.getElem?_map, ho]
        rfl
      have hlen : (((moveW m).take (j + 1)).map V.str).length < 100000 := by
        have := okm.2.1
        unfold moveW
        simp
        omega
      have fin : ∃ it, [some (V.ref a), some (.ref p), some (.ref q), some (.ref r), some (optI o)] = [some (.ref a), some (.ref p), some (.ref q), some (.ref r), it] ∧ Same H (upd H2 r (.lst (((moveW m).take (j + 1)).map V.str ++ [.str (wordO o)]))) ∧ (upd H2 r (.lst (((moveW m).take (j + 1)).map V.str ++ [.str (wordO o)]))) p = some (.lst ((ms.take i).map fun m => V.str (line (moveW m)))) ∧ (upd H2 r (.lst (((moveW m).take (j + 1)).map V.str ++ [.str (wordO o)]))) u = some (.tup ((moveV m).drop 1)) ∧ (upd H2 r (.lst (((moveW m).take (j + 1)).map V.str ++ [.str (wordO o)]))) r = some (.lst (((moveW m).take (j + 1 + 1)).map V.str)) := by
        refine ⟨_, rfl, s2.mut hr0, by rw [upd_ne npr]; exact hp2, by rw [upd_ne nru.symm]; exact hu2, ?_⟩
        rw [upd_same, take_succ hw, List.map_append]
        rfl
      walk_at "go"
      cases o with
      | none =>
        refine iteT ?_
        walk_at "go"
        refine ⟨.inl ⟨rfl, _, SqL.of hr2⟩, ?_⟩
        walk_at "go"
        exact ⟨r, _, _, rfl, rfl, hr2, sz_lt hlen, fin⟩
      | some z =>
        refine iteF ?_
        walk_at "go"
        refine ⟨.inl ⟨rfl, _, SqL.of hr2⟩, ?_⟩
        walk_at "go"
        refine .inl ⟨z, rfl, log2_small oko, ?_⟩
        walk_at "go"
        exact ⟨r, _, _, rfl, rfl, hr2, sz_lt hlen, fin⟩
    · rintro σ H2 ⟨it2, rfl, s2, hp2, hu2, hr2⟩
      have e1 : (moveW m).take (((moveV m).drop 1).length + 1) = moveW m := by
        have : ((moveV m).drop 1).length = m.2.length := by unfold moveV; simp
        rw [this]
        exact List.take_of_length_le (by unfold moveW; simp)
      rw [e1] at hr2
      walk_at "go"
      refine ⟨.inl ⟨rfl, _, SqL.of hp2⟩, ?_⟩
      walk_at "go"
      refine ⟨" ", r, moveW m, rfl, rfl, .inl (SqL.of hr2), join_sz (okWs_move okm) (by have := okm.2.1; unfold moveW; simp; omega), ?_⟩
      walk_at "go"
      have hi : i < ms.length := by
        rw [List.getElem?_eq_some_iff] at hm
        exact hm.1
      refine ⟨p, _, _, rfl, rfl, hp2, sz_lt (by simp; omega), ?_⟩
      refine ⟨_, _, _, rfl, s2.mut hp, ?_⟩
      rw [upd_same, take_succ hm, List.map_append]
      rfl
  · rintro σ H' ⟨mv, ws, it, rfl, s, hp'⟩
    rw [el, List.take_length] at hp'
    walk_at "go"
    exact k p H' s hp hp'
/-! ### read_move -/
def arity (x : Str) : Option Nat := ([("curl", 3), ("uncurl", 1), ("lay", 4), ("draw", 2), ("turn", 3)] : List (Str × Nat)).lookup x
def freeB (h : Str) (t : List Str) : Bool := decide (h = "curl") && decide (t.head? = some ("none" : Str))
def readMove (ws : List Str) : Option Move := match ws with
  | [] => none
  | h :: t => if arity h = some t.length then
      (if ((t.map fun w => readL (tl w)).drop (if freeB h t then 1 else 0)).any (·.isNone) then none else some (h, t.map fun w => readL (tl w)))
    else none
def S_read_move (K : PySem.W.Frag) (w : World) : Sp := fun vs H Q _ => ∃ (x : Str), vs = [.str x] ∧ x.length ≤ 1000000 ∧ Txt.split x " " ≠ [] ∧ (∀ w ∈ Txt.split x " ", w.length ≤ 100000) ∧ (Txt.split x " ").length ≤ 90000 ∧
  ∀ H', Same H H' → match readMove (Txt.split x " ") with
    | none => Q .non H'
    | some m => ∀ p, H p = none → H' p = some (.tup (moveV m)) → Q (.ref p) H'
theorem len_read_move {K : PySem.W.Frag} {w : World} (vs : List V) (H : Hp) (Q : VK) (E : XK) (h : S_read_move K w vs H Q E) : vs.length = P_read_move.length := by
  obtain ⟨_, rfl, _⟩ := h
  rfl
abbrev tabA : List (Str × V) := [("curl", .int 3), ("uncurl", .int 1), ("lay", .int 4), ("draw", .int 2), ("turn", .int 3)]
theorem tabA_arity (x : Str) : tabA.lookup x = (arity x).map fun n => .int n := by
  unfold arity
  simp only [List.lookup_cons]
  repeat' split
  all_goals rfl
theorem pure_read_move (T : Txt K mg w) (h : S_read_move K w vs H Q E) : t_read_move K w (S_integer_of K w) { nx := fun _ H' => Q .non H', rt := Q } (start N_read_move vs) H := by
  obtain ⟨x, rfl, hx, hne, hw, hz, k⟩ := h
  show t_read_move K w _ _ [some (.str x), none, none, none, none] H
  unfold t_read_move
  walk_at "go"
  refine ⟨x, " ", rfl, rfl, by decide +kernel, by rw [sizeLine_eq]; omega, fun p hp => ?_⟩
  walk_at "go"
  generalize Txt.split x " " = ws at *
  obtain ⟨h0, t0, rfl⟩ : ∃ a r, ws = a :: r := by
    cases ws with
    | nil => exact absurd rfl hne
    | cons a r => exact ⟨a, r, rfl⟩
  have s1 : Same H (upd H p (.lst ((h0 :: t0).map V.str))) := same_new hp
  have hp1 : (upd H p (.lst ((h0 :: t0).map V.str))) p = some (.lst ((h0 :: t0).map V.str)) := upd_same
  generalize (upd H p (.lst ((h0 :: t0).map V.str))) = H1 at *
  unfold readMove at k
  dsimp only at k
  have rf : ∀ H', Same H1 H' → SqL K H' p ((h0 :: t0).map V.str) := fun H' s => SqL.of (s _ _ hp1)
  refine ⟨p, _, 0, .str h0, rfl, rfl, rf _ (Same.refl _), at0, ?_⟩
  walk_at "go"
  refine ⟨h0, _, tabA, rfl, rfl, T.v_ARGUMENTS, ?_⟩
  rw [tabA_arity]
  walk_at "go"
  cases ha : arity h0 with
  | none =>
    refine ite_yes rfl ?_
    refine iteT ?_
    walk_at "go"
    have kk := k H1 s1
    rw [if_neg (by rw [ha]; simp)] at kk
    exact kk
  | some n =>
    refine ite_no rfl ?_
    walk_at "go"
    refine ⟨p, _, rfl, .inl (rf _ (Same.refl _)), ?_⟩
    walk_at "go"
    refine ⟨p, _, 0, .str h0, rfl, rfl, rf _ (Same.refl _), at0, ?_⟩
    refine ⟨h0, _, tabA, .int n, rfl, rfl, T.v_ARGUMENTS, by rw [tabA_arity, ha]; rfl, ?_⟩
    walk_at "go"
    rw [List.length_map, List.length_cons]
    by_cases hn : n = t0.length
    · refine ite_no (by rw [hn]; simp) ?_
      walk_at "go"
      have kk : ∀ H', Same H H' → match (if ((t0.map fun w => readL (tl w)).drop (if freeB h0 t0 then 1 else 0)).any (·.isNone) then none else some ((h0, t0.map fun w => readL (tl w)) : Move)) with
        | none => Q .non H'
        | some m => ∀ p, H p = none → H' p = some (.tup (moveV m)) → Q (.ref p) H' := by
        intro H' s
        have := k H' s
        rw [if_pos (by rw [ha, hn])] at this
        exact this
      refine ⟨p, _, rfl, rf _ (Same.refl _), fun q hq => ?_⟩
      rw [cut1, ← List.map_drop, List.drop_one, List.tail_cons]
      walk_at "go"
      refine ⟨q, rfl, ⟨_, SqL.of upd_same⟩, ?_⟩
      refine lc_mapL (fun v => match v with | .str z => optI (readL (tl z)) | v => v) (SqL.of upd_same) (by rw [List.length_map]; simp at hz; omega) ?_ ?_
      · intro v mv H' N s' kN
        obtain ⟨z, mz, rfl⟩ := List.mem_map.mp mv
        with_reducible refine s_name ?_
        refine ⟨rfl, ?_⟩
        walk_at "go"
        exact ⟨z, rfl, hw z (List.mem_cons_of_mem _ mz), kN _ (Same.refl _)⟩
      · intro D H' s' hD0 hD
        rw [List.map_map] at hD
        have hD' : H' D = some (.lst ((t0.map fun w => readL (tl w)).map optI)) := by rw [hD, List.map_map]; rfl
        have s2 : Same H1 H' := (same_new hq).trans s'
        have s3 := s1.trans s2
        generalize hits : (t0.map fun w => readL (tl w)) = its at *
        have hpos : 1 ≤ t0.length := by
          rw [← hn]
          cases n with
          | zero =>
            exfalso
            revert ha
            unfold arity
            simp only [List.lookup_cons]
            repeat' split
            all_goals intro h; cases h
          | succ n => omega
        have hil : its.length = t0.length := by rw [← hits, List.length_map]
        with_reducible refine s_name ?_
        -- the rest, free known
        have rest : ∀ (H2 : Hp), Same H' H2 → ∀ b, b = freeB h0 t0 → (tSeq (tIfS (tTest (tOp (rIn K false) (tC .non) (tSl (rSlL K) (tVar 2) (tPart (tCB rInt1 (tCons (tVar 3) tNil))) tNoPart)))
  (tRet (tC .non))
  tNext)
  (tRet (tOp (rCatT K) (tTup (tCons (tOp (rIxL K) (tVar 1) (tC (.int 0))) tNil)) (tCB (rTupOf K) (tCons (tVar 2) tNil))))) { nx := fun _ H' => Q .non H', rt := Q } [some (.str x), some (.ref p), some (.ref D), some (.bl b), none] H2 := by
          intro H2 sH b hb
          subst hb
          walk_at "go"
          refine ⟨D, _, rfl, SqL.of (sH _ _ hD'), fun u hu => ?_⟩
          have ec : cutV (its.map optI) (some (if freeB h0 t0 then 1 else 0)) none = (its.drop (if freeB h0 t0 then 1 else 0)).map optI := by
            have := cutN (its.map optI) (if freeB h0 t0 then 1 else 0)
            rw [← List.map_drop] at this
            rw [← this]
            cases freeB h0 t0 <;> rfl
          rw [ec]
          refine ⟨u, _, rfl, .inl (SqL.of upd_same), rfl, ?_, ?_⟩
          · rw [List.all_map]
            exact List.all_eq_true.mpr fun o _ => optI_flat o
          walk_at "go"
          rw [inV_opt]
          have su := (s3.trans sH).new (o := .lst ((its.drop (if freeB h0 t0 then 1 else 0)).map optI)) hu
          cases hb : (its.drop (if freeB h0 t0 then 1 else 0)).any (·.isNone) with
          | true =>
            refine iteT ?_
            walk_at "go"
            have := kk _ su
            rw [hb] at this
            exact this
          | false =>
            refine iteF ?_
            walk_at "go"
            refine ⟨p, _, 0, .str h0, rfl, rfl, rf _ ((s2.trans sH).new hu), at0, ?_⟩
            walk_at "go"
            refine ⟨by simp [sizeLine_eq], fun r hr => ?_⟩
            walk_at "go"
            have hDr : (upd (upd H2 u (.lst ((its.drop (if freeB h0 t0 then 1 else 0)).map optI))) r (.tup [.str h0])) D = some (.lst (its.map optI)) := ((Same.refl _).new hr) _ _ (((Same.refl _).new hu) _ _ (sH _ _ hD'))
            refine ⟨D, _, rfl, .inl ⟨SqL.of hDr, fun y hy => ?_⟩⟩
            have nry : r ≠ y := ne_of_none upd_same hy
            refine ⟨r, y, [.str h0], its.map optI, rfl, rfl, SqT.of ?_, SqT.of upd_same, by simp, ?_, ?_, ?_⟩
            · rw [upd_ne nry]; exact upd_same
            · rw [List.length_map, hil, List.length_singleton]; have hz2 : t0.length + 1 ≤ 90000 := hz; exact sz_of (by omega)
            · intro e
              have := congrArg List.length e
              rw [List.length_map, hil, List.length_nil] at this
              omega
            · intro _ z hz'
              have sf := ((su.new (o := .tup [.str h0]) hr).new (o := .tup (its.map optI)) hy)
              have := kk _ (sf.new (o := .tup ([V.str h0] ++ its.map optI)) hz')
              rw [hb] at this
              exact this z (sf.back hz') upd_same
        walk_at "go"
        refine ⟨p, _, 0, .str h0, rfl, rfl, rf _ s2, at0, ?_⟩
        walk_at "go"
        by_cases hc : h0 = "curl"
        · refine ite_yes (by rw [hc]; exact decide_eq_true rfl) ?_
          obtain ⟨a1, r1, rfl⟩ : ∃ a r, t0 = a :: r := by
            cases t0 with
            | nil => simp at hpos
            | cons a r => exact ⟨a, r, rfl⟩
          walk_at "go"
          refine ⟨p, _, 1, .str a1, rfl, rfl, rf _ s2, at_of (j := 1) rfl rfl, ?_⟩
          iterate 3 walk_at "st"
          refine rest H' (Same.refl _) (decide (V.str a1 = V.str "none")) ?_
          unfold freeB
          rw [decide_eq_true hc, Bool.true_and, List.head?_cons]
          by_cases ha1 : a1 = "none"
          · rw [ha1]; exact (decide_eq_true rfl).trans (decide_eq_true rfl).symm
          · rw [decide_eq_false (fun z => ha1 (V.str.inj z)), decide_eq_false (fun z => ha1 (Option.some.inj z))]
        · refine ite_no (decide_eq_false fun z => hc (V.str.inj z)) ?_
          walk_at "st"
          refine rest H' (Same.refl _) false ?_
          unfold freeB
          rw [decide_eq_false hc]
          rfl
    · refine ite_yes ?_ ?_
      · rw [decide_eq_false (fun z => hn (by have := V.int.inj z; omega))]
        rfl
      · walk_at "go"
        have kk := k H1 s1
        rw [if_neg (by rw [ha]; exact fun z => hn (Option.some.inj z))] at kk
        exact kk
end
end K57
end
/-! part S57d -/
section
set_option Elab.async false
set_option linter.all false
set_option maxRecDepth 100000
set_option maxHeartbeats 4000000
open PySem PySem.Spec PyProof.Rows L2 KN
local macro_rules | `(tactic| walk_at "st") => `(tactic| first
  | (with_reducible refine s_seq ?_) | (with_reducible refine s_asg ?_) | (with_reducible refine s_name ?_) | (with_reducible refine s_drop ?_) | (with_reducible refine s_ret ?_) | (with_reducible refine s_retN ?_)
  | (with_reducible refine s_next ?_) | (with_reducible refine s_brk ?_) | (with_reducible refine s_ct ?_) | (with_reducible refine s_if ?_) | ((with_reducible refine' s_var ?h ?_); (case h => rfl)) | (with_reducible refine s_c ?_)
  | (with_reducible refine s_op ?_) | (with_reducible refine s_rI0 ?_) | ((with_reducible refine s_rI ?h ?_); (case h => first | assumption | decide | (show (0 : Int) < _; omega) | exact ⟨by decide, by decide, by decide⟩ | exact cmul_small (by omega) (by omega) (by omega) (by omega) | exact cdiv_small (by omega) (by omega))) | (with_reducible refine s_un ?_) | (with_reducible refine s_rU ?_)
  | (with_reducible refine s_addIB ?_) | ((with_reducible refine' s_eq ?h ?_); (case h => first | rfl | decide)) | ((with_reducible refine' s_ne ?h ?_); (case h => first | rfl | decide)) | (with_reducible refine s_isN ?_) | (with_reducible refine s_notN ?_) | (with_reducible refine s_test ?_) | (with_reducible refine s_tB ?_)
  | (with_reducible refine s_bl ?_) | (with_reducible refine s_not ?_) | (with_reducible refine s_and ?_) | (with_reducible refine s_or ?_) | (with_reducible refine s_andV ?_) | (with_reducible refine s_orV ?_) | (with_reducible refine s_notV ?_)
  | (with_reducible refine s_ifE ?_) | (with_reducible refine s_cb ?_) | (with_reducible refine s_cons ?_) | (with_reducible refine s_nil ?_) | (with_reducible refine s_cl ?_) | (with_reducible refine s_clS ?_) | (with_reducible refine s_mk ?_) | (with_reducible refine s_mt ?_)
  | (with_reducible refine s_lst ?_) | (with_reducible refine s_tup ?_) | (with_reducible refine s_sl ?_) | (with_reducible refine s_noP ?_) | (with_reducible refine s_part ?_) | (with_reducible refine s_intE ?_) | (with_reducible refine s_bm ?_) | (with_reducible refine s_bm0 ?_)
  | (with_reducible refine s_m0 ?_) | (with_reducible refine s_m1 ?_) | (with_reducible refine s_strE ?_) | (with_reducible refine s_starts ?_) | (with_reducible refine s_isascii ?_) | (with_reducible refine s_isdigit ?_) | (with_reducible refine s_fld ?_)
  | (with_reducible refine s_abs ?_) | (with_reducible refine s_int1 ?_) | (with_reducible refine s_int1b ?_) | (with_reducible refine s_min2 ?_) | (with_reducible refine s_max2 ?_) | (with_reducible refine s_chain ?_) | (with_reducible refine s_blP ?_) | (with_reducible refine s_blV ?_) | (with_reducible refine s_blN ?_) | (with_reducible refine s_blG ?_) | (with_reducible refine s_intG ?_)
  | ((with_reducible refine' s_aug ?h ?_); (case h => rfl)) | (with_reducible refine s_par ?_) | (with_reducible refine s_two ?_) | (with_reducible refine s_frz ?_) | (with_reducible refine s_dnew ?_) | (with_reducible refine s_for ?_) | (with_reducible refine s_lc ?_) | (with_reducible refine s_joinS ?_) | (with_reducible refine s_gsub ?_) | (with_reducible refine s_kin ?_) | (with_reducible refine s_knotin ?_) | (with_reducible refine s_kget ?_) | (with_reducible refine s_setf ?_) | (with_reducible refine s_split ?_) | (with_reducible refine s_partn ?_) | (with_reducible refine s_vei ?_) | (with_reducible refine s_ost ?_) | (with_reducible refine s_rz ?_) | (with_reducible refine s_xm ?_) | (with_reducible refine s_rng1 ?_) | (with_reducible refine s_rng2 ?_) | (with_reducible refine s_iList ?_) | (with_reducible refine s_iTup ?_) | (with_reducible refine s_iSeq ?_) | (with_reducible refine s_iEnum ?_))
local macro_rules | `(tactic| walk_at "go") => `(tactic| repeat walk_at "st")
local macro_rules | `(tactic| walk_at "hp") => `(tactic| first
  | assumption
  | exact upd_same
  | (refine (upd_ne ?n).trans ?_; (case n => first | assumption | (apply Ne.symm; assumption) | exact ne_of_none (by walk_at "hp") (by assumption) | exact (ne_of_none (by walk_at "hp") (by assumption)).symm); walk_at "hp"))
namespace K57
open PySem PySem.Spec PyProof.Rows L2 KN
/-! ### read_paper -/
def okLine (x : Str) : Prop := x.length ≤ 1000000 ∧ Txt.split x " " ≠ [] ∧ (∀ w ∈ Txt.split x " ", w.length ≤ 100000) ∧ (Txt.split x " ").length ≤ 90000
abbrev rdM (x : Str) : Option Move := readMove (Txt.split x " ")
def S_read_paper (K : PySem.W.Frag) (w : World) : Sp := fun vs H Q E => ∃ (a : Addr) (ls : List Str), vs = [.ref a] ∧ SqL K H a (ls.map V.str) ∧ ls.length ≤ 1000 ∧ (∀ x ∈ ls, okLine x) ∧
  ((∃ ms : List Move, ls.map rdM = ms.map some ∧ ∀ p vs H', Same H H' → H p = none → H' p = some (.lst vs) → DpAll K (news H p H') vs (ms.map moveD) → Q (.ref p) H') ∨
   (∃ (i : Nat) (x : Str), ls[i]? = some x ∧ rdM x = none ∧ (∀ (j : Nat) (y : Str), j < i → ls[j]? = some y → rdM y ≠ none) ∧ Thrown (He.ga K "InvalidLine") "line" (.int i) H E))
theorem len_read_paper {K : PySem.W.Frag} {w : World} (vs : List V) (H : Hp) (Q : VK) (E : XK) (h : S_read_paper K w vs H Q E) : vs.length = P_read_paper.length := by
  obtain ⟨_, _, rfl, _⟩ := h
  rfl
section
variable {K : PySem.W.Frag} {mg : Str → Option Value} {w : World} {vs : List V} {H : Hp} {Q : VK} {E : XK}
theorem pure_read_paper (h : S_read_paper K w vs H Q E) : t_read_paper K w E (S_read_move K w) (S_InvalidLine_init K w) { nx := fun _ H' => Q .non H', rt := Q } (start N_read_paper vs) H := by
  obtain ⟨a, ls, rfl, hs, hz, hok, k⟩ := h
  show t_read_paper K w E _ _ _ [some (.ref a), none, none, none, none] H
  unfold t_read_paper
  walk_at "go"
  refine ⟨by simp [sizeLine_eq], fun p hp => ?_⟩
  walk_at "go"
  have sp : Same H (upd H p (.lst [])) := same_new hp
  refine ⟨a, _, rfl, sp.seq hs, ?_⟩
  refine f_enum (xs := ls.map V.str) (fun i σ H' => ∃ (o1 o2 o3 : Option V) (xs : List V) (ms : List Move), σ = [some (.ref a), some (.ref p), o1, o2, o3] ∧ Same H H' ∧ H' p = some (.lst xs) ∧ DpAll K (news H p H') xs (ms.map moveD) ∧ (ls.take i).map rdM = ms.map some)
    ⟨none, none, none, [], [], rfl, sp, upd_same, .nil, rfl⟩ ?_ ?_ ?_
  · rintro i σ H' _ ⟨_, _, _, _, _, _, s, _⟩
    exact s.seq hs
  · rintro i y σ H' Tp hy ⟨o1, o2, o3, xs, ms, rfl, s, hp', hd, hm⟩ hT
    rw [List.getElem?_map] at hy
    obtain ⟨x, hx, rfl⟩ := Option.map_eq_some_iff.mp hy
    have hi : i < ls.length := by
      rw [List.getElem?_eq_some_iff] at hx
      exact hx.1
    refine s_tgt2 upd_same ?_
    have sT := s.new (o := .tup [.int (i : Nat), .str x]) hT
    have npT : p ≠ Tp := ne_of_none hp' hT
    have hpT : (upd H' Tp (.tup [.int (i : Nat), .str x])) p = some (.lst xs) := by rw [upd_ne npT]; exact hp'
    have hdT : DpAll K (news H p (upd H' Tp (.tup [.int (i : Nat), .str x]))) xs (ms.map moveD) := hd.mono (news_keep (S := []) (Go.ofSame s) (Go.ofSame (same_new hT)))
    generalize (upd H' Tp (.tup [.int (i : Nat), .str x])) = H2 at *
    walk_at "go"
    obtain ⟨ok1, ok2, ok3, ok4⟩ := hok x (List.mem_of_getElem? hx)
    refine ⟨x, rfl, ok1, ok2, ok3, ok4, fun H3 s3 => ?_⟩
    have s4 := sT.trans s3
    cases hr : readMove (Txt.split x " ") with
    | none =>
      dsimp only
      walk_at "go"
      refine iteT ?_
      walk_at "go"
      refine do_raise ⟨i, rfl, ?_⟩ ?_
      · show i.log2 < 60
        by_cases h0 : i = 0
        · rw [h0]; decide
        · exact (Nat.log2_lt h0).mpr (by omega)
      · rcases k with ⟨ms2, e, _⟩ | ⟨i2, x2, hi2, hn, hall, th⟩
        · exfalso
          have : (ls.map rdM)[i]? = some none := by rw [List.getElem?_map, hx]; exact congrArg some hr
          rw [e, List.getElem?_map] at this
          obtain ⟨m, _, hmm⟩ := Option.map_eq_some_iff.mp this
          cases hmm
        · have : i2 = i := by
            have h1 : ¬ i < i2 := fun hlt => hall i x hlt hx hr
            have h2 : ¬ i2 < i := fun hlt => by
              have e1 : ((ls.take i).map rdM)[i2]? = some none := by rw [List.getElem?_map, List.getElem?_take_of_lt hlt, hi2]; exact congrArg some hn
              rw [hm, List.getElem?_map] at e1
              obtain ⟨m, _, hmm⟩ := Option.map_eq_some_iff.mp e1
              cases hmm
            omega
          subst this
          exact Thrown.same th s4
    | some m =>
      dsimp only
      intro q hq hq3
      walk_at "go"
      refine iteF ?_
      walk_at "go"
      have hp3 : H3 p = some (.lst xs) := s3 _ _ hpT
      refine ⟨.inl ⟨rfl, _, SqL.of hp3⟩, ?_⟩
      walk_at "go"
      have hlen : xs.length = ms.length := by rw [hd.length, List.length_map]
      have hml : ms.length ≤ i := by
        have := congrArg List.length hm
        simp at this
        omega
      refine ⟨p, _, _, rfl, rfl, hp3, sz_lt (by omega), ?_⟩
      refine ⟨_, _, _, xs ++ [.ref q], ms ++ [m], rfl, s4.mut hp, upd_same, ?_, ?_⟩
      · rw [List.map_append]
        have hq0 : H q = none := sT.back hq
        have nqp : q ≠ p := fun e => by rw [e, hpT] at hq; cases hq
        refine ((hdT.mono (news_keep (S := []) (Go.ofSame sT) (Go.ofSame s3))).mono news_upd).append (.cons ?_ .nil)
        exact move_to (SqT.of (news_at hq0 nqp (by rw [upd_ne nqp]; exact hq3)))
      · rw [take_succ hx, List.map_append, List.map_append, hm]
        show _ ++ [rdM x] = _
        rw [show rdM x = some m from hr]
        rfl
  · rintro σ H' ⟨o1, o2, o3, xs, ms, rfl, s, hp', hd, hm⟩
    rw [List.length_map, List.take_length] at hm
    walk_at "go"
    rcases k with ⟨ms2, e, k⟩ | ⟨i2, x2, hi2, hn, hall, th⟩
    · have : ms2 = ms := by
        have e2 := hm.symm.trans e
        have inj : ∀ (l m : List Move), l.map some = m.map some → l = m := by
          intro l
          induction l with
          | nil => intro m h; cases m with
            | nil => rfl
            | cons a r => cases h
          | cons a r ih => intro m h; cases m with
            | nil => cases h
            | cons b t =>
              rw [List.map_cons, List.map_cons] at h
              have := List.cons.inj h
              rw [Option.some.inj this.1, ih t this.2]
        exact (inj _ _ e2).symm
      subst this
      exact k p xs H' s hp hp' hd
    · exfalso
      have : (ls.map rdM)[i2]? = some none := by rw [List.getElem?_map, hi2]; exact congrArg some hn
      rw [hm, List.getElem?_map] at this
      obtain ⟨m, _, hmm⟩ := Option.map_eq_some_iff.mp this
      cases hmm
end
/-! ### what the law draws -/
def S__law_word (K : PySem.W.Frag) (w : World) : Sp := fun vs H Q _ => ∃ (d : Addr) (s m : Int), vs = [.ref d, .int s, .int m] ∧ Deck H d ∧ 1 ≤ s ∧ s ≤ 8 ∧ 0 ≤ m ∧ m ≤ 100 ∧
  ∀ p (ns : List Int) H', Go [d] H H' → H p = none → H' p = some (.lst (ns.map V.int)) → ns.length ≤ 100 → (∀ z ∈ ns, badL s z = false) → Q (.ref p) H'
theorem len__law_word {K : PySem.W.Frag} {w : World} (vs : List V) (H : Hp) (Q : VK) (E : XK) (h : S__law_word K w vs H Q E) : vs.length = P__law_word.length := by
  obtain ⟨_, _, _, rfl, _⟩ := h
  rfl
section
variable {K : PySem.W.Frag} {mg : Str → Option Value} {w : World} {vs : List V} {H : Hp} {Q : VK} {E : XK}
theorem pure__law_word (h : S__law_word K w vs H Q E) : t__law_word K w (S__law_take K w) { nx := fun _ H' => Q .non H', rt := Q } (start N__law_word vs) H := by
  obtain ⟨d, s, m, rfl, hD, hs1, hs8, hm0, hm, k⟩ := h
  show t__law_word K w _ _ [some (.ref d), some (.int s), some (.int m), none, none] H
  unfold t__law_word
  walk_at "go"
  refine ⟨by simp [sizeLine_eq], fun p hp => ?_⟩
  walk_at "go"
  have g0 : Go [d] H (upd H p (.lst [])) := (Go.refl (deck1 hD)).new hp
  refine ⟨d, m + 1, rfl, Go.deck g0, by omega, fun t H1 g1 t0 t1 => ?_⟩
  walk_at "go"
  have g2 := g0.trans g1
  have hp1 : H1 p = some (.lst []) := g1.at upd_same (g0.out hp)
  have tb : ∃ n : Nat, t * (if decide (1 < s) = true then 1 else 0) = n ∧ n ≤ 100 ∧ (n ≠ 0 → 1 < s) := by
    by_cases h : 1 < s
    · rw [if_pos (decide_eq_true h), Int.mul_one]
      exact ⟨t.toNat, by omega, by omega, fun _ => h⟩
    · rw [if_neg (by rw [decide_eq_false h]; simp), Int.mul_zero]
      exact ⟨0, rfl, by omega, fun z => absurd rfl z⟩
  obtain ⟨n, en, hn, hns⟩ := tb
  rw [en]
  refine ⟨n, rfl, by omega, by omega, ?_⟩
  rw [Int.toNat_natCast]
  refine f_range (lo := 0) (n := n) (fun i σ H' => ∃ (o : Option V) (ns : List Int), σ = [some (.ref d), some (.int s), some (.int m), some (.ref p), o] ∧ Go [d] H H' ∧ H' p = some (.lst (ns.map V.int)) ∧ ns.length = i ∧ ∀ z ∈ ns, badL s z = false)
    ⟨none, [], rfl, g2, hp1, rfl, by simp⟩ ?_ ?_
  · rintro i σ H' hi ⟨o, ns, rfl, g, hp', hl, hb⟩
    have h1s : 1 < s := hns (by omega)
    walk_at "go"
    refine ⟨.inl ⟨rfl, _, SqL.of hp'⟩, ?_⟩
    walk_at "go"
    refine ⟨d, s - 1, rfl, Go.deck g, by omega, fun u H2 g3 u0 u1 => ?_⟩
    walk_at "go"
    refine ⟨by simp [sizeLine_eq], fun q hq => ?_⟩
    walk_at "go"
    have hp2 := g3.at hp' (g.out hp)
    have g4 : Go [d] H (upd H2 q (.lst [.int 1, .int (-1)])) := (g.trans g3).new hq
    refine ⟨d, 2, rfl, Go.deck g4, by omega, fun b H3 g5 b0 b1 => ?_⟩
    have hq3 : H3 q = some (.lst [.int 1, .int (-1)]) := g5.at upd_same ((g.trans g3).out1 hq)
    have npq : p ≠ q := ne_of_none hp2 hq
    have hp3 : H3 p = some (.lst (ns.map V.int)) := g5.at (by rw [upd_ne npq]; exact hp2) (g.out hp)
    have g6 := g4.trans g5
    have fin : ∀ z : Int, badL s z = false → rAppend (.ref p) [.int z] H3 fun _ H1 => ∃ (o : Option V) (ns : List Int), [some (.ref d), some (.int s), some (.int m), some (.ref p), some (.int (0 + (i : Int)))] = [some (.ref d), some (.int s), some (.int m), some (.ref p), o] ∧ Go [d] H H1 ∧ H1 p = some (.lst (ns.map V.int)) ∧ ns.length = i + 1 ∧ ∀ z ∈ ns, badL s z = false := by
      intro z hz
      refine ⟨p, _, _, rfl, rfl, hp3, sz_lt (by rw [List.length_map]; omega), _, ns ++ [z], rfl, g6.mut hp, by rw [upd_same, List.map_append]; rfl, by simp [hl], ?_⟩
      intro y my
      rcases List.mem_append.mp my with my | my
      · exact hb y my
      · rw [List.mem_singleton.mp my]; exact hz
    refine pick2 b0 b1 (SqL.of hq3) (fun _ => ?_) (fun _ => ?_)
    · walk_at "go"
      refine fin _ ?_
      unfold badL
      rw [decide_eq_false (by omega), decide_eq_false (by split <;> omega)]
      rfl
    · walk_at "go"
      refine fin _ ?_
      unfold badL
      rw [decide_eq_false (by omega), decide_eq_false (by split <;> omega)]
      rfl
  · rintro σ H' ⟨o, ns, rfl, g, hp', hl, hb⟩
    walk_at "go"
    exact k p ns H' g hp hp' (by omega) hb
/-! ### _law_written -/
end
inductive Itm | non | int (z : Int) | str (x : Str)
def Itm.v : Itm → V
  | .non => .non
  | .int z => .int z
  | .str x => .str x
def Itm.t : Itm → Str
  | .non => "none"
  | .int z => dec z
  | .str x => x
def Itm.ok : Itm → Prop
  | .non => True
  | .int z => small z
  | .str x => okW x
def S__law_written (K : PySem.W.Frag) (w : World) : Sp := fun vs H Q _ => ∃ (a : Addr) (xs : List Itm), vs = [.ref a] ∧ SqL K H a (xs.map Itm.v) ∧ xs.length ≤ 5000 ∧ (∀ x ∈ xs, x.ok) ∧ ∀ H', Same H H' → Q (.str (line (xs.map Itm.t))) H'
theorem len__law_written {K : PySem.W.Frag} {w : World} (vs : List V) (H : Hp) (Q : VK) (E : XK) (h : S__law_written K w vs H Q E) : vs.length = P__law_written.length := by
  obtain ⟨_, _, rfl, _⟩ := h
  rfl
theorem Itm.okW {x : Itm} (h : x.ok) : okW x.t := by
  cases x with
  | non => exact okW_by (by decide +kernel)
  | int z => exact okW_dec h
  | str y => exact h
section
variable {K : PySem.W.Frag} {mg : Str → Option Value} {w : World} {vs : List V} {H : Hp} {Q : VK} {E : XK}
theorem pure__law_written (h : S__law_written K w vs H Q E) : t__law_written K w { nx := fun _ H' => Q .non H', rt := Q } (start N__law_written vs) H := by
  obtain ⟨a, xs, rfl, hs, hz, hok, k⟩ := h
  show t__law_written K w _ [some (.ref a), none] H
  unfold t__law_written
  walk_at "go"
  refine ⟨a, rfl, ⟨_, hs⟩, ?_⟩
  refine lc_mapL (fun v => match v with | .int z => .str (dec z) | .str x => .str x | _ => .str "none") hs (by rw [List.length_map]; omega) ?_ ?_
  · intro v mv H' N s' kN
    obtain ⟨x, mx, rfl⟩ := List.mem_map.mp mv
    have okx := hok x mx
    with_reducible refine s_name ?_
    refine ⟨rfl, ?_⟩
    walk_at "go"
    cases x with
    | non =>
      refine iteF ?_
      walk_at "go"
      exact kN _ (Same.refl _)
    | int z =>
      refine iteT ?_
      walk_at "go"
      exact .inl ⟨z, rfl, log2_small okx, kN _ (Same.refl _)⟩
    | str y =>
      refine iteT ?_
      walk_at "go"
      exact .inr ⟨y, rfl, kN _ (Same.refl _)⟩
  · intro D H' s' hD0 hD
    have e : (xs.map Itm.v).map (fun v => match v with | .int z => .str (dec z) | .str x => .str x | _ => .str "none") = (xs.map Itm.t).map V.str := by
      rw [List.map_map, List.map_map]
      refine List.map_congr_left fun x _ => ?_
      cases x <;> rfl
    rw [e] at hD
    exact ⟨" ", D, xs.map Itm.t, rfl, rfl, .inl (SqL.of hD), join_sz (fun w m => by
      obtain ⟨x, mx, rfl⟩ := List.mem_map.mp m
      exact Itm.okW (hok x mx)) (by rw [List.length_map]; omega), k H' s'⟩
end
end K57
end
/-! part S57e -/
section
set_option Elab.async false
set_option linter.all false
set_option maxRecDepth 100000
set_option maxHeartbeats 4000000
open PySem PySem.Spec PyProof.Rows L2 KN
local macro_rules | `(tactic| walk_at "st") => `(tactic| first
  | (with_reducible refine s_seq ?_) | (with_reducible refine s_asg ?_) | (with_reducible refine s_name ?_) | (with_reducible refine s_drop ?_) | (with_reducible refine s_ret ?_) | (with_reducible refine s_retN ?_)
  | (with_reducible refine s_next ?_) | (with_reducible refine s_brk ?_) | (with_reducible refine s_ct ?_) | (with_reducible refine s_if ?_) | ((with_reducible refine' s_var ?h ?_); (case h => rfl)) | (with_reducible refine s_c ?_)
  | (with_reducible refine s_op ?_) | (with_reducible refine s_rI0 ?_) | ((with_reducible refine s_rI ?h ?_); (case h => first | assumption | decide | (show (0 : Int) < _; omega) | exact ⟨by decide, by decide, by decide⟩ | exact cmul_small (by omega) (by omega) (by omega) (by omega) | exact cdiv_small (by omega) (by omega))) | (with_reducible refine s_un ?_) | (with_reducible refine s_rU ?_)
  | (with_reducible refine s_addIB ?_) | ((with_reducible refine' s_eq ?h ?_); (case h => first | rfl | decide)) | ((with_reducible refine' s_ne ?h ?_); (case h => first | rfl | decide)) | (with_reducible refine s_isN ?_) | (with_reducible refine s_notN ?_) | (with_reducible refine s_test ?_) | (with_reducible refine s_tB ?_)
  | (with_reducible refine s_bl ?_) | (with_reducible refine s_not ?_) | (with_reducible refine s_and ?_) | (with_reducible refine s_or ?_) | (with_reducible refine s_andV ?_) | (with_reducible refine s_orV ?_) | (with_reducible refine s_notV ?_)
  | (with_reducible refine s_ifE ?_) | (with_reducible refine s_cb ?_) | (with_reducible refine s_cons ?_) | (with_reducible refine s_nil ?_) | (with_reducible refine s_cl ?_) | (with_reducible refine s_clS ?_) | (with_reducible refine s_mk ?_) | (with_reducible refine s_mt ?_)
  | (with_reducible refine s_lst ?_) | (with_reducible refine s_tup ?_) | (with_reducible refine s_sl ?_) | (with_reducible refine s_noP ?_) | (with_reducible refine s_part ?_) | (with_reducible refine s_intE ?_) | (with_reducible refine s_bm ?_) | (with_reducible refine s_bm0 ?_)
  | (with_reducible refine s_m0 ?_) | (with_reducible refine s_m1 ?_) | (with_reducible refine s_strE ?_) | (with_reducible refine s_starts ?_) | (with_reducible refine s_isascii ?_) | (with_reducible refine s_isdigit ?_) | (with_reducible refine s_fld ?_)
  | (with_reducible refine s_abs ?_) | (with_reducible refine s_int1 ?_) | (with_reducible refine s_int1b ?_) | (with_reducible refine s_min2 ?_) | (with_reducible refine s_max2 ?_) | (with_reducible refine s_chain ?_) | (with_reducible refine s_blP ?_) | (with_reducible refine s_blV ?_) | (with_reducible refine s_blN ?_) | (with_reducible refine s_blG ?_) | (with_reducible refine s_intG ?_)
  | ((with_reducible refine' s_aug ?h ?_); (case h => rfl)) | (with_reducible refine s_par ?_) | (with_reducible refine s_two ?_) | (with_reducible refine s_frz ?_) | (with_reducible refine s_dnew ?_) | (with_reducible refine s_for ?_) | (with_reducible refine s_lc ?_) | (with_reducible refine s_joinS ?_) | (with_reducible refine s_gsub ?_) | (with_reducible refine s_kin ?_) | (with_reducible refine s_knotin ?_) | (with_reducible refine s_kget ?_) | (with_reducible refine s_setf ?_) | (with_reducible refine s_split ?_) | (with_reducible refine s_partn ?_) | (with_reducible refine s_vei ?_) | (with_reducible refine s_ost ?_) | (with_reducible refine s_rz ?_) | (with_reducible refine s_xm ?_) | (with_reducible refine s_rng1 ?_) | (with_reducible refine s_rng2 ?_) | (with_reducible refine s_iList ?_) | (with_reducible refine s_iTup ?_) | (with_reducible refine s_iSeq ?_) | (with_reducible refine s_iEnum ?_))
local macro_rules | `(tactic| walk_at "go") => `(tactic| repeat walk_at "st")
local macro_rules | `(tactic| walk_at "hp") => `(tactic| first
  | assumption
  | exact upd_same
  | (refine (upd_ne ?n).trans ?_; (case n => first | assumption | (apply Ne.symm; assumption) | exact ne_of_none (by walk_at "hp") (by assumption) | exact (ne_of_none (by walk_at "hp") (by assumption)).symm); walk_at "hp"))
namespace K57
open PySem PySem.Spec PyProof.Rows L2 KN
def S__law_integer (K : PySem.W.Frag) (w : World) : Sp := fun vs H Q _ => ∃ (d : Addr), vs = [.ref d] ∧ Deck H d ∧ ∀ z H', Go [d] H H' → small z → Q (.int z) H'
theorem len__law_integer {K : PySem.W.Frag} {w : World} (vs : List V) (H : Hp) (Q : VK) (E : XK) (h : S__law_integer K w vs H Q E) : vs.length = P__law_integer.length := by
  obtain ⟨_, rfl, _⟩ := h
  rfl
/-- a move of the law -/
def goodM (m : Move) : Prop := arity m.1 = some m.2.length ∧ (∀ o ∈ m.2, okO o) ∧ ∀ j : Nat, m.2[j]? = some none → j = 0 ∧ m.1 = "curl"
def S__law_move (K : PySem.W.Frag) (w : World) : Sp := fun vs H Q _ => ∃ (d : Addr), vs = [.ref d] ∧ Deck H d ∧ ∀ p m H', Go [d] H H' → H p = none → H' p = some (.tup (moveV m)) → goodM m → Q (.ref p) H'
theorem len__law_move {K : PySem.W.Frag} {w : World} (vs : List V) (H : Hp) (Q : VK) (E : XK) (h : S__law_move K w vs H Q E) : vs.length = P__law_move.length := by
  obtain ⟨_, rfl, _⟩ := h
  rfl
section
variable {K : PySem.W.Frag} {mg : Str → Option Value} {w : World} {vs : List V} {H : Hp} {Q : VK} {E : XK}
/-- u * [1, -1][take 2] -/
theorem sign_tail {d : Addr} {H1 : Hp} {u : Int} {o : Option V} (hu : small u) (hD : Deck H1 d) (k : ∀ z H', Go [d] H1 H' → small z → Q (.int z) H') :
    tOp (rIxL K) (tLst (tCons (tC (.int 1)) (tCons (tUn rNegI (tC (.int 1))) tNil))) (tCl (S__law_take K w) E0 (tCons (tVar 0) (tCons (tC (.int 2)) tNil))) [some (.ref d), o] H1 fun y H2 => rMulI (.int u) y H2 Q := by
  walk_at "go"
  refine ⟨by simp [sizeLine_eq], fun q hq => ?_⟩
  walk_at "go"
  have g1 : Go [d] H1 (upd H1 q (.lst [.int 1, .int (-1)])) := (Go.refl (deck1 hD)).new hq
  refine ⟨d, 2, rfl, g1.deck, by omega, fun t H2 g2 t0 t1 => ?_⟩
  have hq2 : H2 q = some (.lst [.int 1, .int (-1)]) := g2.at upd_same ((Go.refl (deck1 hD)).out1 hq)
  unfold small at hu
  refine pick2 t0 t1 (SqL.of hq2) (fun _ => ?_) (fun _ => ?_)
  · walk_at "go"
    exact k _ _ (g1.trans g2) (by unfold small; rw [Int.mul_one]; exact hu)
  · walk_at "go"
    exact k _ _ (g1.trans g2) (by unfold small; omega)
theorem pure__law_integer (h : S__law_integer K w vs H Q E) : t__law_integer K w (S__law_take K w) { nx := fun _ H' => Q .non H', rt := Q } (start N__law_integer vs) H := by
  obtain ⟨d, rfl, hD, k⟩ := h
  show t__law_integer K w _ _ [some (.ref d), none] H
  unfold t__law_integer
  walk_at "go"
  refine ⟨d, 5, rfl, hD, by omega, fun t H1 g1 t0 t1 => ?_⟩
  walk_at "go"
  refine ite_dec (fun h3 => ?_) (fun h3 => ?_)
  · walk_at "go"
    refine ⟨d, 21, rfl, g1.deck, by omega, fun u H2 g2 u0 u1 => ?_⟩
    walk_at "go"
    exact k _ _ (g1.trans g2) (by unfold small; omega)
  · walk_at "go"
    refine ite_dec (fun h3' => ?_) (fun h3' => ?_)
    · walk_at "go"
      refine ⟨d, 1000003, rfl, g1.deck, by omega, fun u H2 g2 u0 u1 => ?_⟩
      exact sign_tail (w := w) (by unfold small; omega) g2.deck fun z H' g hz => k z H' ((g1.trans g2).trans g) hz
    · walk_at "go"
      refine ⟨d, 9, rfl, g1.deck, by omega, fun u H2 g2 u0 u1 => ?_⟩
      have e : (10 : Int) ^ (40 : Int).toNat = 10000000000000000000000000000000000000000 := by decide
      rw [e]
      with_reducible refine s_rI0 ?_
      exact sign_tail (w := w) (by unfold small; omega) g2.deck fun z H' g hz => k z H' ((g1.trans g2).trans g) hz
theorem law_move_tail {d it : Addr} {x : Str} {n : Nat} {H1 : Hp} {o4 : Option V} {zs : List Int} (hx : arity x = some n) (hn : 1 ≤ n ∧ n ≤ 4) (hz : zs.length = n) (hsm : ∀ z ∈ zs, small z) (g : Go [d] H H1) (h0 : H it = none) (hi : H1 it = some (.lst (zs.map V.int)))
    (k : ∀ p m H', Go [d] H H' → H p = none → H' p = some (.tup (moveV m)) → goodM m → Q (.ref p) H') :
    (tSeq (tIfS (tAnd (tTest (tOp rEq (tVar 1) (tC (.str "curl")))) (tTest (tOp rEq (tCl (S__law_take K w) E0 (tCons (tVar 0) (tCons (tC (.int 3)) tNil))) (tC (.int 0)))))
  (tAsg (tC .non) (gSub (tVar 3) (tC (.int 0)) rSetL))
  tNext)
  (tRet (tOp (rCatT K) (tTup (tCons (tVar 1) tNil)) (tCB (rTupOf K) (tCons (tVar 3) tNil))))) { nx := fun _ H' => Q .non H', rt := Q } [some (.ref d), some (.str x), some (.int n), some (.ref it), o4] H1 := by
  have fin : ∀ (os : List (Option Int)) (H2 : Hp), Go [d] H H2 → H2 it = some (.lst (os.map optI)) → goodM (x, os) → (tRet (tOp (rCatT K) (tTup (tCons (tVar 1) tNil)) (tCB (rTupOf K) (tCons (tVar 3) tNil)))) { nx := fun _ H' => Q .non H', rt := Q } [some (.ref d), some (.str x), some (.int n), some (.ref it), o4] H2 := by
    intro os H2 g2 hi2 hg
    have hl : os.length = n := by
      have := hg.1
      rw [hx] at this
      exact (Option.some.inj this).symm
    walk_at "go"
    refine ⟨by simp [sizeLine_eq], fun r hr => ?_⟩
    walk_at "go"
    have ni : it ≠ r := ne_of_none hi2 hr
    refine ⟨it, _, rfl, .inl ⟨SqL.of (by rw [upd_ne ni]; exact hi2), fun y hy => ?_⟩⟩
    have nry : r ≠ y := ne_of_none upd_same hy
    refine ⟨r, y, [.str x], os.map optI, rfl, rfl, SqT.of ?_, SqT.of upd_same, by simp, ?_, ?_, ?_⟩
    · rw [upd_ne nry]; exact upd_same
    · rw [List.length_map, hl, List.length_singleton]; exact sz_of (by omega)
    · intro e
      have := congrArg List.length e
      rw [List.length_map, hl, List.length_nil] at this
      omega
    · intro _ z hz'
      have sf := (g2.new (o := .tup [.str x]) hr).new (o := .tup (os.map optI)) hy
      exact k z (x, os) _ (sf.new hz') (sf.back hz') upd_same hg
  have e0 : zs.map V.int = (zs.map some).map optI := by rw [List.map_map]; rfl
  have good0 : goodM (x, zs.map some) := by
    refine ⟨by rw [List.length_map, hz]; exact hx, ?_, ?_⟩
    · intro o mo
      obtain ⟨z, mz, rfl⟩ := List.mem_map.mp mo
      exact hsm z mz
    · intro j hj
      rw [List.getElem?_map] at hj
      obtain ⟨z, _, e⟩ := Option.map_eq_some_iff.mp hj
      cases e
  walk_at "go"
  refine ite_dec (fun hc => ?_) (fun hc => ?_)
  · walk_at "go"
    refine ⟨d, 3, rfl, g.deck, by omega, fun t H2 g2 t0 t1 => ?_⟩
    walk_at "go"
    have hi2 := g2.at hi (g.out h0)
    refine ite_dec (fun ht => ?_) (fun ht => ?_)
    · walk_at "go"
      refine ⟨it, _, 0, 0, rfl, rfl, hi2, ?_, ?_⟩
      · exact ix_nat (j := 0) rfl (by rw [List.length_map]; omega)
      · refine fin (none :: (zs.map some).drop 1) _ ((g.trans g2).mut h0) ?_ ?_
        · rw [upd_same]
          obtain ⟨z, r, rfl⟩ : ∃ z r, zs = z :: r := by
            cases zs with
            | nil => simp at hz; omega
            | cons z r => exact ⟨z, r, rfl⟩
          show some (HO.lst (V.non :: r.map V.int)) = some (.lst (V.non :: (r.map some).map optI))
          rw [List.map_map]
          rfl
        · refine ⟨?_, ?_, ?_⟩
          · rw [hx]
            show some n = some (((zs.map some).drop 1).length + 1)
            rw [List.length_drop, List.length_map]
            congr 1
            omega
          · intro o mo
            rcases List.mem_cons.mp mo with rfl | mo
            · trivial
            · exact good0.2.1 o (List.mem_of_mem_drop mo)
          · intro j hj
            cases j with
            | zero => exact ⟨rfl, V.str.inj hc⟩
            | succ j =>
              exfalso
              have hj2 : ((zs.map some).drop 1)[j]? = some none := hj
              rw [List.getElem?_drop, List.getElem?_map] at hj2
              obtain ⟨z, _, e⟩ := Option.map_eq_some_iff.mp hj2
              cases e
    · walk_at "st"
      exact fin _ _ (g.trans g2) (by rw [hi2, e0]) good0
  · refine iteF ?_
    walk_at "st"
    exact fin _ _ g (by rw [hi, e0]) good0
theorem law_move_items {d : Addr} {x : Str} {n : Nat} {H1 : Hp} {o3 o4 : Option V} (hx : arity x = some n) (hn : 1 ≤ n ∧ n ≤ 4) (g : Go [d] H H1)
    (k : ∀ p m H', Go [d] H H' → H p = none → H' p = some (.tup (moveV m)) → goodM m → Q (.ref p) H') :
    (tSeq (tAsg (tLc (iRng1 (tCons (tVar 2) tNil)) (gName 4) tYes (tCl (S__law_integer K w) E0 (tCons (tVar 0) tNil)) [4]) (gName 3))
  (tSeq (tIfS (tAnd (tTest (tOp rEq (tVar 1) (tC (.str "curl")))) (tTest (tOp rEq (tCl (S__law_take K w) E0 (tCons (tVar 0) (tCons (tC (.int 3)) tNil))) (tC (.int 0)))))
  (tAsg (tC .non) (gSub (tVar 3) (tC (.int 0)) rSetL))
  tNext)
  (tRet (tOp (rCatT K) (tTup (tCons (tVar 1) tNil)) (tCB (rTupOf K) (tCons (tVar 3) tNil)))))) { nx := fun _ H' => Q .non H', rt := Q } [some (.ref d), some (.str x), some (.int n), o3, o4] H1 := by
  walk_at "go"
  refine ⟨n, rfl, by omega, by omega, ?_⟩
  rw [Int.toNat_natCast]
  refine lc_goR (S := [d]) (lo := 0) (n := n) (deck1 g.deck) (by omega) (fun i ys F => ∃ zs : List Int, ys = zs.map V.int ∧ ∀ z ∈ zs, small z) (fun i ys F F' _ h => h) (fun _ _ => ⟨[], rfl, by simp⟩) ?_ ?_
  · rintro i ys D H' N hi hy gg hD hD0 ⟨zs, rfl, hs⟩ kN
    with_reducible refine s_name ?_
    refine ⟨rfl, ?_⟩
    walk_at "go"
    refine ⟨d, rfl, gg.deck, fun z H4 g4 hz => kN _ _ g4 ⟨zs ++ [z], by rw [List.map_append]; rfl, ?_⟩⟩
    intro y my
    rcases List.mem_append.mp my with my | my
    · exact hs y my
    · rw [List.mem_singleton.mp my]; exact hz
  · rintro ys D H' gg hD0 hD hy ⟨zs, rfl, hs⟩
    with_reducible refine s_name ?_
    exact law_move_tail (w := w) hx hn (by rw [List.length_map] at hy; exact hy) hs (g.trans gg) (g.back hD0) hD k
theorem pure__law_move (h : S__law_move K w vs H Q E) : t__law_move K w (S__law_take K w) (S__law_integer K w) { nx := fun _ H' => Q .non H', rt := Q } (start N__law_move vs) H := by
  obtain ⟨d, rfl, hD, k⟩ := h
  show t__law_move K w _ _ _ [some (.ref d), none, none, none, none] H
  unfold t__law_move
  walk_at "go"
  refine ⟨by simp [sizeLine_eq], fun p1 h1 => ?_⟩
  walk_at "go"
  refine ⟨by simp [sizeLine_eq], fun p2 h2 => ?_⟩
  walk_at "go"
  refine ⟨by simp [sizeLine_eq], fun p3 h3 => ?_⟩
  walk_at "go"
  refine ⟨by simp [sizeLine_eq], fun p4 h4 => ?_⟩
  walk_at "go"
  refine ⟨by simp [sizeLine_eq], fun p5 h5 => ?_⟩
  walk_at "go"
  refine ⟨by simp [sizeLine_eq], fun l hl => ?_⟩
  walk_at "go"
  have g0 : Go [d] H H := Go.refl (deck1 hD)
  have g1 := g0.new (o := .tup [.str "curl", .int 3]) h1
  have g2 := g1.new (o := .tup [.str "uncurl", .int 1]) h2
  have g3 := g2.new (o := .tup [.str "lay", .int 4]) h3
  have g4 := g3.new (o := .tup [.str "draw", .int 2]) h4
  have g5 := g4.new (o := .tup [.str "turn", .int 3]) h5
  have g6 := g5.new (o := .lst [.ref p1, .ref p2, .ref p3, .ref p4, .ref p5]) hl
  have n1 := g0.out1 h1
  have n2 := g1.out1 h2
  have n3 := g2.out1 h3
  have n4 := g3.out1 h4
  have n5 := g4.out1 h5
  have n6 := g5.out1 hl
  refine ⟨d, 5, rfl, g6.deck, by omega, fun t H7 g7 t0 t1 => ?_⟩
  have r1 := g7.at (((((((Same.refl _).new (o := .tup [.str "uncurl", .int 1]) h2).new (o := .tup [.str "lay", .int 4]) h3).new (o := .tup [.str "draw", .int 2]) h4).new (o := .tup [.str "turn", .int 3]) h5).new (o := .lst [.ref p1, .ref p2, .ref p3, .ref p4, .ref p5]) hl) p1 _ upd_same) n1
  have r2 := g7.at ((((((Same.refl _).new (o := .tup [.str "lay", .int 4]) h3).new (o := .tup [.str "draw", .int 2]) h4).new (o := .tup [.str "turn", .int 3]) h5).new (o := .lst [.ref p1, .ref p2, .ref p3, .ref p4, .ref p5]) hl) p2 _ upd_same) n2
  have r3 := g7.at (((((Same.refl _).new (o := .tup [.str "draw", .int 2]) h4).new (o := .tup [.str "turn", .int 3]) h5).new (o := .lst [.ref p1, .ref p2, .ref p3, .ref p4, .ref p5]) hl) p3 _ upd_same) n3
  have r4 := g7.at ((((Same.refl _).new (o := .tup [.str "turn", .int 3]) h5).new (o := .lst [.ref p1, .ref p2, .ref p3, .ref p4, .ref p5]) hl) p4 _ upd_same) n4
  have r5 := g7.at (((Same.refl _).new (o := .lst [.ref p1, .ref p2, .ref p3, .ref p4, .ref p5]) hl) p5 _ upd_same) n5
  have r6 := g7.at upd_same n6
  have gg := g6.trans g7
  refine pickN t0 (by simpa using t1) (SqL.of r6) fun i v ei hv => ?_
  match i, hv with
  | 0, hv => cases hv; exact s_tgt2 r1 (law_move_items (x := "curl") (n := 3) (by decide +kernel) (by omega) gg k)
  | 1, hv => cases hv; exact s_tgt2 r2 (law_move_items (x := "uncurl") (n := 1) (by decide +kernel) (by omega) gg k)
  | 2, hv => cases hv; exact s_tgt2 r3 (law_move_items (x := "lay") (n := 4) (by decide +kernel) (by omega) gg k)
  | 3, hv => cases hv; exact s_tgt2 r4 (law_move_items (x := "draw") (n := 2) (by decide +kernel) (by omega) gg k)
  | 4, hv => cases hv; exact s_tgt2 r5 (law_move_items (x := "turn") (n := 3) (by decide +kernel) (by omega) gg k)
  | i + 5, hv => cases hv
end
end K57
end
/-! part S57f -/
section
set_option Elab.async false
set_option linter.all false
set_option maxRecDepth 100000
set_option maxHeartbeats 4000000
open PySem PySem.Spec PyProof.Rows L2 KN
local macro_rules | `(tactic| walk_at "st") => `(tactic| first
  | (with_reducible refine s_seq ?_) | (with_reducible refine s_asg ?_) | (with_reducible refine s_name ?_) | (with_reducible refine s_drop ?_) | (with_reducible refine s_ret ?_) | (with_reducible refine s_retN ?_)
  | (with_reducible refine s_next ?_) | (with_reducible refine s_brk ?_) | (with_reducible refine s_ct ?_) | (with_reducible refine s_if ?_) | ((with_reducible refine' s_var ?h ?_); (case h => rfl)) | (with_reducible refine s_c ?_)
  | (with_reducible refine s_op ?_) | (with_reducible refine s_rI0 ?_) | ((with_reducible refine s_rI ?h ?_); (case h => first | assumption | decide | (show (0 : Int) < _; omega) | exact ⟨by decide, by decide, by decide⟩ | exact cmul_small (by omega) (by omega) (by omega) (by omega) | exact cdiv_small (by omega) (by omega))) | (with_reducible refine s_un ?_) | (with_reducible refine s_rU ?_)
  | (with_reducible refine s_addIB ?_) | ((with_reducible refine' s_eq ?h ?_); (case h => first | rfl | decide)) | ((with_reducible refine' s_ne ?h ?_); (case h => first | rfl | decide)) | (with_reducible refine s_isN ?_) | (with_reducible refine s_notN ?_) | (with_reducible refine s_test ?_) | (with_reducible refine s_tB ?_)
  | (with_reducible refine s_bl ?_) | (with_reducible refine s_not ?_) | (with_reducible refine s_and ?_) | (with_reducible refine s_or ?_) | (with_reducible refine s_andV ?_) | (with_reducible refine s_orV ?_) | (with_reducible refine s_notV ?_)
  | (with_reducible refine s_ifE ?_) | (with_reducible refine s_cb ?_) | (with_reducible refine s_cons ?_) | (with_reducible refine s_nil ?_) | (with_reducible refine s_cl ?_) | (with_reducible refine s_clS ?_) | (with_reducible refine s_mk ?_) | (with_reducible refine s_mt ?_)
  | (with_reducible refine s_lst ?_) | (with_reducible refine s_tup ?_) | (with_reducible refine s_sl ?_) | (with_reducible refine s_noP ?_) | (with_reducible refine s_part ?_) | (with_reducible refine s_intE ?_) | (with_reducible refine s_bm ?_) | (with_reducible refine s_bm0 ?_)
  | (with_reducible refine s_m0 ?_) | (with_reducible refine s_m1 ?_) | (with_reducible refine s_strE ?_) | (with_reducible refine s_starts ?_) | (with_reducible refine s_isascii ?_) | (with_reducible refine s_isdigit ?_) | (with_reducible refine s_fld ?_)
  | (with_reducible refine s_abs ?_) | (with_reducible refine s_int1 ?_) | (with_reducible refine s_int1b ?_) | (with_reducible refine s_min2 ?_) | (with_reducible refine s_max2 ?_) | (with_reducible refine s_chain ?_) | (with_reducible refine s_blP ?_) | (with_reducible refine s_blV ?_) | (with_reducible refine s_blN ?_) | (with_reducible refine s_blG ?_) | (with_reducible refine s_intG ?_)
  | ((with_reducible refine' s_aug ?h ?_); (case h => rfl)) | (with_reducible refine s_par ?_) | (with_reducible refine s_two ?_) | (with_reducible refine s_frz ?_) | (with_reducible refine s_dnew ?_) | (with_reducible refine s_for ?_) | (with_reducible refine s_lc ?_) | (with_reducible refine s_joinS ?_) | (with_reducible refine s_gsub ?_) | (with_reducible refine s_kin ?_) | (with_reducible refine s_knotin ?_) | (with_reducible refine s_kget ?_) | (with_reducible refine s_setf ?_) | (with_reducible refine s_split ?_) | (with_reducible refine s_partn ?_) | (with_reducible refine s_vei ?_) | (with_reducible refine s_ost ?_) | (with_reducible refine s_rz ?_) | (with_reducible refine s_xm ?_) | (with_reducible refine s_rng1 ?_) | (with_reducible refine s_rng2 ?_) | (with_reducible refine s_iList ?_) | (with_reducible refine s_iTup ?_) | (with_reducible refine s_iSeq ?_) | (with_reducible refine s_iEnum ?_))
local macro_rules | `(tactic| walk_at "go") => `(tactic| repeat walk_at "st")
local macro_rules | `(tactic| walk_at "hp") => `(tactic| first
  | assumption
  | exact upd_same
  | (refine (upd_ne ?n).trans ?_; (case n => first | assumption | (apply Ne.symm; assumption) | exact ne_of_none (by walk_at "hp") (by assumption) | exact (ne_of_none (by walk_at "hp") (by assumption)).symm); walk_at "hp"))
namespace K57
open PySem PySem.Spec PyProof.Rows L2 KN
/-! ### bent lines: texts -/
theorem line_one (w : Str) : line [w] = w := rfl
theorem line_glue {A B : List Str} {a b c : Str} : line (A ++ [a]) ++ c ++ line (b :: B) = line (A ++ (a ++ c ++ b) :: B) := by
  have e1 : line (A ++ [a]) = (if A = [] then Str.empty else line A ++ " ") ++ a := by
    by_cases h : A = []
    · subst h
      rw [if_pos rfl]
      apply TL.ext_tl
      rw [TL.tl_append]
      rfl
    · rw [if_neg h, ← line_append h (by simp)]
      rfl
  have e2 : line (b :: B) = b ++ (if B = [] then Str.empty else " " ++ line B) := by
    by_cases h : B = []
    · subst h
      rw [if_pos rfl]
      apply TL.ext_tl
      rw [TL.tl_append]
      show TL.tl b = TL.tl b ++ []
      simp
    · rw [if_neg h]
      have := line_append (us := [b]) (vs := B) (by simp) h
      rw [show b :: B = [b] ++ B from rfl, ← this]
      apply TL.ext_tl
      simp only [TL.tl_append, List.append_assoc]
      rfl
  have e3 : line (A ++ (a ++ c ++ b) :: B) = (if A = [] then Str.empty else line A ++ " ") ++ ((a ++ c ++ b) ++ (if B = [] then Str.empty else " " ++ line B)) := by
    have e4 : line ((a ++ c ++ b) :: B) = (a ++ c ++ b) ++ (if B = [] then Str.empty else " " ++ line B) := by
      by_cases h : B = []
      · subst h
        rw [if_pos rfl]
        apply TL.ext_tl
        rw [TL.tl_append]
        show TL.tl (a ++ c ++ b) = TL.tl (a ++ c ++ b) ++ []
        simp
      · rw [if_neg h]
        have := line_append (us := [a ++ c ++ b]) (vs := B) (by simp) h
        rw [show (a ++ c ++ b) :: B = [a ++ c ++ b] ++ B from rfl, ← this, line_one]
        apply TL.ext_tl
        simp only [TL.tl_append, List.append_assoc]
    by_cases h : A = []
    · subst h
      rw [if_pos rfl, List.nil_append, e4]
      apply TL.ext_tl
      simp only [TL.tl_append]
      rfl
    · rw [if_neg h, ← line_append h (by simp), e4]
  rw [e1, e2, e3]
  apply TL.ext_tl
  simp only [TL.tl_append, List.append_assoc]
def okV (w : Str) : Prop := w.length ≤ 45 ∧ ∀ c ∈ tl w, c ≠ 32 ∧ c < 256
def okVs (ws : List Str) : Prop := ∀ w ∈ ws, okV w
theorem okV.w {w : Str} (h : okV w) : okW w := ⟨by have := h.1; omega, h.2⟩
theorem okVs.w {ws : List Str} (h : okVs ws) : okWs ws := fun w m => (h w m).w
theorem len_app (x y : Str) : (x ++ y).length = x.length + y.length := by rw [TL.len_tl, TL.len_tl, TL.len_tl, TL.tl_append, List.length_append]
theorem okW_app3 {a c b : Str} (ha : okV a) (hb : okV b) (hc : c.length ≤ 5 ∧ ∀ x ∈ tl c, x ≠ 32 ∧ x < 256) : okW (a ++ c ++ b) := by
  refine ⟨by rw [len_app, len_app]; have := ha.1; have := hb.1; have := hc.1; omega, fun x m => ?_⟩
  have m2 : x ∈ TL.tl (a ++ c ++ b) := m
  rw [TL.tl_append, TL.tl_append] at m2
  rcases List.mem_append.mp m2 with m2 | m2
  · rcases List.mem_append.mp m2 with m2 | m2
    · exact ha.2 x m2
    · exact hc.2 x m2
  · exact hb.2 x m2
def headK (x : Str) : Prop := x = "braid" ∨ arity x ≠ none
theorem arity_cases {x : Str} {n : Nat} (h : arity x = some n) : (x = "curl" ∧ n = 3) ∨ (x = "uncurl" ∧ n = 1) ∨ (x = "lay" ∧ n = 4) ∨ (x = "draw" ∧ n = 2) ∨ (x = "turn" ∧ n = 3) := by
  unfold arity at h
  simp only [List.lookup_cons] at h
  repeat' split at h
  all_goals first | (cases h; done) | (rename_i e; simp only [Option.some.injEq] at h; simp only [beq_iff_eq] at e; subst h; simp [e])
theorem headK_cases {x : Str} (h : headK x) : x = "braid" ∨ x = "curl" ∨ x = "uncurl" ∨ x = "lay" ∨ x = "draw" ∨ x = "turn" := by
  rcases h with h | h
  · exact .inl h
  · cases e : arity x with
    | none => exact absurd e h
    | some n =>
      rcases arity_cases e with ⟨h, _⟩ | ⟨h, _⟩ | ⟨h, _⟩ | ⟨h, _⟩ | ⟨h, _⟩
      all_goals simp [h]
theorem headK_tab {x : Str} (h : 9 ∈ tl x) : ¬ headK x := fun hk => by
  rcases headK_cases hk with e | e | e | e | e | e <;> (rw [e] at h; revert h; decide +kernel)
theorem not_headK {x : Str} (h : (decide (x ≠ "braid") && (arity x).isNone) = true) : ¬ headK x := by
  rw [Bool.and_eq_true, decide_eq_true_iff] at h
  rintro (e | e)
  · exact h.1 e
  · exact e (Option.isNone_iff_eq_none.mp h.2)
/-- a line that no reader takes -/
def Spoilt (ws ws' : List Str) : Prop :=
  (∃ h t, ws' = h :: t ∧ ¬ headK h) ∨
  (∃ h t, ws' = h :: t ∧ ws.head? = some h ∧ t.length ≠ ws.length - 1 ∧ (t = [] ∨ ∃ w ∈ t, readL (tl w) = none)) ∨
  (∃ (h : Str) (t : List Str) (j : Nat) (w : Str), ws' = h :: t ∧ ws.head? = some h ∧ t.length = ws.length - 1 ∧ t[j]? = some w ∧ readL (tl w) = none ∧ (h = "curl" → j = 0 → w ≠ "none"))
theorem spoilt_braid {ws ws' : List Str} (hs : Spoilt ws ws') (hw : okWs ws') : readBraid (line ws') = .error .line := by
  have hne : ws' ≠ [] := by
    rcases hs with ⟨h, t, e, _⟩ | ⟨h, t, e, _⟩ | ⟨h, t, j, w, e, _⟩ <;> (rw [e]; simp)
  unfold readBraid
  rw [split_sp hne hw]
  rcases hs with ⟨h, t, e, hk⟩ | ⟨h, t, e, _, _, hb⟩ | ⟨h, t, j, w, e, _, _, hj, hb, _⟩
  · rw [e]
    dsimp only
    rw [if_pos (fun z => hk (.inl z))]
  · rw [e]
    dsimp only
    split
    · rfl
    · rcases hb with rfl | hb
      · rfl
      · rw [readAll_none hb]
  · rw [e]
    dsimp only
    split
    · rfl
    · rw [readAll_none ⟨w, List.mem_of_getElem? hj, hb⟩]
theorem spoilt_move {m : Move} {ws' : List Str} (hm : goodM m) (hs : Spoilt (moveW m) ws') : readMove ws' = none := by
  have hd : (moveW m).head? = some m.1 := rfl
  have hl : (moveW m).length - 1 = m.2.length := by unfold moveW; simp
  rcases hs with ⟨h, t, e, hk⟩ | ⟨h, t, e, eh, hn, _⟩ | ⟨h, t, j, w, e, eh, hn, hj, hb, hc⟩
  · rw [e]
    unfold readMove
    dsimp only
    rw [if_neg]
    intro z
    exact hk (.inr (by rw [z]; simp))
  · rw [e]
    unfold readMove
    dsimp only
    rw [if_neg]
    rw [hd] at eh
    rw [hl] at hn
    rw [← Option.some.inj eh, hm.1]
    intro z
    exact hn (Option.some.inj z).symm
  · rw [e]
    unfold readMove
    dsimp only
    rw [hd] at eh
    rw [hl] at hn
    rw [if_pos (by rw [← Option.some.inj eh, hm.1, hn]), if_pos]
    refine List.any_eq_true.mpr ⟨none, ?_, rfl⟩
    have hj' : (t.map fun w => readL (tl w))[j]? = some none := by rw [List.getElem?_map, hj]; exact congrArg some hb
    by_cases hf : freeB h t = true
    · rw [if_pos hf]
      unfold freeB at hf
      rw [Bool.and_eq_true, decide_eq_true_iff, decide_eq_true_iff] at hf
      cases j with
      | zero =>
        exfalso
        have e0 : t.head? = t[0]? := by cases t <;> rfl
        rw [e0, hj] at hf
        exact hc hf.1 rfl (Option.some.inj hf.2)
      | succ j =>
        have : ((t.map fun w => readL (tl w)).drop 1)[j]? = some none := by
          rw [List.getElem?_drop, Nat.add_comm]
          exact hj'
        exact List.mem_of_getElem? this
    · rw [if_neg hf]
      exact List.mem_of_getElem? hj'
def badWd (x : Str) : Prop := readL (tl x) = none ∧ x ≠ "none" ∧ okW x
def badWords : List Str := ["", "01", "-0", "+1", "1_0", "1.0", "x", "-", "None", "1" ++ Txt.mul "0" 40, "-" ++ Txt.mul "9" 41, "NONE"]
theorem badWords_ok : ∀ x ∈ badWords, badWd x := by
  have h : badWords.all (fun x => decide (readL (tl x) = none) && decide (x ≠ "none") && (decide (x.length ≤ 100) && (tl x).all fun c => decide (c ≠ 32 ∧ c < 256))) = true := by decide +kernel
  intro x m
  have := List.all_eq_true.mp h x m
  rw [Bool.and_eq_true, Bool.and_eq_true, decide_eq_true_iff, decide_eq_true_iff] at this
  exact ⟨this.1.1, this.1.2, okW_by this.2⟩
/-! ### the walks -/
def S__law_bad_number (K : PySem.W.Frag) (w : World) : Sp := fun vs H Q _ => ∃ (d : Addr), vs = [.ref d] ∧ Deck H d ∧ ∀ x H', Go [d] H H' → badWd x → Q (.str x) H'
theorem len__law_bad_number {K : PySem.W.Frag} {w : World} (vs : List V) (H : Hp) (Q : VK) (E : XK) (h : S__law_bad_number K w vs H Q E) : vs.length = P__law_bad_number.length := by
  obtain ⟨_, rfl, _⟩ := h
  rfl
section
variable {K : PySem.W.Frag} {mg : Str → Option Value} {w : World} {vs : List V} {H : Hp} {Q : VK} {E : XK}
theorem pure__law_bad_number (h : S__law_bad_number K w vs H Q E) : t__law_bad_number K w (S__law_take K w) { nx := fun _ H' => Q .non H', rt := Q } (start N__law_bad_number vs) H := by
  obtain ⟨d, rfl, hD, k⟩ := h
  show t__law_bad_number K w _ _ [some (.ref d), none] H
  unfold t__law_bad_number
  walk_at "go"
  refine ⟨"0", 40, rfl, rfl, by unfold MulOk; decide +kernel, ?_⟩
  refine ⟨"1", _, rfl, rfl, by decide +kernel, ?_⟩
  walk_at "go"
  refine ⟨"9", 41, rfl, rfl, by unfold MulOk; decide +kernel, ?_⟩
  refine ⟨"-", _, rfl, rfl, by decide +kernel, ?_⟩
  walk_at "go"
  refine ⟨by simp [sizeLine_eq], fun p hp => ?_⟩
  walk_at "go"
  have e : ([V.str "", .str "01", .str "-0", .str "+1", .str "1_0", .str "1.0", .str "x", .str "-", .str "None", .str ("1" ++ Txt.mul "0" 40), .str ("-" ++ Txt.mul "9" 41), .str "NONE"] : List V) = badWords.map V.str := rfl
  rw [e]
  have g1 := (Go.refl (deck1 hD)).new (o := .lst (badWords.map V.str)) hp
  refine ⟨p, _, rfl, .inl (SqL.of upd_same), ?_⟩
  refine ⟨d, _, rfl, g1.deck, by decide +kernel, fun t H2 g2 t0 t1 => ?_⟩
  have hp2 := g2.at upd_same ((Go.refl (deck1 hD)).out1 hp)
  refine pickN t0 t1 (SqL.of hp2) fun i v ei hv => ?_
  rw [List.getElem?_map] at hv
  obtain ⟨x, hx, rfl⟩ := Option.map_eq_some_iff.mp hv
  exact k x _ (g1.trans g2) (badWords_ok x (List.mem_of_getElem? hx))
end
end K57
end
/-! part S57g -/
section
set_option Elab.async false
set_option linter.all false
set_option maxRecDepth 100000
set_option maxHeartbeats 4000000
open PySem PySem.Spec PyProof.Rows L2 KN
local macro_rules | `(tactic| walk_at "st") => `(tactic| first
  | (with_reducible refine s_seq ?_) | (with_reducible refine s_asg ?_) | (with_reducible refine s_name ?_) | (with_reducible refine s_drop ?_) | (with_reducible refine s_ret ?_) | (with_reducible refine s_retN ?_)
  | (with_reducible refine s_next ?_) | (with_reducible refine s_brk ?_) | (with_reducible refine s_ct ?_) | (with_reducible refine s_if ?_) | ((with_reducible refine' s_var ?h ?_); (case h => rfl)) | (with_reducible refine s_c ?_)
  | (with_reducible refine s_op ?_) | (with_reducible refine s_rI0 ?_) | ((with_reducible refine s_rI ?h ?_); (case h => first | assumption | decide | (show (0 : Int) < _; omega) | exact ⟨by decide, by decide, by decide⟩ | exact cmul_small (by omega) (by omega) (by omega) (by omega) | exact cdiv_small (by omega) (by omega))) | (with_reducible refine s_un ?_) | (with_reducible refine s_rU ?_)
  | (with_reducible refine s_addIB ?_) | ((with_reducible refine' s_eq ?h ?_); (case h => first | rfl | decide)) | ((with_reducible refine' s_ne ?h ?_); (case h => first | rfl | decide)) | (with_reducible refine s_isN ?_) | (with_reducible refine s_notN ?_) | (with_reducible refine s_test ?_) | (with_reducible refine s_tB ?_)
  | (with_reducible refine s_bl ?_) | (with_reducible refine s_not ?_) | (with_reducible refine s_and ?_) | (with_reducible refine s_or ?_) | (with_reducible refine s_andV ?_) | (with_reducible refine s_orV ?_) | (with_reducible refine s_notV ?_)
  | (with_reducible refine s_ifE ?_) | (with_reducible refine s_cb ?_) | (with_reducible refine s_cons ?_) | (with_reducible refine s_nil ?_) | (with_reducible refine s_cl ?_) | (with_reducible refine s_clS ?_) | (with_reducible refine s_mk ?_) | (with_reducible refine s_mt ?_)
  | (with_reducible refine s_lst ?_) | (with_reducible refine s_tup ?_) | (with_reducible refine s_sl ?_) | (with_reducible refine s_noP ?_) | (with_reducible refine s_part ?_) | (with_reducible refine s_intE ?_) | (with_reducible refine s_bm ?_) | (with_reducible refine s_bm0 ?_)
  | (with_reducible refine s_m0 ?_) | (with_reducible refine s_m1 ?_) | (with_reducible refine s_strE ?_) | (with_reducible refine s_starts ?_) | (with_reducible refine s_isascii ?_) | (with_reducible refine s_isdigit ?_) | (with_reducible refine s_fld ?_)
  | (with_reducible refine s_abs ?_) | (with_reducible refine s_int1 ?_) | (with_reducible refine s_int1b ?_) | (with_reducible refine s_min2 ?_) | (with_reducible refine s_max2 ?_) | (with_reducible refine s_chain ?_) | (with_reducible refine s_blP ?_) | (with_reducible refine s_blV ?_) | (with_reducible refine s_blN ?_) | (with_reducible refine s_blG ?_) | (with_reducible refine s_intG ?_)
  | ((with_reducible refine' s_aug ?h ?_); (case h => rfl)) | (with_reducible refine s_par ?_) | (with_reducible refine s_two ?_) | (with_reducible refine s_frz ?_) | (with_reducible refine s_dnew ?_) | (with_reducible refine s_for ?_) | (with_reducible refine s_lc ?_) | (with_reducible refine s_joinS ?_) | (with_reducible refine s_gsub ?_) | (with_reducible refine s_kin ?_) | (with_reducible refine s_knotin ?_) | (with_reducible refine s_kget ?_) | (with_reducible refine s_setf ?_) | (with_reducible refine s_split ?_) | (with_reducible refine s_partn ?_) | (with_reducible refine s_vei ?_) | (with_reducible refine s_ost ?_) | (with_reducible refine s_rz ?_) | (with_reducible refine s_xm ?_) | (with_reducible refine s_rng1 ?_) | (with_reducible refine s_rng2 ?_) | (with_reducible refine s_iList ?_) | (with_reducible refine s_iTup ?_) | (with_reducible refine s_iSeq ?_) | (with_reducible refine s_iEnum ?_))
local macro_rules | `(tactic| walk_at "go") => `(tactic| repeat walk_at "st")
local macro_rules | `(tactic| walk_at "hp") => `(tactic| first
  | assumption
  | exact upd_same
  | (refine (upd_ne ?n).trans ?_; (case n => first | assumption | (apply Ne.symm; assumption) | exact ne_of_none (by walk_at "hp") (by assumption) | exact (ne_of_none (by walk_at "hp") (by assumption)).symm); walk_at "hp"))
namespace K57
open PySem PySem.Spec PyProof.Rows L2 KN
def S__law_bent (K : PySem.W.Frag) (w : World) : Sp := fun vs H Q _ => ∃ (d : Addr) (ws : List Str), vs = [.ref d, .str (line ws)] ∧ Deck H d ∧ okVs ws ∧ 2 ≤ ws.length ∧ ws.length ≤ 200 ∧
  ∀ ws' H', Go [d] H H' → Spoilt ws ws' → okWs ws' → ws' ≠ [] → ws'.length ≤ ws.length + 2 → Q (.str (line ws')) H'
theorem len__law_bent {K : PySem.W.Frag} {w : World} (vs : List V) (H : Hp) (Q : VK) (E : XK) (h : S__law_bent K w vs H Q E) : vs.length = P__law_bent.length := by
  obtain ⟨_, _, rfl, _⟩ := h
  rfl
theorem okWs_app {a b : List Str} (ha : okWs a) (hb : okWs b) : okWs (a ++ b) := fun w m => by
  rcases List.mem_append.mp m with m | m
  · exact ha w m
  · exact hb w m
theorem okWs_cons {a : Str} {b : List Str} (ha : okW a) (hb : okWs b) : okWs (a :: b) := fun w m => by
  rcases List.mem_cons.mp m with rfl | m
  · exact ha
  · exact hb w m
theorem okWs_take {a : List Str} {n : Nat} (ha : okWs a) : okWs (a.take n) := fun w m => ha w (List.mem_of_mem_take m)
theorem okWs_drop {a : List Str} {n : Nat} (ha : okWs a) : okWs (a.drop n) := fun w m => ha w (List.mem_of_mem_drop m)
theorem okWs_set {a : List Str} {n : Nat} {x : Str} (ha : okWs a) (hx : okW x) : okWs (a.set n x) := fun w m => by
  rcases List.mem_or_eq_of_mem_set m with m | rfl
  · exact ha w m
  · exact hx
theorem emp_app (x : Str) : ("" : Str) ++ x = x := TL.ext_tl (by rw [TL.tl_append]; rfl)
theorem app_emp (x : Str) : x ++ ("" : Str) = x := TL.ext_tl (by rw [TL.tl_append]; show TL.tl x ++ [] = _; simp)
theorem app_assoc (x y z : Str) : x ++ y ++ z = x ++ (y ++ z) := TL.ext_tl (by simp only [TL.tl_append, List.append_assoc])
/-! the ways -/
def Bends (ws : List Str) (y : Str) : Prop := ∃ ws', y = line ws' ∧ Spoilt ws ws' ∧ okWs ws' ∧ ws' ≠ [] ∧ ws'.length ≤ ws.length + 2
def okC (c : Str) : Prop := c.length ≤ 5 ∧ ∀ x ∈ tl c, x ≠ 32 ∧ x < 256
theorem tl_app (x y : Str) : tl (x ++ y) = tl x ++ tl y := TL.tl_append x y
theorem okW_app2 {a c : Str} (ha : okV a) (hc : okC c) : okW (a ++ c) := by
  have := okW_app3 (c := c) (b := "") ha (by unfold okV; decide +kernel) hc
  rw [app_emp] at this
  exact this
section
variable {ws : List Str} (h2 : 2 ≤ ws.length) (hw : okVs ws)
include h2 hw
theorem bent_last {c : Str} (hc : okC c) {b : Nat} (hb : b ∈ tl c) (hbad : b ≠ 45 ∧ (b < 48 ∨ 57 < b)) (hn : b ≠ 110 ∧ b ≠ 111 ∧ b ≠ 101) : Bends ws (line ws ++ c) := by
  obtain ⟨A, z, rfl⟩ : ∃ A z, ws = A ++ [z] := ⟨ws.dropLast, ws.getLast (by intro e; rw [e] at h2; simp at h2), (List.dropLast_concat_getLast _).symm⟩
  have hA : A ≠ [] := by intro e; rw [e] at h2; simp at h2
  refine ⟨A ++ [z ++ c], ?_, ?_, ?_, by simp, by simp⟩
  · rw [← line_append hA (by simp), ← line_append hA (by simp), line_one, line_one]
    simp only [app_assoc]
  · obtain ⟨h, t, rfl⟩ : ∃ h t, A = h :: t := by
      cases A with
      | nil => exact absurd rfl hA
      | cons h t => exact ⟨h, t, rfl⟩
    have mb : b ∈ tl (z ++ c) := by rw [tl_app]; exact List.mem_append_right _ hb
    refine .inr (.inr ⟨h, t ++ [z ++ c], t.length, z ++ c, rfl, rfl, by simp, by simp, readL_bad mb hbad.1 hbad.2, ?_⟩)
    intro _ _ e
    rw [e] at mb
    have m : b ∈ ([110, 111, 110, 101] : List Nat) := mb
    simp at m
    omega
  · exact okWs_app (fun w m => hw.w w (List.mem_append_left _ m)) (okWs_cons (okW_app2 (hw z (by simp)) hc) (fun w m => by cases m))
theorem bent_more {A : List Str} (hA : A ≠ []) (hz : A.length ≤ 2) (hA2 : okWs A) (hb : ∃ w ∈ A, readL (tl w) = none) : Bends ws (line ws ++ " " ++ line A) := by
  have hne : ws ≠ [] := by intro e; rw [e] at h2; simp at h2
  refine ⟨ws ++ A, line_append hne hA, ?_, okWs_app hw.w hA2, by simp [hne], by simp; omega⟩
  obtain ⟨h, t, rfl⟩ : ∃ h t, ws = h :: t := by
    cases ws with
    | nil => exact absurd rfl hne
    | cons h t => exact ⟨h, t, rfl⟩
  obtain ⟨w, m, e⟩ := hb
  refine .inr (.inl ⟨h, t ++ A, rfl, rfl, ?_, .inr ⟨w, List.mem_append_right _ m, e⟩⟩)
  have := List.length_pos_iff.mpr hA
  simp
  omega
theorem bent_front {x : Str} (hx : okW x) (hk : ¬ headK x) : Bends ws (x ++ " " ++ line ws) := by
  have hne : ws ≠ [] := by intro e; rw [e] at h2; simp at h2
  have := line_append (us := [x]) (vs := ws) (by simp) hne
  rw [line_one] at this
  exact ⟨x :: ws, this, .inl ⟨x, ws, rfl, hk⟩, okWs_cons hx hw.w, by simp, by simp⟩
theorem bent_tab : Bends ws ("\t" ++ line ws) := by
  obtain ⟨h, t, rfl⟩ : ∃ h t, ws = h :: t := by
    cases ws with
    | nil => simp at h2
    | cons h t => exact ⟨h, t, rfl⟩
  have e := line_glue (A := []) (a := "") (c := "\t") (b := h) (B := t)
  have e1 : line ([] ++ [("" : Str)]) = "" := rfl
  rw [e1, emp_app] at e
  refine ⟨_, e, .inl ⟨_, _, rfl, headK_tab ?_⟩, ?_, by simp, by simp⟩
  · rw [tl_app]
    exact List.mem_append_left _ (by decide +kernel)
  · rw [List.nil_append]
    have := okW_app3 (a := "") (b := h) (c := "\t") (by unfold okV; decide +kernel) (hw h (by simp)) (by decide +kernel)
    rw [emp_app] at this
    refine okWs_cons this fun w m => (hw w (List.mem_cons_of_mem _ m)).w
theorem bent_gap {n : Nat} (h1 : 1 ≤ n) (hn : n < ws.length) : Bends ws (line (ws.take n) ++ "  " ++ line (ws.drop n)) := by
  have ht : ws.take n ≠ [] := by intro e; have := congrArg List.length e; rw [List.length_take, List.length_nil] at this; omega
  have hd : ws.drop n ≠ [] := by intro e; have := congrArg List.length e; rw [List.length_drop, List.length_nil] at this; omega
  refine ⟨ws.take n ++ ("" : Str) :: ws.drop n, ?_, ?_, okWs_app (okWs_take hw.w) (okWs_cons (okW_by (by decide +kernel)) (okWs_drop hw.w)), by simp, by simp; omega⟩
  · have e := line_append (us := [("" : Str)]) (vs := ws.drop n) (by simp) hd
    rw [line_one, emp_app] at e
    rw [← line_append ht (by simp)]
    rw [show ("" : Str) :: ws.drop n = [("" : Str)] ++ ws.drop n from rfl, ← e]
    have e2 : ("  " : Str) = " " ++ " " := rfl
    rw [e2]
    simp only [app_assoc]
  · obtain ⟨h, t, rfl⟩ : ∃ h t, ws = h :: t := by
      cases ws with
      | nil => simp at h2
      | cons h t => exact ⟨h, t, rfl⟩
    obtain ⟨m, rfl⟩ : ∃ m, n = m + 1 := ⟨n - 1, by omega⟩
    refine .inr (.inl ⟨h, t.take m ++ ("" : Str) :: t.drop m, rfl, rfl, ?_, .inr ⟨"", by simp, by decide +kernel⟩⟩)
    simp at hn ⊢
    omega
theorem bent_mid {n : Nat} (h1 : 1 ≤ n) (hn : n < ws.length) : Bends ws (line (ws.take n) ++ "\t" ++ line (ws.drop n)) := by
  obtain ⟨m, rfl⟩ : ∃ m, n = m + 1 := ⟨n - 1, by omega⟩
  have et : ws.take (m + 1) = ws.take m ++ [ws[m]] := by rw [List.take_add_one, List.getElem?_eq_getElem (by omega)]; rfl
  have ed : ws.drop (m + 1) = ws[m + 1] :: ws.drop (m + 2) := List.drop_eq_getElem_cons hn
  have okt : okW (ws[m] ++ "\t" ++ ws[m + 1]) := okW_app3 (hw _ (List.getElem_mem _)) (hw _ (List.getElem_mem _)) (by decide +kernel)
  have m9 : 9 ∈ tl (ws[m] ++ "\t" ++ ws[m + 1]) := by
    rw [tl_app, tl_app]
    exact List.mem_append_left _ (List.mem_append_right _ (by decide +kernel))
  refine ⟨ws.take m ++ (ws[m] ++ "\t" ++ ws[m + 1]) :: ws.drop (m + 2), ?_, ?_, okWs_app (okWs_take hw.w) (okWs_cons okt (okWs_drop hw.w)), by simp, by simp; omega⟩
  · rw [et, ed, line_glue]
  · cases m with
    | zero => exact .inl ⟨_, _, rfl, headK_tab m9⟩
    | succ m =>
      obtain ⟨h, t, rfl⟩ : ∃ h t, ws = h :: t := by
        cases ws with
        | nil => simp at h2
        | cons h t => exact ⟨h, t, rfl⟩
      refine .inr (.inl ⟨h, t.take m ++ _ :: t.drop (m + 2), rfl, rfl, ?_, .inr ⟨_, List.mem_append_right _ List.mem_cons_self, readL_bad m9 (by decide) (by decide)⟩⟩)
      simp at hn ⊢
      omega
theorem bent_head {x : Str} (hx : okW x) (hk : ¬ headK x) : Bends ws (line ([x] ++ ws.drop 1)) := by
  refine ⟨[x] ++ ws.drop 1, rfl, .inl ⟨x, ws.drop 1, rfl, hk⟩, okWs_cons hx (okWs_drop hw.w), by simp, by simp; omega⟩
theorem bent_one {h : Str} (hh : ws[0]? = some h) : Bends ws h := by
  have e0 : ws.head? = some h := by rw [← hh]; cases ws <;> rfl
  refine ⟨[h], rfl, .inr (.inl ⟨h, [], rfl, e0, by simp; omega, .inl rfl⟩), okWs_cons (hw.w h (List.mem_of_getElem? hh)) (fun w m => by cases m), by simp, by simp⟩
theorem bent_set {n : Nat} {x h : Str} (h1 : 1 ≤ n) (hn : n < ws.length) (hx : okW x) (hb : readL (tl x) = none) (hh : ws[0]? = some h) (hc : h = "curl" → x ≠ "none") : Bends ws (line (ws.set n x)) := by
  refine ⟨ws.set n x, rfl, ?_, okWs_set hw.w hx, ?_, by simp⟩
  · obtain ⟨h', t, rfl⟩ : ∃ h t, ws = h :: t := by
      cases ws with
      | nil => simp at h2
      | cons h t => exact ⟨h, t, rfl⟩
    obtain ⟨m, rfl⟩ : ∃ m, n = m + 1 := ⟨n - 1, by omega⟩
    cases Option.some.inj hh
    refine .inr (.inr ⟨_, t.set m x, m, x, rfl, rfl, by simp, ?_, hb, fun e _ => hc e⟩)
    simp at hn
    simp [hn]
  · intro e
    have := congrArg List.length e
    simp at this
    rw [this] at h2
    simp at h2
end
end K57
end
/-! part S57h -/
section
set_option Elab.async false
set_option linter.all false
set_option maxRecDepth 100000
set_option maxHeartbeats 4000000
open PySem PySem.Spec PyProof.Rows L2 KN
local macro_rules | `(tactic| walk_at "st") => `(tactic| first
  | (with_reducible refine s_seq ?_) | (with_reducible refine s_asg ?_) | (with_reducible refine s_name ?_) | (with_reducible refine s_drop ?_) | (with_reducible refine s_ret ?_) | (with_reducible refine s_retN ?_)
  | (with_reducible refine s_next ?_) | (with_reducible refine s_brk ?_) | (with_reducible refine s_ct ?_) | (with_reducible refine s_if ?_) | ((with_reducible refine' s_var ?h ?_); (case h => rfl)) | (with_reducible refine s_c ?_)
  | (with_reducible refine s_op ?_) | (with_reducible refine s_rI0 ?_) | ((with_reducible refine s_rI ?h ?_); (case h => first | assumption | decide | (show (0 : Int) < _; omega) | exact ⟨by decide, by decide, by decide⟩ | exact cmul_small (by omega) (by omega) (by omega) (by omega) | exact cdiv_small (by omega) (by omega))) | (with_reducible refine s_un ?_) | (with_reducible refine s_rU ?_)
  | (with_reducible refine s_addIB ?_) | ((with_reducible refine' s_eq ?h ?_); (case h => first | rfl | decide)) | ((with_reducible refine' s_ne ?h ?_); (case h => first | rfl | decide)) | (with_reducible refine s_isN ?_) | (with_reducible refine s_notN ?_) | (with_reducible refine s_test ?_) | (with_reducible refine s_tB ?_)
  | (with_reducible refine s_bl ?_) | (with_reducible refine s_not ?_) | (with_reducible refine s_and ?_) | (with_reducible refine s_or ?_) | (with_reducible refine s_andV ?_) | (with_reducible refine s_orV ?_) | (with_reducible refine s_notV ?_)
  | (with_reducible refine s_ifE ?_) | (with_reducible refine s_cb ?_) | (with_reducible refine s_cons ?_) | (with_reducible refine s_nil ?_) | (with_reducible refine s_cl ?_) | (with_reducible refine s_clS ?_) | (with_reducible refine s_mk ?_) | (with_reducible refine s_mt ?_)
  | (with_reducible refine s_lst ?_) | (with_reducible refine s_tup ?_) | (with_reducible refine s_sl ?_) | (with_reducible refine s_noP ?_) | (with_reducible refine s_part ?_) | (with_reducible refine s_intE ?_) | (with_reducible refine s_bm ?_) | (with_reducible refine s_bm0 ?_)
  | (with_reducible refine s_m0 ?_) | (with_reducible refine s_m1 ?_) | (with_reducible refine s_strE ?_) | (with_reducible refine s_starts ?_) | (with_reducible refine s_isascii ?_) | (with_reducible refine s_isdigit ?_) | (with_reducible refine s_fld ?_)
  | (with_reducible refine s_abs ?_) | (with_reducible refine s_int1 ?_) | (with_reducible refine s_int1b ?_) | (with_reducible refine s_min2 ?_) | (with_reducible refine s_max2 ?_) | (with_reducible refine s_chain ?_) | (with_reducible refine s_blP ?_) | (with_reducible refine s_blV ?_) | (with_reducible refine s_blN ?_) | (with_reducible refine s_blG ?_) | (with_reducible refine s_intG ?_)
  | ((with_reducible refine' s_aug ?h ?_); (case h => rfl)) | (with_reducible refine s_par ?_) | (with_reducible refine s_two ?_) | (with_reducible refine s_frz ?_) | (with_reducible refine s_dnew ?_) | (with_reducible refine s_for ?_) | (with_reducible refine s_lc ?_) | (with_reducible refine s_joinS ?_) | (with_reducible refine s_gsub ?_) | (with_reducible refine s_kin ?_) | (with_reducible refine s_knotin ?_) | (with_reducible refine s_kget ?_) | (with_reducible refine s_setf ?_) | (with_reducible refine s_split ?_) | (with_reducible refine s_partn ?_) | (with_reducible refine s_vei ?_) | (with_reducible refine s_ost ?_) | (with_reducible refine s_rz ?_) | (with_reducible refine s_xm ?_) | (with_reducible refine s_rng1 ?_) | (with_reducible refine s_rng2 ?_) | (with_reducible refine s_iList ?_) | (with_reducible refine s_iTup ?_) | (with_reducible refine s_iSeq ?_) | (with_reducible refine s_iEnum ?_))
local macro_rules | `(tactic| walk_at "go") => `(tactic| repeat walk_at "st")
local macro_rules | `(tactic| walk_at "hp") => `(tactic| first
  | assumption
  | exact upd_same
  | (refine (upd_ne ?n).trans ?_; (case n => first | assumption | (apply Ne.symm; assumption) | exact ne_of_none (by walk_at "hp") (by assumption) | exact (ne_of_none (by walk_at "hp") (by assumption)).symm); walk_at "hp"))
namespace K57
open PySem PySem.Spec PyProof.Rows L2 KN
section
variable {K : PySem.W.Frag} {mg : Str → Option Value} {w : World} {vs : List V} {H : Hp} {Q : VK} {E : XK}
theorem map_set {ws : List Str} {n : Nat} {x : Str} : (ws.map V.str).set n (.str x) = (ws.set n x).map V.str := by rw [List.map_set]
theorem pure__law_bent (h : S__law_bent K w vs H Q E) : t__law_bent K w (S__law_take K w) (S__law_bad_number K w) { nx := fun _ H' => Q .non H', rt := Q } (start N__law_bent vs) H := by
  obtain ⟨d, ws, rfl, hD, hw, h2, hz, k⟩ := h
  show t__law_bent K w _ _ _ [some (.ref d), some (.str (line ws)), none, none, none] H
  have kk : ∀ y H', Go [d] H H' → Bends ws y → Q (.str y) H' := by
    rintro y H' g ⟨ws', rfl, h1, h2, h3, h4⟩
    exact k ws' H' g h1 h2 h3 h4
  have hne : ws ≠ [] := by intro e; rw [e] at h2; simp at h2
  have hll : (line ws).length ≤ 101 * ws.length := line_len hw.w
  unfold t__law_bent
  walk_at "go"
  refine ⟨line ws, " ", rfl, rfl, by decide +kernel, by rw [sizeLine_eq]; omega, fun p hp => ?_⟩
  rw [split_sp hne hw.w]
  walk_at "go"
  have g1 := (Go.refl (deck1 hD)).new (o := .lst (ws.map V.str)) hp
  refine ⟨p, _, rfl, .inl (SqL.of upd_same), ?_⟩
  walk_at "go"
  refine ⟨d, _, rfl, g1.deck, by rw [List.length_map]; omega, fun u H2 g2 u0 u1 => ?_⟩
  walk_at "go"
  rw [List.length_map] at u1
  have hp2 := g2.at upd_same ((Go.refl (deck1 hD)).out1 hp)
  obtain ⟨n, en, n1, n2⟩ : ∃ n : Nat, 1 + u = n ∧ 1 ≤ n ∧ n < ws.length := ⟨(1 + u).toNat, by omega, by omega, by omega⟩
  rw [en]
  have g3 := g1.trans g2
  refine ⟨d, 8, rfl, g3.deck, by omega, fun wy H3 g4 w0 w1 => ?_⟩
  have hp3 := g4.at hp2 (g3.out hp)
  have g5 := g3.trans g4
  clear g4 g2
  walk_at "go"
  have first : ∀ {H'}, Same H3 H' → SqL K H' p (ws.map V.str) := fun s => SqL.of (s _ _ hp3)
  obtain ⟨h0, t0, ew⟩ : ∃ h t, ws = h :: t := by
    cases ws with
    | nil => exact absurd rfl hne
    | cons h t => exact ⟨h, t, rfl⟩
  have hh : ws[0]? = some h0 := by rw [ew]; rfl
  have lenT : (Txt.join " " (ws.take n)).length ≤ 20200 := by
    show (line (ws.take n)).length ≤ 20200
    have := line_len (okWs_take (n := n) hw.w)
    rw [List.length_take] at this
    omega
  have lenD : (Txt.join " " (ws.drop n)).length ≤ 20200 := by
    show (line (ws.drop n)).length ≤ 20200
    have := line_len (okWs_drop (n := n) hw.w)
    rw [List.length_drop] at this
    omega
  have szT : (ws.take n).length ≤ 100000 := by rw [List.length_take]; omega
  have szD : ∀ n, (ws.drop n).length ≤ 100000 := fun n => by rw [List.length_drop]; omega
  refine ite_dec (fun e => ?_) (fun e => ?_)
  · -- 0
    walk_at "go"
    refine ⟨by simp [sizeLine_eq], fun q hq => ?_⟩
    walk_at "go"
    have g6 := g5.new (o := .lst [.str " ", .str "\t", .str "\n", .str " 7 x"]) hq
    refine ⟨d, 4, rfl, g6.deck, by omega, fun t H4 g7 t0 t1 => ?_⟩
    have hq4 := g7.at upd_same (g5.out1 hq)
    refine pickN t0 (by simpa using t1) (SqL.of hq4) fun i v ei hv => ?_
    match i, hv with
    | 0, hv =>
      cases hv
      refine s_addS (sz_of (by rw [show (" " : Str).length = 1 from rfl]; omega)) ?_
      refine kk _ _ (g6.trans g7) ?_
      have := bent_more h2 hw (A := [""]) (by simp) (by simp) (okWs_cons (okW_by (by decide +kernel)) fun w m => by cases m) ⟨"", by simp, by decide +kernel⟩
      rw [line_one, app_emp] at this
      exact this
    | 1, hv =>
      cases hv
      refine s_addS (sz_of (by rw [show ("\t" : Str).length = 1 from rfl]; omega)) ?_
      exact kk _ _ (g6.trans g7) (bent_last h2 hw (by unfold okC; decide +kernel) (b := 9) (by decide +kernel) (by decide) (by decide))
    | 2, hv =>
      cases hv
      refine s_addS (sz_of (by rw [show ("\n" : Str).length = 1 from rfl]; omega)) ?_
      exact kk _ _ (g6.trans g7) (bent_last h2 hw (by unfold okC; decide +kernel) (b := 10) (by decide +kernel) (by decide) (by decide))
    | 3, hv =>
      cases hv
      refine s_addS (sz_of (by rw [show (" 7 x" : Str).length = 4 from rfl]; omega)) ?_
      refine kk _ _ (g6.trans g7) ?_
      have := bent_more h2 hw (A := ["7", "x"]) (by simp) (by simp) (okWs_cons (okW_by (by decide +kernel)) (okWs_cons (okW_by (by decide +kernel)) fun w m => by cases m)) ⟨"x", by simp, by decide +kernel⟩
      have e7 : line [("7" : Str), "x"] = "7 x" := rfl
      rw [e7, app_assoc] at this
      exact this
    | i + 4, hv => cases hv
  walk_at "go"
  refine ite_dec (fun e => ?_) (fun e => ?_)
  · -- 1
    walk_at "go"
    refine ⟨by simp [sizeLine_eq], fun q hq => ?_⟩
    walk_at "go"
    have g6 := g5.new (o := .lst [.str " ", .str "7 ", .str "\t"]) hq
    refine ⟨d, 3, rfl, g6.deck, by omega, fun t H4 g7 t0 t1 => ?_⟩
    have hq4 := g7.at upd_same (g5.out1 hq)
    refine pickN t0 (by simpa using t1) (SqL.of hq4) fun i v ei hv => ?_
    match i, hv with
    | 0, hv =>
      cases hv
      walk_at "go"
      refine s_addS (sz_of (by rw [show (" " : Str).length = 1 from rfl]; omega)) ?_
      refine kk _ _ (g6.trans g7) ?_
      have := bent_front h2 hw (x := "") (okW_by (by decide +kernel)) (not_headK (by decide +kernel))
      rw [emp_app] at this
      exact this
    | 1, hv =>
      cases hv
      walk_at "go"
      refine s_addS (sz_of (by rw [show ("7 " : Str).length = 2 from rfl]; omega)) ?_
      exact kk _ _ (g6.trans g7) (bent_front h2 hw (x := "7") (okW_by (by decide +kernel)) (not_headK (by decide +kernel)))
    | 2, hv =>
      cases hv
      walk_at "go"
      refine s_addS (sz_of (by rw [show ("\t" : Str).length = 1 from rfl]; omega)) ?_
      exact kk _ _ (g6.trans g7) (bent_tab h2 hw)
    | i + 3, hv => cases hv
  walk_at "go"
  refine ite_dec (fun e => ?_) (fun e => ?_)
  · -- 2
    walk_at "go"
    refine ⟨p, _, rfl, first (Same.refl _), fun q hq => ?_⟩
    rw [cutT, ← List.map_take]
    walk_at "go"
    refine ⟨" ", q, ws.take n, rfl, rfl, .inl (SqL.of upd_same), join_sz (okWs_take hw.w) szT, ?_⟩
    walk_at "go"
    refine s_addS (sz_of (by rw [show ("  " : Str).length = 2 from rfl]; omega)) ?_
    walk_at "go"
    have s1 : Same H3 (upd H3 q (.lst ((ws.take n).map V.str))) := same_new hq
    refine ⟨p, _, rfl, first s1, fun r hr => ?_⟩
    rw [cutN, ← List.map_drop]
    walk_at "go"
    refine ⟨" ", r, ws.drop n, rfl, rfl, .inl (SqL.of upd_same), join_sz (okWs_drop hw.w) (szD n), ?_⟩
    refine s_addS (sz_of (by rw [len_app, show ("  " : Str).length = 2 from rfl]; omega)) ?_
    exact kk _ _ ((g5.new hq).new hr) (bent_gap h2 hw n1 n2)
  walk_at "go"
  refine ite_dec (fun e => ?_) (fun e => ?_)
  · -- 3
    walk_at "go"
    refine ⟨p, _, rfl, first (Same.refl _), fun q hq => ?_⟩
    rw [cutT, ← List.map_take]
    walk_at "go"
    refine ⟨" ", q, ws.take n, rfl, rfl, .inl (SqL.of upd_same), join_sz (okWs_take hw.w) szT, ?_⟩
    walk_at "go"
    refine s_addS (sz_of (by rw [show ("\t" : Str).length = 1 from rfl]; omega)) ?_
    walk_at "go"
    have s1 : Same H3 (upd H3 q (.lst ((ws.take n).map V.str))) := same_new hq
    refine ⟨p, _, rfl, first s1, fun r hr => ?_⟩
    rw [cutN, ← List.map_drop]
    walk_at "go"
    refine ⟨" ", r, ws.drop n, rfl, rfl, .inl (SqL.of upd_same), join_sz (okWs_drop hw.w) (szD n), ?_⟩
    refine s_addS (sz_of (by rw [len_app, show ("\t" : Str).length = 1 from rfl]; omega)) ?_
    exact kk _ _ ((g5.new hq).new hr) (bent_mid h2 hw n1 n2)
  walk_at "go"
  refine ite_dec (fun e => ?_) (fun e => ?_)
  · -- 4
    walk_at "go"
    refine ⟨by simp [sizeLine_eq], fun q hq => ?_⟩
    walk_at "go"
    have g6 := g5.new (o := .lst [.str "", .str "Curl", .str "braids", .str "lays", .str "twist", .str "7"]) hq
    refine ⟨d, 6, rfl, g6.deck, by omega, fun t H4 g7 t0 t1 => ?_⟩
    have hq4 := g7.at upd_same (g5.out1 hq)
    have hp4 : H4 p = some (.lst (ws.map V.str)) := g7.at (same_new hq _ _ hp3) (g6.out hp)
    have gg := g6.trans g7
    have eq6 : ([V.str "", .str "Curl", .str "braids", .str "lays", .str "twist", .str "7"] : List V) = (["", "Curl", "braids", "lays", "twist", "7"] : List Str).map V.str := rfl
    rw [eq6] at hq4
    refine pickN t0 (by simpa using t1) (SqL.of hq4) fun i v ei hv => ?_
    rw [List.getElem?_map] at hv
    obtain ⟨x, hx, rfl⟩ := Option.map_eq_some_iff.mp hv
    have good : ∀ x ∈ (["", "Curl", "braids", "lays", "twist", "7"] : List Str), okW x ∧ ¬ headK x := by
      have hd : (["", "Curl", "braids", "lays", "twist", "7"] : List Str).all (fun w => (decide (w.length ≤ 100) && (tl w).all fun c => decide (c ≠ 32 ∧ c < 256)) && (decide (w ≠ "braid") && (arity w).isNone)) = true := by decide +kernel
      intro x m
      have := List.all_eq_true.mp hd x m
      rw [Bool.and_eq_true] at this
      exact ⟨okW_by this.1, not_headK this.2⟩
    obtain ⟨okx, nk⟩ := good x (List.mem_of_getElem? hx)
    walk_at "go"
    refine ⟨by simp [sizeLine_eq], fun r hr => ?_⟩
    walk_at "go"
    have s1 : Same H4 (upd H4 r (.lst [.str x])) := same_new hr
    refine ⟨p, _, rfl, SqL.of (s1 _ _ hp4), fun r2 hr2 => ?_⟩
    rw [cut1, ← List.map_drop]
    have nr : r ≠ r2 := ne_of_none upd_same hr2
    refine ⟨r, r2, [.str x], _, rfl, rfl, by rw [upd_ne nr]; exact upd_same, upd_same, ?_, fun r3 hr3 => ?_⟩
    · rw [List.length_map, List.length_singleton]; exact sz_of (by have := szD 1; rw [List.length_drop] at this ⊢; omega)
    · have e4 : ([V.str x] ++ (ws.drop 1).map V.str) = ([x] ++ ws.drop 1).map V.str := by rw [List.map_append]; rfl
      rw [e4]
      refine ⟨" ", r3, [x] ++ ws.drop 1, rfl, rfl, .inl (SqL.of upd_same), join_sz (okWs_app (okWs_cons okx fun w m => by cases m) (okWs_drop hw.w)) (by rw [List.length_append, List.length_drop, List.length_singleton]; omega), ?_⟩
      exact kk _ _ (((gg.new hr).new hr2).new hr3) (bent_head h2 hw okx nk)
  walk_at "go"
  refine ite_dec (fun e => ?_) (fun e => ?_)
  · -- 5
    walk_at "go"
    refine ⟨p, _, 0, .str h0, rfl, rfl, first (Same.refl _), by rw [ew]; exact at0, ?_⟩
    exact kk _ _ g5 (bent_one h2 hw hh)
  have last : (tSeq (tAsg (tCl (S__law_bad_number K w) E0 (tCons (tVar 0) tNil)) (gSub (tVar 2) (tVar 3) rSetL))
  (tRet (tJoinS K (tC (.str " ")) (tVar 2)))) { nx := fun _ H' => Q .non H', rt := Q } [some (.ref d), some (.str (line ws)), some (.ref p), some (.int n), some (.int wy)] H3 := by
    walk_at "go"
    refine ⟨d, rfl, g5.deck, fun x H4 g6 hx => ?_⟩
    walk_at "go"
    have hp4 := g6.at hp3 (g5.out hp)
    refine ⟨p, _, _, n, rfl, rfl, hp4, ix_nat rfl (by rw [List.length_map]; exact n2), ?_⟩
    walk_at "go"
    rw [map_set]
    refine ⟨" ", p, ws.set n x, rfl, rfl, .inl (SqL.of upd_same), join_sz (okWs_set hw.w hx.2.2) (by rw [List.length_set]; omega), ?_⟩
    exact kk _ _ ((g5.trans g6).mut hp) (bent_set h2 hw n1 n2 hx.2.2 hx.1 hh fun _ => hx.2.1)
  walk_at "go"
  refine ite_dec (fun e => ?_) (fun e => ?_)
  · walk_at "go"
    refine ⟨p, _, 0, .str h0, rfl, rfl, first (Same.refl _), by rw [ew]; exact at0, ?_⟩
    walk_at "go"
    by_cases hc : h0 = "curl"
    · refine ite_no (by rw [hc]; rfl) ?_
      walk_at "st"
      exact last
    · refine ite_yes (by rw [decide_eq_false (fun z => hc (V.str.inj z))]; rfl) ?_
      walk_at "go"
      refine ⟨p, _, _, 1, rfl, rfl, hp3, ix_nat (j := 1) rfl (by rw [List.length_map]; omega), ?_⟩
      walk_at "go"
      rw [map_set]
      have nok : okW "none" := okW_by (by decide +kernel)
      refine ⟨" ", p, ws.set 1 "none", rfl, rfl, .inl (SqL.of upd_same), join_sz (okWs_set hw.w nok) (by rw [List.length_set]; omega), ?_⟩
      exact kk _ _ (g5.mut hp) (bent_set h2 hw (by omega) (by omega) nok (by decide +kernel) hh fun e => absurd e hc)
  · refine iteF ?_
    walk_at "st"
    exact last
/-! ### _law_bent_move -/
def S__law_bent_move (K : PySem.W.Frag) (w : World) : Sp := fun vs H Q _ => ∃ (d : Addr) (m : Move), vs = [.ref d, .str (line (moveW m))] ∧ Deck H d ∧ goodM m ∧
  ∀ ws' H', Go [d] H H' → readMove ws' = none → okWs ws' → ws' ≠ [] → ws'.length ≤ 100 → Q (.str (line ws')) H'
theorem len__law_bent_move (vs : List V) (H : Hp) (Q : VK) (E : XK) (h : S__law_bent_move K w vs H Q E) : vs.length = P__law_bent_move.length := by
  obtain ⟨_, _, rfl, _⟩ := h
  rfl
theorem goodM_V {m : Move} (h : goodM m) : okVs (moveW m) ∧ 1 ≤ m.2.length ∧ m.2.length ≤ 4 := by
  refine ⟨?_, ?_⟩
  · intro w mw
    rcases List.mem_cons.mp mw with rfl | mw
    · have hc := arity_cases h.1
      have e : m.1 = "curl" ∨ m.1 = "uncurl" ∨ m.1 = "lay" ∨ m.1 = "draw" ∨ m.1 = "turn" := by
        rcases hc with ⟨e, _⟩ | ⟨e, _⟩ | ⟨e, _⟩ | ⟨e, _⟩ | ⟨e, _⟩ <;> simp [e]
      rcases e with e | e | e | e | e <;> (rw [e]; unfold okV; decide +kernel)
    · obtain ⟨o, mo, rfl⟩ := List.mem_map.mp mw
      cases o with
      | none => show okV ("none" : Str); unfold okV; decide +kernel
      | some z =>
        have hs : z.natAbs < 10 ^ 40 := h.2.1 _ mo
        have := decL_len (k := 40) (by decide) hs
        have e : (dec z).length = (decL z).length := by rw [← tl_dec]; exact TL.len_tl _
        exact ⟨by show (dec z).length ≤ 45; omega, (okW_dec hs).2⟩
  · rcases arity_cases h.1 with ⟨_, e⟩ | ⟨_, e⟩ | ⟨_, e⟩ | ⟨_, e⟩ | ⟨_, e⟩ <;> omega
theorem readMove_len {h : Str} {t : List Str} {n : Nat} (ha : arity h = some n) (hn : t.length ≠ n) : readMove (h :: t) = none := by
  unfold readMove
  dsimp only
  rw [if_neg]
  rw [ha]
  exact fun z => hn (Option.some.inj z).symm
theorem pure__law_bent_move (h : S__law_bent_move K w vs H Q E) : t__law_bent_move K w (S__law_take K w) (S__law_bent K w) { nx := fun _ H' => Q .non H', rt := Q } (start N__law_bent_move vs) H := by
  obtain ⟨d, m, rfl, hD, hg, k⟩ := h
  show t__law_bent_move K w _ _ _ [some (.ref d), some (.str (line (moveW m))), none] H
  obtain ⟨hv, hl1, hl4⟩ := goodM_V hg
  have hlen : (moveW m).length = m.2.length + 1 := by unfold moveW; simp
  have hll := line_len hv.w
  unfold t__law_bent_move
  walk_at "go"
  refine ⟨d, 5, rfl, hD, by omega, fun t H1 g1 t0 t1 => ?_⟩
  walk_at "go"
  refine ite_dec (fun e => ?_) (fun e => ?_)
  · walk_at "go"
    refine s_addS (sz_of (by rw [show (" 3" : Str).length = 2 from rfl]; omega)) ?_
    have e3 := line_append (us := moveW m) (vs := [("3" : Str)]) (by simp [moveW]) (by simp)
    rw [line_one, app_assoc] at e3
    have e4 : (" " : Str) ++ "3" = " 3" := rfl
    rw [e4] at e3
    show Q (.str (line (moveW m) ++ " 3")) H1
    rw [e3]
    refine k _ _ g1 (readMove_len (t := m.2.map wordO ++ [("3" : Str)]) hg.1 (by simp)) (okWs_app hv.w (okWs_cons (okW_by (by decide +kernel)) fun w m => by cases m)) (by simp) (by simp; omega)
  · walk_at "go"
    refine ite_dec (fun e => ?_) (fun e => ?_)
    · walk_at "go"
      refine ⟨line (moveW m), " ", rfl, rfl, by decide +kernel, by rw [sizeLine_eq]; omega, fun p hp => ?_⟩
      rw [split_sp (by simp [moveW]) hv.w]
      walk_at "go"
      refine ⟨p, _, rfl, SqL.of upd_same, fun q hq => ?_⟩
      have ec : cutV ((moveW m).map V.str) none (some (-1)) = ((moveW m).take m.2.length).map V.str := by
        unfold cutV
        have e1 : HT.sIx ((moveW m).map V.str).length 0 none = 0 := rfl
        have e2 : HT.sIx ((moveW m).map V.str).length ((moveW m).map V.str).length (some (-1)) = m.2.length := by
          show (if (-1 : Int) < 0 then ((-1 : Int) + (((moveW m).map V.str).length : Int)).toNat else min (-1 : Int).toNat ((moveW m).map V.str).length) = m.2.length
          rw [if_pos (by decide), List.length_map, hlen]
          omega
        rw [e1, e2, List.drop_zero, Nat.sub_zero, List.map_take]
      rw [ec]
      refine ⟨" ", q, _, rfl, rfl, .inl (SqL.of upd_same), join_sz (okWs_take hv.w) (by rw [List.length_take]; omega), ?_⟩
      have et : (moveW m).take m.2.length = m.1 :: (m.2.map wordO).take (m.2.length - 1) := by
        unfold moveW
        obtain ⟨j, ej⟩ : ∃ j, m.2.length = j + 1 := ⟨m.2.length - 1, by omega⟩
        rw [ej]
        rfl
      refine k _ _ ((g1.new hp).new hq) ?_ (okWs_take hv.w) (by rw [et]; simp) (by rw [List.length_take]; omega)
      rw [et]
      exact readMove_len hg.1 (by rw [List.length_take, List.length_map]; omega)
    · walk_at "go"
      refine ⟨d, moveW m, rfl, g1.deck, hv, by omega, by omega, fun ws' H2 g2 hs hw hne hl => ?_⟩
      exact k ws' H2 (g1.trans g2) (spoilt_move hg hs) hw hne (by omega)
end
end K57
end
/-! part S57i -/
section
set_option Elab.async false
set_option linter.all false
set_option maxRecDepth 100000
set_option maxHeartbeats 4000000
open PySem PySem.Spec PyProof.Rows L2 KN
local macro_rules | `(tactic| walk_at "st") => `(tactic| first
  | (with_reducible refine s_seq ?_) | (with_reducible refine s_asg ?_) | (with_reducible refine s_name ?_) | (with_reducible refine s_drop ?_) | (with_reducible refine s_ret ?_) | (with_reducible refine s_retN ?_)
  | (with_reducible refine s_next ?_) | (with_reducible refine s_brk ?_) | (with_reducible refine s_ct ?_) | (with_reducible refine s_if ?_) | ((with_reducible refine' s_var ?h ?_); (case h => rfl)) | (with_reducible refine s_c ?_)
  | (with_reducible refine s_op ?_) | (with_reducible refine s_rI0 ?_) | ((with_reducible refine s_rI ?h ?_); (case h => first | assumption | decide | (show (0 : Int) < _; omega) | exact ⟨by decide, by decide, by decide⟩ | exact cmul_small (by omega) (by omega) (by omega) (by omega) | exact cdiv_small (by omega) (by omega))) | (with_reducible refine s_un ?_) | (with_reducible refine s_rU ?_)
  | (with_reducible refine s_addIB ?_) | ((with_reducible refine' s_eq ?h ?_); (case h => first | rfl | decide)) | ((with_reducible refine' s_ne ?h ?_); (case h => first | rfl | decide)) | (with_reducible refine s_isN ?_) | (with_reducible refine s_notN ?_) | (with_reducible refine s_test ?_) | (with_reducible refine s_tB ?_)
  | (with_reducible refine s_bl ?_) | (with_reducible refine s_not ?_) | (with_reducible refine s_and ?_) | (with_reducible refine s_or ?_) | (with_reducible refine s_andV ?_) | (with_reducible refine s_orV ?_) | (with_reducible refine s_notV ?_)
  | (with_reducible refine s_ifE ?_) | (with_reducible refine s_cb ?_) | (with_reducible refine s_cons ?_) | (with_reducible refine s_nil ?_) | (with_reducible refine s_cl ?_) | (with_reducible refine s_clS ?_) | (with_reducible refine s_mk ?_) | (with_reducible refine s_mt ?_)
  | (with_reducible refine s_lst ?_) | (with_reducible refine s_tup ?_) | (with_reducible refine s_sl ?_) | (with_reducible refine s_noP ?_) | (with_reducible refine s_part ?_) | (with_reducible refine s_intE ?_) | (with_reducible refine s_bm ?_) | (with_reducible refine s_bm0 ?_)
  | (with_reducible refine s_m0 ?_) | (with_reducible refine s_m1 ?_) | (with_reducible refine s_strE ?_) | (with_reducible refine s_starts ?_) | (with_reducible refine s_isascii ?_) | (with_reducible refine s_isdigit ?_) | (with_reducible refine s_fld ?_)
  | (with_reducible refine s_abs ?_) | (with_reducible refine s_int1 ?_) | (with_reducible refine s_int1b ?_) | (with_reducible refine s_min2 ?_) | (with_reducible refine s_max2 ?_) | (with_reducible refine s_chain ?_) | (with_reducible refine s_blP ?_) | (with_reducible refine s_blV ?_) | (with_reducible refine s_blN ?_) | (with_reducible refine s_blG ?_) | (with_reducible refine s_intG ?_)
  | ((with_reducible refine' s_aug ?h ?_); (case h => rfl)) | (with_reducible refine s_par ?_) | (with_reducible refine s_two ?_) | (with_reducible refine s_frz ?_) | (with_reducible refine s_dnew ?_) | (with_reducible refine s_for ?_) | (with_reducible refine s_lc ?_) | (with_reducible refine s_joinS ?_) | (with_reducible refine s_gsub ?_) | (with_reducible refine s_kin ?_) | (with_reducible refine s_knotin ?_) | (with_reducible refine s_kget ?_) | (with_reducible refine s_setf ?_) | (with_reducible refine s_split ?_) | (with_reducible refine s_partn ?_) | (with_reducible refine s_vei ?_) | (with_reducible refine s_ost ?_) | (with_reducible refine s_rz ?_) | (with_reducible refine s_xm ?_) | (with_reducible refine s_rng1 ?_) | (with_reducible refine s_rng2 ?_) | (with_reducible refine s_iList ?_) | (with_reducible refine s_iTup ?_) | (with_reducible refine s_iSeq ?_) | (with_reducible refine s_iEnum ?_))
local macro_rules | `(tactic| walk_at "go") => `(tactic| repeat walk_at "st")
local macro_rules | `(tactic| walk_at "hp") => `(tactic| first
  | assumption
  | exact upd_same
  | (refine (upd_ne ?n).trans ?_; (case n => first | assumption | (apply Ne.symm; assumption) | exact ne_of_none (by walk_at "hp") (by assumption) | exact (ne_of_none (by walk_at "hp") (by assumption)).symm); walk_at "hp"))
namespace K57
open PySem PySem.Spec PyProof.Rows L2 KN
def BWhy.told : BWhy → List V
  | .line => [.str "line", .int 0]
  | .err .strands => [.str "braid", .str "strands"]
  | .err .word => [.str "braid", .str "word"]
  | .err .many => [.str "many", .str "letters"]
def S__law_why (K : PySem.W.Frag) (w : World) : Sp := fun vs H Q _ =>
  (∃ (x : Str) (b : BWhy), vs = [.int 0, .str x] ∧ okLine x ∧ readBraid x = .error b ∧ ∀ p H', Same H H' → H p = none → H' p = some (.tup b.told) → Q (.ref p) H') ∨
  (∃ (a : Addr) (ls : List Str) (i : Nat) (x : Str), vs = [.int 1, .ref a] ∧ SqL K H a (ls.map V.str) ∧ ls.length ≤ 1000 ∧ (∀ x ∈ ls, okLine x) ∧ ls[i]? = some x ∧ rdM x = none ∧ (∀ (j : Nat) (y : Str), j < i → ls[j]? = some y → rdM y ≠ none) ∧
    ∀ p H', Same H H' → H p = none → H' p = some (.tup [.str "line", .int i]) → Q (.ref p) H')
theorem len__law_why {K : PySem.W.Frag} {w : World} (vs : List V) (H : Hp) (Q : VK) (E : XK) (h : S__law_why K w vs H Q E) : vs.length = P__law_why.length := by
  rcases h with ⟨_, _, rfl, _⟩ | ⟨_, _, _, _, rfl, _⟩ <;> rfl
section
variable {K : PySem.W.Frag} {a C d X Y Z : Addr} {s f : Str} {v : V} {D : Ends} {o0 o1 : Option V} {H : Hp} {fs : List (Str × V)}
theorem why_hit (hC : ExcC K C ∧ XfC K C) (kx : PySem.W.kitOne K (.ref C) (.ref X) = some true) (ky : PySem.W.kitOne K (.ref C) (.ref Y) = some false) (kz : PySem.W.kitOne K (.ref C) (.ref Z) = some false)
    (hd : H d = some (.xd [(f, v)])) (hf : PySem.W.findIn K (.ref C) f = some none) (k : ∀ p H', Same H H' → H p = none → H' p = some (.tup [.str s, v]) → D.rt (.ref p) H') :
    (tIfS (tAnd (tB (tCB (rIsX K a (.ref C) (some d)) (tCons (tVar 2) (tCons (tC (.ref X)) tNil)))) (tNot (tB (tCB (rIsXT K a (.ref C) (some d)) (tCons (tVar 2) (tCons (tTup (tCons (tC (.ref Y)) (tCons (tC (.ref Z)) tNil))) tNil))))))
  (tRet (tTup (tCons (tC (.str s)) (tCons (tXfX K a (.ref C) (some d) f (tVar 2)) tNil))))
  tNext) D [o0, o1, some (.ref a)] H := by
  walk_at "go"
  refine ⟨C, .ref X, _, true, d, _, rfl, rfl, hC.1, .own X, kx, rfl, hd, ?_⟩
  walk_at "go"
  refine iteT ?_
  walk_at "go"
  refine ⟨by simp [sizeLine_eq], fun t ht => ?_⟩
  walk_at "go"
  have s1 : Same H (upd H t (.tup [.ref Y, .ref Z])) := same_new ht
  refine ⟨C, t, [.ref Y, .ref Z], [.ref Y, .ref Z], false, d, _, rfl, rfl, hC.1, upd_same, .cons (.own Y) (.cons (.own Z) .nil), ?_, rfl, s1 _ _ hd, ?_⟩
  · exact kitAny_cons ky (fun _ => kitAny_cons kz (fun _ => kitAny_nil) (fun z => by cases z)) (fun z => by cases z)
  walk_at "go"
  refine iteT ?_
  walk_at "go"
  show tXfX _ _ _ _ _ _ _ _ _
  unfold tXfX
  walk_at "go"
  refine ⟨rfl, C, d, [(f, v)], v, rfl, hC.2, hf, rfl, s1 _ _ hd, by rw [List.lookup_cons, beq_self_eq_true], ?_⟩
  walk_at "go"
  refine ⟨by simp [sizeLine_eq], fun p hp => ?_⟩
  exact k p _ (s1.new hp) (s1.back hp) upd_same
theorem why_miss {T E : TS} (hC : ExcC K C) (kx : PySem.W.kitOne K (.ref C) (.ref X) = some false)
    (hd : H d = some (.xd fs)) {te : TT} (k : D.nx [o0, o1, some (.ref a)] H) :
    (tIfS (tAnd (tB (tCB (rIsX K a (.ref C) (some d)) (tCons (tVar 2) (tCons (tC (.ref X)) tNil)))) te) T tNext) D [o0, o1, some (.ref a)] H := by
  walk_at "go"
  refine ⟨C, .ref X, _, false, d, _, rfl, rfl, hC, .own X, kx, rfl, hd, ?_⟩
  walk_at "go"
  refine iteF ?_
  refine iteF ?_
  exact k
end
section
variable {K : PySem.W.Frag} {mg : Str → Option Value} {w : World} {vs : List V} {H : Hp} {Q : VK} {E : XK}
theorem pure__law_why (T : Txt K mg w) (h : S__law_why K w vs H Q E) : t__law_why K w (S_read_braid K w) (S_read_paper K w) { nx := fun _ H' => Q .non H', rt := Q } (start N__law_why vs) H := by
  have back : ∀ {p : Addr} {H H' : Hp} {Q : VK} {u : List V}, (∀ p H', Same H H' → H p = none → H' p = some (.tup u) → Q (.ref p) H') → Same H H' → ∀ p H'', Same H' H'' → H' p = none → H'' p = some (.tup u) → Q (.ref p) H'' := by
    intro p H H' Q u k s p H'' s2 hp e
    exact k p H'' (s.trans s2) (s.back hp) e
  rcases h with ⟨x, b, rfl, hok, hb, k⟩ | ⟨a, ls, i, x, rfl, hs, hz, hok, hi, hn, hall, k⟩
  · show t__law_why K w _ _ _ [some (.int 0), some (.str x), none] H
    unfold t__law_why tTryAs
    walk_at "go"
    refine iteT ?_
    walk_at "go"
    obtain ⟨ok1, ok2, ok3, ok4⟩ := hok
    refine ⟨x, rfl, ok1, ok2, ok3, ok4, ?_⟩
    rw [hb]
    dsimp only
    cases b with
    | line =>
      intro d H' s hd hx
      refine ⟨true, T.xm_InvalidLine_KnotError, fun _ a ha => ?_, fun z => by cases z⟩
      exact why_hit T.ex_InvalidLine T.ki_InvalidLine_InvalidLine T.ki_InvalidLine_InvalidBraid T.ki_InvalidLine_TooMany hx T.na_InvalidLine_line (back (p := 0) k s)
    | err b =>
      cases b with
      | strands =>
        intro d H' s hd hx
        refine ⟨true, T.xm_InvalidBraid_KnotError, fun _ a ha => ?_, fun z => by cases z⟩
        refine s_seq (why_miss (E := tNext) T.ex_InvalidBraid.1 T.ki_InvalidBraid_InvalidLine hx ?_)
        exact why_hit T.ex_InvalidBraid T.ki_InvalidBraid_InvalidBraid T.ki_InvalidBraid_InvalidLine T.ki_InvalidBraid_TooMany hx T.na_InvalidBraid_what (back (p := 0) k s)
      | word =>
        intro d H' s hd hx
        refine ⟨true, T.xm_InvalidBraid_KnotError, fun _ a ha => ?_, fun z => by cases z⟩
        refine s_seq (why_miss (E := tNext) T.ex_InvalidBraid.1 T.ki_InvalidBraid_InvalidLine hx ?_)
        exact why_hit T.ex_InvalidBraid T.ki_InvalidBraid_InvalidBraid T.ki_InvalidBraid_InvalidLine T.ki_InvalidBraid_TooMany hx T.na_InvalidBraid_what (back (p := 0) k s)
      | many =>
        intro d H' s hd hx
        refine ⟨true, T.xm_TooMany_KnotError, fun _ a ha => ?_, fun z => by cases z⟩
        refine s_seq (why_miss (E := tNext) T.ex_TooMany.1 T.ki_TooMany_InvalidLine hx ?_)
        refine s_seq (why_miss (E := tNext) T.ex_TooMany.1 T.ki_TooMany_InvalidBraid hx ?_)
        exact why_hit T.ex_TooMany T.ki_TooMany_TooMany T.ki_TooMany_InvalidLine T.ki_TooMany_InvalidBraid hx T.na_TooMany_what (back (p := 0) k s)
  · show t__law_why K w _ _ _ [some (.int 1), some (.ref a), none] H
    unfold t__law_why tTryAs
    walk_at "go"
    refine iteF ?_
    walk_at "go"
    refine ⟨a, ls, rfl, hs, hz, hok, .inr ⟨i, x, hi, hn, hall, ?_⟩⟩
    intro d H' s hd hx
    refine ⟨true, T.xm_InvalidLine_KnotError, fun _ a ha => ?_, fun z => by cases z⟩
    exact why_hit T.ex_InvalidLine T.ki_InvalidLine_InvalidLine T.ki_InvalidLine_InvalidBraid T.ki_InvalidLine_TooMany hx T.na_InvalidLine_line (back (p := 0) k s)
end
end K57
end
/-! part S57j -/
section
set_option Elab.async false
set_option linter.all false
set_option maxRecDepth 100000
set_option maxHeartbeats 4000000
open PySem PySem.Spec PyProof.Rows L2 KN
local macro_rules | `(tactic| walk_at "st") => `(tactic| first
  | (with_reducible refine s_seq ?_) | (with_reducible refine s_asg ?_) | (with_reducible refine s_name ?_) | (with_reducible refine s_drop ?_) | (with_reducible refine s_ret ?_) | (with_reducible refine s_retN ?_)
  | (with_reducible refine s_next ?_) | (with_reducible refine s_brk ?_) | (with_reducible refine s_ct ?_) | (with_reducible refine s_if ?_) | ((with_reducible refine' s_var ?h ?_); (case h => rfl)) | (with_reducible refine s_c ?_)
  | (with_reducible refine s_op ?_) | (with_reducible refine s_rI0 ?_) | ((with_reducible refine s_rI ?h ?_); (case h => first | assumption | decide | (show (0 : Int) < _; omega) | exact ⟨by decide, by decide, by decide⟩ | exact cmul_small (by omega) (by omega) (by omega) (by omega) | exact cdiv_small (by omega) (by omega))) | (with_reducible refine s_un ?_) | (with_reducible refine s_rU ?_)
  | (with_reducible refine s_addIB ?_) | ((with_reducible refine' s_eq ?h ?_); (case h => first | rfl | decide)) | ((with_reducible refine' s_ne ?h ?_); (case h => first | rfl | decide)) | (with_reducible refine s_isN ?_) | (with_reducible refine s_notN ?_) | (with_reducible refine s_test ?_) | (with_reducible refine s_tB ?_)
  | (with_reducible refine s_bl ?_) | (with_reducible refine s_not ?_) | (with_reducible refine s_and ?_) | (with_reducible refine s_or ?_) | (with_reducible refine s_andV ?_) | (with_reducible refine s_orV ?_) | (with_reducible refine s_notV ?_)
  | (with_reducible refine s_ifE ?_) | (with_reducible refine s_cb ?_) | (with_reducible refine s_cons ?_) | (with_reducible refine s_nil ?_) | (with_reducible refine s_cl ?_) | (with_reducible refine s_clS ?_) | (with_reducible refine s_mk ?_) | (with_reducible refine s_mt ?_)
  | (with_reducible refine s_lst ?_) | (with_reducible refine s_tup ?_) | (with_reducible refine s_sl ?_) | (with_reducible refine s_noP ?_) | (with_reducible refine s_part ?_) | (with_reducible refine s_intE ?_) | (with_reducible refine s_bm ?_) | (with_reducible refine s_bm0 ?_)
  | (with_reducible refine s_m0 ?_) | (with_reducible refine s_m1 ?_) | (with_reducible refine s_strE ?_) | (with_reducible refine s_starts ?_) | (with_reducible refine s_isascii ?_) | (with_reducible refine s_isdigit ?_) | (with_reducible refine s_fld ?_)
  | (with_reducible refine s_abs ?_) | (with_reducible refine s_int1 ?_) | (with_reducible refine s_int1b ?_) | (with_reducible refine s_min2 ?_) | (with_reducible refine s_max2 ?_) | (with_reducible refine s_chain ?_) | (with_reducible refine s_blP ?_) | (with_reducible refine s_blV ?_) | (with_reducible refine s_blN ?_) | (with_reducible refine s_blG ?_) | (with_reducible refine s_intG ?_)
  | ((with_reducible refine' s_aug ?h ?_); (case h => rfl)) | (with_reducible refine s_par ?_) | (with_reducible refine s_two ?_) | (with_reducible refine s_frz ?_) | (with_reducible refine s_dnew ?_) | (with_reducible refine s_for ?_) | (with_reducible refine s_lc ?_) | (with_reducible refine s_joinS ?_) | (with_reducible refine s_gsub ?_) | (with_reducible refine s_kin ?_) | (with_reducible refine s_knotin ?_) | (with_reducible refine s_kget ?_) | (with_reducible refine s_setf ?_) | (with_reducible refine s_split ?_) | (with_reducible refine s_partn ?_) | (with_reducible refine s_vei ?_) | (with_reducible refine s_ost ?_) | (with_reducible refine s_rz ?_) | (with_reducible refine s_xm ?_) | (with_reducible refine s_rng1 ?_) | (with_reducible refine s_rng2 ?_) | (with_reducible refine s_iList ?_) | (with_reducible refine s_iTup ?_) | (with_reducible refine s_iSeq ?_) | (with_reducible refine s_iEnum ?_))
local macro_rules | `(tactic| walk_at "go") => `(tactic| repeat walk_at "st")
local macro_rules | `(tactic| walk_at "hp") => `(tactic| first
  | assumption
  | exact upd_same
  | (refine (upd_ne ?n).trans ?_; (case n => first | assumption | (apply Ne.symm; assumption) | exact ne_of_none (by walk_at "hp") (by assumption) | exact (ne_of_none (by walk_at "hp") (by assumption)).symm); walk_at "hp"))
namespace K57
open PySem PySem.Spec PyProof.Rows L2 KN
theorem small_of_badL {s z : Int} (hs : s ≤ 8) (h : badL s z = false) : small z := by
  unfold badL at h
  rw [Bool.or_eq_false_iff, decide_eq_false_iff_not, decide_eq_false_iff_not] at h
  unfold small
  have := h.2
  split at this <;> omega
theorem readBraid_line {s : Int} {ns : List Int} (hs : small s) (hn : ∀ z ∈ ns, small z) : readBraid (line (lineB s ns)) = (match braidErr s ns with
    | some b => .error (.err b)
    | none => .ok (s, ns)) := by
  unfold readBraid
  rw [split_sp (by simp [lineB]) (okWs_lineB hs hn)]
  unfold lineB
  dsimp only
  rw [if_neg (fun z => z rfl)]
  have e : readAll (dec s :: ns.map dec) = some (s :: ns) := readAll_dec (zs := s :: ns) fun z m => by
    rcases List.mem_cons.mp m with rfl | m
    · exact hs
    · exact hn z m
  rw [e] <;> rfl
theorem okLine_line {ws : List Str} (h : okWs ws) (hne : ws ≠ []) (hz : ws.length ≤ 5000) : okLine (line ws) := by
  have := line_len h
  refine ⟨by omega, ?_, ?_, ?_⟩
  · rw [split_sp hne h]; exact hne
  · rw [split_sp hne h]; intro w m; have := (h w m).1; omega
  · rw [split_sp hne h]; omega
def S__law_braid_right (K : PySem.W.Frag) (w : World) : Sp := fun vs H Q _ => ∃ (a : Addr) (s : Int) (ns : List Int), vs = [.int s, .ref a] ∧ H a = some (.lst (ns.map V.int)) ∧ 1 ≤ s ∧ s ≤ 8 ∧ (∀ z ∈ ns, badL s z = false) ∧ ns.length ≤ 2000 ∧ ∀ H', Same H H' → Q (.bl true) H'
theorem len__law_braid_right {K : PySem.W.Frag} {w : World} (vs : List V) (H : Hp) (Q : VK) (E : XK) (h : S__law_braid_right K w vs H Q E) : vs.length = P__law_braid_right.length := by
  obtain ⟨_, _, _, rfl, _⟩ := h
  rfl
section
variable {K : PySem.W.Frag} {mg : Str → Option Value} {w : World} {vs : List V} {H : Hp} {Q : VK} {E : XK}
theorem itms {s : Int} {ns : List Int} : ([V.str "braid", .int s] ++ ns.map V.int) = (Itm.str "braid" :: Itm.int s :: ns.map Itm.int).map Itm.v := by
  show V.str "braid" :: V.int s :: ns.map V.int = V.str "braid" :: V.int s :: (ns.map Itm.int).map Itm.v
  rw [List.map_map]
  rfl
theorem itmt {s : Int} {ns : List Int} : (Itm.str "braid" :: Itm.int s :: ns.map Itm.int).map Itm.t = lineB s ns := by
  show ("braid" : Str) :: dec s :: (ns.map Itm.int).map Itm.t = _
  rw [List.map_map]
  rfl
theorem itmok {s : Int} {ns : List Int} (hs : small s) (hn : ∀ z ∈ ns, small z) : ∀ x ∈ (Itm.str "braid" :: Itm.int s :: ns.map Itm.int), x.ok := by
  intro x m
  rcases List.mem_cons.mp m with rfl | m
  · exact okW_by (by decide +kernel)
  · rcases List.mem_cons.mp m with rfl | m
    · exact hs
    · obtain ⟨z, mz, rfl⟩ := List.mem_map.mp m
      exact hn z mz
/-- _law_written(["braid", s] + ns), the two lists laid -/
theorem do_written {q r : Addr} {s : Int} {ns : List Int} {H1 : Hp} {N : VK} (hr : H1 r = some (.lst ([V.str "braid", .int s] ++ ns.map V.int))) (hs : small s) (hn : ∀ z ∈ ns, small z) (hz : ns.length ≤ 4000) (k : ∀ H', Same H1 H' → N (.str (line (lineB s ns))) H') : S__law_written K w [.ref r] H1 N E := by
  rw [itms] at hr
  refine ⟨r, _, rfl, SqL.of hr, by simp; omega, itmok hs hn, fun H' s' => ?_⟩
  rw [itmt]
  exact k H' s'
theorem do_mk {m : Addr} {s : Int} {ns : List Int} {H1 : Hp} {N : Addr → Hp → Prop} (hm : H1 m = some (.lst (ns.map V.int))) (he : braidErr s ns = none) (hz : ns.length ≤ 100000) (k : ∀ b H', Same H1 H' → H1 b = none → IsBraid K (fresh H1 H') b s ns → N b H') :
    ∀ x dx, H1 x = none → H1 dx = none → dx ≠ x → S_Braid_init K w (.ref x :: [.int s, .ref m]) (upd (upd H1 dx (.own x)) x (.ins (He.ga K "Braid") dx [])) (fun v H2 => v = .non ∧ N x H2) E := by
  intro b dx hb0 hdx hne2
  have s6 : Same H1 (upd (upd H1 dx (.own b)) b (.ins (He.ga K "Braid") dx [])) := (same_new hdx).mut hb0
  have nmb : m ≠ b := ne_of_none hm hb0
  refine ⟨b, dx, m, s, ns, rfl, upd_same, nmb, SqL.of (s6 _ _ hm), hz, ?_⟩
  rw [he]
  dsimp only
  intro l2 H7 kp hl2 hl7 hb7
  have s7 : Same H1 H7 := fun c u e => by
    refine kp c u (s6 c u e) fun z => ?_
    rw [List.mem_singleton] at z
    rw [z, hb0] at e
    cases e
  exact ⟨rfl, k b H7 s7 hb0 ⟨dx, l2, fresh_at hb0 hb7, fresh_at (s6.back hl2) hl7⟩⟩
theorem strD_ok {x : Str} (h : PyData.strOk x = true) : (PyData.str x).canLay0 = true := by simpa [PyData.canLay0] using h
theorem pure__law_braid_right (T : Txt K mg w) (h : S__law_braid_right K w vs H Q E) : t__law_braid_right K w (S__law_written K w) (S_Braid_init K w) (S_write_braid K w) (S__law_plain K w) (S_read_braid K w) { nx := fun _ H' => Q .non H', rt := Q } (start N__law_braid_right vs) H := by
  obtain ⟨a, s, ns, rfl, ha, hs1, hs8, hb, hz, k⟩ := h
  show t__law_braid_right K w _ _ _ _ _ _ [some (.int s), some (.ref a), none, none, none] H
  have hsm : small s := by unfold small; omega
  have hnm : ∀ z ∈ ns, small z := fun z m => small_of_badL hs8 (hb z m)
  have hbe : braidErr s ns = none := by
    unfold braidErr
    rw [if_neg (fun z => z ⟨hs1, hs8⟩), if_neg, if_neg (by omega)]
    intro h
    obtain ⟨z, m, e⟩ := List.any_eq_true.mp h
    rw [hb z m] at e
    cases e
  have okw := okWs_lineB hsm hnm
  have okl : PyData.strOk (line (lineB s ns)) = true := strOk_of (line_lt okw)
  unfold t__law_braid_right
  walk_at "go"
  refine ⟨by simp [sizeLine_eq], fun p hp => ?_⟩
  walk_at "go"
  have s1 : Same H (upd H p (.lst [.str "braid", .int s])) := same_new hp
  refine ⟨p, a, _, _, rfl, rfl, upd_same, s1 _ _ ha, by simp; exact sz_of (by omega), fun r hr => ?_⟩
  have s2 := s1.new (o := .lst ([.str "braid", .int s] ++ ns.map V.int)) hr
  walk_at "go"
  refine do_written (q := r) upd_same hsm hnm (by omega) fun H2 s3 => ?_
  have s4 := s2.trans s3
  walk_at "go"
  refine ⟨a, _, rfl, .inl (SqL.of (s4 _ _ ha)), fun m hm => ?_⟩
  have s5 := s4.new (o := .lst (ns.map V.int)) hm
  walk_at "go"
  refine do_mk upd_same hbe (by omega) fun b H5 s6 hb0 hbr => ?_
  have s7 := s5.trans s6
  have isb : IsBraid K H5 b s ns := by
    obtain ⟨dx, l, e1, e2⟩ := hbr
    exact ⟨dx, l, fresh_sub _ _ _ _ e1, fresh_sub _ _ _ _ e2⟩
  walk_at "go"
  refine ⟨b, s, ns, rfl, isb, by omega, hsm, hnm, fun H6 s8 => ?_⟩
  have s9 := s7.trans s8
  refine ⟨_, .str (line (lineB s ns)), rfl, .str _, trivial, fun v1 H8 s10 d1 => ?_⟩
  walk_at "go"
  refine ⟨_, .str (line (lineB s ns)), rfl, .str _, trivial, fun v2 H9 s11 d2 => ?_⟩
  refine neP_same (n := 0) ((d1.mono (fresh_sub _ _)).mono s11) (d2.mono (fresh_sub _ _)) (strD_ok okl) trivial (by omega) ?_
  walk_at "go"
  refine iteF ?_
  walk_at "go"
  have s12 := (s9.trans s10).trans s11
  obtain ⟨k1, k2, k3, k4⟩ := okLine_line okw (by simp [lineB]) (by simp [lineB]; omega)
  refine ⟨_, rfl, k1, k2, k3, k4, ?_⟩
  rw [readBraid_line hsm hnm, hbe]
  dsimp only
  intro b2 H10 s13 hb20 hbr2
  obtain ⟨dx, l, e1, e2⟩ := hbr2
  have f1 := fresh_sub _ _ _ _ e1
  have f2 := fresh_sub _ _ _ _ e2
  walk_at "go"
  refine ⟨.ref b2, .ref (He.ga K "Braid"), .ref (He.ga K "Braid"), .ref (He.ga K "Braid"), true, rfl, .own _, KH.tyOf_ins T.is_Braid T.cl_Braid f1, T.ki_Braid, ?_⟩
  walk_at "go"
  refine iteT ?_
  walk_at "go"
  refine ⟨b2, _, dx, _, _, rfl, f1, T.cl_Braid, T.na_Braid_strands, by rfl, ?_⟩
  walk_at "go"
  refine ⟨b2, _, dx, _, _, rfl, f1, T.cl_Braid, T.na_Braid_word, by rfl, ?_⟩
  walk_at "go"
  refine ⟨by simp [sizeLine_eq], fun u hu => ?_⟩
  walk_at "go"
  have s14 := (s12.trans s13).new (o := .lst [.int s, .ref l]) hu
  have hl : (upd H10 u (.lst [.int s, .ref l])) l = some (.lst (ns.map V.int)) := (same_new hu) _ _ f2
  refine ⟨_, .list [.int s, .list (ns.map PyData.int)], rfl, .lst (SqL.of upd_same) (.cons (.int s) (.cons (.lst (SqL.of hl) (DpAll.ints ns)) .nil)), ?_, fun v3 H11 s15 d3 => ?_⟩
  · refine ⟨by simp, fun d md => ?_⟩
    simp only [List.mem_cons, List.not_mem_nil, or_false] at md
    rcases md with rfl | rfl
    · trivial
    · refine ⟨by simp; omega, fun d md => ?_⟩
      obtain ⟨z, _, rfl⟩ := List.mem_map.mp md
      trivial
  walk_at "go"
  refine ⟨by simp [sizeLine_eq], fun x hx => ?_⟩
  walk_at "go"
  have s16 := (s14.trans s15).new (o := .lst [.int s, .ref a]) hx
  have ff : fits 2 (.list [.int s, .list (ns.map PyData.int)]) := by
    refine ⟨by simp, fun d md => ?_⟩
    simp only [List.mem_cons, List.not_mem_nil, or_false] at md
    rcases md with rfl | rfl
    · trivial
    · refine ⟨by simp; omega, fun d md => ?_⟩
      obtain ⟨z, _, rfl⟩ := List.mem_map.mp md
      trivial
  refine ⟨_, .list [.int s, .list (ns.map PyData.int)], rfl, .lst (SqL.of upd_same) (.cons (.int s) (.cons (.lst (SqL.of (s16 _ _ ha)) (DpAll.ints ns)) .nil)), fits_mono (by omega) ff, fun v4 H12 s17 d4 => ?_⟩
  refine eqP_same ((d3.mono (fresh_sub _ _)).mono ((same_new hx).trans s17)) (d4.mono (fresh_sub _ _)) ?_ ff (by omega) (k _ (s16.trans s17))
  simp only [PyData.canLay0, PyData.canLayAll0, Bool.true_and, Bool.and_true]
  rw [canLayAll0_iff]
  intro d md
  obtain ⟨z, _, rfl⟩ := List.mem_map.mp md
  rfl
end
end K57
end
/-! part S57k -/
section
set_option Elab.async false
set_option linter.all false
set_option maxRecDepth 100000
set_option maxHeartbeats 4000000
open PySem PySem.Spec PyProof.Rows L2 KN
local macro_rules | `(tactic| walk_at "st") => `(tactic| first
  | (with_reducible refine s_seq ?_) | (with_reducible refine s_asg ?_) | (with_reducible refine s_name ?_) | (with_reducible refine s_drop ?_) | (with_reducible refine s_ret ?_) | (with_reducible refine s_retN ?_)
  | (with_reducible refine s_next ?_) | (with_reducible refine s_brk ?_) | (with_reducible refine s_ct ?_) | (with_reducible refine s_if ?_) | ((with_reducible refine' s_var ?h ?_); (case h => rfl)) | (with_reducible refine s_c ?_)
  | (with_reducible refine s_op ?_) | (with_reducible refine s_rI0 ?_) | ((with_reducible refine s_rI ?h ?_); (case h => first | assumption | decide | (show (0 : Int) < _; omega) | exact ⟨by decide, by decide, by decide⟩ | exact cmul_small (by omega) (by omega) (by omega) (by omega) | exact cdiv_small (by omega) (by omega))) | (with_reducible refine s_un ?_) | (with_reducible refine s_rU ?_)
  | (with_reducible refine s_addIB ?_) | ((with_reducible refine' s_eq ?h ?_); (case h => first | rfl | decide)) | ((with_reducible refine' s_ne ?h ?_); (case h => first | rfl | decide)) | (with_reducible refine s_isN ?_) | (with_reducible refine s_notN ?_) | (with_reducible refine s_test ?_) | (with_reducible refine s_tB ?_)
  | (with_reducible refine s_bl ?_) | (with_reducible refine s_not ?_) | (with_reducible refine s_and ?_) | (with_reducible refine s_or ?_) | (with_reducible refine s_andV ?_) | (with_reducible refine s_orV ?_) | (with_reducible refine s_notV ?_)
  | (with_reducible refine s_ifE ?_) | (with_reducible refine s_cb ?_) | (with_reducible refine s_cons ?_) | (with_reducible refine s_nil ?_) | (with_reducible refine s_cl ?_) | (with_reducible refine s_clS ?_) | (with_reducible refine s_mk ?_) | (with_reducible refine s_mt ?_)
  | (with_reducible refine s_lst ?_) | (with_reducible refine s_tup ?_) | (with_reducible refine s_sl ?_) | (with_reducible refine s_noP ?_) | (with_reducible refine s_part ?_) | (with_reducible refine s_intE ?_) | (with_reducible refine s_bm ?_) | (with_reducible refine s_bm0 ?_)
  | (with_reducible refine s_m0 ?_) | (with_reducible refine s_m1 ?_) | (with_reducible refine s_strE ?_) | (with_reducible refine s_starts ?_) | (with_reducible refine s_isascii ?_) | (with_reducible refine s_isdigit ?_) | (with_reducible refine s_fld ?_)
  | (with_reducible refine s_abs ?_) | (with_reducible refine s_int1 ?_) | (with_reducible refine s_int1b ?_) | (with_reducible refine s_min2 ?_) | (with_reducible refine s_max2 ?_) | (with_reducible refine s_chain ?_) | (with_reducible refine s_blP ?_) | (with_reducible refine s_blV ?_) | (with_reducible refine s_blN ?_) | (with_reducible refine s_blG ?_) | (with_reducible refine s_intG ?_)
  | ((with_reducible refine' s_aug ?h ?_); (case h => rfl)) | (with_reducible refine s_par ?_) | (with_reducible refine s_two ?_) | (with_reducible refine s_frz ?_) | (with_reducible refine s_dnew ?_) | (with_reducible refine s_for ?_) | (with_reducible refine s_lc ?_) | (with_reducible refine s_joinS ?_) | (with_reducible refine s_gsub ?_) | (with_reducible refine s_kin ?_) | (with_reducible refine s_knotin ?_) | (with_reducible refine s_kget ?_) | (with_reducible refine s_setf ?_) | (with_reducible refine s_split ?_) | (with_reducible refine s_partn ?_) | (with_reducible refine s_vei ?_) | (with_reducible refine s_ost ?_) | (with_reducible refine s_rz ?_) | (with_reducible refine s_xm ?_) | (with_reducible refine s_rng1 ?_) | (with_reducible refine s_rng2 ?_) | (with_reducible refine s_iList ?_) | (with_reducible refine s_iTup ?_) | (with_reducible refine s_iSeq ?_) | (with_reducible refine s_iEnum ?_))
local macro_rules | `(tactic| walk_at "go") => `(tactic| repeat walk_at "st")
local macro_rules | `(tactic| walk_at "hp") => `(tactic| first
  | assumption
  | exact upd_same
  | (refine (upd_ne ?n).trans ?_; (case n => first | assumption | (apply Ne.symm; assumption) | exact ne_of_none (by walk_at "hp") (by assumption) | exact (ne_of_none (by walk_at "hp") (by assumption)).symm); walk_at "hp"))
namespace K57
open PySem PySem.Spec PyProof.Rows L2 KN
def S__law_braids_refused (K : PySem.W.Frag) (w : World) : Sp := fun vs H Q _ => ∃ (d a : Addr) (s : Int) (ns : List Int), vs = [.ref d, .int s, .ref a] ∧ Deck H d ∧ a ≠ d ∧ H a = some (.lst (ns.map V.int)) ∧ 1 ≤ s ∧ s ≤ 8 ∧ (∀ z ∈ ns, badL s z = false) ∧ ns.length ≤ 100 ∧ ∀ H', Go [d] H H' → Q (.bl true) H'
theorem len__law_braids_refused {K : PySem.W.Frag} {w : World} (vs : List V) (H : Hp) (Q : VK) (E : XK) (h : S__law_braids_refused K w vs H Q E) : vs.length = P__law_braids_refused.length := by
  obtain ⟨_, _, _, _, rfl, _⟩ := h
  rfl
theorem okVs_lineB {s : Int} {ns : List Int} (hs : small s) (hn : ∀ z ∈ ns, small z) : okVs (lineB s ns) := by
  have dv : ∀ {z : Int}, small z → okV (dec z) := fun {z} hz => by
    have h40 : z.natAbs < 10 ^ 40 := hz
    have := decL_len (k := 40) (by decide) h40
    have e : (dec z).length = (decL z).length := by rw [← tl_dec]; exact TL.len_tl _
    exact ⟨by omega, (okW_dec h40).2⟩
  intro w m
  rcases List.mem_cons.mp m with rfl | m
  · unfold okV; decide +kernel
  · rcases List.mem_cons.mp m with rfl | m
    · exact dv hs
    · obtain ⟨z, mz, rfl⟩ := List.mem_map.mp m
      exact dv (hn z mz)
section
variable {K : PySem.W.Frag} {mg : Str → Option Value} {w : World} {vs : List V} {H : Hp} {Q : VK} {E : XK}
/-- _law_why(0, _law_written(..)) of a refused braid -/
theorem do_why {σ : L2.St} {r : Addr} {s : Int} {ns : List Int} {H1 : Hp} {N : VK} {b : BErr} (hr : H1 r = some (.lst ([V.str "braid", .int s] ++ ns.map V.int))) (hs : small s) (hn : ∀ z ∈ ns, small z) (hz : ns.length ≤ 4000) (hb : braidErr s ns = some b)
    (k : ∀ p H', Same H1 H' → H' p = some (.tup (BWhy.err b).told) → N (.ref p) H') : S__law_written K w [.ref r] H1 (fun x H2 => tNil σ H2 fun xs H3 => S__law_why K w (.int 0 :: x :: xs) H3 N E0) E := by
  refine do_written (q := r) hr hs hn hz fun H2 s2 => ?_
  refine .inl ⟨_, .err b, rfl, okLine_line (okWs_lineB hs hn) (by simp [lineB]) (by simp [lineB]; omega), ?_, fun p H3 s3 _ hp => k p H3 (s2.trans s3) hp⟩
  rw [readBraid_line hs hn, hb]
theorem ne_told {p q : Addr} {a b : Str} {H1 : Hp} {N : VK} (hp : H1 p = some (.tup [.str a, .str b])) (hq : H1 q = some (.tup [.str a, .str b])) (ha : PyData.strOk a = true) (hb : PyData.strOk b = true) (k : N (.bl false) H1) : rNeD K (.ref p) (.ref q) H1 N := by
  refine neD_same (d := .tuple [.str a, .str b]) (.tup (SqT.of hp) (.cons (.str _) (.cons (.str _) .nil))) (.tup (SqT.of hq) (.cons (.str _) (.cons (.str _) .nil))) ?_ ?_ k
  · simp [PyData.canLay0, PyData.canLayAll0, ha, hb]
  · simp [PyData.depth, PyData.depthAll]
theorem told_line {p : Addr} {i : Int} {H1 : Hp} (hp : H1 p = some (.tup [.str "line", .int i])) : Dp K H1 (.ref p) (.tuple [.str "line", .int i]) := .tup (SqT.of hp) (.cons (.str _) (.cons (.int _) .nil))
theorem told_lay (i : Int) : (PyData.tuple [.str "line", .int i]).canLay0 = true := by
  have : PyData.strOk "line" = true := by decide +kernel
  simp [PyData.canLay0, PyData.canLayAll0, this]
theorem told_fits (i : Int) : fits 1 (PyData.tuple [.str "line", .int i]) := by
  refine ⟨by simp, fun d md => ?_⟩
  simp only [List.mem_cons, List.not_mem_nil, or_false] at md
  rcases md with rfl | rfl <;> trivial
theorem pure__law_braids_refused (h : S__law_braids_refused K w vs H Q E) : t__law_braids_refused K w (S__law_written K w) (S__law_bent K w) (S__law_why K w) (S__law_plain K w) (S__law_take K w) (S__law_braid_right K w) { nx := fun _ H' => Q .non H', rt := Q } (start N__law_braids_refused vs) H := by
  obtain ⟨d, a, s, ns, rfl, hD, had, ha, hs1, hs8, hb, hz, k⟩ := h
  show t__law_braids_refused K w _ _ _ _ _ _ _ [some (.ref d), some (.int s), some (.ref a), none, none, none, none] H
  have hsm : small s := by unfold small; omega
  have hnm : ∀ z ∈ ns, small z := fun z m => small_of_badL hs8 (hb z m)
  have na : a ∉ [d] := by simpa using had
  have g0 : Go [d] H H := Go.refl (deck1 hD)
  unfold t__law_braids_refused
  walk_at "go"
  refine ⟨by simp [sizeLine_eq], fun p hp => ?_⟩
  walk_at "go"
  have g1 := g0.new (o := .lst [.str "braid", .int s]) hp
  refine ⟨p, a, _, _, rfl, rfl, upd_same, g1.at ha na, by simp; exact sz_of (by omega), fun r hr => ?_⟩
  walk_at "go"
  have g2 := g1.new (o := .lst ([.str "braid", .int s] ++ ns.map V.int)) hr
  refine do_written (q := r) upd_same hsm hnm (by omega) fun H2 s3 => ?_
  have g3 := g2.and s3
  walk_at "go"
  refine ⟨d, _, rfl, g3.deck, okVs_lineB hsm hnm, by simp [lineB], by simp [lineB]; omega, fun ws' H3 g4 hsp hw hne hl => ?_⟩
  have g5 := g3.trans g4
  walk_at "go"
  refine .inl ⟨_, .line, rfl, okLine_line hw hne (by simp [lineB] at hl; omega), spoilt_braid hsp hw, fun q H4 s4 _ hq => ?_⟩
  have g6 := g5.and s4
  walk_at "go"
  refine ⟨_, _, rfl, told_line hq, fits_mono (by omega) (told_fits 0), fun v1 H5 s5 d1 => ?_⟩
  have g7 := g6.and s5
  walk_at "go"
  refine ⟨by simp [sizeLine_eq], fun t ht => ?_⟩
  walk_at "go"
  have g8 := g7.new (o := .tup [.str "line", .int 0]) ht
  refine ⟨_, _, rfl, told_line upd_same, fits_mono (by omega) (told_fits 0), fun v2 H6 s6 d2 => ?_⟩
  have g9 := g8.and s6
  refine neP_same ((d1.mono (fresh_sub _ _)).mono ((same_new ht).trans s6)) (d2.mono (fresh_sub _ _)) (told_lay 0) (told_fits 0) (by omega) ?_
  walk_at "go"
  refine iteF ?_
  walk_at "go"
  have ee : ("" : Str) = line [""] := rfl
  rw [ee]
  refine .inl ⟨_, .line, rfl, okLine_line (ws := [""]) (okWs_cons (okW_by (by decide +kernel)) fun w m => by cases m) (by simp) (by simp), ?_, fun q2 H7 s7 _ hq2 => ?_⟩
  · unfold readBraid
    rw [split_sp (by simp) (okWs_cons (okW_by (by decide +kernel)) fun w m => by cases m)]
    rfl
  have g10 := g9.and s7
  walk_at "go"
  refine ⟨by simp [sizeLine_eq], fun t2 ht2 => ?_⟩
  have g11 := g10.new (o := .tup [.str "line", .int 0]) ht2
  refine neD_same (told_line ((same_new ht2) _ _ hq2)) (told_line upd_same) (told_lay 0) (by simp [PyData.depth, PyData.depthAll]) ?_
  walk_at "go"
  refine iteF ?_
  walk_at "go"
  have e20 : (10 : Int) ^ (20 : Int).toNat = 100000000000000000000 := by decide
  rw [e20]
  refine ⟨by simp [sizeLine_eq], fun c1 hc1 => ?_⟩
  walk_at "go"
  have g12 := g11.new (o := .lst [.int 0, .int 9, .int (-1), .int 100000000000000000000]) hc1
  refine ⟨d, 4, rfl, g12.deck, by omega, fun t3 H8 g13 t30 t31 => ?_⟩
  have hc8 := g13.at upd_same (g11.out1 hc1)
  have g14 := g12.trans g13
  clear g13 g12 g11 g10 g9 g8 g7 g6 g5 g4 g3 g2
  refine pickN t30 (by simpa using t31) (SqL.of hc8) fun i v ei hv => ?_
  obtain ⟨so, rfl, hso, hsmo⟩ : ∃ so : Int, v = .int so ∧ ¬ (1 ≤ so ∧ so ≤ 8) ∧ small so := by
    match i, hv with
    | 0, hv => cases hv; exact ⟨0, rfl, by omega, by unfold small; decide⟩
    | 1, hv => cases hv; exact ⟨9, rfl, by omega, by unfold small; decide⟩
    | 2, hv => cases hv; exact ⟨-1, rfl, by omega, by unfold small; decide⟩
    | 3, hv => cases hv; exact ⟨100000000000000000000, rfl, by omega, by unfold small; decide⟩
    | i + 4, hv => cases hv
  walk_at "go"
  have ha8 := g14.at ha na
  refine ⟨by simp [sizeLine_eq], fun p2 hp2 => ?_⟩
  walk_at "go"
  have g15 := g14.new (o := .lst [.str "braid", .int so]) hp2
  refine ⟨p2, a, _, _, rfl, rfl, upd_same, g15.at ha na, by simp; exact sz_of (by omega), fun r2 hr2 => ?_⟩
  walk_at "go"
  have g16 := g15.new (o := .lst ([.str "braid", .int so] ++ ns.map V.int)) hr2
  refine do_why (b := .strands) upd_same hsmo hnm (by omega) (by unfold braidErr; rw [if_pos hso]) fun q3 H9 s9 hq3 => ?_
  have g17 := g16.and s9
  walk_at "go"
  refine ⟨by simp [sizeLine_eq], fun t4 ht4 => ?_⟩
  have g18 := g17.new (o := .tup [.str "braid", .str "strands"]) ht4
  refine ne_told ((same_new ht4) _ _ hq3) upd_same (by decide +kernel) (by decide +kernel) ?_
  walk_at "go"
  refine iteF ?_
  walk_at "go"
  refine ⟨a, _, rfl, .inl (SqL.of (g18.at ha na)), ?_⟩
  walk_at "go"
  refine ⟨d, _, rfl, g18.deck, by rw [List.length_map]; omega, fun pl H10 g19 pl0 pl1 => ?_⟩
  have g20 := g18.trans g19
  rw [List.length_map] at pl1
  obtain ⟨n, rfl, hn⟩ : ∃ n : Nat, pl = n ∧ n ≤ ns.length := ⟨pl.toNat, by omega, by omega⟩
  walk_at "go"
  have e39 : (10 : Int) ^ (39 : Int).toNat = 1000000000000000000000000000000000000000 := by decide
  rw [e39]
  refine ⟨by simp [sizeLine_eq], fun c2 hc2 => ?_⟩
  walk_at "go"
  have g21 := g20.new (o := .lst [.int 0, .int s, .int (-s), .int 1000000000000000000000000000000000000000]) hc2
  refine ⟨d, 4, rfl, g21.deck, by omega, fun t5 H11 g22 t50 t51 => ?_⟩
  have hc11 := g22.at upd_same (g20.out1 hc2)
  have g23 := g21.trans g22
  clear g22 g21 g20 g19 g18 g17 g16 g15 g14
  refine pickN t50 (by simpa using t51) (SqL.of hc11) fun i2 v2 ei2 hv2 => ?_
  obtain ⟨le, rfl, hle, hsml⟩ : ∃ le : Int, v2 = .int le ∧ badL s le = true ∧ small le := by
    match i2, hv2 with
    | 0, hv => cases hv; exact ⟨0, rfl, by unfold badL; rfl, by unfold small; decide⟩
    | 1, hv => cases hv; exact ⟨s, rfl, by unfold badL; rw [Bool.or_eq_true]; right; rw [decide_eq_true_iff]; split <;> omega, hsm⟩
    | 2, hv => cases hv; exact ⟨-s, rfl, by unfold badL; rw [Bool.or_eq_true]; right; rw [decide_eq_true_iff]; split <;> omega, by unfold small at hsm ⊢; omega⟩
    | 3, hv => cases hv; exact ⟨1000000000000000000000000000000000000000, rfl, by unfold badL; rw [Bool.or_eq_true]; right; rw [decide_eq_true_iff]; split <;> omega, by unfold small; decide⟩
    | i + 4, hv => cases hv
  walk_at "go"
  have ha11 := g23.at ha na
  refine ⟨by simp [sizeLine_eq], fun p3 hp3 => ?_⟩
  walk_at "go"
  have s3 : Same H11 (upd H11 p3 (.lst [.str "braid", .int s])) := same_new hp3
  have hp3' : (upd H11 p3 (.lst [.str "braid", .int s])) p3 = some (.lst [.str "braid", .int s]) := upd_same
  generalize (upd H11 p3 (.lst [.str "braid", .int s])) = H12 at *
  refine ⟨a, _, rfl, SqL.of (s3 _ _ ha11), fun p4 hp4 => ?_⟩
  rw [cutT, ← List.map_take]
  have s4 := s3.new (o := .lst ((ns.take n).map V.int)) hp4
  have hp3'' := (same_new (o := .lst ((ns.take n).map V.int)) hp4) _ _ hp3'
  have hp4' : (upd H12 p4 (.lst ((ns.take n).map V.int))) p4 = some (.lst ((ns.take n).map V.int)) := upd_same
  generalize (upd H12 p4 (.lst ((ns.take n).map V.int))) = H13 at *
  refine ⟨p3, p4, _, _, rfl, rfl, hp3'', hp4', by simp; exact sz_of (by omega), fun p5 hp5 => ?_⟩
  walk_at "go"
  have s5 := s4.new (o := .lst ([.str "braid", .int s] ++ (ns.take n).map V.int)) hp5
  have hp5' : (upd H13 p5 (.lst ([.str "braid", .int s] ++ (ns.take n).map V.int))) p5 = some (.lst ([.str "braid", .int s] ++ (ns.take n).map V.int)) := upd_same
  generalize (upd H13 p5 (.lst ([.str "braid", .int s] ++ (ns.take n).map V.int))) = H14 at *
  refine ⟨by simp [sizeLine_eq], fun p6 hp6 => ?_⟩
  have s6 := s5.new (o := .lst [.int le]) hp6
  have hp5'' := (same_new (o := .lst [.int le]) hp6) _ _ hp5'
  have hp6' : (upd H14 p6 (.lst [.int le])) p6 = some (.lst [.int le]) := upd_same
  generalize (upd H14 p6 (.lst [.int le])) = H15 at *
  refine ⟨p5, p6, _, _, rfl, rfl, hp5'', hp6', by simp; exact sz_of (by omega), fun p7 hp7 => ?_⟩
  walk_at "go"
  have s7 := s6.new (o := .lst ([.str "braid", .int s] ++ (ns.take n).map V.int ++ [.int le])) hp7
  have hp7' : (upd H15 p7 (.lst ([.str "braid", .int s] ++ (ns.take n).map V.int ++ [.int le]))) p7 = some (.lst ([.str "braid", .int s] ++ (ns.take n).map V.int ++ [.int le])) := upd_same
  generalize (upd H15 p7 (.lst ([.str "braid", .int s] ++ (ns.take n).map V.int ++ [.int le]))) = H16 at *
  refine ⟨a, _, rfl, SqL.of (s7 _ _ ha11), fun p8 hp8 => ?_⟩
  rw [cutN, ← List.map_drop]
  have s8 := s7.new (o := .lst ((ns.drop n).map V.int)) hp8
  have hp7'' := (same_new (o := .lst ((ns.drop n).map V.int)) hp8) _ _ hp7'
  have hp8' : (upd H16 p8 (.lst ((ns.drop n).map V.int))) p8 = some (.lst ((ns.drop n).map V.int)) := upd_same
  generalize (upd H16 p8 (.lst ((ns.drop n).map V.int))) = H17 at *
  refine ⟨p7, p8, _, _, rfl, rfl, hp7'', hp8', by simp; exact sz_of (by omega), fun p9 hp9 => ?_⟩
  walk_at "go"
  have e9 : ([.str "braid", .int s] ++ (ns.take n).map V.int ++ [.int le] ++ (ns.drop n).map V.int : List V) = [.str "braid", .int s] ++ (ns.take n ++ le :: ns.drop n).map V.int := by
    simp
  rw [e9]
  have g24 := (g23.and s8).new (o := .lst ([.str "braid", .int s] ++ (ns.take n ++ le :: ns.drop n).map V.int)) hp9
  have hnm2 : ∀ z ∈ ns.take n ++ le :: ns.drop n, small z := by
    intro z m
    rcases List.mem_append.mp m with m | m
    · exact hnm z (List.mem_of_mem_take m)
    · rcases List.mem_cons.mp m with rfl | m
      · exact hsml
      · exact hnm z (List.mem_of_mem_drop m)
  refine do_why (b := .word) upd_same hsm hnm2 (by simp; omega) ?_ fun q4 H18 s18 hq4 => ?_
  · unfold braidErr
    rw [if_neg (fun z => z ⟨hs1, hs8⟩), if_pos]
    rw [List.any_append, List.any_cons, hle]
    simp
  have g25 := g24.and s18
  walk_at "go"
  refine ⟨by simp [sizeLine_eq], fun t6 ht6 => ?_⟩
  have g26 := g25.new (o := .tup [.str "braid", .str "word"]) ht6
  refine ne_told ((same_new ht6) _ _ hq4) upd_same (by decide +kernel) (by decide +kernel) ?_
  walk_at "go"
  refine iteF ?_
  walk_at "go"
  refine ⟨d, 10, rfl, g26.deck, by omega, fun t7 H19 g27 t70 t71 => ?_⟩
  have g28 := g26.trans g27
  walk_at "go"
  refine ite_dec (fun e0 => ?_) (fun e0 => ?_)
  · walk_at "go"
    refine ⟨by simp [sizeLine_eq], fun b1 hb1 => ?_⟩
    walk_at "go"
    have g29 := g28.new (o := .lst [.str "braid", .int 3]) hb1
    have hb1' : (upd H19 b1 (.lst [.str "braid", .int 3])) b1 = some (.lst [.str "braid", .int 3]) := upd_same
    generalize (upd H19 b1 (.lst [.str "braid", .int 3])) = H20 at *
    refine ⟨by simp [sizeLine_eq], fun b2 hb2 => ?_⟩
    walk_at "go"
    have g30 := g29.new (o := .lst [.int 1, .int (-2), .int 2]) hb2
    have hb1'' := (same_new (o := .lst [.int 1, .int (-2), .int 2]) hb2) _ _ hb1'
    have hb2' : (upd H20 b2 (.lst [.int 1, .int (-2), .int 2])) b2 = some (.lst [.int 1, .int (-2), .int 2]) := upd_same
    generalize (upd H20 b2 (.lst [.int 1, .int (-2), .int 2])) = H21 at *
    refine ⟨b2, 667, _, rfl, rfl, hb2', by omega, by omega, by decide +kernel, fun b3 hb3 => ?_⟩
    have er : ((List.replicate (667 : Int).toNat [V.int 1, .int (-2), .int 2]).flatten : List V) = ((List.replicate 667 [(1 : Int), -2, 2]).flatten).map V.int := by
      rw [List.map_flatten, List.map_replicate]
      rfl
    rw [er]
    have hall : ∀ z ∈ (List.replicate 667 [(1 : Int), -2, 2]).flatten, badL 3 z = false := by
      intro z m
      obtain ⟨l, hl, ml⟩ := List.mem_flatten.mp m
      rw [List.eq_of_mem_replicate hl] at ml
      simp only [List.mem_cons, List.not_mem_nil, or_false] at ml
      rcases ml with rfl | rfl | rfl <;> rfl
    have hlen : ((List.replicate 667 [(1 : Int), -2, 2]).flatten).length = 2001 := by
      rw [List.length_flatten, List.map_replicate, List.sum_replicate_nat]
      rfl
    generalize (List.replicate 667 [(1 : Int), -2, 2]).flatten = big at *
    have g31 := g30.new (o := .lst (big.map V.int)) hb3
    have hb13 := (same_new (o := .lst (big.map V.int)) hb3) _ _ hb1''
    refine ⟨b1, b3, _, _, rfl, rfl, hb13, upd_same, by simp; exact sz_of (by omega), fun b4 hb4 => ?_⟩
    walk_at "go"
    have g32 := g31.new (o := .lst ([.str "braid", .int 3] ++ big.map V.int)) hb4
    refine do_why (b := .many) upd_same (by unfold small; decide) (fun z m => small_of_badL (s := 3) (by omega) (hall z m)) (by omega) ?_ fun q5 H22 s22 hq5 => ?_
    · unfold braidErr
      rw [if_neg (by omega), if_neg, if_pos (by omega)]
      intro h
      obtain ⟨z, m, e⟩ := List.any_eq_true.mp h
      rw [hall z m] at e
      cases e
    have g33 := g32.and s22
    walk_at "go"
    refine ⟨by simp [sizeLine_eq], fun t8 ht8 => ?_⟩
    have g34 := g33.new (o := .tup [.str "many", .str "letters"]) ht8
    refine ne_told ((same_new ht8) _ _ hq5) upd_same (by decide +kernel) (by decide +kernel) ?_
    walk_at "go"
    refine iteF ?_
    walk_at "go"
    refine ⟨by simp [sizeLine_eq], fun f1 hf1 => ?_⟩
    walk_at "go"
    have g35 := g34.new (o := .lst [.int 1, .int (-2)]) hf1
    refine ⟨f1, 1000, _, rfl, rfl, upd_same, by omega, by omega, by decide +kernel, fun f2 hf2 => ?_⟩
    have er2 : ((List.replicate (1000 : Int).toNat [V.int 1, .int (-2)]).flatten : List V) = ((List.replicate 1000 [(1 : Int), -2]).flatten).map V.int := by
      rw [List.map_flatten, List.map_replicate]
      rfl
    rw [er2]
    have g36 := g35.new (o := .lst (((List.replicate 1000 [(1 : Int), -2]).flatten).map V.int)) hf2
    walk_at "go"
    refine ⟨f2, 3, (List.replicate 1000 [(1 : Int), -2]).flatten, rfl, upd_same, by omega, by omega, ?_, ?_, fun H23 s23 => k _ (g36.and s23)⟩
    · intro z m
      obtain ⟨l, hl, ml⟩ := List.mem_flatten.mp m
      rw [List.eq_of_mem_replicate hl] at ml
      simp only [List.mem_cons, List.not_mem_nil, or_false] at ml
      rcases ml with rfl | rfl <;> rfl
    · rw [List.length_flatten, List.map_replicate, List.sum_replicate_nat]
      decide
  · walk_at "go"
    exact k _ g28
end
end K57
end
/-! part S57l -/
section
set_option Elab.async false
set_option linter.all false
set_option maxRecDepth 100000
set_option maxHeartbeats 4000000
open PySem PySem.Spec PyProof.Rows L2 KN
local macro_rules | `(tactic| walk_at "st") => `(tactic| first
  | (with_reducible refine s_seq ?_) | (with_reducible refine s_asg ?_) | (with_reducible refine s_name ?_) | (with_reducible refine s_drop ?_) | (with_reducible refine s_ret ?_) | (with_reducible refine s_retN ?_)
  | (with_reducible refine s_next ?_) | (with_reducible refine s_brk ?_) | (with_reducible refine s_ct ?_) | (with_reducible refine s_if ?_) | ((with_reducible refine' s_var ?h ?_); (case h => rfl)) | (with_reducible refine s_c ?_)
  | (with_reducible refine s_op ?_) | (with_reducible refine s_rI0 ?_) | ((with_reducible refine s_rI ?h ?_); (case h => first | assumption | decide | (show (0 : Int) < _; omega) | exact ⟨by decide, by decide, by decide⟩ | exact cmul_small (by omega) (by omega) (by omega) (by omega) | exact cdiv_small (by omega) (by omega))) | (with_reducible refine s_un ?_) | (with_reducible refine s_rU ?_)
  | (with_reducible refine s_addIB ?_) | ((with_reducible refine' s_eq ?h ?_); (case h => first | rfl | decide)) | ((with_reducible refine' s_ne ?h ?_); (case h => first | rfl | decide)) | (with_reducible refine s_isN ?_) | (with_reducible refine s_notN ?_) | (with_reducible refine s_test ?_) | (with_reducible refine s_tB ?_)
  | (with_reducible refine s_bl ?_) | (with_reducible refine s_not ?_) | (with_reducible refine s_and ?_) | (with_reducible refine s_or ?_) | (with_reducible refine s_andV ?_) | (with_reducible refine s_orV ?_) | (with_reducible refine s_notV ?_)
  | (with_reducible refine s_ifE ?_) | (with_reducible refine s_cb ?_) | (with_reducible refine s_cons ?_) | (with_reducible refine s_nil ?_) | (with_reducible refine s_cl ?_) | (with_reducible refine s_clS ?_) | (with_reducible refine s_mk ?_) | (with_reducible refine s_mt ?_)
  | (with_reducible refine s_lst ?_) | (with_reducible refine s_tup ?_) | (with_reducible refine s_sl ?_) | (with_reducible refine s_noP ?_) | (with_reducible refine s_part ?_) | (with_reducible refine s_intE ?_) | (with_reducible refine s_bm ?_) | (with_reducible refine s_bm0 ?_)
  | (with_reducible refine s_m0 ?_) | (with_reducible refine s_m1 ?_) | (with_reducible refine s_strE ?_) | (with_reducible refine s_starts ?_) | (with_reducible refine s_isascii ?_) | (with_reducible refine s_isdigit ?_) | (with_reducible refine s_fld ?_)
  | (with_reducible refine s_abs ?_) | (with_reducible refine s_int1 ?_) | (with_reducible refine s_int1b ?_) | (with_reducible refine s_min2 ?_) | (with_reducible refine s_max2 ?_) | (with_reducible refine s_chain ?_) | (with_reducible refine s_blP ?_) | (with_reducible refine s_blV ?_) | (with_reducible refine s_blN ?_) | (with_reducible refine s_blG ?_) | (with_reducible refine s_intG ?_)
  | ((with_reducible refine' s_aug ?h ?_); (case h => rfl)) | (with_reducible refine s_par ?_) | (with_reducible refine s_two ?_) | (with_reducible refine s_frz ?_) | (with_reducible refine s_dnew ?_) | (with_reducible refine s_for ?_) | (with_reducible refine s_lc ?_) | (with_reducible refine s_joinS ?_) | (with_reducible refine s_gsub ?_) | (with_reducible refine s_kin ?_) | (with_reducible refine s_knotin ?_) | (with_reducible refine s_kget ?_) | (with_reducible refine s_setf ?_) | (with_reducible refine s_split ?_) | (with_reducible refine s_partn ?_) | (with_reducible refine s_vei ?_) | (with_reducible refine s_ost ?_) | (with_reducible refine s_rz ?_) | (with_reducible refine s_xm ?_) | (with_reducible refine s_rng1 ?_) | (with_reducible refine s_rng2 ?_) | (with_reducible refine s_iList ?_) | (with_reducible refine s_iTup ?_) | (with_reducible refine s_iSeq ?_) | (with_reducible refine s_iEnum ?_))
local macro_rules | `(tactic| walk_at "go") => `(tactic| repeat walk_at "st")
local macro_rules | `(tactic| walk_at "hp") => `(tactic| first
  | assumption
  | exact upd_same
  | (refine (upd_ne ?n).trans ?_; (case n => first | assumption | (apply Ne.symm; assumption) | exact ne_of_none (by walk_at "hp") (by assumption) | exact (ne_of_none (by walk_at "hp") (by assumption)).symm); walk_at "hp"))
namespace K57
open PySem PySem.Spec PyProof.Rows L2 KN
theorem goodM_ok {m : Move} (h : goodM m) : okM m := by
  obtain ⟨hv, h1, h4⟩ := goodM_V h
  exact ⟨(hv m.1 List.mem_cons_self).w, by omega, h.2.1⟩
theorem readL_wordO {o : Option Int} (h : okO o) : readL (tl (wordO o)) = o := by
  cases o with
  | none => show readL (tl ("none" : Str)) = none; decide +kernel
  | some z => show readL (tl (dec z)) = some z; rw [tl_dec]; exact readL_dec h
theorem rdM_line {m : Move} (h : goodM m) : rdM (line (moveW m)) = some m := by
  have okw := okWs_move (goodM_ok h)
  show readMove (Txt.split (line (moveW m)) " ") = some m
  rw [split_sp (by simp [moveW]) okw]
  have ei : ((m.2.map wordO).map fun w => readL (tl w)) = m.2 := by
    rw [List.map_map]
    have : ∀ os : List (Option Int), (∀ o ∈ os, okO o) → os.map ((fun w => readL (tl w)) ∘ wordO) = os := by
      intro os ho
      induction os with
      | nil => rfl
      | cons o r ih =>
        rw [List.map_cons, ih fun x m => ho x (List.mem_cons_of_mem _ m)]
        show readL (tl (wordO o)) :: r = o :: r
        rw [readL_wordO (ho o List.mem_cons_self)]
    exact this m.2 h.2.1
  unfold readMove moveW
  dsimp only
  rw [if_pos (by rw [h.1, List.length_map]), ei, if_neg]
  intro hany
  obtain ⟨o, mo, eo⟩ := List.any_eq_true.mp hany
  rw [Option.isNone_iff_eq_none] at eo
  subst eo
  obtain ⟨j, hj⟩ := List.getElem?_of_mem mo
  rw [List.getElem?_drop] at hj
  obtain ⟨h0, hc⟩ := h.2.2 _ hj
  have hf : freeB m.1 (m.2.map wordO) = true := by
    unfold freeB
    rw [Bool.and_eq_true, decide_eq_true_iff, decide_eq_true_iff]
    refine ⟨hc, ?_⟩
    have e0 : m.2[0]? = some none := by rw [← h0]; exact hj
    have e1 : (m.2.map wordO)[0]? = some ("none" : Str) := by rw [List.getElem?_map, e0]; rfl
    rw [← e1]
    cases m.2.map wordO <;> rfl
  rw [if_pos hf] at h0
  omega
theorem moveD_lay {m : Move} (h : okM m) : (moveD m).canLay0 = true := by
  have h1 : PyData.strOk m.1 = true := strOk_of fun c mc => (h.1.2 c mc).2
  have h2 : PyData.canLayAll0 (m.2.map optD) = true := by
    rw [canLayAll0_iff]
    intro d md
    obtain ⟨o, _, rfl⟩ := List.mem_map.mp md
    cases o <;> rfl
  simp [moveD, PyData.canLay0, PyData.canLayAll0, h1, h2]
theorem moves_lay {ms : List Move} (h : ∀ m ∈ ms, okM m) : (PyData.list (ms.map moveD)).canLay0 = true := by
  simp only [PyData.canLay0]
  rw [canLayAll0_iff]
  intro d md
  obtain ⟨m, mm, rfl⟩ := List.mem_map.mp md
  exact moveD_lay (h m mm)
theorem moves_fits {ms : List Move} (h : ∀ m ∈ ms, okM m) (hz : ms.length ≤ 1000) : fits 2 (PyData.list (ms.map moveD)) := by
  refine ⟨by simp; omega, fun d md => ?_⟩
  obtain ⟨m, mm, rfl⟩ := List.mem_map.mp md
  refine ⟨by have := (h m mm).2.1; simp; omega, fun d md => ?_⟩
  rcases List.mem_cons.mp md with rfl | md
  · trivial
  · obtain ⟨o, _, rfl⟩ := List.mem_map.mp md
    cases o <;> trivial
theorem strs_lay {ls : List Str} (h : ∀ x ∈ ls, PyData.strOk x = true) : (PyData.list (ls.map PyData.str)).canLay0 = true := by
  simp only [PyData.canLay0]
  rw [canLayAll0_iff]
  intro d md
  obtain ⟨x, mx, rfl⟩ := List.mem_map.mp md
  exact strD_ok (h x mx)
theorem strs_fits {ls : List Str} (hz : ls.length ≤ 1000) : fits 1 (PyData.list (ls.map PyData.str)) := by
  refine ⟨by simp; omega, fun d md => ?_⟩
  obtain ⟨x, mx, rfl⟩ := List.mem_map.mp md
  trivial
section
variable {K : PySem.W.Frag} {H : Hp}
theorem flat_sep {n : Nat} {v : V} (h : flt1 v) : Sep K H n v [] := by
  cases n with
  | zero => exact ⟨h, rfl⟩
  | succ n => exact .inl ⟨h, rfl⟩
theorem nils_flat (n : Nat) : (List.replicate n ([] : List Addr)).flatten = [] := by
  induction n with
  | zero => rfl
  | succ n ih => rw [List.replicate_succ, List.flatten_cons, ih]; rfl
theorem nils_pw (n : Nat) : (List.replicate n ([] : List Addr)).Pairwise Disj := by
  induction n with
  | zero => exact .nil
  | succ n ih =>
    rw [List.replicate_succ]
    exact .cons (fun l ml => by intro x m; cases m) ih
/-- a list of its own, its items without lists -/
theorem sep_list {n : Nat} {p : Addr} {xs : List V} (hp : H p = some (.lst xs)) (hz : xs.length ≤ 50000) (hx : ∀ (i : Nat) (x : V), xs[i]? = some x → Sep K H n x []) : Sep K H (n + 1) (.ref p) [p] := by
  refine .inr (.inl ⟨p, xs, List.replicate xs.length [], rfl, hp, hz, by rw [nils_flat], by rw [nils_flat]; simp, by simp, ?_, nils_pw _⟩)
  intro i x l hx' hl
  have : l = [] := by
    rw [List.getElem?_replicate] at hl
    split at hl
    · exact (Option.some.inj hl).symm
    · cases hl
  subst this
  exact hx i x hx'
theorem sep_tup {n : Nat} {p : Addr} {xs : List V} (hp : SqT K H p xs) (hx : ∀ (i : Nat) (x : V), xs[i]? = some x → Sep K H n x []) : Sep K H (n + 1) (.ref p) [] := by
  refine .inr (.inr ⟨p, xs, List.replicate xs.length [], rfl, hp, by rw [nils_flat], by simp, ?_, nils_pw _⟩)
  intro i x l hx' hl
  have : l = [] := by
    rw [List.getElem?_replicate] at hl
    split at hl
    · exact (Option.some.inj hl).symm
    · cases hl
  subst this
  exact hx i x hx'
theorem sep_two {n : Nat} {q a b : Addr} (hq : H q = some (.lst [.ref a, .ref b])) (ha : Sep K H n (.ref a) [a]) (hb : Sep K H n (.ref b) [b]) (h1 : q ≠ a) (h2 : q ≠ b) (h3 : a ≠ b) : Sep K H (n + 1) (.ref q) [q, a, b] := by
  refine .inr (.inl ⟨q, _, [[a], [b]], rfl, hq, by simp, rfl, by simp [h1, h2], rfl, ?_, ?_⟩)
  · intro i x l hx hl
    match i, hx, hl with
    | 0, hx, hl => cases hx; cases hl; exact ha
    | 1, hx, hl => cases hx; cases hl; exact hb
  · refine .cons ?_ (.cons (fun _ m => by cases m) .nil)
    intro l ml x mx
    rw [List.mem_singleton] at ml mx
    subst ml mx
    simpa using h3
end
theorem exists_min : ∀ {zs : List Int}, zs ≠ [] → ∃ m ∈ zs, ∀ y ∈ zs, m ≤ y
  | [], h => absurd rfl h
  | [z], _ => ⟨z, by simp, by simp⟩
  | z :: y :: r, _ => by
    obtain ⟨m, mm, hm⟩ := exists_min (zs := y :: r) (by simp)
    by_cases h : z ≤ m
    · refine ⟨z, by simp, fun x mx => ?_⟩
      rcases List.mem_cons.mp mx with rfl | mx
      · exact Int.le_refl _
      · exact Int.le_trans h (hm x mx)
    · refine ⟨m, List.mem_cons_of_mem _ mm, fun x mx => ?_⟩
      rcases List.mem_cons.mp mx with rfl | mx
      · omega
      · exact hm x mx
def S_law (K : PySem.W.Frag) (w : World) : Sp := fun vs H Q _ => ∃ (a : Addr) (ns : List Int), vs = [.ref a] ∧ SqL K H a (ns.map V.int) ∧ ns.length ≤ 63 ∧ ∀ H', Q (.bl true) H'
theorem len_law {K : PySem.W.Frag} {w : World} (vs : List V) (H : Hp) (Q : VK) (E : XK) (h : S_law K w vs H Q E) : vs.length = P_law.length := by
  obtain ⟨_, _, rfl, _⟩ := h
  rfl
theorem law_start {K : PySem.W.Frag} {w : World} {a : Addr} {ns : List Int} {H : Hp} (hS : SqL K H a (ns.map V.int)) (hl : ns.length ≤ 63) : S_law K w [.ref a] H (fun v _ => v = .bl true) (fun _ _ _ => False) :=
  ⟨a, ns, rfl, hS, hl, fun _ => rfl⟩
/-- the given lines, some of them bent -/
def Given (ls gs : List Str) (done : List Int) : Prop := gs.length = ls.length ∧ ∀ (j : Nat) (x : Str), gs[j]? = some x → okLine x ∧ (((j : Int) ∈ done ∧ rdM x = none) ∨ ((j : Int) ∉ done ∧ ls[j]? = some x))
section
variable {K : PySem.W.Frag} {mg : Str → Option Value} {w : World} {vs : List V} {H : Hp} {Q : VK} {E : XK}
/-- what stays: moves mv, lines ln, deck d -/
structure Stays (K : PySem.W.Frag) (H : Hp) (d mv ln : Addr) (xs : List V) (ms : List Move) : Prop where
  deck : Deck H d
  hmv : H mv = some (.lst xs)
  nm : mv ≠ d
  hln : H ln = some (.lst (ms.map fun m => V.str (line (moveW m))))
  nl : ln ≠ d
  dat : DpAll K (hide [d] H) xs (ms.map moveD)
theorem Stays.go {H H' : Hp} {d mv ln : Addr} {xs : List V} {ms : List Move} (s : Stays K H d mv ln xs ms) (g : Go [d] H H') : Stays K H' d mv ln xs ms :=
  ⟨g.deck, g.at s.hmv (by simpa using s.nm), s.nm, g.at s.hln (by simpa using s.nl), s.nl, s.dat.mono g.hide⟩
theorem Stays.same {H H' : Hp} {d mv ln : Addr} {xs : List V} {ms : List Move} (s : Stays K H d mv ln xs ms) (g : Same H H') : Stays K H' d mv ln xs ms := s.go (Go.of (deck1 s.deck) g)
theorem Stays.data {H : Hp} {d mv ln : Addr} {xs : List V} {ms : List Move} (s : Stays K H d mv ln xs ms) : DpAll K H xs (ms.map moveD) := s.dat.mono (hide_sub _ _)
/-- the deck and the lines -/
structure Stay0 (K : PySem.W.Frag) (H : Hp) (d ln : Addr) (ms : List Move) : Prop where
  deck : Deck H d
  hln : H ln = some (.lst (ms.map fun m => V.str (line (moveW m))))
  nl : ln ≠ d
theorem Stay0.go {H H' : Hp} {d ln : Addr} {ms : List Move} (s : Stay0 K H d ln ms) (g : Go [d] H H') : Stay0 K H' d ln ms :=
  ⟨g.deck, g.at s.hln (by simpa using s.nl), s.nl⟩
theorem Stays.zero {H : Hp} {d mv ln : Addr} {xs : List V} {ms : List Move} (s : Stays K H d mv ln xs ms) : Stay0 K H d ln ms := ⟨s.deck, s.hln, s.nl⟩
theorem law_end {mv ln hd gv pl : Addr} {ms : List Move} {zs : List Int} {gs : List Str} {o0 o1 o2 o3 o9 o10 o11 : Option V} (hg : H gv = some (.lst (gs.map V.str))) (hgv : Given (ms.map fun m => line (moveW m)) gs zs) (hpl : H pl = some (.lst (zs.map V.int))) (hz : zs ≠ []) (hzr : ∀ z ∈ zs, 0 ≤ z ∧ z < ms.length) (hm : ms.length ≤ 100) (hok : ∀ m ∈ ms, goodM m) (k : ∀ H', Q (.bl true) H') :
    (tRet (tOp (rEqD K) (tCl (S__law_plain K w) E0 (tCons (tCl (S__law_why K w) E0 (tCons (tC (.int 1)) (tCons (tVar 7) tNil))) tNil)) (tCl (S__law_plain K w) E0 (tCons (tTup (tCons (tC (.str "line")) (tCons (tCB (rMin K) (tCons (tVar 8) tNil)) tNil))) tNil)))) { nx := fun _ H' => Q .non H', rt := Q }
      [o0, o1, o2, o3, some (.ref mv), some (.ref ln), some (.ref hd), some (.ref gv), some (.ref pl), o9, o10, o11] H := by
  obtain ⟨m, mm, hmin⟩ := exists_min hz
  obtain ⟨hm0, hm1⟩ := hzr m mm
  obtain ⟨i, rfl⟩ : ∃ i : Nat, m = i := ⟨m.toNat, by omega⟩
  have hi : i < gs.length := by have := hgv.1; rw [List.length_map] at this; omega
  have hgi : gs[i]? = some gs[i] := List.getElem?_eq_getElem hi
  have hbad : rdM gs[i] = none := by
    rcases (hgv.2 i _ hgi).2 with ⟨_, h⟩ | ⟨h, _⟩
    · exact h
    · exact absurd mm h
  walk_at "go"
  refine .inr ⟨gv, gs, i, gs[i], rfl, SqL.of hg, by have := hgv.1; rw [List.length_map] at this; omega, ?_, hgi, hbad, ?_, fun p H1 s1 _ hp => ?_⟩
  · intro x mx
    obtain ⟨j, hj⟩ := List.getElem?_of_mem mx
    exact (hgv.2 j x hj).1
  · intro j y hj hy
    rcases (hgv.2 j y hy).2 with ⟨h, _⟩ | ⟨_, h⟩
    · have := hmin _ h
      omega
    · rw [List.getElem?_map] at h
      obtain ⟨mo, hmo, rfl⟩ := Option.map_eq_some_iff.mp h
      rw [rdM_line (hok mo (List.mem_of_getElem? hmo))]
      simp
  walk_at "go"
  refine ⟨_, _, rfl, told_line hp, fits_mono (by omega) (told_fits i), fun v1 H2 s2 d1 => ?_⟩
  walk_at "go"
  refine ⟨pl, zs, rfl, SqL.of ((s1.trans s2) _ _ hpl), List.length_pos_iff.mpr hz, fun m2 mm2 hmin2 => ?_⟩
  have e : m2 = i := by
    have h1 := hmin _ mm2
    have h2 := hmin2 _ mm
    omega
  subst e
  walk_at "go"
  refine ⟨by simp [sizeLine_eq], fun t ht => ?_⟩
  walk_at "go"
  refine ⟨_, _, rfl, told_line upd_same, fits_mono (by omega) (told_fits i), fun v2 H3 s3 d2 => ?_⟩
  exact eqP_same ((d1.mono (fresh_sub _ _)).mono ((same_new ht).trans s3)) (d2.mono (fresh_sub _ _)) (told_lay i) (told_fits i) (by omega) (k _)
end
end K57
end
/-! part S57m -/
section
set_option Elab.async false
set_option linter.all false
set_option maxRecDepth 100000
set_option maxHeartbeats 4000000
open PySem PySem.Spec PyProof.Rows L2 KN
local macro_rules | `(tactic| walk_at "st") => `(tactic| first
  | (with_reducible refine s_seq ?_) | (with_reducible refine s_asg ?_) | (with_reducible refine s_name ?_) | (with_reducible refine s_drop ?_) | (with_reducible refine s_ret ?_) | (with_reducible refine s_retN ?_)
  | (with_reducible refine s_next ?_) | (with_reducible refine s_brk ?_) | (with_reducible refine s_ct ?_) | (with_reducible refine s_if ?_) | ((with_reducible refine' s_var ?h ?_); (case h => rfl)) | (with_reducible refine s_c ?_)
  | (with_reducible refine s_op ?_) | (with_reducible refine s_rI0 ?_) | ((with_reducible refine s_rI ?h ?_); (case h => first | assumption | decide | (show (0 : Int) < _; omega) | exact ⟨by decide, by decide, by decide⟩ | exact cmul_small (by omega) (by omega) (by omega) (by omega) | exact cdiv_small (by omega) (by omega))) | (with_reducible refine s_un ?_) | (with_reducible refine s_rU ?_)
  | (with_reducible refine s_addIB ?_) | ((with_reducible refine' s_eq ?h ?_); (case h => first | rfl | decide)) | ((with_reducible refine' s_ne ?h ?_); (case h => first | rfl | decide)) | (with_reducible refine s_isN ?_) | (with_reducible refine s_notN ?_) | (with_reducible refine s_test ?_) | (with_reducible refine s_tB ?_)
  | (with_reducible refine s_bl ?_) | (with_reducible refine s_not ?_) | (with_reducible refine s_and ?_) | (with_reducible refine s_or ?_) | (with_reducible refine s_andV ?_) | (with_reducible refine s_orV ?_) | (with_reducible refine s_notV ?_)
  | (with_reducible refine s_ifE ?_) | (with_reducible refine s_cb ?_) | (with_reducible refine s_cons ?_) | (with_reducible refine s_nil ?_) | (with_reducible refine s_cl ?_) | (with_reducible refine s_clS ?_) | (with_reducible refine s_mk ?_) | (with_reducible refine s_mt ?_)
  | (with_reducible refine s_lst ?_) | (with_reducible refine s_tup ?_) | (with_reducible refine s_sl ?_) | (with_reducible refine s_noP ?_) | (with_reducible refine s_part ?_) | (with_reducible refine s_intE ?_) | (with_reducible refine s_bm ?_) | (with_reducible refine s_bm0 ?_)
  | (with_reducible refine s_m0 ?_) | (with_reducible refine s_m1 ?_) | (with_reducible refine s_strE ?_) | (with_reducible refine s_starts ?_) | (with_reducible refine s_isascii ?_) | (with_reducible refine s_isdigit ?_) | (with_reducible refine s_fld ?_)
  | (with_reducible refine s_abs ?_) | (with_reducible refine s_int1 ?_) | (with_reducible refine s_int1b ?_) | (with_reducible refine s_min2 ?_) | (with_reducible refine s_max2 ?_) | (with_reducible refine s_chain ?_) | (with_reducible refine s_blP ?_) | (with_reducible refine s_blV ?_) | (with_reducible refine s_blN ?_) | (with_reducible refine s_blG ?_) | (with_reducible refine s_intG ?_)
  | ((with_reducible refine' s_aug ?h ?_); (case h => rfl)) | (with_reducible refine s_par ?_) | (with_reducible refine s_two ?_) | (with_reducible refine s_frz ?_) | (with_reducible refine s_dnew ?_) | (with_reducible refine s_for ?_) | (with_reducible refine s_lc ?_) | (with_reducible refine s_joinS ?_) | (with_reducible refine s_gsub ?_) | (with_reducible refine s_kin ?_) | (with_reducible refine s_knotin ?_) | (with_reducible refine s_kget ?_) | (with_reducible refine s_setf ?_) | (with_reducible refine s_split ?_) | (with_reducible refine s_partn ?_) | (with_reducible refine s_vei ?_) | (with_reducible refine s_ost ?_) | (with_reducible refine s_rz ?_) | (with_reducible refine s_xm ?_) | (with_reducible refine s_rng1 ?_) | (with_reducible refine s_rng2 ?_) | (with_reducible refine s_iList ?_) | (with_reducible refine s_iTup ?_) | (with_reducible refine s_iSeq ?_) | (with_reducible refine s_iEnum ?_))
local macro_rules | `(tactic| walk_at "go") => `(tactic| repeat walk_at "st")
local macro_rules | `(tactic| walk_at "hp") => `(tactic| first
  | assumption
  | exact upd_same
  | (refine (upd_ne ?n).trans ?_; (case n => first | assumption | (apply Ne.symm; assumption) | exact ne_of_none (by walk_at "hp") (by assumption) | exact (ne_of_none (by walk_at "hp") (by assumption)).symm); walk_at "hp"))
namespace K57
open PySem PySem.Spec PyProof.Rows L2 KN
section
variable {K : PySem.W.Frag} {mg : Str → Option Value} {w : World} {vs : List V} {H : Hp} {Q : VK} {E : XK}
/-- from the places on -/
theorem law_places {d mv ln hd gv : Addr} {ms : List Move} {o0 o2 o3 o8 o9 o10 o11 : Option V} (st : Stay0 K H d ln ms) (hg : H gv = some (.lst (ms.map fun m => V.str (line (moveW m))))) (hgd : gv ≠ d) (hgl : gv ≠ ln) (hm : ms.length ≤ 100) (hm1 : 1 ≤ ms.length) (hok : ∀ m ∈ ms, goodM m) (k : ∀ H', Q (.bl true) H') :
    (tSeq (tAsg (tLc (iRng1 (tCons (tOp rAddI (tC (.int 1)) (tCl (S__law_take K w) E0 (tCons (tVar 1) (tCons (tC (.int 2)) tNil)))) tNil)) (gName 10) tYes (tCl (S__law_take K w) E0 (tCons (tVar 1) (tCons (tCB (rLenSq K) (tCons (tVar 5) tNil)) tNil))) [10]) (gName 8))
  (tSeq (tFor (iList K (tVar 8)) (gName 9)
  (tAsg (tCl (S__law_bent_move K w) E0 (tCons (tVar 1) (tCons (tOp (rIxL K) (tVar 5) (tVar 9)) tNil))) (gSub (tVar 7) (tVar 9) rSetL)))
  (tRet (tOp (rEqD K) (tCl (S__law_plain K w) E0 (tCons (tCl (S__law_why K w) E0 (tCons (tC (.int 1)) (tCons (tVar 7) tNil))) tNil)) (tCl (S__law_plain K w) E0 (tCons (tTup (tCons (tC (.str "line")) (tCons (tCB (rMin K) (tCons (tVar 8) tNil)) tNil))) tNil)))))) { nx := fun _ H' => Q .non H', rt := Q }
      [o0, some (.ref d), o2, o3, some (.ref mv), some (.ref ln), some (.ref hd), some (.ref gv), o8, o9, o10, o11] H := by
  walk_at "go"
  refine ⟨d, 2, rfl, st.deck, by omega, fun t H1 g1 t0 t1 => ?_⟩
  walk_at "go"
  obtain ⟨n, en, hn1, hn2⟩ : ∃ n : Nat, 1 + t = n ∧ 1 ≤ n ∧ n ≤ 2 := ⟨(1 + t).toNat, by omega, by omega, by omega⟩
  rw [en]
  refine ⟨n, rfl, by omega, by omega, ?_⟩
  rw [Int.toNat_natCast]
  have st1 := st.go g1
  refine lc_goR (S := [d]) (lo := 0) (n := n) (deck1 st1.deck) (by omega) (fun i ys F => ∃ zs : List Int, ys = zs.map V.int ∧ ∀ z ∈ zs, 0 ≤ z ∧ z < ms.length) (fun i ys F F' _ h => h) (fun _ _ => ⟨[], rfl, by simp⟩) ?_ ?_
  · rintro i ys D H' N hi hy gg hD hD0 ⟨zs, rfl, hs⟩ kN
    with_reducible refine s_name ?_
    refine ⟨rfl, ?_⟩
    have st2 := st1.go gg
    walk_at "go"
    refine ⟨ln, _, rfl, .inl (SqL.of st2.hln), ?_⟩
    walk_at "go"
    refine ⟨d, _, rfl, st2.deck, by rw [List.length_map]; omega, fun u H2 g2 u0 u1 => kN _ _ g2 ⟨zs ++ [u], by rw [List.map_append]; rfl, ?_⟩⟩
    rw [List.length_map] at u1
    intro y my
    rcases List.mem_append.mp my with my | my
    · exact hs y my
    · rw [List.mem_singleton.mp my]; exact ⟨u0, u1⟩
  · rintro ys pl H2 gg hD0 hD hy ⟨zs, rfl, hs⟩
    rw [List.length_map] at hy
    have st2 := st1.go gg
    have g2 := g1.trans gg
    have hg2 := g2.at hg (by simpa using hgd)
    have hpg : pl ≠ gv := fun e => by rw [e, g1.at hg (by simpa using hgd)] at hD0; cases hD0
    have hpd : pl ≠ d := fun e => by rw [e] at hD0; exact st1.deck.some hD0
    walk_at "go"
    refine ⟨pl, rfl, ⟨_, SqL.of hD⟩, ?_⟩
    refine f_list (xs := zs.map V.int) (fun i σ H' => ∃ (o : Option V) (o' : Option V) (gs : List Str), σ = [o0, some (.ref d), o2, o3, some (.ref mv), some (.ref ln), some (.ref hd), some (.ref gv), some (.ref pl), o, o', o11] ∧ Stay0 K H' d ln ms ∧ H' gv = some (.lst (gs.map V.str)) ∧ H' pl = some (.lst (zs.map V.int)) ∧ Given (ms.map fun m => line (moveW m)) gs (zs.take i))
      ⟨o9, o10, ms.map fun m => line (moveW m), rfl, st2, by rw [hg2, List.map_map]; rfl, hD, rfl, ?_⟩ ?_ ?_ ?_
    · intro j x hj
      have hj2 := hj
      rw [List.getElem?_map] at hj2
      obtain ⟨m, hmm, rfl⟩ := Option.map_eq_some_iff.mp hj2
      have okm := goodM_ok (hok m (List.mem_of_getElem? hmm))
      exact ⟨okLine_line (okWs_move okm) (by simp [moveW]) (by have := okm.2.1; unfold moveW; simp; omega), .inr ⟨by simp, hj⟩⟩
    · rintro i σ H' _ ⟨o, o', gs, rfl, _, _, h, _⟩
      exact SqL.of h
    · rintro i y σ H3 hy3 ⟨o, o', gs, rfl, st3, hg3, hp3, hgv⟩
      obtain ⟨z, hz, rfl⟩ := get_ints hy3
      obtain ⟨z0, z1⟩ := hs z (List.mem_of_getElem? hz)
      obtain ⟨j, rfl⟩ : ∃ j : Nat, z = j := ⟨z.toNat, by omega⟩
      have hj : j < ms.length := by omega
      walk_at "go"
      have hln : (ms.map fun m => V.str (line (moveW m)))[j]? = some (.str (line (moveW ms[j]))) := by rw [List.getElem?_map, List.getElem?_eq_getElem hj]; rfl
      refine ⟨ln, _, j, .str (line (moveW ms[j])), rfl, rfl, SqL.of st3.hln, at_of (j := j) rfl hln, ?_⟩
      walk_at "go"
      refine ⟨d, ms[j], rfl, st3.deck, hok _ (List.getElem_mem hj), fun ws' H4 g4 hr hw hne hl => ?_⟩
      have st4 := st3.go g4
      have hg4 := g4.at hg3 (by simpa using hgd)
      have hp4 := g4.at hp3 (by simpa using hpd)
      walk_at "go"
      refine ⟨gv, _, j, j, rfl, rfl, hg4, ix_nat rfl (by have := hgv.1; rw [List.length_map] at this ⊢; omega), ?_⟩
      refine ⟨_, o', gs.set j (line ws'), rfl, ?_, by rw [upd_same, List.map_set], ?_, ?_⟩
      · refine ⟨?_, ?_, st4.nl⟩
        · obtain ⟨ys, h1, h2⟩ := st4.deck
          exact ⟨ys, by rw [upd_ne hgd.symm]; exact h1, h2⟩
        · rw [upd_ne hgl.symm]; exact st4.hln
      · rw [upd_ne hpg]; exact hp4
      · refine ⟨by rw [List.length_set]; exact hgv.1, fun i2 x hx => ?_⟩
        have et : zs.take (i + 1) = zs.take i ++ [(j : Int)] := take_succ hz
        rw [et]
        by_cases e : i2 = j
        · subst e
          have hlt : i2 < gs.length := by have := hgv.1; rw [List.length_map] at this; omega
          rw [List.getElem?_set_self hlt] at hx
          cases Option.some.inj hx
          refine ⟨okLine_line hw hne (by omega), .inl ⟨by simp, ?_⟩⟩
          show readMove (Txt.split (line ws') " ") = none
          rw [split_sp hne hw]
          exact hr
        · rw [List.getElem?_set_ne (Ne.symm e)] at hx
          obtain ⟨h1, h2⟩ := hgv.2 i2 x hx
          refine ⟨h1, ?_⟩
          rcases h2 with ⟨h2, h3⟩ | ⟨h2, h3⟩
          · exact .inl ⟨List.mem_append_left _ h2, h3⟩
          · refine .inr ⟨fun m => ?_, h3⟩
            rcases List.mem_append.mp m with m | m
            · exact h2 m
            · rw [List.mem_singleton] at m
              exact e (by omega)
    · rintro σ H3 ⟨o, o', gs, rfl, st3, hg3, hp3, hgv⟩
      rw [List.length_map, List.take_length] at hgv
      exact law_end (w := w) hg3 hgv hp3 (by intro e; rw [e] at hy; simp at hy; omega) hs hm hok k
end
end K57
end
/-! part S57n -/
section
set_option Elab.async false
set_option linter.all false
set_option maxRecDepth 100000
set_option maxHeartbeats 4000000
open PySem PySem.Spec PyProof.Rows L2 KN
local macro_rules | `(tactic| walk_at "st") => `(tactic| first
  | (with_reducible refine s_seq ?_) | (with_reducible refine s_asg ?_) | (with_reducible refine s_name ?_) | (with_reducible refine s_drop ?_) | (with_reducible refine s_ret ?_) | (with_reducible refine s_retN ?_)
  | (with_reducible refine s_next ?_) | (with_reducible refine s_brk ?_) | (with_reducible refine s_ct ?_) | (with_reducible refine s_if ?_) | ((with_reducible refine' s_var ?h ?_); (case h => rfl)) | (with_reducible refine s_c ?_)
  | (with_reducible refine s_op ?_) | (with_reducible refine s_rI0 ?_) | ((with_reducible refine s_rI ?h ?_); (case h => first | assumption | decide | (show (0 : Int) < _; omega) | exact ⟨by decide, by decide, by decide⟩ | exact cmul_small (by omega) (by omega) (by omega) (by omega) | exact cdiv_small (by omega) (by omega))) | (with_reducible refine s_un ?_) | (with_reducible refine s_rU ?_)
  | (with_reducible refine s_addIB ?_) | ((with_reducible refine' s_eq ?h ?_); (case h => first | rfl | decide)) | ((with_reducible refine' s_ne ?h ?_); (case h => first | rfl | decide)) | (with_reducible refine s_isN ?_) | (with_reducible refine s_notN ?_) | (with_reducible refine s_test ?_) | (with_reducible refine s_tB ?_)
  | (with_reducible refine s_bl ?_) | (with_reducible refine s_not ?_) | (with_reducible refine s_and ?_) | (with_reducible refine s_or ?_) | (with_reducible refine s_andV ?_) | (with_reducible refine s_orV ?_) | (with_reducible refine s_notV ?_)
  | (with_reducible refine s_ifE ?_) | (with_reducible refine s_cb ?_) | (with_reducible refine s_cons ?_) | (with_reducible refine s_nil ?_) | (with_reducible refine s_cl ?_) | (with_reducible refine s_clS ?_) | (with_reducible refine s_mk ?_) | (with_reducible refine s_mt ?_)
  | (with_reducible refine s_lst ?_) | (with_reducible refine s_tup ?_) | (with_reducible refine s_sl ?_) | (with_reducible refine s_noP ?_) | (with_reducible refine s_part ?_) | (with_reducible refine s_intE ?_) | (with_reducible refine s_bm ?_) | (with_reducible refine s_bm0 ?_)
  | (with_reducible refine s_m0 ?_) | (with_reducible refine s_m1 ?_) | (with_reducible refine s_strE ?_) | (with_reducible refine s_starts ?_) | (with_reducible refine s_isascii ?_) | (with_reducible refine s_isdigit ?_) | (with_reducible refine s_fld ?_)
  | (with_reducible refine s_abs ?_) | (with_reducible refine s_int1 ?_) | (with_reducible refine s_int1b ?_) | (with_reducible refine s_min2 ?_) | (with_reducible refine s_max2 ?_) | (with_reducible refine s_chain ?_) | (with_reducible refine s_blP ?_) | (with_reducible refine s_blV ?_) | (with_reducible refine s_blN ?_) | (with_reducible refine s_blG ?_) | (with_reducible refine s_intG ?_)
  | ((with_reducible refine' s_aug ?h ?_); (case h => rfl)) | (with_reducible refine s_par ?_) | (with_reducible refine s_two ?_) | (with_reducible refine s_frz ?_) | (with_reducible refine s_dnew ?_) | (with_reducible refine s_for ?_) | (with_reducible refine s_lc ?_) | (with_reducible refine s_joinS ?_) | (with_reducible refine s_gsub ?_) | (with_reducible refine s_kin ?_) | (with_reducible refine s_knotin ?_) | (with_reducible refine s_kget ?_) | (with_reducible refine s_setf ?_) | (with_reducible refine s_split ?_) | (with_reducible refine s_partn ?_) | (with_reducible refine s_vei ?_) | (with_reducible refine s_ost ?_) | (with_reducible refine s_rz ?_) | (with_reducible refine s_xm ?_) | (with_reducible refine s_rng1 ?_) | (with_reducible refine s_rng2 ?_) | (with_reducible refine s_iList ?_) | (with_reducible refine s_iTup ?_) | (with_reducible refine s_iSeq ?_) | (with_reducible refine s_iEnum ?_))
local macro_rules | `(tactic| walk_at "go") => `(tactic| repeat walk_at "st")
local macro_rules | `(tactic| walk_at "hp") => `(tactic| first
  | assumption
  | exact upd_same
  | (refine (upd_ne ?n).trans ?_; (case n => first | assumption | (apply Ne.symm; assumption) | exact ne_of_none (by walk_at "hp") (by assumption) | exact (ne_of_none (by walk_at "hp") (by assumption)).symm); walk_at "hp"))
namespace K57
open PySem PySem.Spec PyProof.Rows L2 KN
section
variable {K : PySem.W.Frag} {mg : Str → Option Value} {w : World} {vs : List V} {H : Hp} {Q : VK} {E : XK}
theorem ne_of_deck {H : Hp} {p d : Addr} (h : H p = none) (hd : Deck H d) : p ≠ d := fun e => hd.some (e ▸ h)
theorem pure_law (h : S_law K w vs H Q E) : t_law K w (S__law_deck K w) (S__law_take K w) (S__law_word K w) (S__law_braid_right K w) (S__law_braids_refused K w) (S__law_move K w) (S__law_written K w) (S_read_paper K w) (S_write_paper K w) (S__law_spoil K w) (S__law_plain K w) (S__law_why K w) (S__law_bent_move K w) { nx := fun _ H' => Q .non H', rt := Q } (start N_law vs) H := by
  obtain ⟨a, ns, rfl, hS, hns, k⟩ := h
  show t_law K w _ _ _ _ _ _ _ _ _ _ _ _ _ _ [some (.ref a), none, none, none, none, none, none, none, none, none, none, none] H
  unfold t_law
  walk_at "go"
  refine ⟨a, ns, 50, 14, rfl, hS, hns, by omega, by omega, fun d dx H1 s1 hd0 hd hdl => ?_⟩
  have D1 : Deck H1 d := ⟨dx, hd, hdl⟩
  clear hd hdl hd0
  walk_at "go"
  refine ⟨d, 8, rfl, D1, by omega, fun t H2 g2 t0 t1 => ?_⟩
  walk_at "go"
  generalize hs : 1 + t = s
  have hs1 : 1 ≤ s := by omega
  have hs8 : s ≤ 8 := by omega
  refine ⟨d, s, 12, rfl, g2.deck, hs1, hs8, by omega, by omega, fun wd wns H3 g3 hw0 hw hwl hwb => ?_⟩
  have nwd : wd ≠ d := ne_of_deck hw0 g2.deck
  walk_at "go"
  refine ⟨wd, s, wns, rfl, hw, hs1, hs8, hwb, by omega, fun H4 s4 => ?_⟩
  have g4 := g3.and s4
  have hw4 := s4 _ _ hw
  walk_at "go"
  refine iteF ?_
  walk_at "go"
  refine ⟨d, wd, s, wns, rfl, g4.deck, nwd, hw4, hs1, hs8, hwb, hwl, fun H5 g5 => ?_⟩
  have D5 := g5.deck
  walk_at "go"
  refine iteF ?_
  walk_at "go"
  -- moves
  refine ⟨d, 7, rfl, D5, by omega, fun u H6 g6 u0 u1 => ?_⟩
  have D6 := g6.deck
  obtain ⟨n, rfl, hn⟩ : ∃ n : Nat, u = n ∧ n ≤ 6 := ⟨u.toNat, by omega, by omega⟩
  clear g6 g5 g4 g3 g2 s4 s1 D1 D5 hw hw4 hS
  walk_at "go"
  refine ⟨n, rfl, by omega, by omega, ?_⟩
  rw [Int.toNat_natCast]
  refine lc_goR (S := [d]) (lo := 0) (n := n) (deck1 D6) (by omega) (fun i ys F => ∃ ms : List Move, ms.length = i ∧ DpAll K F ys (ms.map moveD) ∧ ∀ m ∈ ms, goodM m) (fun i ys F F' e ⟨ms, h1, h2, h3⟩ => ⟨ms, h1, h2.mono e, h3⟩) (fun _ _ => ⟨[], rfl, .nil, by simp⟩) ?_ ?_
  · rintro i ys D H' N hi hy gg hD hD0 ⟨ms, hml, hda, hgo⟩ kN
    with_reducible refine s_name ?_
    refine ⟨rfl, ?_⟩
    walk_at "go"
    refine ⟨d, rfl, gg.deck, fun p m H7 g7 hp0 hp hg => kN _ _ g7 ⟨ms ++ [m], by simp [hml], ?_, ?_⟩⟩
    · rw [List.map_append]
      refine (hda.mono (news_keep gg g7)).append (.cons (move_to (SqT.of ?_)) .nil)
      have : p ≠ D := fun e => by rw [e, hD] at hp0; cases hp0
      exact news_at (gg.back hp0) this hp
    · intro y my
      rcases List.mem_append.mp my with my | my
      · exact hgo y my
      · rw [List.mem_singleton.mp my]; exact hg
  rintro xs mv H7 gg hm0 hmv hxl ⟨ms, hml, hda, hgo⟩
  have hok : ∀ m ∈ ms, okM m := fun m mm => goodM_ok (hgo m mm)
  have nmd : mv ≠ d := ne_of_deck hm0 D6
  have D7 := gg.deck
  have hda7 : DpAll K (hide [d] H7) xs (ms.map moveD) := hda.mono ((news_sub _ _ _).trans (fresh_hide' (deck1 D6)))
  clear hda gg D6
  subst hml
  -- lines
  walk_at "go"
  refine ⟨mv, rfl, ⟨_, SqL.of hmv⟩, ?_⟩
  refine lc_goL (S := []) (xs := xs) (by simp) (by rw [hide_nil]; exact SqL.of hmv) (by omega) (fun i ys F => ys = (ms.take i).map fun m => V.str (line (moveW m))) (fun i ys F F' _ h => h) (fun _ _ => rfl) ?_ ?_
  · intro i x ys D H' N hx hy gg hD hD0 p kN
    obtain ⟨dd, hdd, dx⟩ := hda7.get hx
    rw [List.getElem?_map] at hdd
    obtain ⟨m, hm, rfl⟩ := Option.map_eq_some_iff.mp hdd
    obtain ⟨q, rfl, hq⟩ := move_of dx
    have hq' : SqT K H' q (moveV m) := Same.sqt (hide_sub [d] H7 |>.trans gg.same) hq
    with_reducible refine s_name ?_
    refine ⟨rfl, ?_⟩
    walk_at "go"
    refine ⟨q, _, rfl, .inr hq', fun l hl => ?_⟩
    walk_at "go"
    have okm := hok m (List.mem_of_getElem? hm)
    have ev : moveV m = ((Itm.str m.1 :: m.2.map fun o => match o with | none => Itm.non | some z => Itm.int z)).map Itm.v := by
      show V.str m.1 :: m.2.map optI = V.str m.1 :: (m.2.map _).map Itm.v
      rw [List.map_map]
      congr 1
      refine List.map_congr_left fun o _ => ?_
      cases o <;> rfl
    have et : ((Itm.str m.1 :: m.2.map fun o => match o with | none => Itm.non | some z => Itm.int z)).map Itm.t = moveW m := by
      show m.1 :: (m.2.map _).map Itm.t = m.1 :: m.2.map wordO
      rw [List.map_map]
      congr 1
      refine List.map_congr_left fun o _ => ?_
      cases o <;> rfl
    rw [ev]
    refine ⟨l, _, rfl, SqL.of upd_same, by have := okm.2.1; simp; omega, ?_, fun H8 s8 => ?_⟩
    · intro y my
      rcases List.mem_cons.mp my with rfl | my
      · exact okm.1
      · obtain ⟨o, mo, rfl⟩ := List.mem_map.mp my
        cases o with
        | none => trivial
        | some z => exact okm.2.2 _ mo
    · rw [et]
      refine kN _ _ (Go.ofSame ((same_new hl).trans s8)) ?_
      rw [p, take_succ hm, List.map_append]
      rfl
  intro ys ln H8 gg hl0 hln hyl p
  have e8 : ys = ms.map fun m => V.str (line (moveW m)) := by
    rw [p, hxl, List.take_length]
  subst e8
  have s8 := gg.same
  have nld : ln ≠ d := ne_of_deck hl0 D7
  have st : Stays K H8 d mv ln xs ms := ⟨D7.same s8, s8 _ _ hmv, nmd, hln, nld, hda7.mono (Go.of (deck1 D7) s8).hide⟩
  clear gg s8 hda7 hmv hln p hyl D7 hl0 hm0
  walk_at "go"
  -- handed
  refine ⟨mv, _, rfl, .inl (SqL.of st.hmv), fun hd hhd => ?_⟩
  have st1 := st.same (same_new (o := .lst xs) hhd)
  have nhd : hd ≠ d := ne_of_deck hhd st.deck
  have hh1 : (upd H8 hd (.lst xs)) hd = some (.lst xs) := upd_same
  generalize upd H8 hd (.lst xs) = H9 at *
  clear st hhd
  have hls : ∀ x ∈ (ms.map fun m => line (moveW m)), PyData.strOk x = true := by
    intro x mx
    obtain ⟨m, mm, rfl⟩ := List.mem_map.mp mx
    exact strOk_of (line_lt (okWs_move (hok m mm)))
  have emap : (ms.map fun m => V.str (line (moveW m))) = (ms.map fun m => line (moveW m)).map V.str := by rw [List.map_map]; rfl
  have okls : ∀ x ∈ (ms.map fun m => line (moveW m)), okLine x := by
    intro x mx
    obtain ⟨m, mm, rfl⟩ := List.mem_map.mp mx
    exact okLine_line (okWs_move (hok m mm)) (by simp [moveW]) (by have := (hok m mm).2.1; unfold moveW; simp; omega)
  have rdls : (ms.map fun m => line (moveW m)).map rdM = ms.map some := by
    rw [List.map_map]
    exact List.map_congr_left fun m mm => rdM_line (hgo m mm)
  walk_at "go"
  -- spoil
  refine ⟨hd, xs, ms, rfl, SqL.of hh1, st1.data, by omega, hok, fun w1 H10 s10 hw10 hw1 => ?_⟩
  have st2 := st1.same s10
  walk_at "go"
  refine ⟨ln, _, rfl, .inl (SqL.of st2.hln), fun l1 hl1 => ?_⟩
  have s11 := s10.new (o := .lst (ms.map fun m => V.str (line (moveW m)))) hl1
  have st3 := st2.same (same_new (o := .lst (ms.map fun m => V.str (line (moveW m)))) hl1)
  have hw1' := (same_new (o := .lst (ms.map fun m => V.str (line (moveW m)))) hl1) _ _ hw1
  walk_at "go"
  refine ⟨l1, _, rfl, SqL.of (by rw [upd_same, emap]), by rw [List.length_map]; omega, okls, .inl ⟨ms, rdls, fun r1 rvs H12 s12 hr10 hr1 hrd => ?_⟩⟩
  have s13 := s11.trans s12
  have hw12 := s12 _ _ hw1'
  have nwr : w1 ≠ r1 := ne_of_none hw1' hr10
  walk_at "go"
  refine ⟨by simp [sizeLine_eq], fun q0 hq0 => ?_⟩
  walk_at "go"
  have s14 := s13.new (o := .lst [.ref w1, .ref r1]) hq0
  have nqw : q0 ≠ w1 := (ne_of_none hw12 hq0).symm
  have nqr : q0 ≠ r1 := (ne_of_none hr1 hq0).symm
  refine ⟨_, [q0, w1, r1], rfl, ?_, fun H15 k15 => ?_⟩
  · refine sep_two (n := 38) upd_same (sep_list (n := 37) ((same_new hq0) _ _ hw12) (by rw [List.length_map]; omega) ?_) (sep_list (n := 37) ((same_new hq0) _ _ hr1) (by rw [hrd.length, List.length_map]; omega) ?_) nqw nqr nwr
    · intro i x hx
      rw [List.getElem?_map] at hx
      obtain ⟨m, _, rfl⟩ := Option.map_eq_some_iff.mp hx
      exact flat_sep trivial
    · intro i x hx
      obtain ⟨dd, hdd, dx⟩ := hrd.get hx
      rw [List.getElem?_map] at hdd
      obtain ⟨m, hm, rfl⟩ := Option.map_eq_some_iff.mp hdd
      obtain ⟨q, rfl, hq⟩ := move_of dx
      refine sep_tup (n := 36) (Same.sqt (((news_sub _ _ _).trans (fresh_sub _ _)).trans (same_new hq0)) hq) fun i x hx => ?_
      unfold moveV at hx
      cases i with
      | zero => cases hx; exact flat_sep trivial
      | succ i =>
        rw [List.getElem?_cons_succ, List.getElem?_map] at hx
        obtain ⟨o, _, rfl⟩ := Option.map_eq_some_iff.mp hx
        cases o <;> exact flat_sep trivial
  have s15 : Same H9 H15 := fun c o e => by
    refine k15 c o (s14 c o e) fun m => ?_
    simp only [List.mem_cons, List.not_mem_nil, or_false] at m
    rcases m with rfl | rfl | rfl
    · rw [s13.back hq0] at e; cases e
    · rw [hw10] at e; cases e
    · rw [s11.back hr10] at e; cases e
  have st4 := st1.same s15
  have hh4 := s15 _ _ hh1
  clear k15 s14 hrd hr1 hq0 s13 s12 st3 st2 hw1' hw1 s11 hw12 s10 st1 hh1 hl1 hr10 hw10
  walk_at "go"
  have dLs : ∀ {H' p}, H' p = some (.lst (ms.map fun m => V.str (line (moveW m)))) → Dp K H' (.ref p) (.list ((ms.map fun m => line (moveW m)).map PyData.str)) := fun h => by
    refine .lst (SqL.of (by rw [h, emap])) (DpAll.strs _)
  have fLs : fits 1 (PyData.list ((ms.map fun m => line (moveW m)).map PyData.str)) := strs_fits (by rw [List.length_map]; omega)
  have cLs := strs_lay hls
  have cMs := moves_lay hok
  have fMs := moves_fits hok (by omega)
  refine ⟨hd, xs, ms, rfl, SqL.of hh4, st4.data, by omega, hok, fun w2 H16 s16 _ hw2 => ?_⟩
  have st5 := st4.same s16
  walk_at "go"
  refine ⟨_, _, rfl, dLs hw2, fits_mono (by omega) fLs, fun v1 H17 s17 d1 => ?_⟩
  have st6 := st5.same s17
  walk_at "go"
  refine ⟨_, _, rfl, dLs st6.hln, fits_mono (by omega) fLs, fun v2 H18 s18 d2 => ?_⟩
  have st7 := st6.same s18
  have hh7 := ((s16.trans s17).trans s18) _ _ hh4
  refine neP_same ((d1.mono (fresh_sub _ _)).mono s18) (d2.mono (fresh_sub _ _)) cLs fLs (by omega) ?_
  walk_at "go"
  refine iteF ?_
  walk_at "go"
  refine neD_same (.lst (SqL.of hh7) st7.data) (.lst (SqL.of st7.hmv) st7.data) cMs (by have := depth_fits fMs; omega) ?_
  walk_at "go"
  refine iteF ?_
  clear st4 st5 st6 hh4 d1 d2 hw2 s16 s17 s18
  walk_at "go"
  -- given
  refine ⟨ln, _, rfl, .inl (SqL.of st7.hln), fun gv hgv => ?_⟩
  have st8 := st7.same (same_new (o := .lst (ms.map fun m => V.str (line (moveW m)))) hgv)
  have ngd : gv ≠ d := ne_of_deck hgv st7.deck
  have ngl : gv ≠ ln := fun e => by rw [e, st7.hln] at hgv; cases hgv
  have hg8 : (upd H18 gv (.lst (ms.map fun m => V.str (line (moveW m))))) gv = some (.lst (ms.map fun m => V.str (line (moveW m)))) := upd_same
  generalize upd H18 gv (.lst (ms.map fun m => V.str (line (moveW m)))) = H19 at *
  clear st7 hgv hh7
  walk_at "go"
  refine ⟨gv, _, rfl, SqL.of (by rw [hg8, emap]), by rw [List.length_map]; omega, okls, .inl ⟨ms, rdls, fun r2 rvs2 H20 s20 hr20 hr2 hrd2 => ?_⟩⟩
  have st9 := st8.same s20
  walk_at "go"
  refine ⟨_, .list (ms.map moveD), rfl, .lst (SqL.of hr2) (hrd2.mono ((news_sub _ _ _).trans (fresh_sub _ _))), fits_mono (by omega) fMs, fun v3 H21 s21 d3 => ?_⟩
  have st10 := st9.same s21
  walk_at "go"
  refine ⟨_, .list (ms.map moveD), rfl, .lst (SqL.of st10.hmv) st10.data, fits_mono (by omega) fMs, fun v4 H22 s22 d4 => ?_⟩
  have st11 := st10.same s22
  have hg11 := ((s20.trans s21).trans s22) _ _ hg8
  refine neP_same ((d3.mono (fresh_sub _ _)).mono s22) (d4.mono (fresh_sub _ _)) cMs fMs (by omega) ?_
  walk_at "go"
  refine iteF ?_
  walk_at "go"
  refine neD_same (dLs hg11) (dLs st11.hln) cLs (by have := depth_fits fLs; omega) ?_
  walk_at "go"
  refine iteF ?_
  clear st8 st9 st10 d3 d4 hr2 hrd2 s20 s21 s22 hg8
  walk_at "go"
  refine ⟨mv, _, rfl, .inl (SqL.of st11.hmv), ?_⟩
  walk_at "go"
  by_cases h0 : ms.length = 0
  · refine ite_yes (decide_eq_true (by rw [hxl, h0]; rfl)) ?_
    walk_at "go"
    refine ⟨by simp [sizeLine_eq], fun e1 he1 => ?_⟩
    walk_at "go"
    have ok1 : okWs [("" : Str)] := okWs_cons (okW_by (by decide +kernel)) fun w m => by cases m
    have ee : ("" : Str) = line [""] := rfl
    have rd0 : rdM "" = none := by
      show readMove (Txt.split "" " ") = none
      rw [ee, split_sp (by simp) ok1]
      rfl
    refine .inr ⟨e1, [""], 0, "", rfl, SqL.of upd_same, by simp, ?_, rfl, rd0, fun j y hj => by omega, fun p H23 s23 _ hp => ?_⟩
    · intro x mx
      rw [List.mem_singleton.mp mx, ee]
      exact okLine_line ok1 (by simp) (by simp)
    walk_at "go"
    refine ⟨by simp [sizeLine_eq], fun t2 ht2 => ?_⟩
    exact eqD_same (told_line ((same_new ht2) _ _ hp)) (told_line upd_same) (told_lay 0) (by simp [PyData.depth, PyData.depthAll]) (k _)
  · refine ite_no (decide_eq_false (fun z => h0 (by have := V.int.inj z; omega))) ?_
    walk_at "st"
    exact law_places (w := w) st11.zero hg11 ngd ngl (by omega) (by omega) hgo k
end
end K57
end
/-! part H57 -/
section
set_option Elab.async false
set_option linter.all false
set_option maxRecDepth 100000
set_option maxHeartbeats 8000000
namespace K57
open PySem PySem.Spec PyProof.Rows L2 KN
def fn : List He.DefD := [
  ⟨("InvalidBraid", some "__init__"), "__init__", "InvalidBraid.__init__", defArgs s_InvalidBraid_init, defBody s_InvalidBraid_init, defScope s_InvalidBraid_init, [], []⟩,
  ⟨("InvalidLine", some "__init__"), "__init__", "InvalidLine.__init__", defArgs s_InvalidLine_init, defBody s_InvalidLine_init, defScope s_InvalidLine_init, [], []⟩,
  ⟨("TooMany", some "__init__"), "__init__", "TooMany.__init__", defArgs s_TooMany_init, defBody s_TooMany_init, defScope s_TooMany_init, [], []⟩,
  ⟨("Braid", some "__init__"), "__init__", "Braid.__init__", defArgs s_Braid_init, defBody s_Braid_init, defScope s_Braid_init, [], []⟩,
  ⟨("integer_of", none), "integer_of", "integer_of", defArgs s_integer_of, defBody s_integer_of, defScope s_integer_of, [], []⟩,
  ⟨("integers_of", none), "integers_of", "integers_of", defArgs s_integers_of, defBody s_integers_of, defScope s_integers_of, [], []⟩,
  ⟨("write_braid", none), "write_braid", "write_braid", defArgs s_write_braid, defBody s_write_braid, defScope s_write_braid, [], []⟩,
  ⟨("read_braid", none), "read_braid", "read_braid", defArgs s_read_braid, defBody s_read_braid, defScope s_read_braid, [], []⟩,
  ⟨("write_paper", none), "write_paper", "write_paper", defArgs s_write_paper, defBody s_write_paper, defScope s_write_paper, [], []⟩,
  ⟨("read_move", none), "read_move", "read_move", defArgs s_read_move, defBody s_read_move, defScope s_read_move, [], []⟩,
  ⟨("read_paper", none), "read_paper", "read_paper", defArgs s_read_paper, defBody s_read_paper, defScope s_read_paper, [], []⟩,
  ⟨("_law_deck", none), "_law_deck", "_law_deck", defArgs s__law_deck, defBody s__law_deck, defScope s__law_deck, [], []⟩,
  ⟨("_law_take", none), "_law_take", "_law_take", defArgs s__law_take, defBody s__law_take, defScope s__law_take, [], []⟩,
  ⟨("_law_plain", none), "_law_plain", "_law_plain", defArgs s__law_plain, defBody s__law_plain, defScope s__law_plain, [], []⟩,
  ⟨("_law_spoil", none), "_law_spoil", "_law_spoil", defArgs s__law_spoil, defBody s__law_spoil, defScope s__law_spoil, [], []⟩,
  ⟨("_law_word", none), "_law_word", "_law_word", defArgs s__law_word, defBody s__law_word, defScope s__law_word, [], []⟩,
  ⟨("_law_written", none), "_law_written", "_law_written", defArgs s__law_written, defBody s__law_written, defScope s__law_written, [], []⟩,
  ⟨("_law_integer", none), "_law_integer", "_law_integer", defArgs s__law_integer, defBody s__law_integer, defScope s__law_integer, [], []⟩,
  ⟨("_law_move", none), "_law_move", "_law_move", defArgs s__law_move, defBody s__law_move, defScope s__law_move, [], []⟩,
  ⟨("_law_bad_number", none), "_law_bad_number", "_law_bad_number", defArgs s__law_bad_number, defBody s__law_bad_number, defScope s__law_bad_number, [], []⟩,
  ⟨("_law_bent", none), "_law_bent", "_law_bent", defArgs s__law_bent, defBody s__law_bent, defScope s__law_bent, [], []⟩,
  ⟨("_law_bent_move", none), "_law_bent_move", "_law_bent_move", defArgs s__law_bent_move, defBody s__law_bent_move, defScope s__law_bent_move, [], []⟩,
  ⟨("_law_why", none), "_law_why", "_law_why", defArgs s__law_why, defBody s__law_why, defScope s__law_why, [], []⟩,
  ⟨("_law_braid_right", none), "_law_braid_right", "_law_braid_right", defArgs s__law_braid_right, defBody s__law_braid_right, defScope s__law_braid_right, [], []⟩,
  ⟨("_law_braids_refused", none), "_law_braids_refused", "_law_braids_refused", defArgs s__law_braids_refused, defBody s__law_braids_refused, defScope s__law_braids_refused, [], []⟩,
  ⟨("law", none), "law", "law", defArgs s_law, defBody s_law, defScope s_law, [], []⟩]
def ts : List He.Tab := [((fun K => He.ga K "ARGUMENTS"), ["curl", "uncurl", "lay", "draw", "turn"])]
def fx : List (PySem.W.Frag → Bool) := [
  (He.Fa.glo "integer_of").ok,
  (He.Fa.glo "integers_of").ok,
  (He.Fa.glo "write_braid").ok,
  (He.Fa.glo "read_braid").ok,
  (He.Fa.glo "write_paper").ok,
  (He.Fa.glo "read_move").ok,
  (He.Fa.glo "read_paper").ok,
  (He.Fa.glo "_law_deck").ok,
  (He.Fa.glo "_law_take").ok,
  (He.Fa.glo "_law_plain").ok,
  (He.Fa.glo "_law_spoil").ok,
  (He.Fa.glo "_law_word").ok,
  (He.Fa.glo "_law_written").ok,
  (He.Fa.glo "_law_integer").ok,
  (He.Fa.glo "_law_move").ok,
  (He.Fa.glo "_law_bad_number").ok,
  (He.Fa.glo "_law_bent").ok,
  (He.Fa.glo "_law_bent_move").ok,
  (He.Fa.glo "_law_why").ok,
  (He.Fa.glo "_law_braid_right").ok,
  (He.Fa.glo "_law_braids_refused").ok,
  (He.Fa.glo "law").ok,
  (He.Fa.free "abs").ok,
  (He.Fa.free "len").ok,
  (He.Fa.free "list").ok,
  (He.Fa.free "int").ok,
  (He.Fa.free "str").ok,
  (He.Fa.free "tuple").ok,
  (He.Fa.free "enumerate").ok,
  (He.Fa.free "range").ok,
  (He.Fa.free "isinstance").ok,
  (He.Fa.free "bool").ok,
  (He.Fa.free "min").ok,
  (He.Fa.int "MOST_STRANDS" 8).ok,
  (He.Fa.int "MOST_LETTERS" 2000).ok,
  (He.Fa.int "MOST_DIGITS" 40).ok,
  (He.Fa.glo "ARGUMENTS").ok,
  (fun K => He.valsB K (He.ga K "ARGUMENTS") ([("curl", .int 3), ("uncurl", .int 1), ("lay", .int 4), ("draw", .int 2), ("turn", .int 3)] : List (Str × He.Dv))),
  (fun K => KH.allSome K (He.ga K "ARGUMENTS") ([("curl", .int 3), ("uncurl", .int 1), ("lay", .int 4), ("draw", .int 2), ("turn", .int 3)] : List (Str × He.Dv))),
  (He.Fa.glo "KnotError").ok,
  (KH.kinB "KnotError"),
  (He.Fa.glo "InvalidBraid").ok,
  (KH.oexB "InvalidBraid"),
  (KH.oinB "InvalidBraid"),
  (KH.excB "InvalidBraid"),
  (He.Fa.noat "InvalidBraid" "what").ok,
  (He.Fa.exm "InvalidBraid" "KnotError" true).ok,
  (He.Fa.exm "InvalidBraid" "InvalidBraid" true).ok,
  (KH.kitB' "InvalidBraid" "InvalidBraid" true),
  (He.Fa.exm "InvalidBraid" "InvalidLine" false).ok,
  (KH.kitB' "InvalidBraid" "InvalidLine" false),
  (He.Fa.exm "InvalidBraid" "TooMany" false).ok,
  (KH.kitB' "InvalidBraid" "TooMany" false),
  (He.Fa.glo "InvalidLine").ok,
  (KH.oexB "InvalidLine"),
  (KH.oinB "InvalidLine"),
  (KH.excB "InvalidLine"),
  (He.Fa.noat "InvalidLine" "line").ok,
  (He.Fa.exm "InvalidLine" "KnotError" true).ok,
  (He.Fa.exm "InvalidLine" "InvalidBraid" false).ok,
  (KH.kitB' "InvalidLine" "InvalidBraid" false),
  (He.Fa.exm "InvalidLine" "InvalidLine" true).ok,
  (KH.kitB' "InvalidLine" "InvalidLine" true),
  (He.Fa.exm "InvalidLine" "TooMany" false).ok,
  (KH.kitB' "InvalidLine" "TooMany" false),
  (He.Fa.glo "TooMany").ok,
  (KH.oexB "TooMany"),
  (KH.oinB "TooMany"),
  (KH.excB "TooMany"),
  (He.Fa.noat "TooMany" "what").ok,
  (He.Fa.exm "TooMany" "KnotError" true).ok,
  (He.Fa.exm "TooMany" "InvalidBraid" false).ok,
  (KH.kitB' "TooMany" "InvalidBraid" false),
  (He.Fa.exm "TooMany" "InvalidLine" false).ok,
  (KH.kitB' "TooMany" "InvalidLine" false),
  (He.Fa.exm "TooMany" "TooMany" true).ok,
  (KH.kitB' "TooMany" "TooMany" true),
  (He.Fa.glo "Braid").ok,
  (He.Fa.cls "Braid").ok,
  (He.Fa.mkr "Braid").ok,
  (KH.isiB "Braid"),
  (KH.kitB' "Braid" "Braid" true),
  (fun K => decide (PySem.W.kitOne K (.ref (He.ga K "Braid")) (.type "list") = some false)),
  (fun K => decide (PySem.W.kitOne K (.ref (He.ga K "Braid")) (.type "tuple") = some false)),
  (fun K => decide (PySem.W.kitOne K (.ref (He.ga K "Braid")) (.type "int") = some false)),
  (fun K => decide (PySem.W.kitOne K (.ref (He.ga K "Braid")) (.type "str") = some false)),
  (fun K => decide (PySem.W.kitOne K (.ref (He.ga K "Braid")) (.type "bool") = some false)),
  (fun K => decide (PySem.W.kitOne K (.ref (He.ga K "Braid")) (.type "dict") = some false)),
  (He.Fa.noat "Braid" "strands").ok,
  (He.Fa.noat "Braid" "word").ok]
def ex (K : PySem.W.Frag) : Bool := fx.all fun f => f K
theorem txt {K : PySem.W.Frag} {mg : Str → Option Value} {w : World} {h : Heap} (X : K.In h) (G : h.Ns mainGlobals mg) (c : KH.SaysC fn ts ex w K) : Txt K mg w := by
  have ck : ∀ (i : Nat) {b : PySem.W.Frag → Bool}, fx[i]? = some b → b K = true := fun i b e => List.all_eq_true.mp c.more b (List.mem_of_getElem? e)
  exact {
    f_InvalidBraid_init := c.t.d.def_ 0 rfl
    f_InvalidLine_init := c.t.d.def_ 1 rfl
    f_TooMany_init := c.t.d.def_ 2 rfl
    f_Braid_init := c.t.d.def_ 3 rfl
    f_integer_of := c.t.d.def_ 4 rfl
    g_integer_of := He.glo_ok X G (ck 0 rfl)
    f_integers_of := c.t.d.def_ 5 rfl
    g_integers_of := He.glo_ok X G (ck 1 rfl)
    f_write_braid := c.t.d.def_ 6 rfl
    g_write_braid := He.glo_ok X G (ck 2 rfl)
    f_read_braid := c.t.d.def_ 7 rfl
    g_read_braid := He.glo_ok X G (ck 3 rfl)
    f_write_paper := c.t.d.def_ 8 rfl
    g_write_paper := He.glo_ok X G (ck 4 rfl)
    f_read_move := c.t.d.def_ 9 rfl
    g_read_move := He.glo_ok X G (ck 5 rfl)
    f_read_paper := c.t.d.def_ 10 rfl
    g_read_paper := He.glo_ok X G (ck 6 rfl)
    f__law_deck := c.t.d.def_ 11 rfl
    g__law_deck := He.glo_ok X G (ck 7 rfl)
    f__law_take := c.t.d.def_ 12 rfl
    g__law_take := He.glo_ok X G (ck 8 rfl)
    f__law_plain := c.t.d.def_ 13 rfl
    g__law_plain := He.glo_ok X G (ck 9 rfl)
    f__law_spoil := c.t.d.def_ 14 rfl
    g__law_spoil := He.glo_ok X G (ck 10 rfl)
    f__law_word := c.t.d.def_ 15 rfl
    g__law_word := He.glo_ok X G (ck 11 rfl)
    f__law_written := c.t.d.def_ 16 rfl
    g__law_written := He.glo_ok X G (ck 12 rfl)
    f__law_integer := c.t.d.def_ 17 rfl
    g__law_integer := He.glo_ok X G (ck 13 rfl)
    f__law_move := c.t.d.def_ 18 rfl
    g__law_move := He.glo_ok X G (ck 14 rfl)
    f__law_bad_number := c.t.d.def_ 19 rfl
    g__law_bad_number := He.glo_ok X G (ck 15 rfl)
    f__law_bent := c.t.d.def_ 20 rfl
    g__law_bent := He.glo_ok X G (ck 16 rfl)
    f__law_bent_move := c.t.d.def_ 21 rfl
    g__law_bent_move := He.glo_ok X G (ck 17 rfl)
    f__law_why := c.t.d.def_ 22 rfl
    g__law_why := He.glo_ok X G (ck 18 rfl)
    f__law_braid_right := c.t.d.def_ 23 rfl
    g__law_braid_right := He.glo_ok X G (ck 19 rfl)
    f__law_braids_refused := c.t.d.def_ 24 rfl
    g__law_braids_refused := He.glo_ok X G (ck 20 rfl)
    f_law := c.t.d.def_ 25 rfl
    g_law := He.glo_ok X G (ck 21 rfl)
    b_abs := He.free_ok X G (ck 22 rfl)
    b_len := He.free_ok X G (ck 23 rfl)
    b_list := He.free_ok X G (ck 24 rfl)
    b_int := He.free_ok X G (ck 25 rfl)
    b_str := He.free_ok X G (ck 26 rfl)
    b_tuple := He.free_ok X G (ck 27 rfl)
    b_enumerate := He.free_ok X G (ck 28 rfl)
    b_range := He.free_ok X G (ck 29 rfl)
    b_isinstance := He.free_ok X G (ck 30 rfl)
    b_bool := He.free_ok X G (ck 31 rfl)
    b_min := He.free_ok X G (ck 32 rfl)
    c_MOST_STRANDS := (let ⟨t, e⟩ := He.int_ok X G (ck 33 rfl); ⟨_, e, ⟨t, rfl⟩⟩)
    c_MOST_LETTERS := (let ⟨t, e⟩ := He.int_ok X G (ck 34 rfl); ⟨_, e, ⟨t, rfl⟩⟩)
    c_MOST_DIGITS := (let ⟨t, e⟩ := He.int_ok X G (ck 35 rfl); ⟨_, e, ⟨t, rfl⟩⟩)
    c_ARGUMENTS := ⟨_, He.glo_ok X G (ck 36 rfl), rfl⟩
    v_ARGUMENTS := KH.ktab_of (tab := ([("curl", .int 3), ("uncurl", .int 1), ("lay", .int 4), ("draw", .int 2), ("turn", .int 3)] : List (Str × He.Dv))) (c.t.tab 0 rfl) (ck 37 rfl) (ck 38 rfl)
    g_KnotError := He.glo_ok X G (ck 39 rfl)
    r_KnotError := (KH.kinB_ok (ck 40 rfl)).1
    i_KnotError := (KH.kinB_ok (ck 40 rfl)).2
    g_InvalidBraid := He.glo_ok X G (ck 41 rfl)
    ox_InvalidBraid := KH.oexB_ok (ck 42 rfl)
    oi_InvalidBraid := KH.oinB_ok (ck 43 rfl)
    ex_InvalidBraid := KH.excB_ok (ck 44 rfl)
    na_InvalidBraid_what := He.noat_ok (ck 45 rfl)
    xm_InvalidBraid_KnotError := He.exm_ok (ck 46 rfl)
    xm_InvalidBraid_InvalidBraid := He.exm_ok (ck 47 rfl)
    ki_InvalidBraid_InvalidBraid := KH.kitB'_ok (ck 48 rfl)
    xm_InvalidBraid_InvalidLine := He.exm_ok (ck 49 rfl)
    ki_InvalidBraid_InvalidLine := KH.kitB'_ok (ck 50 rfl)
    xm_InvalidBraid_TooMany := He.exm_ok (ck 51 rfl)
    ki_InvalidBraid_TooMany := KH.kitB'_ok (ck 52 rfl)
    g_InvalidLine := He.glo_ok X G (ck 53 rfl)
    ox_InvalidLine := KH.oexB_ok (ck 54 rfl)
    oi_InvalidLine := KH.oinB_ok (ck 55 rfl)
    ex_InvalidLine := KH.excB_ok (ck 56 rfl)
    na_InvalidLine_line := He.noat_ok (ck 57 rfl)
    xm_InvalidLine_KnotError := He.exm_ok (ck 58 rfl)
    xm_InvalidLine_InvalidBraid := He.exm_ok (ck 59 rfl)
    ki_InvalidLine_InvalidBraid := KH.kitB'_ok (ck 60 rfl)
    xm_InvalidLine_InvalidLine := He.exm_ok (ck 61 rfl)
    ki_InvalidLine_InvalidLine := KH.kitB'_ok (ck 62 rfl)
    xm_InvalidLine_TooMany := He.exm_ok (ck 63 rfl)
    ki_InvalidLine_TooMany := KH.kitB'_ok (ck 64 rfl)
    g_TooMany := He.glo_ok X G (ck 65 rfl)
    ox_TooMany := KH.oexB_ok (ck 66 rfl)
    oi_TooMany := KH.oinB_ok (ck 67 rfl)
    ex_TooMany := KH.excB_ok (ck 68 rfl)
    na_TooMany_what := He.noat_ok (ck 69 rfl)
    xm_TooMany_KnotError := He.exm_ok (ck 70 rfl)
    xm_TooMany_InvalidBraid := He.exm_ok (ck 71 rfl)
    ki_TooMany_InvalidBraid := KH.kitB'_ok (ck 72 rfl)
    xm_TooMany_InvalidLine := He.exm_ok (ck 73 rfl)
    ki_TooMany_InvalidLine := KH.kitB'_ok (ck 74 rfl)
    xm_TooMany_TooMany := He.exm_ok (ck 75 rfl)
    ki_TooMany_TooMany := KH.kitB'_ok (ck 76 rfl)
    g_Braid := He.glo_ok X G (ck 77 rfl)
    cl_Braid := He.cls_ok (ck 78 rfl)
    mk_Braid := He.mkr_ok (ck 79 rfl)
    is_Braid := (ck 80 rfl)
    ki_Braid := KH.kitB'_ok (ck 81 rfl)
    ki_Braid_list := of_decide_eq_true (ck 82 rfl)
    ki_Braid_tuple := of_decide_eq_true (ck 83 rfl)
    ki_Braid_int := of_decide_eq_true (ck 84 rfl)
    ki_Braid_str := of_decide_eq_true (ck 85 rfl)
    ki_Braid_bool := of_decide_eq_true (ck 86 rfl)
    ki_Braid_dict := of_decide_eq_true (ck 87 rfl)
    na_Braid_strands := He.noat_ok (ck 88 rfl)
    na_Braid_word := He.noat_ok (ck 89 rfl)
  }
abbrev RR : PySem.W.OpenRow := PySem.W.OpenLaw.row PySem.Challenge.rw_knotwork_k57_lines_of_braids_and_papers
def names0 : List PySem.Str := ["_wall", "KnotError", "InvalidBraid", "InvalidLine", "TooMany", "Braid", "integer_of", "integers_of", "write_braid", "read_braid", "write_paper", "read_move", "read_paper", "_law_deck", "_law_take", "_law_plain", "_law_spoil", "_law_word", "_law_written", "_law_integer", "_law_move", "_law_bad_number", "_law_bent", "_law_bent_move", "_law_why", "_law_braid_right", "_law_braids_refused", "MOST_STRANDS", "MOST_LETTERS", "MOST_DIGITS"]
def names1 : List PySem.Str := ["ARGUMENTS"]
def names : List PySem.Str := names0 ++ names1
abbrev hk : PySem.W.Hook := KH.hookC 4 fn ts ex
def ob (s : PySem.W.SharedT) : KH.AlC := KH.obsC 4 fn ts ex (HandSHeadRun.getT s)
theorem ob_eq (s : PySem.W.SharedT) : ob s = hk.obs s.abs := KH.obsC_eq (HandSHeadRun.getT_eq s)
theorem run (w : World) : HandSHeadRun.RunEq RR (PySem.W.view RR.prog [36]) hk ob 8000 names w := by
  refine PySem.W.byRow2 "special-get-raises" (P := fun w => HandSHeadRun.RunEq RR (PySem.W.view RR.prog [36]) hk ob 8000 names w) (fun w => ?_) (fun w => ?_) w
  · intro os
    kernel_rfl
  · intro os
    kernel_rfl
end K57
end
/-! part E57 -/
set_option Elab.async false
set_option linter.all false
set_option maxRecDepth 100000
set_option maxHeartbeats 8000000
namespace K57
open PySem PySem.Spec PyProof.Rows L2 KN
section
variable {P : Program} {w : World} {K : PySem.W.Frag} {mg : Str → Option Value} {base : Heap}
theorem ok_InvalidBraid_init (T : Txt K mg w) : Exm P w K mg base 1 "InvalidBraid" (He.ga K "InvalidBraid") (S_InvalidBraid_init K w) := by
  obtain ⟨fd, F⟩ := T.f_InvalidBraid_init
  have bd : Binds K fd P_InvalidBraid_init [] := F.bindsN fun _ _ _ _ _ _ us hl => match us, hl with | [_, _], _ => rfl
  have ok : FnOk P w K mg base CX0 1 (He.ma K (He.ga K "InvalidBraid") "__init__") fd P_InvalidBraid_init (S_InvalidBraid_init K w) := F.ok sc_InvalidBraid_init len_InvalidBraid_init (fun cdv A outer s H vs Q E hr h => ⟨t_InvalidBraid_init K w , PSs.nox (d_InvalidBraid_init T  hr), pure_InvalidBraid_init ⟨T.ox_InvalidBraid, T.na_InvalidBraid_what⟩ h⟩)
  exact ⟨_, fd, _, T.ox_InvalidBraid, T.oi_InvalidBraid.1, T.oi_InvalidBraid.2, ok, T.g_InvalidBraid, bd⟩
theorem ok_InvalidLine_init (T : Txt K mg w) : Exm P w K mg base 1 "InvalidLine" (He.ga K "InvalidLine") (S_InvalidLine_init K w) := by
  obtain ⟨fd, F⟩ := T.f_InvalidLine_init
  have bd : Binds K fd P_InvalidLine_init [] := F.bindsN fun _ _ _ _ _ _ us hl => match us, hl with | [_, _], _ => rfl
  have ok : FnOk P w K mg base CX0 1 (He.ma K (He.ga K "InvalidLine") "__init__") fd P_InvalidLine_init (S_InvalidLine_init K w) := F.ok sc_InvalidLine_init len_InvalidLine_init (fun cdv A outer s H vs Q E hr h => ⟨t_InvalidLine_init K w , PSs.nox (d_InvalidLine_init T  hr), pure_InvalidLine_init ⟨T.ox_InvalidLine, T.na_InvalidLine_line⟩ h⟩)
  exact ⟨_, fd, _, T.ox_InvalidLine, T.oi_InvalidLine.1, T.oi_InvalidLine.2, ok, T.g_InvalidLine, bd⟩
theorem ok_TooMany_init (T : Txt K mg w) : Exm P w K mg base 1 "TooMany" (He.ga K "TooMany") (S_TooMany_init K w) := by
  obtain ⟨fd, F⟩ := T.f_TooMany_init
  have bd : Binds K fd P_TooMany_init [] := F.bindsN fun _ _ _ _ _ _ us hl => match us, hl with | [_, _], _ => rfl
  have ok : FnOk P w K mg base CX0 1 (He.ma K (He.ga K "TooMany") "__init__") fd P_TooMany_init (S_TooMany_init K w) := F.ok sc_TooMany_init len_TooMany_init (fun cdv A outer s H vs Q E hr h => ⟨t_TooMany_init K w , PSs.nox (d_TooMany_init T  hr), pure_TooMany_init ⟨T.ox_TooMany, T.na_TooMany_what⟩ h⟩)
  exact ⟨_, fd, _, T.ox_TooMany, T.oi_TooMany.1, T.oi_TooMany.2, ok, T.g_TooMany, bd⟩
theorem ok_Braid_init (T : Txt K mg w) : Mkr (L2.CX P w) P w K mg base 3 "Braid" (He.ga K "Braid") (S_Braid_init K w) := by
  obtain ⟨fd, F⟩ := T.f_Braid_init
  have bd : Binds K fd P_Braid_init [] := F.bindsN fun _ _ _ _ _ _ us hl => match us, hl with | [_, _, _], _ => rfl
  have ok : FnOk P w K mg base (L2.CX P w) 3 (He.ma K (He.ga K "Braid") "__init__") fd P_Braid_init (S_Braid_init K w) := F.ok sc_Braid_init len_Braid_init (fun cdv A outer s H vs Q E hr h => ⟨t_Braid_init K w E (S_InvalidBraid_init K w) (S_TooMany_init K w), d_Braid_init T (ok_InvalidBraid_init T) (ok_TooMany_init T) hr, pure_Braid_init T h⟩)
  exact ⟨_, fd, _, T.mk_Braid, ok, T.g_Braid, bd⟩
theorem ok_integer_of (T : Txt K mg w) : Cl CX0 P w K mg base 1 "integer_of" (S_integer_of K w) := by
  obtain ⟨fd, F⟩ := T.f_integer_of
  have bd : Binds K fd P_integer_of [] := F.bindsN fun _ _ _ _ _ _ us hl => match us, hl with | [_], _ => rfl
  have ok : FnOk P w K mg base CX0 1 (He.ga K "integer_of") fd P_integer_of (S_integer_of K w) := F.ok sc_integer_of len_integer_of (fun cdv A outer s H vs Q E hr h => ⟨t_integer_of K w , PSs.nox (d_integer_of T  hr), pure_integer_of h⟩)
  exact ⟨_, fd, _, ok, T.g_integer_of, F.kp, bd⟩
theorem ok_integers_of (T : Txt K mg w) : Cl CX0 P w K mg base 2 "integers_of" (S_integers_of K w) := by
  obtain ⟨fd, F⟩ := T.f_integers_of
  have bd : Binds K fd P_integers_of [] := F.bindsN fun _ _ _ _ _ _ us hl => match us, hl with | [_], _ => rfl
  have ok : FnOk P w K mg base CX0 2 (He.ga K "integers_of") fd P_integers_of (S_integers_of K w) := F.ok sc_integers_of len_integers_of (fun cdv A outer s H vs Q E hr h => ⟨t_integers_of K w (S_integer_of K w), PSs.nox (d_integers_of T (ok_integer_of T) hr), pure_integers_of h⟩)
  exact ⟨_, fd, _, ok, T.g_integers_of, F.kp, bd⟩
theorem ok_write_braid (T : Txt K mg w) : Cl CX0 P w K mg base 1 "write_braid" (S_write_braid K w) := by
  obtain ⟨fd, F⟩ := T.f_write_braid
  have bd : Binds K fd P_write_braid [] := F.bindsN fun _ _ _ _ _ _ us hl => match us, hl with | [_], _ => rfl
  have ok : FnOk P w K mg base CX0 1 (He.ga K "write_braid") fd P_write_braid (S_write_braid K w) := F.ok sc_write_braid len_write_braid (fun cdv A outer s H vs Q E hr h => ⟨t_write_braid K w , PSs.nox (d_write_braid T  hr), pure_write_braid T h⟩)
  exact ⟨_, fd, _, ok, T.g_write_braid, F.kp, bd⟩
theorem ok_read_braid (T : Txt K mg w) : Cl (L2.CX P w) P w K mg base 5 "read_braid" (S_read_braid K w) := by
  obtain ⟨fd, F⟩ := T.f_read_braid
  have bd : Binds K fd P_read_braid [] := F.bindsN fun _ _ _ _ _ _ us hl => match us, hl with | [_], _ => rfl
  have ok : FnOk P w K mg base (L2.CX P w) 5 (He.ga K "read_braid") fd P_read_braid (S_read_braid K w) := F.ok sc_read_braid len_read_braid (fun cdv A outer s H vs Q E hr h => ⟨t_read_braid K w E (S_integers_of K w) (S_InvalidLine_init K w) (S_Braid_init K w), d_read_braid T (ok_integers_of T) (ok_InvalidLine_init T) (ok_Braid_init T) hr, pure_read_braid T h⟩)
  exact ⟨_, fd, _, ok, T.g_read_braid, F.kp, bd⟩
theorem ok_write_paper (T : Txt K mg w) : Cl CX0 P w K mg base 1 "write_paper" (S_write_paper K w) := by
  obtain ⟨fd, F⟩ := T.f_write_paper
  have bd : Binds K fd P_write_paper [] := F.bindsN fun _ _ _ _ _ _ us hl => match us, hl with | [_], _ => rfl
  have ok : FnOk P w K mg base CX0 1 (He.ga K "write_paper") fd P_write_paper (S_write_paper K w) := F.ok sc_write_paper len_write_paper (fun cdv A outer s H vs Q E hr h => ⟨t_write_paper K w , PSs.nox (d_write_paper T  hr), pure_write_paper h⟩)
  exact ⟨_, fd, _, ok, T.g_write_paper, F.kp, bd⟩
theorem ok_read_move (T : Txt K mg w) : Cl CX0 P w K mg base 2 "read_move" (S_read_move K w) := by
  obtain ⟨fd, F⟩ := T.f_read_move
  have bd : Binds K fd P_read_move [] := F.bindsN fun _ _ _ _ _ _ us hl => match us, hl with | [_], _ => rfl
  have ok : FnOk P w K mg base CX0 2 (He.ga K "read_move") fd P_read_move (S_read_move K w) := F.ok sc_read_move len_read_move (fun cdv A outer s H vs Q E hr h => ⟨t_read_move K w (S_integer_of K w), PSs.nox (d_read_move T (ok_integer_of T) hr), pure_read_move T h⟩)
  exact ⟨_, fd, _, ok, T.g_read_move, F.kp, bd⟩
theorem ok_read_paper (T : Txt K mg w) : Cl (L2.CX P w) P w K mg base 3 "read_paper" (S_read_paper K w) := by
  obtain ⟨fd, F⟩ := T.f_read_paper
  have bd : Binds K fd P_read_paper [] := F.bindsN fun _ _ _ _ _ _ us hl => match us, hl with | [_], _ => rfl
  have ok : FnOk P w K mg base (L2.CX P w) 3 (He.ga K "read_paper") fd P_read_paper (S_read_paper K w) := F.ok sc_read_paper len_read_paper (fun cdv A outer s H vs Q E hr h => ⟨t_read_paper K w E (S_read_move K w) (S_InvalidLine_init K w), d_read_paper T (ok_read_move T) (ok_InvalidLine_init T) hr, pure_read_paper h⟩)
  exact ⟨_, fd, _, ok, T.g_read_paper, F.kp, bd⟩
theorem ok__law_deck (T : Txt K mg w) : Cl CX0 P w K mg base 1 "_law_deck" (S__law_deck K w) := by
  obtain ⟨fd, F⟩ := T.f__law_deck
  have bd : Binds K fd P__law_deck [] := F.bindsN fun _ _ _ _ _ _ us hl => match us, hl with | [_, _, _], _ => rfl
  have ok : FnOk P w K mg base CX0 1 (He.ga K "_law_deck") fd P__law_deck (S__law_deck K w) := F.ok sc__law_deck len__law_deck (fun cdv A outer s H vs Q E hr h => ⟨t__law_deck K w , PSs.nox (d__law_deck T  hr), pure__law_deck h⟩)
  exact ⟨_, fd, _, ok, T.g__law_deck, F.kp, bd⟩
theorem ok__law_take (T : Txt K mg w) : Cl CX0 P w K mg base 1 "_law_take" (S__law_take K w) := by
  obtain ⟨fd, F⟩ := T.f__law_take
  have bd : Binds K fd P__law_take [] := F.bindsN fun _ _ _ _ _ _ us hl => match us, hl with | [_, _], _ => rfl
  have ok : FnOk P w K mg base CX0 1 (He.ga K "_law_take") fd P__law_take (S__law_take K w) := F.ok sc__law_take len__law_take (fun cdv A outer s H vs Q E hr h => ⟨t__law_take K w , PSs.nox (d__law_take T  hr), pure__law_take h⟩)
  exact ⟨_, fd, _, ok, T.g__law_take, F.kp, bd⟩
theorem cl_plain (T : Txt K mg w) : ∀ n, Cl CX0 P w K mg base n "_law_plain" (prevP K n)
  | 0 => by
    obtain ⟨fd, F⟩ := T.f__law_plain
    have bd : Binds K fd P__law_plain [] := F.bindsN fun _ _ _ _ _ _ us hl => match us, hl with | [_], _ => rfl
    exact ⟨_, fd, _, ⟨fun _ _ _ _ h => h.elim, fun _ _ _ _ _ _ _ _ _ _ _ _ _ h => h.elim⟩, T.g__law_plain, F.kp, bd⟩
  | n + 1 => by
    obtain ⟨fd, F⟩ := T.f__law_plain
    have bd : Binds K fd P__law_plain [] := F.bindsN fun _ _ _ _ _ _ us hl => match us, hl with | [_], _ => rfl
    have ok : FnOk P w K mg base CX0 (n + 1) (He.ga K "_law_plain") fd P__law_plain (SpPlain K n) := F.ok sc__law_plain len_SpPlain (fun cdv A outer s H vs Q E hr h => ⟨t__law_plain K w (prevP K n), PSs.nox (d__law_plain T (cl_plain T n) hr), pure_plain h⟩)
    exact ⟨_, fd, _, ok, T.g__law_plain, F.kp, bd⟩
theorem ok__law_plain (T : Txt K mg w) : Cl CX0 P w K mg base 40 "_law_plain" (S__law_plain K w) := cl_plain T 40
theorem cl_spoil (T : Txt K mg w) : ∀ n, Cl CX0 P w K mg base n "_law_spoil" (prevS K n)
  | 0 => by
    obtain ⟨fd, F⟩ := T.f__law_spoil
    have bd : Binds K fd P__law_spoil [] := F.bindsN fun _ _ _ _ _ _ us hl => match us, hl with | [_], _ => rfl
    exact ⟨_, fd, _, ⟨fun _ _ _ _ h => h.elim, fun _ _ _ _ _ _ _ _ _ _ _ _ _ h => h.elim⟩, T.g__law_spoil, F.kp, bd⟩
  | n + 1 => by
    obtain ⟨fd, F⟩ := T.f__law_spoil
    have bd : Binds K fd P__law_spoil [] := F.bindsN fun _ _ _ _ _ _ us hl => match us, hl with | [_], _ => rfl
    have ok : FnOk P w K mg base CX0 (n + 1) (He.ga K "_law_spoil") fd P__law_spoil (SpSpoil K n) := F.ok sc__law_spoil len_SpSpoil (fun cdv A outer s H vs Q E hr h => ⟨t__law_spoil K w (prevS K n), PSs.nox (d__law_spoil T (cl_spoil T n) hr), pure_spoil h⟩)
    exact ⟨_, fd, _, ok, T.g__law_spoil, F.kp, bd⟩
theorem ok__law_spoil (T : Txt K mg w) : Cl CX0 P w K mg base 40 "_law_spoil" (S__law_spoil K w) := cl_spoil T 40
theorem ok__law_word (T : Txt K mg w) : Cl CX0 P w K mg base 2 "_law_word" (S__law_word K w) := by
  obtain ⟨fd, F⟩ := T.f__law_word
  have bd : Binds K fd P__law_word [] := F.bindsN fun _ _ _ _ _ _ us hl => match us, hl with | [_, _, _], _ => rfl
  have ok : FnOk P w K mg base CX0 2 (He.ga K "_law_word") fd P__law_word (S__law_word K w) := F.ok sc__law_word len__law_word (fun cdv A outer s H vs Q E hr h => ⟨t__law_word K w (S__law_take K w), PSs.nox (d__law_word T (ok__law_take T) hr), pure__law_word h⟩)
  exact ⟨_, fd, _, ok, T.g__law_word, F.kp, bd⟩
theorem ok__law_written (T : Txt K mg w) : Cl CX0 P w K mg base 1 "_law_written" (S__law_written K w) := by
  obtain ⟨fd, F⟩ := T.f__law_written
  have bd : Binds K fd P__law_written [] := F.bindsN fun _ _ _ _ _ _ us hl => match us, hl with | [_], _ => rfl
  have ok : FnOk P w K mg base CX0 1 (He.ga K "_law_written") fd P__law_written (S__law_written K w) := F.ok sc__law_written len__law_written (fun cdv A outer s H vs Q E hr h => ⟨t__law_written K w , PSs.nox (d__law_written T  hr), pure__law_written h⟩)
  exact ⟨_, fd, _, ok, T.g__law_written, F.kp, bd⟩
theorem ok__law_integer (T : Txt K mg w) : Cl CX0 P w K mg base 2 "_law_integer" (S__law_integer K w) := by
  obtain ⟨fd, F⟩ := T.f__law_integer
  have bd : Binds K fd P__law_integer [] := F.bindsN fun _ _ _ _ _ _ us hl => match us, hl with | [_], _ => rfl
  have ok : FnOk P w K mg base CX0 2 (He.ga K "_law_integer") fd P__law_integer (S__law_integer K w) := F.ok sc__law_integer len__law_integer (fun cdv A outer s H vs Q E hr h => ⟨t__law_integer K w (S__law_take K w), PSs.nox (d__law_integer T (ok__law_take T) hr), pure__law_integer h⟩)
  exact ⟨_, fd, _, ok, T.g__law_integer, F.kp, bd⟩
theorem ok__law_move (T : Txt K mg w) : Cl CX0 P w K mg base 3 "_law_move" (S__law_move K w) := by
  obtain ⟨fd, F⟩ := T.f__law_move
  have bd : Binds K fd P__law_move [] := F.bindsN fun _ _ _ _ _ _ us hl => match us, hl with | [_], _ => rfl
  have ok : FnOk P w K mg base CX0 3 (He.ga K "_law_move") fd P__law_move (S__law_move K w) := F.ok sc__law_move len__law_move (fun cdv A outer s H vs Q E hr h => ⟨t__law_move K w (S__law_take K w) (S__law_integer K w), PSs.nox (d__law_move T (ok__law_take T) (ok__law_integer T) hr), pure__law_move h⟩)
  exact ⟨_, fd, _, ok, T.g__law_move, F.kp, bd⟩
theorem ok__law_bad_number (T : Txt K mg w) : Cl CX0 P w K mg base 2 "_law_bad_number" (S__law_bad_number K w) := by
  obtain ⟨fd, F⟩ := T.f__law_bad_number
  have bd : Binds K fd P__law_bad_number [] := F.bindsN fun _ _ _ _ _ _ us hl => match us, hl with | [_], _ => rfl
  have ok : FnOk P w K mg base CX0 2 (He.ga K "_law_bad_number") fd P__law_bad_number (S__law_bad_number K w) := F.ok sc__law_bad_number len__law_bad_number (fun cdv A outer s H vs Q E hr h => ⟨t__law_bad_number K w (S__law_take K w), PSs.nox (d__law_bad_number T (ok__law_take T) hr), pure__law_bad_number h⟩)
  exact ⟨_, fd, _, ok, T.g__law_bad_number, F.kp, bd⟩
theorem ok__law_bent (T : Txt K mg w) : Cl CX0 P w K mg base 3 "_law_bent" (S__law_bent K w) := by
  obtain ⟨fd, F⟩ := T.f__law_bent
  have bd : Binds K fd P__law_bent [] := F.bindsN fun _ _ _ _ _ _ us hl => match us, hl with | [_, _], _ => rfl
  have ok : FnOk P w K mg base CX0 3 (He.ga K "_law_bent") fd P__law_bent (S__law_bent K w) := F.ok sc__law_bent len__law_bent (fun cdv A outer s H vs Q E hr h => ⟨t__law_bent K w (S__law_take K w) (S__law_bad_number K w), PSs.nox (d__law_bent T (ok__law_take T) (ok__law_bad_number T) hr), pure__law_bent h⟩)
  exact ⟨_, fd, _, ok, T.g__law_bent, F.kp, bd⟩
theorem ok__law_bent_move (T : Txt K mg w) : Cl CX0 P w K mg base 4 "_law_bent_move" (S__law_bent_move K w) := by
  obtain ⟨fd, F⟩ := T.f__law_bent_move
  have bd : Binds K fd P__law_bent_move [] := F.bindsN fun _ _ _ _ _ _ us hl => match us, hl with | [_, _], _ => rfl
  have ok : FnOk P w K mg base CX0 4 (He.ga K "_law_bent_move") fd P__law_bent_move (S__law_bent_move K w) := F.ok sc__law_bent_move len__law_bent_move (fun cdv A outer s H vs Q E hr h => ⟨t__law_bent_move K w (S__law_take K w) (S__law_bent K w), PSs.nox (d__law_bent_move T (ok__law_take T) (ok__law_bent T) hr), pure__law_bent_move h⟩)
  exact ⟨_, fd, _, ok, T.g__law_bent_move, F.kp, bd⟩
theorem ok__law_why (T : Txt K mg w) : Cl CX0 P w K mg base 6 "_law_why" (S__law_why K w) := by
  obtain ⟨fd, F⟩ := T.f__law_why
  have bd : Binds K fd P__law_why [] := F.bindsN fun _ _ _ _ _ _ us hl => match us, hl with | [_, _], _ => rfl
  have ok : FnOk P w K mg base CX0 6 (He.ga K "_law_why") fd P__law_why (S__law_why K w) := F.ok sc__law_why len__law_why (fun cdv A outer s H vs Q E hr h => ⟨t__law_why K w (S_read_braid K w) (S_read_paper K w), PSs.nox (d__law_why T (ok_read_braid T) (ok_read_paper T) hr), pure__law_why T h⟩)
  exact ⟨_, fd, _, ok, T.g__law_why, F.kp, bd⟩
theorem ok__law_braid_right (T : Txt K mg w) : Cl CX0 P w K mg base 41 "_law_braid_right" (S__law_braid_right K w) := by
  obtain ⟨fd, F⟩ := T.f__law_braid_right
  have bd : Binds K fd P__law_braid_right [] := F.bindsN fun _ _ _ _ _ _ us hl => match us, hl with | [_, _], _ => rfl
  have ok : FnOk P w K mg base CX0 41 (He.ga K "_law_braid_right") fd P__law_braid_right (S__law_braid_right K w) := F.ok sc__law_braid_right len__law_braid_right (fun cdv A outer s H vs Q E hr h => ⟨t__law_braid_right K w (S__law_written K w) (S_Braid_init K w) (S_write_braid K w) (S__law_plain K w) (S_read_braid K w), PSs.nox (d__law_braid_right T (ok__law_written T) (ok_Braid_init T) (ok_write_braid T) (ok__law_plain T) (ok_read_braid T) hr), pure__law_braid_right T h⟩)
  exact ⟨_, fd, _, ok, T.g__law_braid_right, F.kp, bd⟩
theorem ok__law_braids_refused (T : Txt K mg w) : Cl CX0 P w K mg base 42 "_law_braids_refused" (S__law_braids_refused K w) := by
  obtain ⟨fd, F⟩ := T.f__law_braids_refused
  have bd : Binds K fd P__law_braids_refused [] := F.bindsN fun _ _ _ _ _ _ us hl => match us, hl with | [_, _, _], _ => rfl
  have ok : FnOk P w K mg base CX0 42 (He.ga K "_law_braids_refused") fd P__law_braids_refused (S__law_braids_refused K w) := F.ok sc__law_braids_refused len__law_braids_refused (fun cdv A outer s H vs Q E hr h => ⟨t__law_braids_refused K w (S__law_written K w) (S__law_bent K w) (S__law_why K w) (S__law_plain K w) (S__law_take K w) (S__law_braid_right K w), PSs.nox (d__law_braids_refused T (ok__law_written T) (ok__law_bent T) (ok__law_why T) (ok__law_plain T) (ok__law_take T) (ok__law_braid_right T) hr), pure__law_braids_refused h⟩)
  exact ⟨_, fd, _, ok, T.g__law_braids_refused, F.kp, bd⟩
end
theorem okf_law {P : Program} {w : World} {K : PySem.W.Frag} {mg : Str → Option Value} {base : Heap} {fd : FuncData} (F : FunD K "law" "law" (defArgs s_law) (defBody s_law) (defScope s_law) [] [] (He.ga K "law") fd) (T : Txt K mg w) : FnOk P w K mg base CX0 43 (He.ga K "law") fd P_law (S_law K w) :=
  F.ok sc_law len_law (fun cdv A outer s H vs Q E hr h => ⟨t_law K w (S__law_deck K w) (S__law_take K w) (S__law_word K w) (S__law_braid_right K w) (S__law_braids_refused K w) (S__law_move K w) (S__law_written K w) (S_read_paper K w) (S_write_paper K w) (S__law_spoil K w) (S__law_plain K w) (S__law_why K w) (S__law_bent_move K w), PSs.nox (d_law T (ok__law_deck T) (ok__law_take T) (ok__law_word T) (ok__law_braid_right T) (ok__law_braids_refused T) (ok__law_move T) (ok__law_written T) (ok_read_paper T) (ok_write_paper T) (ok__law_spoil T) (ok__law_plain T) (ok__law_why T) (ok__law_bent_move T) hr), pure_law h⟩)
end K57
open PySem PySem.W PySem.Calls PyProof.Rows
set_option maxHeartbeats 0 in
theorem PySem.Challenge.cw_knotwork_k57_lines_of_braids_and_papers_holds : PySem.Challenge.rw_knotwork_k57_lines_of_braids_and_papers.Holds := by
  w_on; o_law
  refine HandSHeadRun.head_any (r := OpenLaw.row PySem.Challenge.rw_knotwork_k57_lines_of_braids_and_papers) (q := view (OpenLaw.row PySem.Challenge.rw_knotwork_k57_lines_of_braids_and_papers).prog [36]) (H := K57.hk) (ob := K57.ob) (M := 8000) (loose := K57.names) (d := HandSHeadRun.topDef (OpenLaw.row PySem.Challenge.rw_knotwork_k57_lines_of_braids_and_papers).prog 36) (kwd := []) K57.ob_eq
    (by kernel_rfl) (fun s => by kernel_rfl) K57.run (by kernel_rfl) (by kernel_rfl) (by kernel_rfl) (by rfl) (by first | assumption | decide +kernel) (by decide +kernel) ⟨rfl, rfl, rfl, rfl, rfl, by decide +kernel⟩ ?hw ?hc
  case hw => w_witness2
  case hc =>
    refine L2.walk_ofE (l := PySem.Challenge.rw_knotwork_k57_lines_of_braids_and_papers) (n := 63) (k := 43) (x := "script") (CX := L2.CX0) rfl (by decide) (by kernel_rfl) ⟨rfl, by decide, by decide⟩ ?F (fun _ _ _ _ z => z)
    intro w mg fa h Y G hmg0
    obtain ⟨K, KX, c⟩ := Y
    have hmg : mg ("law" : PySem.Str) = some (.ref fa) := by
      have e : (HandSHeadRun.topDef (OpenLaw.row PySem.Challenge.rw_knotwork_k57_lines_of_braids_and_papers).prog 36).name = ("law" : PySem.Str) := by kernel_rfl
      rw [← e]
      exact hmg0
    have T := K57.txt KX G c
    obtain ⟨fd, F⟩ := T.f_law
    have e := hmg.symm.trans T.g_law
    cases e
    have b := L2.FunD.bindsA (ps := ["script"]) F fun _ _ _ _ _ _ us hl => match us, hl with | [_], _ => rfl
    exact ⟨K, fd, K57.S_law K w, KX, fun s v => b s [v] rfl, fun H a ns hl _ hS => K57.law_start hS hl, fun base _ _ => K57.okf_law F T⟩
