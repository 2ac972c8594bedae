import PyProof.Rows.All
import Wide.All
import OpenK.AllK
import Wide.FinOn
import HandS.ForMost
import HandS.ForExc
import HandS.Wide
import HandS.Steps
import HandS.Evl
import HandS.Defaults
import HandS.IsInst
import HandS.Head0
import HandS.Head1
import HandS.Head2
import HandS.HeadEnd
import HandS.EndBits
import HandS.HeadHook1
import HandS.HeadHook2
import HandS.Property
import HandS.OwnEq
import HandS.ExcIs
import HandS.DeepEq
import HandS.HeadHook4
import HandS.TupLe
import HandS.Walk
import PySem.Challenge.RW_throughway_k72_prefixes
set_option Elab.async false
set_option linter.all false
set_option maxRecDepth 100000
set_option maxHeartbeats 4000000
/-! My own words over the hand layer: a def of the module, a method, a class, by names (Has, HasM, HasI); their calls; readings step by step. -/
namespace G
open PySem PySem.Spec PyProof.Rows L2

/-! ### a call that may let an exception out, at the slots -/
section
variable {X : Cx} {k : Nat} {f C : Addr} {fd : FuncData} {ps : List Str} {sp : Sp} {E : L2.St → XK} {x m : Str} {p pos apos : Pos} {e o : Expr} {es : List Expr} {ta : TE} {t : TA}
abbrev XC (X : Cx) : CXT := L2.CX X.prog X.w
/-- nothing is let out -/
theorem passZ (σ : L2.St) : PassesAt (XC X) X σ E0 := fun _ _ _ _ _ _ c => by
  obtain ⟨_, _, _, _, _, _, _, _, _, _, _, _, z⟩ := c
  exact z.elim
theorem pe_callS0 (F : FnOk X.prog X.w X.K X.mg X.base (XC X) k f fd ps sp) (hr : Room k X.A) (hg : Gl X x) (hm : X.mg x = some (.ref f)) (hk : PySem.W.keepIn X.K (.ref f) = true) (hb : Binds X.K fd ps []) (hx : ∀ σ, PassesAt (XC X) X σ (E σ))
    (hdb : (x == ("__debug__" : Str)) = false := by decide) : PE X (.Call (.Name x p) [] [] pos) (tCallS sp E tNil) := by
  refine ⟨fun pz s σ H Q I h => ?_⟩
  refine wpAny_Call_Name_kw ?_
  refine ld_glob I hg hm ?_ hdb
  exact PySem.W.callWith_K0 I.kIn hk (run_fnS (us := []) F hr hb (hx σ) I .nil h)
/-- o.m(..) -/
def tMt (C : Addr) (m : Str) (sp : Sp) (E : L2.St → XK) (ta : TE) (t : TA) : TE := fun σ H Q => ta σ H fun x H1 => ∃ a dx fs, x = .ref a ∧ H1 a = some (.ins C dx fs) ∧ fs.lookup m = none ∧
  t σ H1 fun vs H2 => sp (x :: vs) H2 Q (E σ)
theorem pe_mt {pl : Sem Bool} (he : PE X o ta) (c : Cls X.K C) (hm : Meth X.K C m f) (F : FnOk X.prog X.w X.K X.mg X.base (XC X) k f fd ps sp) (hr : Room k X.A) (hb : Binds X.K fd ps []) (hx : ∀ σ, PassesAt (XC X) X σ (E σ)) (ha : PA X (e :: es) t)
    (hst : starEach (e :: es) X.env = (false, eval e X.env) :: starEach es X.env := by rfl) (hpl : (backTo pos (starEach es X.env)).any (·.1) = false := by rfl)
    (ht : eval (.Call (.Attribute o m apos) (e :: es) [] pos) X.env = (do
      let ov ← eval o X.env
      standAt apos.atName
      let (f, first) ← holding [ov] (getMethod ov m pl)
      callWith pos f first (backTo pos (starEach (e :: es) X.env)) (backToKw pos (keywordEach [] X.env))) := by rfl) :
    PE X (.Call (.Attribute o m apos) (e :: es) [] pos) (tMt C m sp E ta t) := by
  refine ⟨fun pz s σ H Q I h => ?_⟩
  refine PySem.W.methodCall_KW (pl := pl) (thn (he.run pz s σ H _ I h) fun u z1 ⟨x, H1, J1, rq, a, dx, fs, ex, ea, l, q⟩ => ?_) ht
  subst ex
  obtain rfl : u = Value.ref a := rq
  refine getmeth_ok J1 ea c hm l ?_
  refine PySem.W.callWith_K (first := [.ref a]) (h₀ := X.base) I.ok.mod.kin hm.kp (thn (ha.run pos pz z1 σ H1 _ J1 q) fun us s2 ⟨vs, H2, J2, r, qb⟩ => ⟨J2.kIn, ?_⟩) hst hpl
  exact run_fnS (us := .ref a :: us) (vs := .ref a :: vs) F hr hb (hx σ) J2 (.cons rfl r) qb
theorem pe_mt0 {pl : Sem Bool} (he : PE X o ta) (c : Cls X.K C) (hm : Meth X.K C m f) (F : FnOk X.prog X.w X.K X.mg X.base (XC X) k f fd ps sp) (hr : Room k X.A) (hb : Binds X.K fd ps []) (hx : ∀ σ, PassesAt (XC X) X σ (E σ))
    (ht : eval (.Call (.Attribute o m apos) [] [] pos) X.env = (do
      let ov ← eval o X.env
      standAt apos.atName
      let (f, first) ← holding [ov] (getMethod ov m pl)
      callWith pos f first (backTo pos (starEach [] X.env)) (backToKw pos (keywordEach [] X.env))) := by rfl) :
    PE X (.Call (.Attribute o m apos) [] [] pos) (tMt C m sp E ta tNil) := by
  refine ⟨fun pz s σ H Q I h => ?_⟩
  refine PySem.W.methodCall_KW (pl := pl) (thn (he.run pz s σ H _ I h) fun u z1 ⟨x, H1, J1, rq, a, dx, fs, ex, ea, l, q⟩ => ?_) ht
  subst ex
  obtain rfl : u = Value.ref a := rq
  refine getmeth_ok J1 ea c hm l ?_
  exact PySem.W.callWith_K0 (first := [.ref a]) J1.kIn hm.kp (run_fnS (us := [.ref a]) (vs := [.ref a]) F hr hb (hx σ) J1 (.cons rfl .nil) q)
/-- C(..) -/
def tMk (C : Addr) (sp : Sp) (E : L2.St → XK) (t : TA) : TE := fun σ H Q => t σ H fun vs H1 => ∀ x dx, H1 x = none → H1 dx = none → dx ≠ x →
  sp (.ref x :: vs) (upd (upd H1 dx (.own x)) x (.ins C dx [])) (fun v H2 => v = .non ∧ Q (.ref x) H2) (E σ)
theorem run_mk {pz : List (Addr × Obj)} {σ : L2.St} {H : Hp} {s : Shared} {Q : VK} {us : List Value} {vs : List V} (M : Mk X.K C f) (F : FnOk X.prog X.w X.K X.mg X.base (XC X) k f fd ps sp) (hr : Room (k + 1) X.A) (hb : Binds X.K fd ps [])
    (hx : PassesAt (XC X) X σ (E σ)) (I : Inv X pz σ H s) (r : Vals vs us)
    (h : ∀ x dx, H x = none → H dx = none → dx ≠ x → sp (.ref x :: vs) (upd (upd H dx (.own x)) x (.ins C dx [])) (fun v H2 => v = .non ∧ Q (.ref x) H2) (E σ)) :
    wpAny (model X.prog X.w) X.A (call (.ref C) us) (EP X pz σ Q) X.xe s := by
  have hqa := h (s.heap.objs.size + 1) s.heap.objs.size (I.hok.fresh (Nat.le_succ _)) (I.hok.fresh (Nat.le_refl _)) (Nat.ne_of_lt (Nat.lt_succ_self _))
  have J2 := Inv.made (C := C) I
  have rr2 : Vals (V.ref (s.heap.objs.size + 1) :: vs) (Value.ref (s.heap.objs.size + 1) :: us) := .cons rfl r
  have hl : (Value.ref (s.heap.objs.size + 1) :: us).length = ps.length := by
    have e := rr2.length
    rw [F.len _ _ _ _ hqa] at e
    exact e.symm
  have b := hb _ (Value.ref (s.heap.objs.size + 1) :: us) J2.kIn (by rw [List.append_nil]; exact hl)
  rw [List.append_nil] at b
  refine wpAny_call (make_map (f := f) I.kIn M.makes M.init (beq_iff_eq.mp M.fn) (codeAny_mono (F.run _ X.stack _ _ ⟨Value.ref (s.heap.objs.size + 1) :: us, []⟩ (Value.ref (s.heap.objs.size + 1) :: us) _ _ (E σ) (hr.make C us [])
    (J2.env0.make C us []) b rr2 hqa) fun r s' hqb => ?_))
  cases r with
  | error e => exact hx pz _ _ e s' J2 hqb
  | ok fl =>
    cases fl with
    | ret u =>
      obtain ⟨v, H', J3, rv, ev, qc⟩ := J2.after hqb
      subst ev
      exact ⟨rv, ⟨V.ref (s.heap.objs.size + 1), H', J3, rfl, qc⟩⟩
    | next => exact False.elim hqb
    | brk => exact False.elim hqb
    | cont => exact False.elim hqb
theorem pe_mk (M : Mk X.K C f) (F : FnOk X.prog X.w X.K X.mg X.base (XC X) k f fd ps sp) (hr : Room (k + 1) X.A) (hg : Gl X x) (hm : X.mg x = some (.ref C)) (hb : Binds X.K fd ps []) (hx : ∀ σ, PassesAt (XC X) X σ (E σ))
    (ha : PA X (e :: es) t) (hdb : (x == ("__debug__" : Str)) = false := by decide) (he : starEach (e :: es) X.env = (false, eval e X.env) :: starEach es X.env := by rfl) (hpl : (backTo pos (starEach es X.env)).any (·.1) = false := by rfl) :
    PE X (.Call (.Name x p) (e :: es) [] pos) (tMk C sp E t) := by
  refine ⟨fun pz s σ H Q I h => ?_⟩
  refine wpAny_Call_Name_kw ?_
  refine ld_glob I hg hm ?_ hdb
  refine PySem.W.callWith_K (h₀ := X.base) I.ok.mod.kin M.kp (thn (ha.run pos pz s σ H _ I h) fun us z1 ⟨vs, H1, J1, r, q⟩ => ⟨J1.kIn, ?_⟩) he hpl
  exact run_mk M F hr hb (hx σ) J1 r q
theorem pe_mk0 (M : Mk X.K C f) (F : FnOk X.prog X.w X.K X.mg X.base (XC X) k f fd ps sp) (hr : Room (k + 1) X.A) (hg : Gl X x) (hm : X.mg x = some (.ref C)) (hb : Binds X.K fd ps []) (hx : ∀ σ, PassesAt (XC X) X σ (E σ))
    (hdb : (x == ("__debug__" : Str)) = false := by decide) : PE X (.Call (.Name x p) [] [] pos) (tMk C sp E tNil) := by
  refine ⟨fun pz s σ H Q I h => ?_⟩
  refine wpAny_Call_Name_kw ?_
  refine ld_glob I hg hm ?_ hdb
  exact PySem.W.callWith_K0 I.kIn M.kp (run_mk (us := []) M F hr hb (hx σ) I .nil h)
end

/-! ### by names -/
section
variable (P : Program) (w : World) (K : PySem.W.Frag) (mg : Str → Option Value) (base : Heap)
/-- a def of the module -/
structure Has (k : Nat) (x : Str) (ps : List Str) (sp : Sp) : Prop where
  gl : mg x = some (.ref (He.ga K x))
  kp : PySem.W.keepIn K (.ref (He.ga K x)) = true
  ex : ∃ fd, FnOk P w K mg base (L2.CX P w) k (He.ga K x) fd ps sp ∧ Binds K fd ps []
/-- a method -/
structure HasM (k : Nat) (c m : Str) (ps : List Str) (sp : Sp) : Prop where
  cl : Cls K (He.ga K c)
  me : Meth K (He.ga K c) m (He.ma K (He.ga K c) m)
  ex : ∃ fd, FnOk P w K mg base (L2.CX P w) k (He.ma K (He.ga K c) m) fd ps sp ∧ Binds K fd ps []
/-- a class that is made by its __init__ -/
structure HasI (k : Nat) (c : Str) (ps : List Str) (sp : Sp) : Prop where
  gl : mg c = some (.ref (He.ga K c))
  mkr : Mk K (He.ga K c) (He.ma K (He.ga K c) "__init__")
  ex : ∃ fd, FnOk P w K mg base (L2.CX P w) k (He.ma K (He.ga K c) "__init__") fd ps sp ∧ Binds K fd ps []
end
section
variable {P : Program} {w : World} {K : PySem.W.Frag} {mg : Str → Option Value} {base : Heap}
theorem Has.mono {j k : Nat} {x : Str} {ps : List Str} {sp : Sp} (h : Has P w K mg base j x ps sp) (l : j ≤ k) : Has P w K mg base k x ps sp :=
  ⟨h.gl, h.kp, let ⟨fd, F, b⟩ := h.ex; ⟨fd, F.mono l, b⟩⟩
theorem HasM.mono {j k : Nat} {c m : Str} {ps : List Str} {sp : Sp} (h : HasM P w K mg base j c m ps sp) (l : j ≤ k) : HasM P w K mg base k c m ps sp :=
  ⟨h.cl, h.me, let ⟨fd, F, b⟩ := h.ex; ⟨fd, F.mono l, b⟩⟩
theorem HasI.mono {j k : Nat} {c : Str} {ps : List Str} {sp : Sp} (h : HasI P w K mg base j c ps sp) (l : j ≤ k) : HasI P w K mg base k c ps sp :=
  ⟨h.gl, h.mkr, let ⟨fd, F, b⟩ := h.ex; ⟨fd, F.mono l, b⟩⟩
end
section
variable {X : Cx} {k : Nat} {ps : List Str} {sp : Sp} {E : L2.St → XK} {x c m : Str} {p pos apos : Pos} {e o : Expr} {es : List Expr} {ta : TE} {t : TA}
theorem pe_h (h : Has X.prog X.w X.K X.mg X.base k x ps sp) (hr : Room k X.A) (hg : Gl X x) (hx : ∀ σ, PassesAt (XC X) X σ (E σ)) (ha : PA X (e :: es) t) (hdb : (x == ("__debug__" : Str)) = false := by decide)
    (he : starEach (e :: es) X.env = (false, eval e X.env) :: starEach es X.env := by rfl) (hpl : (backTo pos (starEach es X.env)).any (·.1) = false := by rfl) : PE X (.Call (.Name x p) (e :: es) [] pos) (tCallS sp E t) := by
  obtain ⟨fd, F, b⟩ := h.ex
  exact pe_callS F hr hg h.gl h.kp b hx ha hdb he hpl
theorem pe_h0 (h : Has X.prog X.w X.K X.mg X.base k x ps sp) (hr : Room k X.A) (hg : Gl X x) (hx : ∀ σ, PassesAt (XC X) X σ (E σ)) (hdb : (x == ("__debug__" : Str)) = false := by decide) : PE X (.Call (.Name x p) [] [] pos) (tCallS sp E tNil) := by
  obtain ⟨fd, F, b⟩ := h.ex
  exact pe_callS0 F hr hg h.gl h.kp b hx hdb
theorem pe_i (h : HasI X.prog X.w X.K X.mg X.base k c ps sp) (hr : Room (k + 1) X.A) (hg : Gl X c) (hx : ∀ σ, PassesAt (XC X) X σ (E σ)) (ha : PA X (e :: es) t) (hdb : (c == ("__debug__" : Str)) = false := by decide)
    (he : starEach (e :: es) X.env = (false, eval e X.env) :: starEach es X.env := by rfl) (hpl : (backTo pos (starEach es X.env)).any (·.1) = false := by rfl) : PE X (.Call (.Name c p) (e :: es) [] pos) (tMk (He.ga X.K c) sp E t) := by
  obtain ⟨fd, F, b⟩ := h.ex
  exact pe_mk h.mkr F hr hg h.gl b hx ha hdb he hpl
theorem pe_i0 (h : HasI X.prog X.w X.K X.mg X.base k c ps sp) (hr : Room (k + 1) X.A) (hg : Gl X c) (hx : ∀ σ, PassesAt (XC X) X σ (E σ)) (hdb : (c == ("__debug__" : Str)) = false := by decide) : PE X (.Call (.Name c p) [] [] pos) (tMk (He.ga X.K c) sp E tNil) := by
  obtain ⟨fd, F, b⟩ := h.ex
  exact pe_mk0 h.mkr F hr hg h.gl b hx hdb
theorem pe_m {pl : Sem Bool} (he : PE X o ta) (h : HasM X.prog X.w X.K X.mg X.base k c m ps sp) (hr : Room k X.A) (hx : ∀ σ, PassesAt (XC X) X σ (E σ)) (ha : PA X (e :: es) t)
    (hst : starEach (e :: es) X.env = (false, eval e X.env) :: starEach es X.env := by rfl) (hpl : (backTo pos (starEach es X.env)).any (·.1) = false := by rfl)
    (ht : eval (.Call (.Attribute o m apos) (e :: es) [] pos) X.env = (do
      let ov ← eval o X.env
      standAt apos.atName
      let (f, first) ← holding [ov] (getMethod ov m pl)
      callWith pos f first (backTo pos (starEach (e :: es) X.env)) (backToKw pos (keywordEach [] X.env))) := by rfl) :
    PE X (.Call (.Attribute o m apos) (e :: es) [] pos) (tMt (He.ga X.K c) m sp E ta t) := by
  obtain ⟨fd, F, b⟩ := h.ex
  exact pe_mt he h.cl h.me F hr b hx ha hst hpl ht
theorem pe_m0 {pl : Sem Bool} (he : PE X o ta) (h : HasM X.prog X.w X.K X.mg X.base k c m ps sp) (hr : Room k X.A) (hx : ∀ σ, PassesAt (XC X) X σ (E σ))
    (ht : eval (.Call (.Attribute o m apos) [] [] pos) X.env = (do
      let ov ← eval o X.env
      standAt apos.atName
      let (f, first) ← holding [ov] (getMethod ov m pl)
      callWith pos f first (backTo pos (starEach [] X.env)) (backToKw pos (keywordEach [] X.env))) := by rfl) :
    PE X (.Call (.Attribute o m apos) [] [] pos) (tMt (He.ga X.K c) m sp E ta tNil) := by
  obtain ⟨fd, F, b⟩ := h.ex
  exact pe_mt0 he h.cl h.me F hr b hx ht
/-- raise X('..'), X without an __init__ -/
def tRs (C : Addr) (W : WX) : TS := fun _ σ H => W (.ref C) none σ H
/-- what the class of an own exception must have -/
structure HasX (K : PySem.W.Frag) (mg : Str → Option Value) (c : Str) : Prop where
  gl : mg c = some (.ref (He.ga K c))
  ex : PySem.W.excIn K (He.ga K c) He.veBase "ValueError.__new__" = true
  kp : PySem.W.keepIn K (.ref (He.ga K c)) = true
  sb : PySem.W.subIn K (.ref (He.ga K c)) (.type "BaseException") = some true
  ty : PySem.W.typeIn K (.ref (He.ga K c)) = some (.type "type")
theorem ps_rs {W : WX} {msg : Str} {j : Nat} {p2 pos2 : Pos} (hc : X.calm = true) (tk : Takes X W) (h : HasX X.K X.mg c) (hg : Gl X c) (hdb : (c == ("__debug__" : Str)) = false := by decide) :
    PS X (.Raise (some (.Call (.Name c p) [.Constant (.str msg) j p2] [] pos)) none pos2) (tRs (He.ga X.K c) W) :=
  ps_raise hc tk (pmk_own PySem.F.excBase_ValueError h.ex h.gl h.kp (raises_own h.sb h.ty) hg hdb)
end

/-! ### a def of the text keeps its promise -/
section
variable {P : Program} {w : World} {K : PySem.W.Frag} {mg : Str → Option Value} {base : Heap}
/-- what the body's term and its reading are to give -/
abbrev Body (P : Program) (w : World) (K : PySem.W.Frag) (mg : Str → Option Value) (base : Heap) (k : Nat) (N : List Str) (qual : Str) (scope : Scope) (f : Addr) (body : List Stmt) (sp : Sp) : Prop :=
  ∀ (cdv : Value) (A : Around) (outer : List Env) (s : Shared) (H : Hp) (vs : List V) (Q : VK) (E : XK), Room k (A.deeper (envOfC qual scope s.heap.objs.size f cdv)) → sp vs H Q E →
      ∃ t, PSs (cxOf (L2.CX P w) P w K mg base N qual scope f cdv A outer s H E) body t ∧ t { nx := fun _ H' => Q .non H', rt := Q } (start N vs) H
theorem mk_has {k : Nat} {x qual : Str} {params : Arguments} {body : List Stmt} {scope : Scope} {N ps : List Str} {sp : Sp} (gl : mg x = some (.ref (He.ga K x)))
    (F : ∃ fd, FunD K x qual params body scope [] [] (He.fAd K (x, none)) fd) (S : FnScope N ps scope)
    (hb : ∀ (kV doc pm : Value) (an : Option Addr) (cdv ct : Value) (us : List Value), us.length = ps.length → bindArgs (PySem.W.fnOf x qual params body scope .none kV doc pm an cdv ct) ⟨us, []⟩ = pure (ps.zip us))
    (len : ∀ vs H Q E, sp vs H Q E → vs.length = ps.length) (hbody : Body P w K mg base k N qual scope (He.ga K x) body sp) : Has P w K mg base (k + 1) x ps sp := by
  obtain ⟨fd, F⟩ := F
  exact ⟨gl, F.kp, fd, FunD.ok (CX := L2.CX P w) F S len hbody, F.bindsN hb⟩
theorem mk_hasM {k : Nat} {c m qual : Str} {params : Arguments} {body : List Stmt} {scope : Scope} {N ps : List Str} {sp : Sp} (cl : Cls K (He.ga K c)) (me : Meth K (He.ga K c) m (He.ma K (He.ga K c) m))
    (F : ∃ fd, FunD K m qual params body scope [] [] (He.fAd K (c, some m)) fd) (S : FnScope N ps scope)
    (hb : ∀ (kV doc pm : Value) (an : Option Addr) (cdv ct : Value) (us : List Value), us.length = ps.length → bindArgs (PySem.W.fnOf m qual params body scope .none kV doc pm an cdv ct) ⟨us, []⟩ = pure (ps.zip us))
    (len : ∀ vs H Q E, sp vs H Q E → vs.length = ps.length) (hbody : Body P w K mg base k N qual scope (He.ma K (He.ga K c) m) body sp) : HasM P w K mg base (k + 1) c m ps sp := by
  obtain ⟨fd, F⟩ := F
  exact ⟨cl, me, fd, FunD.ok (CX := L2.CX P w) F S len hbody, F.bindsN hb⟩
theorem mk_hasI {k : Nat} {c qual : Str} {params : Arguments} {body : List Stmt} {scope : Scope} {N ps : List Str} {sp : Sp} (gl : mg c = some (.ref (He.ga K c))) (mk : Mk K (He.ga K c) (He.ma K (He.ga K c) "__init__"))
    (F : ∃ fd, FunD K "__init__" qual params body scope [] [] (He.fAd K (c, some "__init__")) fd) (S : FnScope N ps scope)
    (hb : ∀ (kV doc pm : Value) (an : Option Addr) (cdv ct : Value) (us : List Value), us.length = ps.length → bindArgs (PySem.W.fnOf "__init__" qual params body scope .none kV doc pm an cdv ct) ⟨us, []⟩ = pure (ps.zip us))
    (len : ∀ vs H Q E, sp vs H Q E → vs.length = ps.length) (hbody : Body P w K mg base k N qual scope (He.ma K (He.ga K c) "__init__") body sp) : HasI P w K mg base (k + 1) c ps sp := by
  obtain ⟨fd, F⟩ := F
  exact ⟨gl, mk, fd, FunD.ok (CX := L2.CX P w) F S len hbody, F.bindsN hb⟩
/-- the head's facts -/
structure Tx (fa : List He.Fa) (fn : List He.DefD) (K : PySem.W.Frag) (mg : Str → Option Value) (base : Heap) : Prop where
  kin : K.In base
  ns : base.Ns mainGlobals mg
  says : He.SaysD fa fn K
variable {fa : List He.Fa} {fn : List He.DefD}
theorem Tx.glo (T : Tx fa fn K mg base) {x : Str} (i : Nat) (h : fa[i]? = some (.glo x) := by rfl) : mg x = some (.ref (He.ga K x)) := He.glo_ok T.kin T.ns (T.says.fact i h)
theorem Tx.free (T : Tx fa fn K mg base) {x : Str} (i : Nat) (h : fa[i]? = some (.free x) := by rfl) : mg x = none := He.free_ok T.kin T.ns (T.says.fact i h)
theorem Tx.cls (T : Tx fa fn K mg base) {x : Str} (i : Nat) (h : fa[i]? = some (.cls x) := by rfl) : Cls K (He.ga K x) := He.cls_ok (T.says.fact i h)
theorem Tx.noat (T : Tx fa fn K mg base) {x f : Str} (i : Nat) (h : fa[i]? = some (.noat x f) := by rfl) : NoAttr K (He.ga K x) f := He.noat_ok (T.says.fact i h)
theorem Tx.meth (T : Tx fa fn K mg base) {x m : Str} (i : Nat) (h : fa[i]? = some (.meth x m) := by rfl) : Meth K (He.ga K x) m (He.ma K (He.ga K x) m) := He.meth_ok (T.says.fact i h)
theorem Tx.mkr (T : Tx fa fn K mg base) {x : Str} (i : Nat) (h : fa[i]? = some (.mkr x) := by rfl) : Mk K (He.ga K x) (He.ma K (He.ga K x) "__init__") := He.mkr_ok (T.says.fact i h)
theorem Tx.exm (T : Tx fa fn K mg base) {x y : Str} {b : Bool} (i : Nat) (h : fa[i]? = some (.exm x y b) := by rfl) : PySem.W.exmOne K (.ref (He.ga K x)) (.ref (He.ga K y)) = some b := He.exm_ok (T.says.fact i h)
theorem Tx.exc (T : Tx fa fn K mg base) {x : Str} (i j : Nat) (h : fa[i]? = some (.exc x) := by rfl) (h2 : fa[j]? = some (.glo x) := by rfl) : HasX K mg x :=
  let ⟨a, b, c, d⟩ := He.exc_ok (T.says.fact i h)
  ⟨T.glo j h2, a, b, c, d⟩
end

/-! ### the end, with the script's bits told -/
theorem walk_ofEB {l : PySem.W.OpenLaw} {n k : Nat} {q : Program} {loose : List Str} {XP : (Str → Option Value) → Heap → Prop} {YP : World → Heap → Prop} {d : DefRec} {CX : World → CXT} {x : Str}
    (hn : l.most = some n) (hn2 : n ≤ sizeLine) (hdf : d.params.defaults = []) (hr : Room k callerA)
    (F : ∀ (w : World) (mg : Str → Option Value) (fa : Addr) (h : Heap), YP w h → h.Ns mainGlobals mg → mg d.name = some (.ref fa) →
      ∃ (K : PySem.W.Frag) (fd : FuncData) (sp : Sp), K.In h ∧ (∀ (s : Shared) (u : Value), BindsTo s fd ⟨[u], []⟩ [(x, u)]) ∧
        (∀ (H : Hp) (a : Addr) (ns : List Int), ns.length ≤ n → (∀ z ∈ ns, Builtin.Int.intBits z ≤ 1048576) → Only H → SqL K H a (ns.map V.int) → sp [.ref a] H (fun v _ => v = .bl true) fun _ _ _ => False) ∧
        ∀ base : Heap, K.In base → base.Ns mainGlobals mg → FnOk l.prog w K mg base (CX w) k fa fd [x] sp)
    (hCX : ∀ (w : World) (H : Hp) (s : Shared) (e : Value) (s' : Shared), CX w [] H s (fun _ _ _ => False) e s' → False) :
    PySem.W.WalkO q loose XP YP l.row.toRowW d [] (fun f vs => PySem.call f vs) := by
  refine Att.attach_callB hn hdf fun w sA sB mg mb fa o pm cd doc a vs ns G Y ho hd hcd hmg hobj hints hlen hbits hg => ?_
  obtain ⟨K, fd, sp, kx, bd, sh, FF⟩ := F w mg fa _ Y G.T.g hmg
  exact law_call kx G.T.g G.T.b G.T.builtins G.T.nolimit hg hobj hints (Nat.le_trans hlen hn2) hr FF bd (fun H hO hS => sh H a ns hlen hbits hO hS) fun H e s' => hCX w H sB e s'
end G

/-! readings, step by step -/
namespace G
open PySem PySem.Spec PyProof.Rows L2
/-! ### names of the rules' relations -/
abbrev wB (E : XK) : WX := fun cls d _ H => E cls d H
abbrev gAdd : R2 := rI0 fun i j => .int (i + j)
abbrev gMinus : R2 := rI0 fun i j => .int (i - j)
abbrev gMul : R2 := rI CMul fun i j => .int (i * j)
abbrev gMulW : R2 := rI CMulW fun i j => .int (i * j)
abbrev gDiv : R2 := rI CDiv fun i j => .int (i / j)
abbrev gDivW : R2 := rI CDivW fun i j => .int (i / j)
abbrev gMod : R2 := rI (fun _ j => 0 < j) fun i j => .int (i % j)
abbrev gPow : R2 := rI CPow fun i j => .int (i ^ j.toNat)
abbrev gShl : R2 := rI CPow fun i j => .int (i * 2 ^ j.toNat)
abbrev gShr : R2 := rI (fun _ j => 0 ≤ j) fun i j => .int (i / 2 ^ j.toNat)
abbrev gAnd : R2 := rI0 fun i j => .int (Builtin.bitAnd i j)
abbrev gOr : R2 := rI0 fun i j => .int (Builtin.bitOr i j)
abbrev gXor : R2 := rI0 fun i j => .int (Builtin.bitXor i j)
abbrev gLt : R2 := rI0 fun i j => .bl (decide (i < j))
abbrev gLte : R2 := rI0 fun i j => .bl (decide (i ≤ j))
abbrev gGt : R2 := rI0 fun i j => .bl (decide (j < i))
abbrev gGte : R2 := rI0 fun i j => .bl (decide (j ≤ i))
abbrev gLe : R2 := gLte
abbrev gGe : R2 := gGte
abbrev gNeg : V → Hp → VK → Prop := rU fun i => .int (-i)
abbrev gCatS : R2 := fun x y H Q => ∃ i j, x = .str i ∧ y = .str j ∧ i.length + j.length ≤ sizeLine ∧ Q (.str (i ++ j)) H
abbrev gInS : R2 := rInS
abbrev gNotInS : R2 := rNotInS
abbrev gLen (K : PySem.W.Frag) : List V → Hp → VK → Prop := fun xs H Q => ∃ x n, xs = [x] ∧ LenV K x H n ∧ Q (.int (n : Nat)) H
abbrev gMin2 : List V → Hp → VK → Prop := fun xs H Q => ∃ i j, xs = [.int i, .int j] ∧ Q (.int (if j < i then j else i)) H
abbrev gMax2 : List V → Hp → VK → Prop := fun xs H Q => ∃ i j, xs = [.int i, .int j] ∧ Q (.int (if j > i then j else i)) H
abbrev gAbs : List V → Hp → VK → Prop := fun xs H Q => ∃ i, xs = [.int i] ∧ Q (.int (if i < 0 then -i else i)) H
abbrev gInt1 : List V → Hp → VK → Prop := fun xs H Q => (∃ i, xs = [.int i] ∧ Q (.int i) H) ∨ ∃ k, xs = [.bl k] ∧ Q (.int (if k then 1 else 0)) H
abbrev gBool1 : List V → Hp → VK → Prop := fun xs H Q => (∃ i, xs = [.int i] ∧ Q (.bl (i != 0)) H) ∨ ∃ k, xs = [.bl k] ∧ Q (.bl k) H
abbrev gStr1 : List V → Hp → VK → Prop := fun xs H Q => ∃ i, xs = [.int i] ∧ i.natAbs.log2 < 1920 ∧ Q (.str (toString i)) H
abbrev gListOf (K : PySem.W.Frag) : List V → Hp → VK → Prop := fun xs H Q => ∃ p ys, xs = [.ref p] ∧ (SqL K H p ys ∨ SqT K H p ys) ∧ ∀ l, H l = none → Q (.ref l) (upd H l (.lst ys))
abbrev gTupOf (K : PySem.W.Frag) : List V → Hp → VK → Prop := fun xs H Q => ∃ p ys, xs = [.ref p] ∧ ((SqL K H p ys ∧ ∀ l, H l = none → Q (.ref l) (upd H l (.tup ys))) ∨ (SqT K H p ys ∧ Q (.ref p) H))
section
variable {X : Cx} {x : Str} {pos : Pos}
theorem pe_gint {i : Int} (hg : Gl X x) (hm : ∃ t, X.mg x = some (.int i t)) (hd : (x == ("__debug__" : Str)) = false := by decide) : PE X (.Name x pos) (tC (.int i)) := by
  obtain ⟨t, hm⟩ := hm
  exact pe_glob hg hm ⟨t, rfl⟩ hd
theorem pe_gstr {z : Str} (hg : Gl X x) (hm : ∃ t, X.mg x = some (.str z t)) (hd : (x == ("__debug__" : Str)) = false := by decide) : PE X (.Name x pos) (tC (.str z)) := by
  obtain ⟨t, hm⟩ := hm
  exact pe_glob hg hm ⟨t, rfl⟩ hd
theorem pe_gref {a : Addr} (hg : Gl X x) (hm : X.mg x = some (.ref a)) (hd : (x == ("__debug__" : Str)) = false := by decide) : PE X (.Name x pos) (tC (.ref a)) := pe_glob hg hm rfl hd
end
section
variable {K : PySem.W.Frag} {mg : Str → Option Value} {base : Heap} {fa : List He.Fa} {fn : List He.DefD}
theorem Tx.int (T : Tx fa fn K mg base) {x : Str} {n : Int} (i : Nat) (h : fa[i]? = some (.int x n) := by rfl) : ∃ t, mg x = some (.int n t) := He.int_ok T.kin T.ns (T.says.fact i h)
theorem Tx.str (T : Tx fa fn K mg base) {x z : Str} (i : Nat) (h : fa[i]? = some (.str x z) := by rfl) : ∃ t, mg x = some (.str z t) := He.str_ok T.kin T.ns (T.says.fact i h)
end

/-! ### steps -/
section
variable {K : PySem.W.Frag} {σ : L2.St} {H : Hp} {Q : VK} {v x y : V} {i j : Int} {n : Nat} {ta tb tc te : TE} {r r' : R2} {g : Int → Int → V} {C : Int → Int → Prop} {tA : TA}
theorem w_var (h : σ[n]? = some (some v)) (q : Q v H) : tVar n σ H Q := ⟨v, h, q⟩
theorem w_c (q : Q v H) : tC v σ H Q := q
theorem w_op (h : ta σ H fun x H1 => tb σ H1 fun y H2 => r x y H2 Q) : tOp r ta tb σ H Q := h
theorem w_I0 (q : Q (g i j) H) : rI0 g (.int i) (.int j) H Q := ⟨i, j, rfl, rfl, q⟩
theorem w_I (c : C i j) (q : Q (g i j) H) : rI C g (.int i) (.int j) H Q := ⟨i, j, rfl, rfl, c, q⟩
theorem w_eqI (q : Q (.bl (decide (i = j))) H) : rEq (.int i) (.int j) H Q := ⟨rfl, by
  have e : decide (V.int i = V.int j) = decide (i = j) := by simp
  show Q (.bl (decide (V.int i = V.int j))) H
  rw [e]; exact q⟩
theorem w_neI (q : Q (.bl (!decide (i = j))) H) : rNe (.int i) (.int j) H Q := ⟨rfl, by
  have e : decide (V.int i = V.int j) = decide (i = j) := by simp
  show Q (.bl (!decide (V.int i = V.int j))) H
  rw [e]; exact q⟩
theorem w_eqB {a b : Bool} (q : Q (.bl (decide (a = b))) H) : rEq (.bl a) (.bl b) H Q := ⟨rfl, by
  have e : decide (V.bl a = V.bl b) = decide (a = b) := by simp
  show Q (.bl (decide (V.bl a = V.bl b))) H
  rw [e]; exact q⟩
theorem w_neB {a b : Bool} (q : Q (.bl (!decide (a = b))) H) : rNe (.bl a) (.bl b) H Q := ⟨rfl, by
  have e : decide (V.bl a = V.bl b) = decide (a = b) := by simp
  show Q (.bl (!decide (V.bl a = V.bl b))) H
  rw [e]; exact q⟩
theorem w_eqS {a b : Str} (q : Q (.bl (decide (a = b))) H) : rEq (.str a) (.str b) H Q := ⟨rfl, by
  have e : decide (V.str a = V.str b) = decide (a = b) := by simp
  show Q (.bl (decide (V.str a = V.str b))) H
  rw [e]; exact q⟩
theorem w_neS {a b : Str} (q : Q (.bl (!decide (a = b))) H) : rNe (.str a) (.str b) H Q := ⟨rfl, by
  have e : decide (V.str a = V.str b) = decide (a = b) := by simp
  show Q (.bl (!decide (V.str a = V.str b))) H
  rw [e]; exact q⟩
theorem w_isN (q : Q (.bl (decide (x = .non))) H) : rIsN x .non H Q := ⟨rfl, q⟩
theorem w_notN (q : Q (.bl (!decide (x = .non))) H) : rNotN x .non H Q := ⟨rfl, q⟩
theorem w_un {rr : V → Hp → VK → Prop} (h : ta σ H fun x H1 => rr x H1 Q) : tUn rr ta σ H Q := h
theorem w_U {f : Int → V} (q : Q (f i) H) : rU f (.int i) H Q := ⟨i, rfl, q⟩
theorem w_chain (h : ta σ H fun x H1 => tb σ H1 fun y H2 => r x y H2 fun z H3 => ∃ k, z = .bl k ∧ (if k = true then tc σ H3 fun w' H4 => r' y w' H4 Q else Q (.bl false) H3)) : tChain r r' ta tb tc σ H Q := h
theorem w_k {b : Bool} {P : Bool → Prop} (h : P b) : ∃ k, V.bl b = .bl k ∧ P k := ⟨b, rfl, h⟩
theorem w_test {Q : Bool → Hp → Prop} (h : te σ H fun x H' => ∃ k, x = .bl k ∧ Q k H') : tTest te σ H Q := h
theorem w_tB {Q : Bool → Hp → Prop} (h : te σ H fun x H' => ∃ k, x = .bl k ∧ Q k H') : tB te σ H Q := h
theorem w_tru {Q : Bool → Hp → Prop} (h : te σ H fun x H' => ∃ k, TruV K x H' k ∧ Q k H') : tTru K te σ H Q := h
theorem w_not {Q : Bool → Hp → Prop} {t : TT} (h : t σ H fun c H1 => Q (!c) H1) : tNot t σ H Q := h
theorem w_and {Q : Bool → Hp → Prop} {t u : TT} (h : t σ H fun c H1 => if c = true then u σ H1 Q else Q false H1) : tAnd t u σ H Q := h
theorem w_or {Q : Bool → Hp → Prop} {t u : TT} (h : t σ H fun c H1 => if c = true then Q true H1 else u σ H1 Q) : tOr t u σ H Q := h
theorem w_andV (h : ta σ H fun x H1 => ∃ c, x = .bl c ∧ if c = true then tb σ H1 Q else Q (.bl false) H1) : tAndV ta tb σ H Q := h
theorem w_orV (h : ta σ H fun x H1 => ∃ c, x = .bl c ∧ if c = true then Q (.bl true) H1 else tb σ H1 Q) : tOrV ta tb σ H Q := h
theorem w_notV (h : ta σ H fun x H1 => ∃ c, x = .bl c ∧ Q (.bl (!c)) H1) : tNotV ta σ H Q := h
theorem w_ife {t : TT} (h : t σ H fun c H1 => if c = true then ta σ H1 Q else tb σ H1 Q) : tIf t ta tb σ H Q := h
theorem w_nil {Q : List V → Hp → Prop} (q : Q [] H) : tNil σ H Q := q
theorem w_cons {Q : List V → Hp → Prop} (h : te σ H fun x H1 => tA σ H1 fun xs H2 => Q (x :: xs) H2) : tCons te tA σ H Q := h
theorem w_tup (h : tA σ H fun xs H1 => xs.length ≤ sizeLine ∧ ∀ p, H1 p = none → Q (.ref p) (upd H1 p (.tup xs))) : tTup tA σ H Q := h
theorem w_lst (h : tA σ H fun xs H1 => xs.length ≤ sizeLine ∧ ∀ p, H1 p = none → Q (.ref p) (upd H1 p (.lst xs))) : tLst tA σ H Q := h
theorem w_small {xs : List V} {P : Prop} (hl : Nat.ble xs.length 1000 = true) (h : P) : xs.length ≤ sizeLine ∧ P := ⟨Nat.le_trans (Nat.le_of_ble_eq_true hl) (by decide), h⟩
theorem w_call {sp : Sp} {E : L2.St → XK} (h : tA σ H fun vs H1 => sp vs H1 Q (E σ)) : tCallS sp E tA σ H Q := h
theorem w_mk {Cc : Addr} {sp : Sp} {E : L2.St → XK} (h : tA σ H fun vs H1 => ∀ x dx, H1 x = none → H1 dx = none → dx ≠ x → sp (.ref x :: vs) (upd (upd H1 dx (.own x)) x (.ins Cc dx [])) (fun v H2 => v = .non ∧ Q (.ref x) H2) (E σ)) : tMk Cc sp E tA σ H Q := h
theorem w_mt {Cc : Addr} {m : Str} {sp : Sp} {E : L2.St → XK} (h : ta σ H fun x H1 => ∃ a dx fs, x = .ref a ∧ H1 a = some (.ins Cc dx fs) ∧ fs.lookup m = none ∧ tA σ H1 fun vs H2 => sp (x :: vs) H2 Q (E σ)) : tMt Cc m sp E ta tA σ H Q := h
theorem w_cb {rr : List V → Hp → VK → Prop} (h : tA σ H fun vs H1 => rr vs H1 Q) : tCB rr tA σ H Q := h
theorem w_min2 (q : Q (.int (if j < i then j else i)) H) : gMin2 [.int i, .int j] H Q := ⟨i, j, rfl, q⟩
theorem w_max2 (q : Q (.int (if j > i then j else i)) H) : gMax2 [.int i, .int j] H Q := ⟨i, j, rfl, q⟩
theorem w_abs (q : Q (.int (if i < 0 then -i else i)) H) : gAbs [.int i] H Q := ⟨i, rfl, q⟩
theorem w_int (q : Q (.int i) H) : gInt1 [.int i] H Q := .inl ⟨i, rfl, q⟩
theorem w_lenL {p : Addr} {xs : List V} (h : SqL K H p xs) (q : Q (.int (xs.length : Int)) H) : gLen K [.ref p] H Q := ⟨_, xs.length, rfl, .inl ⟨xs, h, rfl⟩, q⟩
theorem w_lenT {p : Addr} {xs : List V} (h : SqT K H p xs) (q : Q (.int (xs.length : Int)) H) : gLen K [.ref p] H Q := ⟨_, xs.length, rfl, .inr ⟨xs, h, rfl⟩, q⟩
theorem w_lenS {z : Str} (h : z.length ≤ sizeLine) (q : Q (.int (z.length : Int)) H) : gLen K [.str z] H Q := ⟨_, z.length, rfl, ⟨h, rfl⟩, q⟩
theorem w_listL {p : Addr} {xs : List V} (h : SqL K H p xs) (q : ∀ l, H l = none → Q (.ref l) (upd H l (.lst xs))) : gListOf K [.ref p] H Q := ⟨p, xs, rfl, .inl h, q⟩
theorem w_listT {p : Addr} {xs : List V} (h : SqT K H p xs) (q : ∀ l, H l = none → Q (.ref l) (upd H l (.lst xs))) : gListOf K [.ref p] H Q := ⟨p, xs, rfl, .inr h, q⟩
theorem w_ixL {p : Addr} {xs : List V} (h : SqL K H p xs) (ha : atI xs i = some v) (q : Q v H) : rIxL K (.ref p) (.int i) H Q := ⟨p, xs, i, v, rfl, rfl, h, ha, q⟩
theorem w_ixT {p : Addr} {xs : List V} (h : SqT K H p xs) (ha : atI xs i = some v) (q : Q v H) : rIxT K (.ref p) (.int i) H Q := ⟨p, xs, i, v, rfl, rfl, h, ha, q⟩
theorem w_fld {f : Str} {a Cc dx : Addr} {fs : List (Str × V)} {P : Addr → Addr → Addr → List (Str × V) → V → Prop} (h : H a = some (.ins Cc dx fs)) (c : Cls K Cc) (na : NoAttr K Cc f) (l : fs.lookup f = some v) (q : P a Cc dx fs v) :
    ∃ a' C' dx' fs' v', V.ref a = .ref a' ∧ H a' = some (.ins C' dx' fs') ∧ Cls K C' ∧ NoAttr K C' f ∧ fs'.lookup f = some v' ∧ P a' C' dx' fs' v' := ⟨a, Cc, dx, fs, v, rfl, h, c, na, l, q⟩
theorem w_mt1 {m : Str} {a Cc dx : Addr} {fs : List (Str × V)} {P : Addr → Prop} (h : H a = some (.ins Cc dx fs)) (l : fs.lookup m = none) (q : P a) :
    ∃ a' dx' fs', V.ref a = .ref a' ∧ H a' = some (.ins Cc dx' fs') ∧ fs'.lookup m = none ∧ P a' := ⟨a, dx, fs, rfl, h, l, q⟩
theorem w_fld0 {f : Str} (h : ta σ H fun x H1 => ∃ a C dx fs v, x = .ref a ∧ H1 a = some (.ins C dx fs) ∧ Cls K C ∧ NoAttr K C f ∧ fs.lookup f = some v ∧ Q v H1) : tFld K ta f σ H Q := h
theorem w_bm {T : String} {rr : V → List V → Hp → VK → Prop} (h : ta σ H fun x H1 => tyV K T x H1 ∧ tA σ H1 fun xs H2 => rr x xs H2 Q) : tBM K T rr ta tA σ H Q := h
theorem w_bm0 {T : String} {rr : V → List V → Hp → VK → Prop} (h : ta σ H fun x H1 => tyV K T x H1 ∧ rr x [] H1 Q) : tBM0 K T rr ta σ H Q := h
theorem w_app {l : Addr} {xs : List V} (h : H l = some (.lst xs)) (hz : xs.length < sizeLine) (q : Q .non (upd H l (.lst (xs ++ [v])))) : rAppend (.ref l) [v] H Q := ⟨l, xs, v, rfl, rfl, h, hz, q⟩
theorem ty_list {l : Addr} {xs : List V} {P : Prop} (h : H l = some (.lst xs)) (q : P) : tyV K "list" (.ref l) H ∧ P := ⟨.inl ⟨rfl, xs, .inl (.inl h)⟩, q⟩
end
section
variable {K : PySem.W.Frag} {σ : L2.St} {H : Hp} {D : Ends} {v x y : V} {n : Nat} {ta tb te : TE} {t u : TS} {tt : TT}
theorem w_seq (h : t { D with nx := u D } σ H) : tSeq t u D σ H := h
theorem w_next (h : D.nx σ H) : tNext D σ H := h
theorem w_brk (h : D.bk σ H) : tBreak D σ H := h
theorem w_cont (h : D.ct σ H) : tCont D σ H := h
theorem w_drop (h : te σ H fun _ H1 => D.nx σ H1) : tDrop te D σ H := h
theorem w_ret (h : te σ H D.rt) : tRet te D σ H := h
theorem w_retN (h : D.rt .non H) : tRetN D σ H := h
theorem w_if (h : tt σ H fun b H1 => if b = true then t D σ H1 else u D σ H1) : tIfS tt t u D σ H := h
theorem w_asg {g : TG} (h : te σ H fun x H1 => g x σ H1 D.nx) : tAsg te g D σ H := h
theorem w_nm {Q : L2.St → Hp → Prop} (h : Q (σ.set n (some v)) H) : gName n v σ H Q := h
theorem w_sub {to ti : TE} {ts : TSet} {Q : L2.St → Hp → Prop} (h : to σ H fun o H1 => ti σ H1 fun i H2 => ts o i v H2 fun H3 => Q σ H3) : gSub to ti ts v σ H Q := h
theorem w_setL {l : Addr} {xs : List V} {k : Int} {j : Nat} {Q : Hp → Prop} (h : H l = some (.lst xs)) (hj : ixN xs.length k = some j) (q : Q (upd H l (.lst (xs.set j v)))) : rSetL (.ref l) (.int k) v H Q := ⟨l, xs, k, j, rfl, rfl, h, hj, q⟩
theorem w_sfld {f : Str} (h : tb σ H fun y H1 => ta σ H1 fun x H2 => ∃ a C dx fs, x = .ref a ∧ H2 a = some (.ins C dx fs) ∧ Cls K C ∧ NoAttr K C f ∧ fs.length < 1000 ∧ D.nx σ (upd H2 a (.ins C dx (putF f y fs)))) : sFld K ta tb f D σ H := h
theorem w_sput {f : Str} {a C dx : Addr} {fs fs' : List (Str × V)} (h : H a = some (.ins C dx fs)) (c : Cls K C) (na : NoAttr K C f) (e : putF f y fs = fs') (l : Nat.blt fs.length 1000 = true) (q : D.nx σ (upd H a (.ins C dx fs'))) :
    ∃ a' C' dx' fs0, V.ref a = .ref a' ∧ H a' = some (.ins C' dx' fs0) ∧ Cls K C' ∧ NoAttr K C' f ∧ fs0.length < 1000 ∧ D.nx σ (upd H a' (.ins C' dx' (putF f y fs0))) := ⟨a, C, dx, fs, rfl, h, c, na, Nat.le_of_ble_eq_true l, by rw [e]; exact q⟩
theorem w_sfa {f : Str} {rd : V → V → Hp → VK → Prop} (h : ta σ H fun x H1 => ∃ a C dx fs v, x = .ref a ∧ H1 a = some (.ins C dx fs) ∧ Cls K C ∧ NoAttr K C f ∧ fs.lookup f = some v ∧
  tb σ H1 fun y H2 => rd v y H2 fun z H3 => ∃ dx' fs', H3 a = some (.ins C dx' fs') ∧ fs'.length < 1000 ∧ D.nx σ (upd H3 a (.ins C dx' (putF f z fs')))) : sFldAug K ta tb rd f D σ H := h
theorem w_sput2 {f : Str} {a C dx : Addr} {fs fs' : List (Str × V)} (h : H a = some (.ins C dx fs)) (e : putF f y fs = fs') (l : Nat.blt fs.length 1000 = true) (q : D.nx σ (upd H a (.ins C dx fs'))) :
    ∃ dx' fs0, H a = some (.ins C dx' fs0) ∧ fs0.length < 1000 ∧ D.nx σ (upd H a (.ins C dx' (putF f y fs0))) := ⟨dx, fs, h, Nat.le_of_ble_eq_true l, by rw [e]; exact q⟩
theorem w_radd {i j : Int} {Q : VK} (q : Q (.int (i + j)) H) : L2.rAdd (.int i) (.int j) H Q := ⟨i, j, rfl, rfl, q⟩
theorem w_rsub {i j : Int} {Q : VK} (q : Q (.int (i - j)) H) : L2.rSub (.int i) (.int j) H Q := ⟨i, j, rfl, rfl, q⟩
theorem w_aug {te : TE} {ti : TIp} (hx : σ[n]? = some (some x)) (h : te σ H fun y H1 => ti x y H1 fun z H2 => D.nx (σ.set n (some z)) H2) : tAug n te ti D σ H := ⟨x, hx, h⟩
theorem w_ip {f : Int → Int → Int} {i j : Int} {Q : VK} (q : Q (.int (f i j)) H) : ipI f (.int i) (.int j) H Q := ⟨i, j, rfl, rfl, q⟩
theorem w_rs {C : Addr} {W : WX} (h : W (.ref C) none σ H) : tRs C W D σ H := h
theorem w_par {i j : Nat} {tA : TA} (h : tA σ H fun vs H1 => ∃ v w, vs = [v, w] ∧ D.nx ((σ.set i (some v)).set j (some w)) H1) : tPar i j tA D σ H := h
/-! ### ifs -/
theorem if_d {p : Prop} [Decidable p] {A B : Prop} (h1 : p → A) (h2 : ¬ p → B) : if decide p = true then A else B := by
  by_cases h : p
  · rw [decide_eq_true h]; exact h1 h
  · rw [decide_eq_false h]; exact h2 h
theorem if_nd {p : Prop} [Decidable p] {A B : Prop} (h1 : ¬ p → A) (h2 : p → B) : if (!decide p) = true then A else B := by
  by_cases h : p
  · rw [decide_eq_true h]; exact h2 h
  · rw [decide_eq_false h]; exact h1 h
theorem if_T {A B : Prop} (h : A) : if true = true then A else B := h
theorem if_F {A B : Prop} (h : B) : if false = true then A else B := h
theorem if_nT {A B : Prop} (h : B) : if (!true) = true then A else B := h
theorem if_nF {A B : Prop} (h : A) : if (!false) = true then A else B := h
theorem if_b {b : Bool} {A B : Prop} (h1 : b = true → A) (h2 : b = false → B) : if b = true then A else B := by
  cases b
  · exact h2 rfl
  · exact h1 rfl
end
/-! ### loops -/
section
variable {K : PySem.W.Frag} {g : TG} {tb : TS} {D : Ends} {σ : L2.St} {H : Hp} {tA : TA} {tl : TE}
def LoopL (K : PySem.W.Frag) (a : Addr) (g : TG) (tb : TS) (D : Ends) (σ : L2.St) (H : Hp) : Prop := (∃ xs, SqL K H a xs) ∧ ∃ W : Nat → Nat → L2.St → Hp → Prop, (∃ m, W 0 m σ H) ∧ ∀ i m σ H, W i m σ H →
  ((Itl K a).stop i H ∧ D.nx σ H) ∨ ((Itl K a).go i H ∧ ∃ N : L2.St → Hp → Prop, (∀ σ' H', N σ' H' → ∃ m', m' < m ∧ W (i + 1) m' σ' H') ∧ ∀ x H', (Itl K a).yld i H x H' → g x σ H' fun σ2 H2 => tb { D with nx := N, ct := N, bk := D.nx } σ2 H2)
def LoopT (K : PySem.W.Frag) (a : Addr) (g : TG) (tb : TS) (D : Ends) (σ : L2.St) (H : Hp) : Prop := (∃ xs, SqT K H a xs) ∧ ∃ W : Nat → Nat → L2.St → Hp → Prop, (∃ m, W 0 m σ H) ∧ ∀ i m σ H, W i m σ H →
  ((Itt K a).stop i H ∧ D.nx σ H) ∨ ((Itt K a).go i H ∧ ∃ N : L2.St → Hp → Prop, (∀ σ' H', N σ' H' → ∃ m', m' < m ∧ W (i + 1) m' σ' H') ∧ ∀ x H', (Itt K a).yld i H x H' → g x σ H' fun σ2 H2 => tb { D with nx := N, ct := N, bk := D.nx } σ2 H2)
/-- the same words by names -/
def rLoop1 (g : TG) (tb : TS) (D : Ends) (σ : L2.St) (vs : List V) (H1 : Hp) : Prop := ∃ j : Int, vs = [.int j] ∧ -(2 ^ 62) ≤ j ∧ j < 2 ^ 62 ∧ ∃ W : Nat → Nat → L2.St → Hp → Prop, (∃ m, W 0 m σ H1) ∧ ∀ i m σ H, W i m σ H →
  ((Itr 0 j.toNat).stop i H ∧ D.nx σ H) ∨ ((Itr 0 j.toNat).go i H ∧ ∃ N : L2.St → Hp → Prop, (∀ σ' H', N σ' H' → ∃ m', m' < m ∧ W (i + 1) m' σ' H') ∧ ∀ x H', (Itr 0 j.toNat).yld i H x H' → g x σ H' fun σ2 H2 => tb { D with nx := N, ct := N, bk := D.nx } σ2 H2)
def rLoop2 (g : TG) (tb : TS) (D : Ends) (σ : L2.St) (vs : List V) (H1 : Hp) : Prop := ∃ i j : Int, vs = [.int i, .int j] ∧ (-(2 ^ 62) ≤ i ∧ i < 2 ^ 62 ∧ -(2 ^ 62) ≤ j ∧ j < 2 ^ 62) ∧ ∃ W : Nat → Nat → L2.St → Hp → Prop, (∃ m, W 0 m σ H1) ∧ ∀ k m σ H, W k m σ H →
  ((Itr i (j - i).toNat).stop k H ∧ D.nx σ H) ∨ ((Itr i (j - i).toNat).go k H ∧ ∃ N : L2.St → Hp → Prop, (∀ σ' H', N σ' H' → ∃ m', m' < m ∧ W (k + 1) m' σ' H') ∧ ∀ x H', (Itr i (j - i).toNat).yld k H x H' → g x σ H' fun σ2 H2 => tb { D with nx := N, ct := N, bk := D.nx } σ2 H2)
def rLoopL (K : PySem.W.Frag) (g : TG) (tb : TS) (D : Ends) (σ : L2.St) (x : V) (H1 : Hp) : Prop := ∃ a, x = .ref a ∧ LoopL K a g tb D σ H1
def rLoopT (K : PySem.W.Frag) (g : TG) (tb : TS) (D : Ends) (σ : L2.St) (x : V) (H1 : Hp) : Prop := ∃ a, x = .ref a ∧ LoopT K a g tb D σ H1
theorem w_forR1 (h : tA σ H fun vs H1 => rLoop1 g tb D σ vs H1) : tFor (iRng1 tA) g tb D σ H := h
theorem w_forR2 (h : tA σ H fun vs H1 => rLoop2 g tb D σ vs H1) : tFor (iRng2 tA) g tb D σ H := h
theorem w_forL (h : tl σ H fun x H1 => rLoopL K g tb D σ x H1) : tFor (iList K tl) g tb D σ H := h
theorem w_forT (h : tl σ H fun x H1 => rLoopT K g tb D σ x H1) : tFor (iTup K tl) g tb D σ H := h
/-- for i in range(n), n a Nat -/
theorem loop1 {n : Nat} (Pv : Nat → L2.St → Hp → Prop) {j : Int} (hj : j = (n : Int)) (hn : n < 4000000000) (h0 : Pv 0 σ H)
    (hs : ∀ i σ H, i < n → Pv i σ H → g (.int (i : Int)) σ H fun σ2 H2 => tb { D with nx := Pv (i + 1), ct := Pv (i + 1), bk := D.nx } σ2 H2) (hd : ∀ σ H, Pv n σ H → D.nx σ H) : rLoop1 g tb D σ [.int j] H := by
  subst hj
  refine ⟨(n : Int), rfl, by omega, by omega, for_range (lo := 0) (n := (n : Int).toNat) Pv h0 (fun i σ H hi p => ?_) (fun σ H p => hd σ H ?_)⟩
  · have e : (0 : Int) + (i : Int) = (i : Int) := Int.zero_add _
    rw [e]
    exact hs i σ H (by omega) p
  · have e : (n : Int).toNat = n := Int.toNat_natCast n
    rw [e] at p
    exact p
theorem loop2 {lo hi : Int} (Pv : Nat → L2.St → Hp → Prop) (hn : -4000000000 < lo ∧ lo < 4000000000 ∧ -4000000000 < hi ∧ hi < 4000000000) (h0 : Pv 0 σ H)
    (hs : ∀ (i : Nat) σ H, lo + i < hi → Pv i σ H → g (.int (lo + i)) σ H fun σ2 H2 => tb { D with nx := Pv (i + 1), ct := Pv (i + 1), bk := D.nx } σ2 H2) (hd : ∀ σ H, Pv (hi - lo).toNat σ H → D.nx σ H) : rLoop2 g tb D σ [.int lo, .int hi] H := by
  refine ⟨lo, hi, rfl, ⟨by omega, by omega, by omega, by omega⟩, for_range (lo := lo) (n := (hi - lo).toNat) Pv h0 (fun i σ H hi' p => hs i σ H (by omega) p) (fun σ H p => hd σ H p)⟩
theorem loopL {a : Addr} {xs : List V} (Pv : Nat → L2.St → Hp → Prop) (hx : SqL K H a xs) (h0 : Pv 0 σ H) (hl : ∀ i σ H, i ≤ xs.length → Pv i σ H → SqL K H a xs)
    (hs : ∀ i x σ H, xs[i]? = some x → Pv i σ H → g x σ H fun σ2 H2 => tb { D with nx := Pv (i + 1), ct := Pv (i + 1), bk := D.nx } σ2 H2) (hd : ∀ σ H, Pv xs.length σ H → D.nx σ H) : rLoopL K g tb D σ (.ref a) H := ⟨a, rfl, ⟨_, hx⟩, for_list Pv h0 hl hs hd⟩
theorem loopT {a : Addr} {xs : List V} (Pv : Nat → L2.St → Hp → Prop) (hx : SqT K H a xs) (h0 : Pv 0 σ H) (hl : ∀ i σ H, i ≤ xs.length → Pv i σ H → SqT K H a xs)
    (hs : ∀ i x σ H, xs[i]? = some x → Pv i σ H → g x σ H fun σ2 H2 => tb { D with nx := Pv (i + 1), ct := Pv (i + 1), bk := D.nx } σ2 H2) (hd : ∀ σ H, Pv xs.length σ H → D.nx σ H) : rLoopT K g tb D σ (.ref a) H := ⟨a, rfl, ⟨_, hx⟩, for_tup Pv h0 hl hs hd⟩
end
/-! ### heaps -/
theorem up_k {H : Hp} {a b : Addr} {o u : HO} (h : H b = some u) (n : b ≠ a) : upd H a o b = some u := (upd_ne n).trans h
theorem up_n {H : Hp} {a b : Addr} {o u : HO} (h : H b = some u) (n : H a = none) : upd H a o b = some u := up_k h (ne_of_none h n)
theorem same_new {H : Hp} {a : Addr} {o : HO} (n : H a = none) : Same H (upd H a o) := fun _ _ e => up_n e n
theorem same_trans_new {H H1 : Hp} {a : Addr} {o : HO} (s : Same H H1) (n : H1 a = none) : Same H (upd H1 a o) := fun b u e => up_n (s b u e) n
theorem seqL_new {K : PySem.W.Frag} {H : Hp} {a b : Addr} {o : HO} {xs : List V} (h : SqL K H b xs) (n : H a = none) : SqL K (upd H a o) b xs := (same_new n).seq h
theorem seqL_put {K : PySem.W.Frag} {H : Hp} {a b : Addr} {o : HO} {xs : List V} (h : SqL K H b xs) (n : a ≠ b) : SqL K (upd H a o) b xs := by
  rcases h with (h | ⟨u, h⟩) | h
  · exact .inl (.inl (up_k h n.symm))
  · exact .inl (.inr ⟨u, up_k h n.symm⟩)
  · exact .inr h
end G
namespace G
open PySem PySem.Spec PyProof.Rows L2
/-! ### the script, which nobody writes -/
/-- a list that stands still: frozen, or of the written part -/
def Scr (K : PySem.W.Frag) (H : Hp) (a : Addr) (xs : List V) : Prop := (∃ o, H a = some (.frz o (.lst xs))) ∨
    ∃ (o : Obj) (its : Array Value) (n : Nat), K.lookup a = some o ∧ o.cls = .type "list" ∧ o.dict = none ∧ o.data = .seq its n ∧ its.size ≤ sizeLine ∧ Vals xs its.toList
section
variable {K : PySem.W.Frag} {H H' : Hp} {a q : Addr} {xs : List V} {o : HO}
theorem Scr.sq (h : Scr K H a xs) : SqL K H a xs := by
  rcases h with ⟨o, h⟩ | h
  · exact .inl (.inr ⟨o, h⟩)
  · exact .inr h
theorem Scr.same (h : Scr K H a xs) (s : Same H H') : Scr K H' a xs := by
  rcases h with ⟨o, h⟩ | h
  · exact .inl ⟨o, s _ _ h⟩
  · exact .inr h
theorem Scr.of (hO : Only H) (h : SqL K H a xs) : Scr K H a xs := by
  rcases h with (h | ⟨o, h⟩) | h
  · rcases hO a with e | ⟨o, ys, e⟩
    · rw [e] at h; cases h
    · rw [e] at h; cases h
  · exact .inl ⟨o, h⟩
  · exact .inr h
theorem Scr.new (h : Scr K H a xs) (n : H q = none) : Scr K (upd H q o) a xs := h.same (same_new n)
/-- not frozen -/
def Thw (H : Hp) (q : Addr) : Prop := ∀ o u, H q ≠ some (.frz o u)
theorem Thw.lst {xs : List V} (h : H q = some (.lst xs)) : Thw H q := fun _ _ e => by rw [h] at e; cases e
theorem Thw.ins {C dx : Addr} {fs : List (Str × V)} (h : H q = some (.ins C dx fs)) : Thw H q := fun _ _ e => by rw [h] at e; cases e
theorem Scr.put (h : Scr K H a xs) (n : Thw H q) : Scr K (upd H q o) a xs := by
  rcases h with ⟨u, h⟩ | h
  · refine .inl ⟨u, up_k h ?_⟩
    intro e
    subst e
    exact n _ _ h
  · exact .inr h
/-- written objects are not frozen: what was frozen stays so -/
def FrzIn (H H' : Hp) : Prop := ∀ b o u, H b = some (.frz o u) → H' b = some (.frz o u)
theorem Scr.frz (h : Scr K H a xs) (s : FrzIn H H') : Scr K H' a xs := by
  rcases h with ⟨o, h⟩ | h
  · exact .inl ⟨o, s _ _ _ h⟩
  · exact .inr h
end
theorem up_none {H : Hp} {a b : Addr} {o : HO} (h : upd H a o b = none) : b ≠ a ∧ H b = none := by
  by_cases e : b = a
  · subst e; rw [upd_same] at h; cases h
  · rw [upd_ne e] at h; exact ⟨e, h⟩
theorem none_up {H : Hp} {a b : Addr} {o : HO} (n : b ≠ a) (h : H b = none) : upd H a o b = none := (upd_ne n).trans h
theorem if_yes {p : Prop} [Decidable p] {A B : Prop} (h : p) (q : A) : if decide p = true then A else B := by rw [decide_eq_true h]; exact q
theorem if_no {p : Prop} [Decidable p] {A B : Prop} (h : ¬ p) (q : B) : if decide p = true then A else B := by rw [decide_eq_false h]; exact q
theorem if_nyes {p : Prop} [Decidable p] {A B : Prop} (h : ¬ p) (q : A) : if (!decide p) = true then A else B := by rw [decide_eq_false h]; exact q
theorem if_nno {p : Prop} [Decidable p] {A B : Prop} (h : p) (q : B) : if (!decide p) = true then A else B := by rw [decide_eq_true h]; exact q
end G

namespace G
open PySem PySem.Spec PyProof.Rows L2
theorem w_cut {t u : TS} {D : Ends} {σ : L2.St} {H : Hp} (Mid : L2.St → Hp → Prop) (h : t { D with nx := Mid } σ H) (k : ∀ σ' H', Mid σ' H' → u D σ' H') : Evl.tCut t u D σ H := ⟨Mid, h, k⟩
theorem ixN_of {n j : Nat} {k : Int} (e : k = (j : Int)) (h : j < n) : ixN n k = some j := by
  subst e
  unfold ixN
  rw [if_pos (by omega), if_pos (by omega)]; simp
end G

namespace G
open PySem PySem.Spec PyProof.Rows L2
/-! the same, the cheap question first -/
section
variable {K : PySem.W.Frag} {H : Hp} {a b q : Addr} {o u : HO} {xs : List V}
theorem up_k' (n : b ≠ a) (h : H b = some u) : upd H a o b = some u := up_k h n
theorem scr_new' (n : H q = none) (h : Scr K H a xs) : Scr K (upd H q o) a xs := h.new n
theorem scr_put' (n : Thw H q) (h : Scr K H a xs) : Scr K (upd H q o) a xs := h.put n
theorem sq_new' (n : H a = none) (h : SqL K H b xs) : SqL K (upd H a o) b xs := seqL_new h n
theorem sq_put' (n : a ≠ b) (h : SqL K H b xs) : SqL K (upd H a o) b xs := seqL_put h n
end
end G

namespace G
open PySem PySem.Spec PyProof.Rows L2
section
variable {H : Hp} {Q : VK} {i : Int} {a : Addr} {b : Bool} {z : Str}
theorem w_isN0 (q : Q (.bl true) H) : rIsN .non .non H Q := ⟨rfl, q⟩
theorem w_isNi (q : Q (.bl false) H) : rIsN (.int i) .non H Q := ⟨rfl, q⟩
theorem w_isNr (q : Q (.bl false) H) : rIsN (.ref a) .non H Q := ⟨rfl, q⟩
theorem w_isNb (q : Q (.bl false) H) : rIsN (.bl b) .non H Q := ⟨rfl, q⟩
theorem w_isNs (q : Q (.bl false) H) : rIsN (.str z) .non H Q := ⟨rfl, q⟩
theorem w_notN0 (q : Q (.bl false) H) : rNotN .non .non H Q := ⟨rfl, q⟩
theorem w_notNi (q : Q (.bl true) H) : rNotN (.int i) .non H Q := ⟨rfl, q⟩
theorem w_notNr (q : Q (.bl true) H) : rNotN (.ref a) .non H Q := ⟨rfl, q⟩
theorem w_notNb (q : Q (.bl true) H) : rNotN (.bl b) .non H Q := ⟨rfl, q⟩
theorem w_notNs (q : Q (.bl true) H) : rNotN (.str z) .non H Q := ⟨rfl, q⟩
end
end G

/-! properties, own ==, isinstance, further facts of the head -/
namespace G
open PySem PySem.Spec PyProof.Rows L2

/-! ### the Hook with getters and any Bool facts -/
/-- where a property's getter stands -/
def prA (K : PySem.W.Frag) (C f : Str) : Addr := match PySem.W.recIn K (He.ma K (He.ga K C) f) "property" with
  | some (.ref g :: _) => g
  | _ => 0
structure Pr where
  cls : Str
  fld : Str
  d : He.DefD
def fnWA (K : PySem.W.Frag) (a : Addr) : He.FnW := match K.lookup a with
  | some ⟨_, _, .func fd, _⟩ => some (fd.name, fd.qualname, fd.params, fd.body, fd.scope, fd.globals, fd.closure, fd.builtins)
  | _ => none
def okA (K : PySem.W.Frag) (a : Addr) (d : He.DefD) : Bool := PySem.W.keepIn K (.ref a) && (match K.lookup a with
  | some ⟨_, _, .func fd, _⟩ => PySem.W.codeIn K fd.code d.qual && (He.dflB K fd.defaults (d.dvs K) && He.kwdB K fd.kwdefaults (d.kws K))
  | _ => false)
theorem funD_A {K : PySem.W.Frag} {d : He.DefD} {a : Addr} (e : fnWA K a = d.val) (c : okA K a d = true) : ∃ fd, FunD K d.name d.qual d.params d.body d.scope (d.dvs K) (d.kws K) a fd := by
  obtain ⟨kp, c2⟩ := He.ba c
  unfold fnWA at e
  cases q : K.lookup a with
  | none =>
    rw [q] at c2
    cases c2
  | some o =>
    obtain ⟨oc, od, dt, osl⟩ := o
    rw [q] at c2 e
    cases dt with
    | func fd =>
      obtain ⟨n1, n2, n3, n4, n5, n6, n7, n8, n9, n10, n11, n12, n13, n14, n15⟩ := fd
      have e2 : (some (n1, n2, n3, n4, n5, n6, n7, n15) : He.FnW) = some (d.name, d.qual, d.params, .stmts d.body, d.scope, mainGlobals, [], builtinsNs) := e
      simp only [Option.some.injEq, Prod.mk.injEq] at e2
      obtain ⟨h1, h2, h3, h4, h5, h6, h7, h8⟩ := e2
      subst h1 h2 h3 h4 h5 h6 h7 h8
      have c3 : (PySem.W.codeIn K n13 d.qual && (He.dflB K n8 (d.dvs K) && He.kwdB K n9 (d.kws K))) = true := c2
      obtain ⟨k1, k2⟩ := He.ba c3
      obtain ⟨k3, k4⟩ := He.ba k2
      exact ⟨_, ⟨oc, od, n8, n9, n10, n11, n12, n13, n14, osl, rfl, q, k1, He.dflB_ok k3, He.kwdB_ok k4⟩, kp⟩
    | _ => cases c2
def Pr.ok (K : PySem.W.Frag) (p : Pr) : Bool :=
  He.eqO (PySem.W.findIn K (.ref (He.ga K p.cls)) p.fld) (some (some (.ref (He.ma K (He.ga K p.cls) p.fld)))) &&
  (He.eqO (PySem.W.specialIn K (.ref (He.ma K (He.ga K p.cls) p.fld)) "__get__") (some (some (.builtin "property.__get__"))) &&
  (decide (PySem.W.takesIn K (.ref (He.ma K (He.ga K p.cls) p.fld)) = some true) &&
  ((match PySem.W.recIn K (He.ma K (He.ga K p.cls) p.fld) "property" with
    | some (.ref _ :: _) => true
    | _ => false) && okA K (prA K p.cls p.fld) p.d)))
theorem Pr.prop {K : PySem.W.Frag} {p : Pr} (h : p.ok K = true) : PropOf K (He.ga K p.cls) p.fld (He.ma K (He.ga K p.cls) p.fld) (prA K p.cls p.fld) ∧ okA K (prA K p.cls p.fld) p.d = true := by
  obtain ⟨h1, h⟩ := He.ba h
  obtain ⟨h2, h⟩ := He.ba h
  obtain ⟨h3, h⟩ := He.ba h
  obtain ⟨h4, h5⟩ := He.ba h
  refine ⟨⟨He.eqO_ok h1, He.eqO_ok h2, of_decide_eq_true h3, ?_⟩, h5⟩
  unfold prA
  split at h4
  · rename_i g rest q
    rw [q]
    exact ⟨rest, rfl⟩
  · cases h4

abbrev AlB : Type := (He.AlD × List He.FnW) × Bool
abbrev Ex : Type := PySem.W.Frag → Bool
def obsB (fa : List He.Fa) (fn : List He.DefD) (pr : List Pr) (ex : List Ex) (K : PySem.W.Frag) : AlB := ((He.obsD fa fn K, pr.map fun p => fnWA K (prA K p.cls p.fld)), (pr.all fun p => p.ok K) && ex.all fun f => f K)
def valB (fn : List He.DefD) (pr : List Pr) : AlB := ((He.valD fn, pr.map fun p => p.d.val), true)
def SaysB (fa : List He.Fa) (fn : List He.DefD) (pr : List Pr) (ex : List Ex) (K : PySem.W.Frag) : Prop := obsB fa fn pr ex K = valB fn pr
def obsBG (n : Nat) (fa : List He.Fa) (fn : List He.DefD) (pr : List Pr) (ex : List Ex) (g : Addr → Option Obj) : AlB := obsB fa fn pr ex (He.frG g (He.asD g n))
def hookB (n : Nat) (fa : List He.Fa) (fn : List He.DefD) (pr : List Pr) (ex : List Ex) : PySem.W.Hook where
  α := AlB
  obs := fun s => obsBG n fa fn pr ex s.heap.get?
  val := fun _ => valB fn pr
  says := fun _ h => ∃ K : PySem.W.Frag, K.In h ∧ SaysB fa fn pr ex K
  of := fun _ _ e => ⟨_, He.frG_in, e⟩
  keeps := fun _ _ _ ⟨K, hK, c⟩ k => ⟨K, PySem.W.Frag.In.keeps hK k, c⟩
theorem obsBG_eq {n : Nat} {fa : List He.Fa} {fn : List He.DefD} {pr : List Pr} {ex : List Ex} {g : Addr → Option Obj} {s : Shared} (h : ∀ a, g a = s.heap.get? a) : obsBG n fa fn pr ex g = (hookB n fa fn pr ex).obs s := by
  have e : g = s.heap.get? := funext h
  rw [e] <;> rfl
section
variable {fa : List He.Fa} {fn : List He.DefD} {pr : List Pr} {ex : List Ex} {K : PySem.W.Frag}
theorem SaysB.d (c : SaysB fa fn pr ex K) : He.SaysD fa fn K := congrArg (fun z : AlB => z.1.1) c
theorem SaysB.ex_ (c : SaysB fa fn pr ex K) (i : Nat) {f : Ex} (h : ex[i]? = some f := by rfl) : f K = true := by
  have c1 := (He.ba (show ((pr.all fun p => p.ok K) && ex.all fun f => f K) = true from congrArg (fun z : AlB => z.2) c)).2
  exact List.all_eq_true.mp c1 f (List.mem_of_getElem? h)
theorem SaysB.pr_ (c : SaysB fa fn pr ex K) (i : Nat) {p : Pr} (h : pr[i]? = some p := by rfl) :
    PropOf K (He.ga K p.cls) p.fld (He.ma K (He.ga K p.cls) p.fld) (prA K p.cls p.fld) ∧ ∃ fd, FunD K p.d.name p.d.qual p.d.params p.d.body p.d.scope (p.d.dvs K) (p.d.kws K) (prA K p.cls p.fld) fd := by
  have c1 := (He.ba (show ((pr.all fun p => p.ok K) && ex.all fun f => f K) = true from congrArg (fun z : AlB => z.2) c)).1
  obtain ⟨a, b⟩ := Pr.prop (List.all_eq_true.mp c1 p (List.mem_of_getElem? h))
  have e : pr.map (fun p => fnWA K (prA K p.cls p.fld)) = pr.map fun p => p.d.val := congrArg (fun z : AlB => z.1.2) c
  have e2 : (pr.map fun p => fnWA K (prA K p.cls p.fld))[i]? = (pr.map fun p => p.d.val)[i]? := by rw [e]
  rw [List.getElem?_map, List.getElem?_map, h] at e2
  exact ⟨a, funD_A (Option.some.inj e2) b⟩
end
/-- the head's facts, with getters and Bools -/
structure TxB (fa : List He.Fa) (fn : List He.DefD) (pr : List Pr) (ex : List Ex) (K : PySem.W.Frag) (mg : Str → Option Value) (base : Heap) : Prop extends Tx fa fn K mg base where
  b : SaysB fa fn pr ex K

/-! ### properties -/
section
variable (P : Program) (w : World) (K : PySem.W.Frag) (mg : Str → Option Value) (base : Heap)
structure HasP (k : Nat) (c f : Str) (ps : List Str) (sp : Sp) : Prop where
  cl : Cls K (He.ga K c)
  pr : PropOf K (He.ga K c) f (He.ma K (He.ga K c) f) (prA K c f)
  ex : ∃ fd, FnOk P w K mg base (L2.CX P w) k (prA K c f) fd ps sp ∧ Binds K fd ps []
end
theorem HasP.mono {P : Program} {w : World} {K : PySem.W.Frag} {mg : Str → Option Value} {base : Heap} {j k : Nat} {c f : Str} {ps : List Str} {sp : Sp} (h : HasP P w K mg base j c f ps sp) (l : j ≤ k) : HasP P w K mg base k c f ps sp :=
  ⟨h.cl, h.pr, let ⟨fd, F, b⟩ := h.ex; ⟨fd, F.mono l, b⟩⟩
/-- e.f -/
def tPr (C : Addr) (sp : Sp) (ta : TE) : TE := fun σ H Q => ta σ H fun x H1 => ∃ a dx fs, x = .ref a ∧ H1 a = some (.ins C dx fs) ∧ sp [.ref a] H1 Q E0
section
variable {X : Cx} {k : Nat} {C p g a dx : Addr} {fs : List (Str × V)} {c f : Str} {fd : FuncData} {ps : List Str} {sp : Sp} {E : L2.St → XK} {e : Expr} {pos : Pos} {ta : TE}
theorem getprop_okS {pins : List (Addr × Obj)} {σ : L2.St} {H : Hp} {s : Shared} {Q : VK} {b : Bool} (I : Inv X pins σ H s) (ea : H a = some (.ins C dx fs)) (c : Cls X.K C) (hp : PropOf X.K C f p g)
    (F : FnOk X.prog X.w X.K X.mg X.base (XC X) k g fd ps sp) (hr : Room (k + 1) X.A) (hb : Binds X.K fd ps []) (h : sp [.ref a] H Q E0) :
    wpAny (model X.prog X.w) X.A (getAttr (.ref a) f b) (EP X pins σ Q) X.xe s := by
  obtain ⟨mA, O, _, _, _, _⟩ := ins_get I.hok ea
  obtain ⟨od, J, _⟩ := O.look
  obtain ⟨rest, hrec⟩ := hp.rec_
  have I1 := I.tok (s.toks + 1)
  have hl : ([Value.ref a] ++ ([] : List Value)).length = ps.length := by
    rw [← F.len _ _ _ _ h]
    rfl
  have hc : (PySem.W.clsIn X.K C).isSome = true := by
    obtain ⟨cd, hc, _⟩ := PySem.W.any_some c.hd
    rw [hc]
    rfl
  refine PySem.W.get_bind I.kIn J (PySem.W.plainGet_of (c.get f)).1 (PySem.W.findObj_data hc hp.at_ hp.get hp.tak) (PySem.W.plainGet_of (c.get f)).2 (wpAny_call (PySem.W.prop_get (s := { s with toks := s.toks + 1 }) I.kIn hrec ?_))
  refine codeAny_mono (F.run X.A.in1 X.stack { s with toks := s.toks + 1 } H ⟨[.ref a], []⟩ [.ref a] [.ref a] Q E0 hr.in1 I1.env0.in1 (hb _ [.ref a] I1.kIn hl) (.cons rfl .nil) h) fun r s' hq => ?_
  cases r with
  | error er =>
    obtain ⟨_, _, _, _, _, _, _, _, _, _, _, _, z⟩ := hq
    exact z.elim
  | ok fl =>
    cases fl with
    | ret u =>
      obtain ⟨v, H', I3, rv, q3⟩ := I1.after hq
      show wpAny _ _ (handedOut u) _ _ _
      rw [PySem.W.handedOut_of (handed_of rv)]
      exact wpAny_pure ⟨v, H', I3, rv, q3⟩
    | next => exact False.elim hq
    | brk => exact False.elim hq
    | cont => exact False.elim hq
theorem pe_pr (he : PE X e ta) (h : HasP X.prog X.w X.K X.mg X.base k c f ps sp) (hr : Room (k + 1) X.A)
    (hab : attributeBase e f X.env (eval e X.env) = eval e X.env := by rfl) : PE X (.Attribute e f pos) (tPr (He.ga X.K c) sp ta) := by
  obtain ⟨fd, F, b⟩ := h.ex
  refine ⟨fun pins s σ H Q I hh => ?_⟩
  refine attr_of hab (thn (he.run pins s σ H _ I hh) fun u s1 ⟨x, H1, I1, rx, a, dx, fs, ex, ea, q⟩ => ?_)
  subst ex
  obtain rfl : u = Value.ref a := rx
  exact getprop_okS I1 ea h.cl h.pr F hr b q
end
theorem mk_hasP {P : Program} {w : World} {K : PySem.W.Frag} {mg : Str → Option Value} {base : Heap} {k : Nat} {c m name qual : Str} {params : Arguments} {body : List Stmt} {scope : Scope} {N ps : List Str} {sp : Sp} (cl : Cls K (He.ga K c))
    (F : PropOf K (He.ga K c) m (He.ma K (He.ga K c) m) (prA K c m) ∧ ∃ fd, FunD K name qual params body scope [] [] (prA K c m) fd) (S : FnScope N ps scope)
    (hb : ∀ (kV doc pm : Value) (an : Option Addr) (cdv ct : Value) (us : List Value), us.length = ps.length → bindArgs (PySem.W.fnOf name qual params body scope .none kV doc pm an cdv ct) ⟨us, []⟩ = pure (ps.zip us))
    (len : ∀ vs H Q E, sp vs H Q E → vs.length = ps.length) (hbody : Body P w K mg base k N qual scope (prA K c m) body sp) : HasP P w K mg base (k + 1) c m ps sp := by
  obtain ⟨pr, fd, F⟩ := F
  exact ⟨cl, pr, fd, FunD.ok (CX := L2.CX P w) F S len hbody, F.bindsN hb⟩
section
variable {K : PySem.W.Frag} {σ : L2.St} {H : Hp} {Q : VK} {ta : TE}
theorem w_pr {C : Addr} {sp : Sp} (h : ta σ H fun x H1 => ∃ a dx fs, x = .ref a ∧ H1 a = some (.ins C dx fs) ∧ sp [.ref a] H1 Q E0) : tPr C sp ta σ H Q := h
theorem w_pr1 {a C dx : Addr} {fs : List (Str × V)} {P : Addr → Prop} (h : H a = some (.ins C dx fs)) (q : P a) : ∃ a' dx' fs', V.ref a = .ref a' ∧ H a' = some (.ins C dx' fs') ∧ P a' := ⟨a, dx, fs, rfl, h, q⟩
end

/-! ### own == -/
/-- what the right side of == may be: its type -/
def tyR (K : PySem.W.Frag) (H : Hp) (y : V) (t : Value) : Prop := (∃ C dx fs b, y = .ref b ∧ H b = some (.ins C dx fs) ∧ t = .ref C) ∨ ((∃ i, y = .int i) ∧ t = .type "int") ∨ (y = .non ∧ t = .type "NoneType") ∨ ((∃ x, y = .str x) ∧ t = .type "str") ∨
  ((∃ b, y = .bl b) ∧ t = .type "bool") ∨ (∃ a xs, y = .ref a ∧ H a = some (.lst xs) ∧ t = .type "list") ∨ (∃ a xs, y = .ref a ∧ H a = some (.tup xs) ∧ t = .type "tuple")
def rOwn (K : PySem.W.Frag) (C : Addr) (sp : Sp) : R2 := fun x y H Q => ∃ a dx fs t, x = .ref a ∧ H a = some (.ins C dx fs) ∧ tyR K H y t ∧ PySem.W.notFirst K C t = true ∧ sp [.ref a, y] H (fun v H' => ∃ b, v = .bl b ∧ Q (.bl b) H') E0
section
variable {X : Cx} {k : Nat} {c : Str} {ps : List Str} {sp : Sp}
theorem op_own (h : HasM X.prog X.w X.K X.mg X.base k c "__eq__" ps sp) (hr : Room k X.A) : OpR X (compareOp .Eq) (rOwn X.K (He.ga X.K c) sp) := by
  intro pins s σ H x y v u Q I rx ry hq
  obtain ⟨fd, F, hb⟩ := h.ex
  obtain ⟨a, dx, fs, t, ex, ea, ty, nf, q⟩ := hq
  subst ex
  obtain rfl : v = Value.ref a := rx
  obtain ⟨mA, J, _⟩ := ins_get I.hok ea
  obtain ⟨od, J, _⟩ := J.look
  obtain ⟨m, hF⟩ := I.fr
  have L : PySem.W.Looks (model X.prog X.w) s.heap (typeOf u) t := by
    rcases ty with ⟨C', dy, gs, b, rfl, eb, rfl⟩ | ⟨⟨i, rfl⟩, rfl⟩ | ⟨rfl, rfl⟩ | ⟨⟨i, rfl⟩, rfl⟩ | ⟨⟨i, rfl⟩, rfl⟩ | ⟨b, xs, rfl, eb, rfl⟩ | ⟨b, xs, rfl, eb, rfl⟩
    · obtain rfl : u = Value.ref b := ry
      obtain ⟨mB, J', _⟩ := ins_get I.hok eb
      obtain ⟨od', J', _⟩ := J'.look
      exact J'.type
    · obtain ⟨t, rfl⟩ := (show ∃ t, u = Value.int i t from ry)
      exact .now
    · obtain rfl := (show u = Value.none from ry)
      exact .now
    · obtain ⟨t, rfl⟩ := (show ∃ t, u = Value.str i t from ry)
      exact .now
    · obtain rfl := (show u = Value.bool i from ry)
      exact .now
    · obtain rfl : u = Value.ref b := ry
      obtain ⟨_, _, n, _, h1⟩ := (show ObjOk X.prog X.w H s.heap b (.lst xs) from I.hok b _ eb)
      exact (PySem.W.Looks.ld (part := none) h1).andThen .now
    · obtain rfl : u = Value.ref b := ry
      obtain ⟨_, _, _, o, h1, h2, _⟩ := (show ObjOk X.prog X.w H s.heap b (.tup xs) from I.hok b _ eb)
      refine (PySem.W.Looks.ld (part := none) h1).andThen ?_
      rw [h2]
      exact .now
  show wpAny (model X.prog X.w) X.A (richCompare .Eq (.ref a) u) (EP X pins σ Q) X.xe s
  refine PySem.W.cmp_K (op := .Eq) hr.units0 hF I.ok.mod.kin J L nf h.me.at_ h.me.fn ?_
  have hl := F.len _ _ _ _ q
  have r2 : Vals [V.ref a, y] [Value.ref a, u] := .cons rfl (.cons ry .nil)
  refine wpAny_call (codeAny_mono (F.run X.A X.stack s H ⟨[.ref a, u], []⟩ [.ref a, u] [.ref a, y] _ E0 hr I.env0 (by
    have := hb s [.ref a, u] I.kIn (by simpa using hl)
    simpa using this) r2 q) fun r s' hq => ?_)
  cases r with
  | error e => exact passZ σ pins H s e s' I hq
  | ok fl =>
    cases fl with
    | ret w =>
      obtain ⟨z, H', I', rz, b, ez, ex⟩ := I.after hq
      subst ez
      obtain rfl : w = Value.bool b := rz
      exact ⟨.bl b, H', I', rfl, ex⟩
    | next => exact False.elim hq
    | brk => exact False.elim hq
    | cont => exact False.elim hq
end
section
variable {K : PySem.W.Frag} {H : Hp} {Q : VK} {y : V} {sp : Sp}
theorem w_own {C a dx : Addr} {fs : List (Str × V)} {t : Value} (h : H a = some (.ins C dx fs)) (ty : tyR K H y t) (nf : PySem.W.notFirst K C t = true) (q : sp [.ref a, y] H (fun v H' => ∃ b, v = .bl b ∧ Q (.bl b) H') E0) : rOwn K C sp (.ref a) y H Q :=
  ⟨a, dx, fs, t, rfl, h, ty, nf, q⟩
theorem tyR_ins {b C dx : Addr} {fs : List (Str × V)} (h : H b = some (.ins C dx fs)) : tyR K H (.ref b) (.ref C) := .inl ⟨C, dx, fs, b, rfl, h, rfl⟩
theorem tyR_lst {b : Addr} {xs : List V} (h : H b = some (.lst xs)) : tyR K H (.ref b) (.type "list") := .inr (.inr (.inr (.inr (.inr (.inl ⟨b, xs, rfl, h, rfl⟩)))))
theorem tyR_tup {b : Addr} {xs : List V} (h : H b = some (.tup xs)) : tyR K H (.ref b) (.type "tuple") := .inr (.inr (.inr (.inr (.inr (.inr ⟨b, xs, rfl, h, rfl⟩)))))
theorem nf_same {C : Addr} : PySem.W.notFirst K C (.ref C) = true := by
  unfold PySem.W.notFirst
  have e : ((Value.ref C) == (Value.ref C)) = true := beq_self_eq_true _
  rw [e]
  rfl
end

/-! ### isinstance -/
/-- what an own class has for isinstance of its instances -/
structure InsC (K : PySem.W.Frag) (C : Addr) : Prop where
  cl : Cls K C
  ha : PySem.W.findIn K (.ref C) "__class__" = some (some (.builtin "object.__class__"))
  hn : PySem.W.specialIn K (.builtin "object.__class__") "__get__" = some (some (.builtin "getset_descriptor.__get__"))
  ht : PySem.W.takesIn K (.builtin "object.__class__") = some true
  hm : PySem.W.mroIn K C (.type "object") = some true
def insB (c : Str) : Ex := fun K => He.Fa.ok K (.cls c) && (He.eqO (PySem.W.findIn K (.ref (He.ga K c)) "__class__") (some (some (.builtin "object.__class__"))) &&
  (He.eqO (PySem.W.specialIn K (.builtin "object.__class__") "__get__") (some (some (.builtin "getset_descriptor.__get__"))) &&
  (decide (PySem.W.takesIn K (.builtin "object.__class__") = some true) && decide (PySem.W.mroIn K (He.ga K c) (.type "object") = some true))))
theorem insB_ok {K : PySem.W.Frag} {c : Str} (h : insB c K = true) : InsC K (He.ga K c) := by
  obtain ⟨h0, h⟩ := He.ba h
  obtain ⟨h1, h⟩ := He.ba h
  obtain ⟨h2, h⟩ := He.ba h
  obtain ⟨h3, h4⟩ := He.ba h
  exact ⟨He.cls_ok h0, He.eqO_ok h1, He.eqO_ok h2, of_decide_eq_true h3, of_decide_eq_true h4⟩
/-- isinstance of a built-in type's values and an own class; of an own class's instances and a class -/
def kitTB (t : String) (c : Str) (b : Bool) : Ex := fun K => decide (PySem.W.kitOne K (.type t) (.ref (He.ga K c)) = some b)
def kitOB (c d : Str) (b : Bool) : Ex := fun K => decide (PySem.W.kitOne K (.ref (He.ga K c)) (.ref (He.ga K d)) = some b)
def kitUB (c : Str) (t : String) (b : Bool) : Ex := fun K => decide (PySem.W.kitOne K (.ref (He.ga K c)) (.type t) = some b)
def nfB (c : Str) (t : String) : Ex := fun K => PySem.W.notFirst K (He.ga K c) (.type t)
def nfOB (c d : Str) : Ex := fun K => PySem.W.notFirst K (He.ga K c) (.ref (He.ga K d))
def tupX (x : Str) (vs : List He.Dv) : Ex := fun K => He.tupB K x vs
def lstX (x : Str) (vs : List He.Dv) : Ex := fun K => He.lstB K x vs
def excCB (c : Str) : Ex := fun K => He.eqO (PySem.W.findIn K (.ref (He.ga K c)) "__getattribute__") (some (some (.builtin "BaseException.__getattribute__"))) &&
  (He.eqO (PySem.W.findIn K (.ref (He.ga K c)) "__getattr__") (some none) && (decide (PySem.W.subIn K (.ref (He.ga K c)) (.type "BaseException") = some true) && (PySem.W.hasDictIn K (He.ga K c) &&
  (He.eqO (PySem.W.findIn K (.ref (He.ga K c)) "__class__") (some (some (.builtin "object.__class__"))) && (He.eqO (PySem.W.specialIn K (.builtin "object.__class__") "__get__") (some (some (.builtin "getset_descriptor.__get__"))) &&
  (decide (PySem.W.takesIn K (.builtin "object.__class__") = some true) && decide (PySem.W.mroIn K (He.ga K c) (.type "object") = some true)))))))
theorem excCB_ok {K : PySem.W.Frag} {c : Str} (h : excCB c K = true) : ExcC K (He.ga K c) := by
  obtain ⟨h1, h⟩ := He.ba h
  obtain ⟨h2, h⟩ := He.ba h
  obtain ⟨h3, h⟩ := He.ba h
  obtain ⟨h4, h⟩ := He.ba h
  obtain ⟨h5, h⟩ := He.ba h
  obtain ⟨h6, h⟩ := He.ba h
  obtain ⟨h7, h8⟩ := He.ba h
  exact ⟨He.eqO_ok h1, He.eqO_ok h2, of_decide_eq_true h3, h4, He.eqO_ok h5, He.eqO_ok h6, of_decide_eq_true h7, of_decide_eq_true h8⟩
/-- isinstance(e, c) in a suite -/
def rIsX (K : PySem.W.Frag) (a : Addr) (clX : Value) (dX : Option Addr) : List V → Hp → VK → Prop := fun xs H Q => ∃ (D : Addr) (c : V) (cv : Value) (b : Bool), clX = .ref D ∧ dX = none ∧ ExcC K D ∧ xs = [.ref a, c] ∧ ClsV c cv ∧ PySem.W.kitOne K (.ref D) cv = some b ∧ Q (.bl b) H
theorem call_isX {X : Cx} {a : Addr} {clX : Value} {dX : Option Addr} {oe : Obj} {pn : List (Addr × Obj)} (hz : Zc clX dX oe) (hf : ∃ vs, oe.data = .fields vs) : CallR (X.suite a ((a, oe) :: pn)) (.builtin "isinstance") (rIsX X.K a clX dX) := by
  intro pins s σ H xs us Q I r h
  obtain ⟨D, c, cv, b, e1, e2, C, ex, hc, k, q⟩ := h
  subst e1 e2
  exact call_isE C hz hf pins s σ H xs us Q I r ⟨c, cv, b, ex, fun u ru => hc.eq ru, k, q⟩
section
variable {K : PySem.W.Frag} {σ : L2.St} {H : Hp} {Q : VK}
theorem w_isX {a D : Addr} {c : V} {cv : Value} {b : Bool} (C : ExcC K D) (hc : ClsV c cv) (k : PySem.W.kitOne K (.ref D) cv = some b) (q : Q (.bl b) H) : rIsX K a (.ref D) none [.ref a, c] H Q := ⟨D, c, cv, b, rfl, rfl, C, rfl, hc, k, q⟩
theorem w_isi {x c : V} {t u : Value} {b : Bool} (k : ClsV c u) (ty : TyX K H x t) (e : PySem.W.kitOne K t u = some b) (q : Q (.bl b) H) : rIsi K [x, c] H Q := ⟨x, c, t, u, b, rfl, k, ty, e, q⟩
theorem w_isi_ii {i : Int} (q : Q (.bl true) H) : rIsi K [.int i, .ty "int"] H Q := w_isi (.ty _) (.base (.int _)) (kit_ty (by decide +kernel)) q
theorem w_isi_ib {i : Int} (q : Q (.bl false) H) : rIsi K [.int i, .ty "bool"] H Q := w_isi (.ty _) (.base (.int _)) (kit_ty (by decide +kernel)) q
theorem w_isi_is {i : Int} (q : Q (.bl false) H) : rIsi K [.int i, .ty "str"] H Q := w_isi (.ty _) (.base (.int _)) (kit_ty (by decide +kernel)) q
theorem w_isi_il {i : Int} (q : Q (.bl false) H) : rIsi K [.int i, .ty "list"] H Q := w_isi (.ty _) (.base (.int _)) (kit_ty (by decide +kernel)) q
theorem w_isi_it {i : Int} (q : Q (.bl false) H) : rIsi K [.int i, .ty "tuple"] H Q := w_isi (.ty _) (.base (.int _)) (kit_ty (by decide +kernel)) q
theorem w_isi_bi {i : Bool} (q : Q (.bl true) H) : rIsi K [.bl i, .ty "int"] H Q := w_isi (.ty _) (.base (.bl _)) (kit_ty (by decide +kernel)) q
theorem w_isi_bb {i : Bool} (q : Q (.bl true) H) : rIsi K [.bl i, .ty "bool"] H Q := w_isi (.ty _) (.base (.bl _)) (kit_ty (by decide +kernel)) q
theorem w_isi_ss {i : Str} (q : Q (.bl true) H) : rIsi K [.str i, .ty "str"] H Q := w_isi (.ty _) (.base (.str _)) (kit_ty (by decide +kernel)) q
theorem w_isi_sl {i : Str} (q : Q (.bl false) H) : rIsi K [.str i, .ty "list"] H Q := w_isi (.ty _) (.base (.str _)) (kit_ty (by decide +kernel)) q
theorem w_isi_st {i : Str} (q : Q (.bl false) H) : rIsi K [.str i, .ty "tuple"] H Q := w_isi (.ty _) (.base (.str _)) (kit_ty (by decide +kernel)) q
theorem w_isi_nl (q : Q (.bl false) H) : rIsi K [.non, .ty "list"] H Q := w_isi (.ty _) (.base .non) (kit_ty (by decide +kernel)) q
theorem w_isi_nt (q : Q (.bl false) H) : rIsi K [.non, .ty "tuple"] H Q := w_isi (.ty _) (.base .non) (kit_ty (by decide +kernel)) q
theorem w_isi_ll {a : Addr} {xs : List V} (h : H a = some (.lst xs)) (q : Q (.bl true) H) : rIsi K [.ref a, .ty "list"] H Q := w_isi (.ty _) (.base (.lst h)) (kit_ty (by decide +kernel)) q
theorem w_isi_lt {a : Addr} {xs : List V} (h : H a = some (.lst xs)) (q : Q (.bl false) H) : rIsi K [.ref a, .ty "tuple"] H Q := w_isi (.ty _) (.base (.lst h)) (kit_ty (by decide +kernel)) q
theorem w_isi_li {a : Addr} {xs : List V} (h : H a = some (.lst xs)) (q : Q (.bl false) H) : rIsi K [.ref a, .ty "int"] H Q := w_isi (.ty _) (.base (.lst h)) (kit_ty (by decide +kernel)) q
theorem w_isi_tt {a : Addr} {xs : List V} (h : H a = some (.tup xs)) (q : Q (.bl true) H) : rIsi K [.ref a, .ty "tuple"] H Q := w_isi (.ty _) (.base (.tup h)) (kit_ty (by decide +kernel)) q
theorem w_isi_tl {a : Addr} {xs : List V} (h : H a = some (.tup xs)) (q : Q (.bl false) H) : rIsi K [.ref a, .ty "list"] H Q := w_isi (.ty _) (.base (.tup h)) (kit_ty (by decide +kernel)) q
theorem w_isi_own {a C dx : Addr} {fs : List (Str × V)} {c : V} {u : Value} {b : Bool} (h : H a = some (.ins C dx fs)) (i : InsC K C) (k : ClsV c u) (e : PySem.W.kitOne K (.ref C) u = some b) (q : Q (.bl b) H) : rIsi K [.ref a, c] H Q :=
  w_isi k (.base (.ins h i.cl i.ha i.hn i.ht i.hm)) e q
end
end G

/-! == of lists and tuples, by data -/
namespace G
open PySem PySem.Spec PyProof.Rows L2
abbrev rIsB : R2 := fun x y H Q => ∃ a b, x = .bl a ∧ y = .bl b ∧ Q (.bl (decide (a = b))) H
abbrev rNotB : R2 := fun x y H Q => ∃ a b, x = .bl a ∧ y = .bl b ∧ Q (.bl (!decide (a = b))) H
section
variable {K : PySem.W.Frag} {H : Hp} {Q : VK} {x y : V} {d e : PyData} {xs ys : List Int} {a b : Addr}
theorem w_isB {p q : Bool} (h : Q (.bl (decide (p = q))) H) : rIsB (.bl p) (.bl q) H Q := ⟨p, q, rfl, rfl, h⟩
theorem w_notB {p q : Bool} (h : Q (.bl (!decide (p = q))) H) : rNotB (.bl p) (.bl q) H Q := ⟨p, q, rfl, rfl, h⟩
theorem dp_ints : ∀ xs : List Int, DpAll K H (xs.map V.int) (xs.map PyData.int)
  | [] => .nil
  | x :: xs => .cons (.int x) (dp_ints xs)
theorem eqv_ints : ∀ xs ys : List Int, PyData.eqvAll (xs.map PyData.int) (ys.map PyData.int) = decide (xs = ys)
  | [], [] => by simp [PyData.eqvAll]
  | [], y :: ys => by simp [PyData.eqvAll]
  | x :: xs, [] => by simp [PyData.eqvAll]
  | x :: xs, y :: ys => by
    have h := eqv_ints xs ys
    show (PyData.eqv (.int x) (.int y) && PyData.eqvAll (xs.map PyData.int) (ys.map PyData.int)) = _
    rw [h]
    unfold PyData.eqv
    by_cases h1 : x = y <;> by_cases h2 : xs = ys <;> simp [h1, h2]
theorem lay_ints : ∀ xs : List Int, PyData.canLayAll0 (xs.map PyData.int) = true
  | [] => rfl
  | x :: xs => by
    show (PyData.canLay0 (.int x) && PyData.canLayAll0 (xs.map PyData.int)) = true
    rw [lay_ints xs]
    rfl
theorem depth_ints : ∀ xs : List Int, PyData.depthAll (xs.map PyData.int) = 0
  | [] => by simp [PyData.depthAll]
  | x :: xs => by
    have h := depth_ints xs
    simp only [List.map_cons, PyData.depthAll, PyData.depth, h]
    rfl
theorem shaped_li : SeqAt.shaped (.list (xs.map PyData.int)) = true := by
  unfold SeqAt.shaped
  have h := lay_ints xs
  have h2 := depth_ints xs
  simp [PyData.canLay0, PyData.depth, h, h2]
theorem shaped_ti : SeqAt.shaped (.tuple (xs.map PyData.int)) = true := by
  unfold SeqAt.shaped
  have h := lay_ints xs
  have h2 := depth_ints xs
  simp [PyData.canLay0, PyData.depth, h, h2]
theorem w_eqLI (h1 : SqL K H a (xs.map V.int)) (h2 : SqL K H b (ys.map V.int)) (q : Q (.bl (decide (xs = ys))) H) : rEqD K (.ref a) (.ref b) H Q :=
  ⟨_, _, .lst h1 (dp_ints xs), .lst h2 (dp_ints ys), shaped_li, shaped_li, by
    show Q (.bl (PyData.eqvAll _ _)) H
    rw [eqv_ints]; exact q⟩
theorem w_neLI (h1 : SqL K H a (xs.map V.int)) (h2 : SqL K H b (ys.map V.int)) (q : Q (.bl (!decide (xs = ys))) H) : rNeD K (.ref a) (.ref b) H Q :=
  ⟨_, _, .lst h1 (dp_ints xs), .lst h2 (dp_ints ys), shaped_li, shaped_li, by
    show Q (.bl (!PyData.eqvAll _ _)) H
    rw [eqv_ints]; exact q⟩
theorem w_eqTI (h1 : SqT K H a (xs.map V.int)) (h2 : SqT K H b (ys.map V.int)) (q : Q (.bl (decide (xs = ys))) H) : rEqD K (.ref a) (.ref b) H Q :=
  ⟨_, _, .tup h1 (dp_ints xs), .tup h2 (dp_ints ys), shaped_ti, shaped_ti, by
    show Q (.bl (PyData.eqvAll _ _)) H
    rw [eqv_ints]; exact q⟩
theorem w_neTI (h1 : SqT K H a (xs.map V.int)) (h2 : SqT K H b (ys.map V.int)) (q : Q (.bl (!decide (xs = ys))) H) : rNeD K (.ref a) (.ref b) H Q :=
  ⟨_, _, .tup h1 (dp_ints xs), .tup h2 (dp_ints ys), shaped_ti, shaped_ti, by
    show Q (.bl (!PyData.eqvAll _ _)) H
    rw [eqv_ints]; exact q⟩
theorem w_eqL' {vs ws : List V} (xs ys : List Int) (h1 : SqL K H a vs) (h2 : SqL K H b ws) (q : Q (.bl (decide (xs = ys))) H) (e1 : vs = xs.map V.int := by rfl) (e2 : ws = ys.map V.int := by rfl) : rEqD K (.ref a) (.ref b) H Q := by
  subst e1 e2
  exact w_eqLI h1 h2 q
theorem w_neL' {vs ws : List V} (xs ys : List Int) (h1 : SqL K H a vs) (h2 : SqL K H b ws) (q : Q (.bl (!decide (xs = ys))) H) (e1 : vs = xs.map V.int := by rfl) (e2 : ws = ys.map V.int := by rfl) : rNeD K (.ref a) (.ref b) H Q := by
  subst e1 e2
  exact w_neLI h1 h2 q
theorem w_eqT' {vs ws : List V} (xs ys : List Int) (h1 : SqT K H a vs) (h2 : SqT K H b ws) (q : Q (.bl (decide (xs = ys))) H) (e1 : vs = xs.map V.int := by rfl) (e2 : ws = ys.map V.int := by rfl) : rEqD K (.ref a) (.ref b) H Q := by
  subst e1 e2
  exact w_eqTI h1 h2 q
theorem w_neT' {vs ws : List V} (xs ys : List Int) (h1 : SqT K H a vs) (h2 : SqT K H b ws) (q : Q (.bl (!decide (xs = ys))) H) (e1 : vs = xs.map V.int := by rfl) (e2 : ws = ys.map V.int := by rfl) : rNeD K (.ref a) (.ref b) H Q := by
  subst e1 e2
  exact w_neTI h1 h2 q
/-! by data -/
theorem w_eqD (h1 : Dp K H x d) (h2 : Dp K H y e) (s1 : SeqAt.shaped d = true) (s2 : SeqAt.shaped e = true) (q : Q (.bl (PyData.eqv d e)) H) : rEqD K x y H Q := ⟨d, e, h1, h2, s1, s2, q⟩
theorem w_neD (h1 : Dp K H x d) (h2 : Dp K H y e) (s1 : SeqAt.shaped d = true) (s2 : SeqAt.shaped e = true) (q : Q (.bl (!PyData.eqv d e)) H) : rNeD K x y H Q := ⟨d, e, h1, h2, s1, s2, q⟩
mutual
theorem eqv_refl : ∀ d : PyData, d.canLay0 = true → PyData.eqv d d = true
  | .none, _ => by simp [PyData.eqv]
  | .bool b, _ => by simp [PyData.eqv]
  | .int i, _ => by simp [PyData.eqv]
  | .str s, _ => by simp [PyData.eqv]
  | .list xs, h => by
    have := eqvAll_refl xs (by simpa [PyData.canLay0] using h)
    simpa [PyData.eqv] using this
  | .tuple xs, h => by
    have := eqvAll_refl xs (by simpa [PyData.canLay0] using h)
    simpa [PyData.eqv] using this
  | .dict _, h => by simp [PyData.canLay0] at h
theorem eqvAll_refl : ∀ ds : List PyData, PyData.canLayAll0 ds = true → PyData.eqvAll ds ds = true
  | [], _ => by simp [PyData.eqvAll]
  | d :: ds, h => by
    have h1 : PyData.canLay0 d = true ∧ PyData.canLayAll0 ds = true := by simpa [PyData.canLayAll0] using h
    have := eqv_refl d h1.1
    have := eqvAll_refl ds h1.2
    simp [PyData.eqvAll, *]
end
theorem eqv_self {d : PyData} (h : SeqAt.shaped d = true) : PyData.eqv d d = true := eqv_refl d (SeqAt.canLay_of_shaped h)
end
end G

/-! heaps that grow; the drawn cells, as any numbers -/
namespace G
open PySem PySem.Spec PyProof.Rows L2
/-- grown, but for p -/
def ExtP (p : Addr) (H H' : Hp) : Prop := ∀ a o, a ≠ p → H a = some o → H' a = some o
section
variable {K : PySem.W.Frag} {H H1 H' : Hp} {a b p q : Addr} {o u o' : HO} {xs : List V}
theorem ext_get (e : Ext H H') (h : H b = some u) : H' b = some u := e _ _ h
theorem extp_get (e : ExtP p H H') (n : b ≠ p) (h : H b = some u) : H' b = some u := e _ _ n h
theorem ext_toP (e : Ext H H') : ExtP p H H' := fun a o _ h => e a o h
theorem ExtP.rfl' : ExtP p H H := fun _ _ _ h => h
theorem ExtP.trans (e : ExtP p H H1) (f : ExtP p H1 H') : ExtP p H H' := fun a o n h => f a o n (e a o n h)
theorem ext_via (f : Ext H1 H') (e : Ext H H1) : Ext H H' := e.trans f
theorem extp_via (f : ExtP p H1 H') (e : ExtP p H H1) : ExtP p H H' := e.trans f
theorem extp_viae (f : Ext H1 H') (e : ExtP p H H1) : ExtP p H H' := e.trans (ext_toP f)
theorem ext_up (n : H1 a = none) (e : Ext H H1) : Ext H (upd H1 a o) := fun b u h => up_n (e b u h) n
theorem extp_up (n : H1 a = none) (e : ExtP p H H1) : ExtP p H (upd H1 a o) := fun b u hb h => up_n (e b u hb h) n
theorem extp_put (e : ExtP p H H1) : ExtP p H (upd H1 p o) := fun b u hb h => up_k (e b u hb h) hb
/-- an object that was made since is written -/
theorem ext_put (n : H a = none) (e : Ext H H1) : Ext H (upd H1 a o) := fun b u h => up_k (e b u h) (ne_of_none h n)
theorem extp_putn (n : H a = none) (e : ExtP p H H1) : ExtP p H (upd H1 a o) := fun b u hb h => up_k (e b u hb h) (ne_of_none h n)
theorem ext_of_extp (n : H p = none) (e : ExtP p H H') : Ext H H' := fun a o h => e a o (ne_of_none h n) h
theorem extp_of_extp (n : H q = none) (e : ExtP q H H') : ExtP p H H' := ext_toP (ext_of_extp n e)
theorem ext_thr (n : H p = none) (f : ExtP p H1 H') (e : Ext H H1) : Ext H H' := fun a o h => f a o (ne_of_none h n) (e a o h)
theorem extp_thr (n : H q = none) (f : ExtP q H1 H') (e : ExtP p H H1) : ExtP p H H' := fun a o hp h => f a o (ne_of_none h n) (e a o hp h)
theorem Scr.ext (h : Scr K H a xs) (e : Ext H H') : Scr K H' a xs := h.same e
theorem scr_ext (e : Ext H H') (h : Scr K H a xs) : Scr K H' a xs := h.same e
theorem scr_extp (e : ExtP p H H') (n : Thw H p) (h : Scr K H a xs) : Scr K H' a xs := h.frz fun b o u hb => e b _ (fun z => by subst z; exact n o u hb) hb
theorem scr_extn (e : ExtP p H H') (n : H p = none) (h : Scr K H a xs) : Scr K H' a xs := h.frz fun b o u hb => e b _ (ne_of_none hb n) hb
theorem sq_ext (e : Ext H H') (h : SqL K H a xs) : SqL K H' a xs := h.ext e
theorem sqt_ext (e : Ext H H') (h : SqT K H a xs) : SqT K H' a xs := h.ext e
theorem SqT.of' (h : H a = some (.tup xs)) : SqT K H a xs := .inl (.inl h)
theorem ne_of' (h1 : H a = some o) (h2 : H b = some u) (n : o ≠ u) : a ≠ b := fun e => by
  subst e
  rw [h1] at h2
  cases h2
  exact n rfl
theorem up_nn (n : H a = none) (h : H b = some u) : upd H a o b = some u := up_n h n
theorem none_dn (h : upd H a o b = none) : H b = none := (up_none h).2
theorem up_ko (h : H b = some u) (h2 : H a = some o') (n : u ≠ o') : upd H a o b = some u := up_k h (ne_of' h h2 n)
end
/-! ### promises -/
def gsCell (K : PySem.W.Frag) : Sp := fun vs H Q _ => ∃ (a : Addr) (ns : List Int) (k : Int), vs = [.ref a, .int k] ∧ SqL K H a (ns.map V.int) ∧ 0 ≤ k ∧ ∀ n, Q (.int n) H
def gsStart (K : PySem.W.Frag) : Sp := fun vs H Q _ => ∃ (c k : Int), vs = [.int c, .int k] ∧ ∀ n p, H p = none → Q (.ref p) (upd H p (.lst [.int n]))
def gsDigit (K : PySem.W.Frag) : Sp := fun vs H Q _ => ∃ (p : Addr) (n m : Int), vs = [.ref p, .int m] ∧ H p = some (.lst [.int n]) ∧ 0 < m ∧ m < 1099511627776 ∧
  ∀ d n', 0 ≤ d → d < m → Q (.int d) (upd H p (.lst [.int n']))
/-- a bool or not, by isinstance: an integer -/
def gsIsInt (K : PySem.W.Frag) : Sp := fun vs H Q _ => ∃ (x : V), vs = [x] ∧ ((∃ i, x = .int i ∧ Q (.bl true) H) ∨ (∃ b, x = .bl b ∧ Q (.bl false) H))
section
variable {K : PySem.W.Frag} {H : Hp} {Q : VK} {E : XK} {a p : Addr} {k m n c : Int} {ns : List Int}
theorem c_cell (hS : SqL K H a (ns.map V.int)) (h0 : 0 ≤ k) (q : ∀ n, Q (.int n) H) : gsCell K [.ref a, .int k] H Q E := ⟨a, ns, k, rfl, hS, h0, q⟩
theorem c_start (q : ∀ n p, H p = none → Q (.ref p) (upd H p (.lst [.int n]))) : gsStart K [.int c, .int k] H Q E := ⟨c, k, rfl, q⟩
theorem c_digit (h : H p = some (.lst [.int n])) (h0 : 0 < m) (h1 : m < 1099511627776) (q : ∀ d n', 0 ≤ d → d < m → Q (.int d) (upd H p (.lst [.int n']))) : gsDigit K [.ref p, .int m] H Q E := ⟨p, n, m, rfl, h, h0, h1, q⟩
theorem c_isint (q : Q (.bl true) H) : gsIsInt K [.int n] H Q E := ⟨_, rfl, .inl ⟨n, rfl, q⟩⟩
end
theorem pr_pow (i : Nat) (h : i < 4) : (618970019642690137449562111 : Int) ^ i < 618970019642690137449562111 ^ 3 + 1 ∧ (0 : Int) < 618970019642690137449562111 ^ i := by
  have : i = 0 ∨ i = 1 ∨ i = 2 ∨ i = 3 := by omega
  rcases this with rfl | rfl | rfl | rfl <;> decide +kernel
theorem num_step {n m q : Int} (h0 : 0 ≤ n) (h1 : n < q) (h2 : 0 ≤ m) (h3 : m < 618970019642690137449562111) : 0 ≤ n * 618970019642690137449562111 + m ∧ n * 618970019642690137449562111 + m < q * 618970019642690137449562111 := by omega
theorem small_w {x : Int} (h0 : 0 ≤ x) (h : x < 618970019642690137449562111 ^ 3 + 1) : x.natAbs < 2 ^ 300 := by
  have e : (618970019642690137449562111 : Int) ^ 3 + 1 < ((2 ^ 300 : Nat) : Int) := by decide +kernel
  have e2 : x < ((2 ^ 300 : Nat) : Int) := Int.lt_trans h e
  omega
theorem ints_at {gs : List Int} {j : Nat} {z : Int} (h : gs[j]? = some z) {k : Int} (e : k = (j : Int)) : atI (gs.map V.int) k = some (V.int z) := at_of e (by rw [List.getElem?_map, h]; rfl)
theorem digit_div {m : Int} (h0 : 0 < m) (h1 : m < 1099511627776) : ∀ i : Int, CDivW i m := fun i => wide_div (b := 40) h0 (by omega) (by decide) (by decide)
/-! ### slices of lists of integers -/
theorem sum_app (xs ys : List Int) : (xs ++ ys).sum = xs.sum + ys.sum := by
  induction xs with
  | nil => simp
  | cons a r ih => rw [List.cons_append, List.sum_cons, List.sum_cons, ih]; omega
end G

/-! comprehensions whose turns only make objects; slices; indexing -/
namespace G
open PySem PySem.Spec PyProof.Rows L2
section
variable {K : PySem.W.Frag} {σ : L2.St} {H : Hp} {Q : VK} {g : TG} {tt : TT} {te : TE} {vs : List Nat} {tA : TA} {tl : TE}
def rLc (J : It) (g : TG) (tt : TT) (te : TE) (vs : List Nat) (σ : L2.St) (H1 : Hp) (Q : VK) : Prop := ∀ D, H1 D = none → ∃ W : Nat → Nat → Hp → Prop, (∃ m, W 0 m (upd H1 D (.lst []))) ∧ ∀ i m H, W i m H →
  (J.stop i H ∧ Q (.ref D) H) ∨ (J.go i H ∧ ∃ Nx : Hp → Prop, (∀ H', Nx H' → ∃ m', m' < m ∧ W (i + 1) m' H') ∧ ∀ x H', J.yld i H x H' → g x (wipe σ vs) H' fun σ2 H2 => wipe σ2 vs = wipe σ vs ∧ tt σ2 H2 fun b H3 =>
    if b = true then te σ2 H3 fun y H4 => ∃ acc, H4 D = some (.lst acc) ∧ acc.length < sizeLine ∧ Nx (upd H4 D (.lst (acc ++ [y]))) else Nx H3)
def rLcR1 (g : TG) (tt : TT) (te : TE) (ws : List Nat) (σ : L2.St) (Q : VK) (vs : List V) (H1 : Hp) : Prop := ∃ j : Int, vs = [.int j] ∧ -(2 ^ 62) ≤ j ∧ j < 2 ^ 62 ∧ rLc (Itr 0 j.toNat) g tt te ws σ H1 Q
def rLcR2 (g : TG) (tt : TT) (te : TE) (ws : List Nat) (σ : L2.St) (Q : VK) (vs : List V) (H1 : Hp) : Prop := ∃ i j : Int, vs = [.int i, .int j] ∧ (-(2 ^ 62) ≤ i ∧ i < 2 ^ 62 ∧ -(2 ^ 62) ≤ j ∧ j < 2 ^ 62) ∧ rLc (Itr i (j - i).toNat) g tt te ws σ H1 Q
def rLcL (K : PySem.W.Frag) (g : TG) (tt : TT) (te : TE) (ws : List Nat) (σ : L2.St) (Q : VK) (x : V) (H1 : Hp) : Prop := ∃ a, x = .ref a ∧ (∃ xs, SqL K H1 a xs) ∧ rLc (Itl K a) g tt te ws σ H1 Q
def rLcT (K : PySem.W.Frag) (g : TG) (tt : TT) (te : TE) (ws : List Nat) (σ : L2.St) (Q : VK) (x : V) (H1 : Hp) : Prop := ∃ a, x = .ref a ∧ (∃ xs, SqT K H1 a xs) ∧ rLc (Itt K a) g tt te ws σ H1 Q
theorem w_lcR1 (h : tA σ H fun ws H1 => rLcR1 g tt te vs σ Q ws H1) : tLc (iRng1 tA) g tt te vs σ H Q := h
theorem w_lcR2 (h : tA σ H fun ws H1 => rLcR2 g tt te vs σ Q ws H1) : tLc (iRng2 tA) g tt te vs σ H Q := h
theorem w_lcL (h : tl σ H fun x H1 => rLcL K g tt te vs σ Q x H1) : tLc (iList K tl) g tt te vs σ H Q := h
theorem w_lcT (h : tl σ H fun x H1 => rLcT K g tt te vs σ Q x H1) : tLc (iTup K tl) g tt te vs σ H Q := h
theorem wipe1 {v : Nat} {x : Option V} : wipe ((wipe σ [v]).set v x) [v] = wipe σ [v] := by
  show ((σ.set v none).set v x).set v none = σ.set v none
  rw [List.set_set, List.set_set]
def LcAdd (D : Addr) (Pv : Nat → Hp → Prop) (i : Nat) (y : V) (H4 : Hp) : Prop := ∃ acc, H4 D = some (.lst acc) ∧ acc.length < sizeLine ∧ Pv (i + 1) (upd H4 D (.lst (acc ++ [y])))
/-- grown only, the list so far at D -/
def PvE (H : Hp) (D : Addr) (A : Nat → List V) (i : Nat) (H' : Hp) : Prop := Ext H H' ∧ H' D = some (.lst (A i))
theorem lc_add {D : Addr} {A : Nat → List V} {i : Nat} {y : V} {H4 : Hp} (h : H4 D = some (.lst (A i))) (e : Ext H H4) (n : H D = none) (ha : A (i + 1) = A i ++ [y]) (hl : (A i).length < sizeLine) : LcAdd D (PvE H D A) i y H4 :=
  ⟨A i, h, hl, ext_put n e, by rw [upd_same, ha]⟩
theorem lc_skip {D : Addr} {A : Nat → List V} {i : Nat} {H3 : Hp} (h : H3 D = some (.lst (A i))) (e : Ext H H3) (ha : A (i + 1) = A i) : PvE H D A (i + 1) H3 := ⟨e, by rw [ha]; exact h⟩
/-- over any walk, growth only: A i the list so far -/
theorem lcE {J : It} {n : Nat} {G : Hp → Prop} {Y : Nat → Hp → V → Hp → Prop} (w : Walk J n G Y) (A : Nat → List V) (h0 : A 0 = []) (hG : ∀ H', Ext H H' → G H')
    (hs : ∀ i x D H1 H2, i < n → H D = none → Ext H H1 → H1 D = some (.lst (A i)) → Y i H1 x H2 → g x (wipe σ vs) H2 fun σ2 H2 => wipe σ2 vs = wipe σ vs ∧ tt σ2 H2 fun b H3 =>
      if b = true then te σ2 H3 fun y H4 => LcAdd D (PvE H D A) i y H4 else PvE H D A (i + 1) H3)
    (hd : ∀ D H1, H D = none → Ext H H1 → H1 D = some (.lst (A n)) → Q (.ref D) H1) : rLc J g tt te vs σ H Q := fun D hD =>
  lc_it w (PvE H D A) ⟨ext_up hD Ext.rfl', by rw [upd_same, h0]⟩ (fun i H' _ h => hG H' h.1) (fun i x H1 H2 hi h y => hs i x D H1 H2 hi hD h.1 h.2 y) fun H1 h => hd D H1 hD h.1 h.2
abbrev accM (fV : Nat → V) : Nat → List V := fun i => (List.range i).map fV
abbrev accF (p : Nat → Bool) (fV : Nat → V) : Nat → List V := fun i => ((List.range i).filter p).map fV
theorem accM_succ {fV : Nat → V} {i : Nat} : accM fV (i + 1) = accM fV i ++ [fV i] := by
  unfold accM
  rw [List.range_succ, List.map_append]
  rfl
theorem accM_len {fV : Nat → V} {i : Nat} : (accM fV i).length = i := by unfold accM; simp
theorem accF_yes {p : Nat → Bool} {fV : Nat → V} {i : Nat} (h : p i = true) : accF p fV (i + 1) = accF p fV i ++ [fV i] := by
  unfold accF
  rw [List.range_succ, List.filter_append, List.map_append]
  simp [h]
theorem accF_no {p : Nat → Bool} {fV : Nat → V} {i : Nat} (h : p i = false) : accF p fV (i + 1) = accF p fV i := by
  unfold accF
  rw [List.range_succ, List.filter_append, List.map_append]
  simp [h]
theorem accF_len {p : Nat → Bool} {fV : Nat → V} {i : Nat} : (accF p fV i).length ≤ i := by
  unfold accF
  rw [List.length_map]
  exact Nat.le_trans (List.length_filter_le _ _) (by simp)
theorem lc_one {D : Addr} {fV : Nat → V} {i : Nat} {y : V} {H4 : Hp} (h : H4 D = some (.lst (accM fV i))) (e : Ext H H4) (n : H D = none) (hi : i < 16000000) (ha : y = fV i) : LcAdd D (PvE H D (accM fV)) i y H4 :=
  lc_add h e n (by rw [accM_succ, ha]) (by rw [accM_len]; exact Nat.lt_trans hi (by decide))
theorem lc_onef {D : Addr} {p : Nat → Bool} {fV : Nat → V} {i : Nat} {y : V} {H4 : Hp} (h : H4 D = some (.lst (accF p fV i))) (e : Ext H H4) (n : H D = none) (hi : i < 16000000) (hp : p i = true) (ha : y = fV i) : LcAdd D (PvE H D (accF p fV)) i y H4 :=
  lc_add h e n (by rw [accF_yes hp, ha]) (Nat.lt_of_le_of_lt accF_len (Nat.lt_trans hi (by decide)))
theorem lc_nonef {D : Addr} {p : Nat → Bool} {fV : Nat → V} {i : Nat} {H3 : Hp} (h : H3 D = some (.lst (accF p fV i))) (e : Ext H H3) (hp : p i = false) : PvE H D (accF p fV) (i + 1) H3 :=
  lc_skip h e (accF_no hp)
/-! the usual ones: one name -/
variable {v : Nat} {j lo hi : Int}
theorem lcR1 {n : Nat} (fV : Nat → V) (hj : j = (n : Int)) (hn : n < 16000000) (hs : ∀ (i : Nat) D H1, i < n → H D = none → Ext H H1 → H1 D = some (.lst (accM fV i)) → te ((σ.set v none).set v (some (.int (i : Int)))) H1 fun y H4 => LcAdd D (PvE H D (accM fV)) i y H4)
    (hd : ∀ D H1, H D = none → Ext H H1 → H1 D = some (.lst (accM fV n)) → Q (.ref D) H1) : rLcR1 (gName v) tYes te [v] σ Q [.int j] H := by
  subst hj
  refine ⟨(n : Int), rfl, by omega, by omega, lcE walk_range (accM fV) rfl (fun _ _ => trivial) ?_ (by rw [Int.toNat_natCast]; exact hd)⟩
  rintro i x D H1 H2 hi hD e hA ⟨rfl, rfl⟩
  refine ⟨wipe1, ?_⟩
  show te ((σ.set v none).set v (some (.int (0 + (i : Int))))) H2 _
  rw [Int.zero_add]
  exact hs i D H2 (by omega) hD e hA
theorem lcR2 (fV : Nat → V) (hn : -4000000000 < lo ∧ lo < 4000000000 ∧ -4000000000 < hi ∧ hi < 4000000000) (hn2 : hi - lo < 16000000) (hs : ∀ (i : Nat) D H1, lo + i < hi → H D = none → Ext H H1 → H1 D = some (.lst (accM fV i)) → te ((σ.set v none).set v (some (.int (lo + (i : Int))))) H1 fun y H4 => LcAdd D (PvE H D (accM fV)) i y H4)
    (hd : ∀ D H1, H D = none → Ext H H1 → H1 D = some (.lst (accM fV (hi - lo).toNat)) → Q (.ref D) H1) : rLcR2 (gName v) tYes te [v] σ Q [.int lo, .int hi] H := by
  refine ⟨lo, hi, rfl, ⟨by omega, by omega, by omega, by omega⟩, lcE walk_range (accM fV) rfl (fun _ _ => trivial) ?_ hd⟩
  rintro i x D H1 H2 hi hD e hA ⟨rfl, rfl⟩
  exact ⟨wipe1, hs i D H2 (by omega) hD e hA⟩
theorem lcL {a : Addr} {xs : List V} (fV : Nat → V) (hx : SqL K H a xs) (hn : xs.length < 16000000) (hs : ∀ (i : Nat) x D H1, xs[i]? = some x → H D = none → Ext H H1 → H1 D = some (.lst (accM fV i)) → te ((σ.set v none).set v (some x)) H1 fun y H4 => LcAdd D (PvE H D (accM fV)) i y H4)
    (hd : ∀ D H1, H D = none → Ext H H1 → H1 D = some (.lst (accM fV xs.length)) → Q (.ref D) H1) : rLcL K (gName v) tYes te [v] σ Q (.ref a) H := by
  refine ⟨a, rfl, ⟨_, hx⟩, lcE walk_list (accM fV) rfl (fun _ e => hx.ext e) ?_ hd⟩
  rintro i x D H1 H2 hi hD e hA ⟨rfl, hxi⟩
  exact ⟨wipe1, hs i x D H2 hxi hD e hA⟩
theorem lcLF {a : Addr} {xs : List V} (p : Nat → Bool) (fV : Nat → V) (hx : SqL K H a xs) (hn : xs.length < 16000000) (hs : ∀ (i : Nat) x D H1, xs[i]? = some x → H D = none → Ext H H1 → H1 D = some (.lst (accF p fV i)) →
      tt ((σ.set v none).set v (some x)) H1 fun b H3 => if b = true then te ((σ.set v none).set v (some x)) H3 fun y H4 => LcAdd D (PvE H D (accF p fV)) i y H4 else PvE H D (accF p fV) (i + 1) H3)
    (hd : ∀ D H1, H D = none → Ext H H1 → H1 D = some (.lst (accF p fV xs.length)) → Q (.ref D) H1) : rLcL K (gName v) tt te [v] σ Q (.ref a) H := by
  refine ⟨a, rfl, ⟨_, hx⟩, lcE walk_list (accF p fV) rfl (fun _ e => hx.ext e) ?_ hd⟩
  rintro i x D H1 H2 hi hD e hA ⟨rfl, hxi⟩
  exact ⟨wipe1, hs i x D H2 hxi hD e hA⟩
theorem lcT {a : Addr} {xs : List V} (fV : Nat → V) (hx : SqT K H a xs) (hn : xs.length < 16000000) (hs : ∀ (i : Nat) x D H1, xs[i]? = some x → H D = none → Ext H H1 → H1 D = some (.lst (accM fV i)) → te ((σ.set v none).set v (some x)) H1 fun y H4 => LcAdd D (PvE H D (accM fV)) i y H4)
    (hd : ∀ D H1, H D = none → Ext H H1 → H1 D = some (.lst (accM fV xs.length)) → Q (.ref D) H1) : rLcT K (gName v) tYes te [v] σ Q (.ref a) H := by
  refine ⟨a, rfl, ⟨_, hx⟩, lcE walk_tup (accM fV) rfl (fun _ e => hx.ext e) ?_ hd⟩
  rintro i x D H1 H2 hi hD e hA ⟨rfl, hxi⟩
  exact ⟨wipe1, hs i x D H2 hxi hD e hA⟩
end
/-! ### slices -/
section
variable {K : PySem.W.Frag} {σ : L2.St} {H : Hp} {Q : VK} {te : TE} {tl th : TO} {r : V → Option Int → Option Int → Hp → VK → Prop} {a : Addr} {xs : List V} {l h : Option Int} {i j : Int} {Qo : Option Int → Hp → Prop} {t : TE}
theorem w_sl (h : te σ H fun x H1 => tl σ H1 fun l H2 => th σ H2 fun u H3 => r x l u H3 Q) : tSl r te tl th σ H Q := h
theorem w_nopart (q : Qo none H) : tNoPart σ H Qo := q
theorem w_part (q : t σ H fun x H1 => ∃ i, x = .int i ∧ Qo (some i) H1) : tPart t σ H Qo := q
theorem w_pint {P : Int → Prop} (q : P i) : ∃ k, V.int i = .int k ∧ P k := ⟨i, rfl, q⟩
theorem w_slL (hx : SqL K H a xs) (q : ∀ p, H p = none → Q (.ref p) (upd H p (.lst (cutV xs l h)))) : rSlL K (.ref a) l h H Q := ⟨a, xs, rfl, hx, q⟩
theorem cut_from {xs : List V} (h0 : 0 ≤ i) : cutV xs (some i) none = xs.drop i.toNat := by
  obtain ⟨n, rfl⟩ := Int.eq_ofNat_of_zero_le h0
  unfold cutV
  rw [HT.sIx_nat, HT.sIx_none, Int.toNat_natCast]
  by_cases hn : n ≤ xs.length
  · rw [Nat.min_eq_left hn, List.take_of_length_le]
    rw [List.length_drop]
    omega
  · rw [Nat.min_eq_right (by omega), List.drop_eq_nil_of_le (Nat.le_refl _), List.drop_eq_nil_of_le (by omega)]
    simp
theorem cut_to {xs : List V} (h0 : 0 ≤ i) : cutV xs none (some i) = xs.take i.toNat := by
  obtain ⟨n, rfl⟩ := Int.eq_ofNat_of_zero_le h0
  unfold cutV
  rw [HT.sIx_nat, HT.sIx_none, Int.toNat_natCast, List.drop_zero, Nat.sub_zero]
  by_cases hn : n ≤ xs.length
  · rw [Nat.min_eq_left hn]
  · rw [Nat.min_eq_right (by omega), List.take_of_length_le (Nat.le_refl _), List.take_of_length_le (by omega)]
theorem cut_mid {xs : List V} (h0 : 0 ≤ i) (h1 : i ≤ j) : cutV xs (some i) (some j) = (xs.drop i.toNat).take (j - i).toNat := by
  obtain ⟨n, rfl⟩ := Int.eq_ofNat_of_zero_le h0
  obtain ⟨m, rfl⟩ := Int.eq_ofNat_of_zero_le (Int.le_trans h0 h1)
  unfold cutV
  rw [HT.sIx_nat, HT.sIx_nat, Int.toNat_natCast]
  have e : ((m : Int) - (n : Int)).toNat = m - n := by omega
  rw [e]
  by_cases hn : n ≤ xs.length
  · rw [Nat.min_eq_left hn]
    by_cases hm : m ≤ xs.length
    · rw [Nat.min_eq_left hm]
    · rw [Nat.min_eq_right (by omega), List.take_of_length_le (by rw [List.length_drop]; omega), List.take_of_length_le (by rw [List.length_drop]; omega)]
  · rw [Nat.min_eq_right (by omega : xs.length ≤ n), List.drop_eq_nil_of_le (Nat.le_refl _), List.drop_eq_nil_of_le (by omega)]
    simp
theorem w_slLfrom (hx : SqL K H a xs) (h0 : 0 ≤ i) (q : ∀ p, H p = none → Q (.ref p) (upd H p (.lst (xs.drop i.toNat)))) : rSlL K (.ref a) (some i) none H Q := w_slL hx fun p hp => by rw [cut_from h0]; exact q p hp
theorem w_slLto (hx : SqL K H a xs) (h0 : 0 ≤ i) (q : ∀ p, H p = none → Q (.ref p) (upd H p (.lst (xs.take i.toNat)))) : rSlL K (.ref a) none (some i) H Q := w_slL hx fun p hp => by rw [cut_to h0]; exact q p hp
theorem w_slLmid (hx : SqL K H a xs) (h0 : 0 ≤ i) (h1 : i ≤ j) (q : ∀ p, H p = none → Q (.ref p) (upd H p (.lst ((xs.drop i.toNat).take (j - i).toNat)))) : rSlL K (.ref a) (some i) (some j) H Q := w_slL hx fun p hp => by rw [cut_mid h0 h1]; exact q p hp
/-! ### more of lists -/
theorem small_le {n : Nat} (h : Nat.ble n 1000 = true) : n ≤ sizeLine := Nat.le_trans (Nat.le_of_ble_eq_true h) (by decide)
theorem w_cat {l b : Addr} {xs zs : List V} (h1 : H l = some (.lst xs)) (h2 : H b = some (.lst zs)) (hz : xs.length + zs.length ≤ sizeLine) (q : ∀ p, H p = none → Q (.ref p) (upd H p (.lst (xs ++ zs)))) : rCat (.ref l) (.ref b) H Q := ⟨l, b, xs, zs, rfl, rfl, h1, h2, hz, q⟩
end
end G

namespace K72
open PySem PySem.Spec PyProof.Rows L2 G

def top (i : Nat) : Stmt := PySem.Challenge.pw_throughway_k72_prefixes.main.body.getD i (.Pass ⟨0, 0, 0, 0⟩)

abbrev s_span_of : Stmt := top 7
abbrev N_span_of : List Str := ["length"]
abbrev P_span_of : List Str := ["length"]

theorem sc_span_of : FnScope N_span_of P_span_of (defScope s_span_of) := ⟨rfl, rfl, rfl, by decide +kernel, rfl, by decide +kernel, by decide +kernel⟩

abbrev D_span_of : He.DefD := ⟨("span_of", none), "span_of", "span_of", defArgs s_span_of, defBody s_span_of, defScope s_span_of, [], []⟩

abbrev s_bit_of : Stmt := top 8
abbrev N_bit_of : List Str := ["address", "at"]
abbrev P_bit_of : List Str := ["address", "at"]

theorem sc_bit_of : FnScope N_bit_of P_bit_of (defScope s_bit_of) := ⟨rfl, rfl, rfl, by decide +kernel, rfl, by decide +kernel, by decide +kernel⟩

abbrev D_bit_of : He.DefD := ⟨("bit_of", none), "bit_of", "bit_of", defArgs s_bit_of, defBody s_bit_of, defScope s_bit_of, [], []⟩

abbrev s_Prefix_init : Stmt := inClass (top 9) 0
abbrev N_Prefix_init : List Str := ["self", "base", "length"]
abbrev P_Prefix_init : List Str := ["self", "base", "length"]

theorem sc_Prefix_init : FnScope N_Prefix_init P_Prefix_init (defScope s_Prefix_init) := ⟨rfl, rfl, rfl, by decide +kernel, rfl, by decide +kernel, by decide +kernel⟩

abbrev D_Prefix_init : He.DefD := ⟨("Prefix", some "__init__"), "__init__", "Prefix.__init__", defArgs s_Prefix_init, defBody s_Prefix_init, defScope s_Prefix_init, [], []⟩

abbrev s_Prefix__eq : Stmt := inClass (top 9) 1
abbrev N_Prefix__eq : List Str := ["self", "other"]
abbrev P_Prefix__eq : List Str := ["self", "other"]

theorem sc_Prefix__eq : FnScope N_Prefix__eq P_Prefix__eq (defScope s_Prefix__eq) := ⟨rfl, rfl, rfl, by decide +kernel, rfl, by decide +kernel, by decide +kernel⟩

abbrev D_Prefix__eq : He.DefD := ⟨("Prefix", some "__eq__"), "__eq__", "Prefix.__eq__", defArgs s_Prefix__eq, defBody s_Prefix__eq, defScope s_Prefix__eq, [], []⟩

abbrev s_Prefix_pair : Stmt := inClass (top 9) 2
abbrev N_Prefix_pair : List Str := ["self"]
abbrev P_Prefix_pair : List Str := ["self"]

theorem sc_Prefix_pair : FnScope N_Prefix_pair P_Prefix_pair (defScope s_Prefix_pair) := ⟨rfl, rfl, rfl, by decide +kernel, rfl, by decide +kernel, by decide +kernel⟩

abbrev D_Prefix_pair : He.DefD := ⟨("Prefix", some "pair"), "pair", "Prefix.pair", defArgs s_Prefix_pair, defBody s_Prefix_pair, defScope s_Prefix_pair, [], []⟩

abbrev s_Prefix_span : Stmt := inClass (top 9) 3
abbrev N_Prefix_span : List Str := ["self"]
abbrev P_Prefix_span : List Str := ["self"]

theorem sc_Prefix_span : FnScope N_Prefix_span P_Prefix_span (defScope s_Prefix_span) := ⟨rfl, rfl, rfl, by decide +kernel, rfl, by decide +kernel, by decide +kernel⟩

abbrev D_Prefix_span : He.DefD := ⟨("Prefix", some "span"), "span", "Prefix.span", defArgs s_Prefix_span, defBody s_Prefix_span, defScope s_Prefix_span, [], []⟩

abbrev s_Prefix_covers : Stmt := inClass (top 9) 4
abbrev N_Prefix_covers : List Str := ["self", "address"]
abbrev P_Prefix_covers : List Str := ["self", "address"]

theorem sc_Prefix_covers : FnScope N_Prefix_covers P_Prefix_covers (defScope s_Prefix_covers) := ⟨rfl, rfl, rfl, by decide +kernel, rfl, by decide +kernel, by decide +kernel⟩

abbrev D_Prefix_covers : He.DefD := ⟨("Prefix", some "covers"), "covers", "Prefix.covers", defArgs s_Prefix_covers, defBody s_Prefix_covers, defScope s_Prefix_covers, [], []⟩

abbrev s_Prefix_contains : Stmt := inClass (top 9) 5
abbrev N_Prefix_contains : List Str := ["self", "other"]
abbrev P_Prefix_contains : List Str := ["self", "other"]

theorem sc_Prefix_contains : FnScope N_Prefix_contains P_Prefix_contains (defScope s_Prefix_contains) := ⟨rfl, rfl, rfl, by decide +kernel, rfl, by decide +kernel, by decide +kernel⟩

abbrev D_Prefix_contains : He.DefD := ⟨("Prefix", some "contains"), "contains", "Prefix.contains", defArgs s_Prefix_contains, defBody s_Prefix_contains, defScope s_Prefix_contains, [], []⟩

abbrev s_Prefix_halves : Stmt := inClass (top 9) 6
abbrev N_Prefix_halves : List Str := ["self", "half"]
abbrev P_Prefix_halves : List Str := ["self"]

theorem sc_Prefix_halves : FnScope N_Prefix_halves P_Prefix_halves (defScope s_Prefix_halves) := ⟨rfl, rfl, rfl, by decide +kernel, rfl, by decide +kernel, by decide +kernel⟩

abbrev D_Prefix_halves : He.DefD := ⟨("Prefix", some "halves"), "halves", "Prefix.halves", defArgs s_Prefix_halves, defBody s_Prefix_halves, defScope s_Prefix_halves, [], []⟩

abbrev s_prefix_of : Stmt := top 10
abbrev N_prefix_of : List Str := ["address", "length"]
abbrev P_prefix_of : List Str := ["address", "length"]

theorem sc_prefix_of : FnScope N_prefix_of P_prefix_of (defScope s_prefix_of) := ⟨rfl, rfl, rfl, by decide +kernel, rfl, by decide +kernel, by decide +kernel⟩

abbrev D_prefix_of : He.DefD := ⟨("prefix_of", none), "prefix_of", "prefix_of", defArgs s_prefix_of, defBody s_prefix_of, defScope s_prefix_of, [], []⟩

abbrev s_law_span : Stmt := top 12
abbrev N_law_span : List Str := ["length"]
abbrev P_law_span : List Str := ["length"]

theorem sc_law_span : FnScope N_law_span P_law_span (defScope s_law_span) := ⟨rfl, rfl, rfl, by decide +kernel, rfl, by decide +kernel, by decide +kernel⟩

abbrev D_law_span : He.DefD := ⟨("_law_span", none), "_law_span", "_law_span", defArgs s_law_span, defBody s_law_span, defScope s_law_span, [], []⟩

abbrev s_law_cell : Stmt := top 13
abbrev N_law_cell : List Str := ["script", "k"]
abbrev P_law_cell : List Str := ["script", "k"]

theorem sc_law_cell : FnScope N_law_cell P_law_cell (defScope s_law_cell) := ⟨rfl, rfl, rfl, by decide +kernel, rfl, by decide +kernel, by decide +kernel⟩

abbrev D_law_cell : He.DefD := ⟨("_law_cell", none), "_law_cell", "_law_cell", defArgs s_law_cell, defBody s_law_cell, defScope s_law_cell, [], []⟩

abbrev s_law_start : Stmt := top 14
abbrev N_law_start : List Str := ["cell", "k", "prime", "mixed", "number", "turn"]
abbrev P_law_start : List Str := ["cell", "k"]

theorem sc_law_start : FnScope N_law_start P_law_start (defScope s_law_start) := ⟨rfl, rfl, rfl, by decide +kernel, rfl, by decide +kernel, by decide +kernel⟩

abbrev D_law_start : He.DefD := ⟨("_law_start", none), "_law_start", "_law_start", defArgs s_law_start, defBody s_law_start, defScope s_law_start, [], []⟩

abbrev s_law_digit : Stmt := top 15
abbrev N_law_digit : List Str := ["state", "many", "digit"]
abbrev P_law_digit : List Str := ["state", "many"]

theorem sc_law_digit : FnScope N_law_digit P_law_digit (defScope s_law_digit) := ⟨rfl, rfl, rfl, by decide +kernel, rfl, by decide +kernel, by decide +kernel⟩

abbrev D_law_digit : He.DefD := ⟨("_law_digit", none), "_law_digit", "_law_digit", defArgs s_law_digit, defBody s_law_digit, defScope s_law_digit, [], []⟩

abbrev s_law_is_integer : Stmt := top 16
abbrev N_law_is_integer : List Str := ["told"]
abbrev P_law_is_integer : List Str := ["told"]

theorem sc_law_is_integer : FnScope N_law_is_integer P_law_is_integer (defScope s_law_is_integer) := ⟨rfl, rfl, rfl, by decide +kernel, rfl, by decide +kernel, by decide +kernel⟩

abbrev D_law_is_integer : He.DefD := ⟨("_law_is_integer", none), "_law_is_integer", "_law_is_integer", defArgs s_law_is_integer, defBody s_law_is_integer, defScope s_law_is_integer, [], []⟩

abbrev s_law_bits : Stmt := top 17
abbrev N_law_bits : List Str := ["address", "k"]
abbrev P_law_bits : List Str := ["address"]

theorem sc_law_bits : FnScope N_law_bits P_law_bits (defScope s_law_bits) := ⟨rfl, rfl, rfl, by decide +kernel, rfl, by decide +kernel, by decide +kernel⟩

abbrev D_law_bits : He.DefD := ⟨("_law_bits", none), "_law_bits", "_law_bits", defArgs s_law_bits, defBody s_law_bits, defScope s_law_bits, [], []⟩

abbrev s_law_may : Stmt := top 18
abbrev N_law_may : List Str := ["base", "length", "k"]
abbrev P_law_may : List Str := ["base", "length"]

theorem sc_law_may : FnScope N_law_may P_law_may (defScope s_law_may) := ⟨rfl, rfl, rfl, by decide +kernel, rfl, by decide +kernel, by decide +kernel⟩

abbrev D_law_may : He.DefD := ⟨("_law_may", none), "_law_may", "_law_may", defArgs s_law_may, defBody s_law_may, defScope s_law_may, [], []⟩

abbrev s_law_made : Stmt := top 19
abbrev N_law_made : List Str := ["base", "length"]
abbrev P_law_made : List Str := ["base", "length"]

theorem sc_law_made : FnScope N_law_made P_law_made (defScope s_law_made) := ⟨rfl, rfl, rfl, by decide +kernel, rfl, by decide +kernel, by decide +kernel⟩

abbrev D_law_made : He.DefD := ⟨("_law_made", none), "_law_made", "_law_made", defArgs s_law_made, defBody s_law_made, defScope s_law_made, [], []⟩

abbrev s_law_base : Stmt := top 20
abbrev N_law_base : List Str := ["state", "length", "address"]
abbrev P_law_base : List Str := ["state", "length"]

theorem sc_law_base : FnScope N_law_base P_law_base (defScope s_law_base) := ⟨rfl, rfl, rfl, by decide +kernel, rfl, by decide +kernel, by decide +kernel⟩

abbrev D_law_base : He.DefD := ⟨("_law_base", none), "_law_base", "_law_base", defArgs s_law_base, defBody s_law_base, defScope s_law_base, [], []⟩

abbrev s_law_shares : Stmt := top 21
abbrev N_law_shares : List Str := ["base", "length", "address"]
abbrev P_law_shares : List Str := ["base", "length", "address"]

theorem sc_law_shares : FnScope N_law_shares P_law_shares (defScope s_law_shares) := ⟨rfl, rfl, rfl, by decide +kernel, rfl, by decide +kernel, by decide +kernel⟩

abbrev D_law_shares : He.DefD := ⟨("_law_shares", none), "_law_shares", "_law_shares", defArgs s_law_shares, defBody s_law_shares, defScope s_law_shares, [], []⟩

abbrev s_law_halves : Stmt := top 22
abbrev N_law_halves : List Str := ["prefix", "halves", "half", "k"]
abbrev P_law_halves : List Str := ["prefix"]

theorem sc_law_halves : FnScope N_law_halves P_law_halves (defScope s_law_halves) := ⟨rfl, rfl, rfl, by decide +kernel, rfl, by decide +kernel, by decide +kernel⟩

abbrev D_law_halves : He.DefD := ⟨("_law_halves", none), "_law_halves", "_law_halves", defArgs s_law_halves, defBody s_law_halves, defScope s_law_halves, [], []⟩

abbrev s_law_one : Stmt := top 23
abbrev N_law_one : List Str := ["prefix", "base", "length"]
abbrev P_law_one : List Str := ["prefix", "base", "length"]

theorem sc_law_one : FnScope N_law_one P_law_one (defScope s_law_one) := ⟨rfl, rfl, rfl, by decide +kernel, rfl, by decide +kernel, by decide +kernel⟩

abbrev D_law_one : He.DefD := ⟨("_law_one", none), "_law_one", "_law_one", defArgs s_law_one, defBody s_law_one, defScope s_law_one, [], []⟩

abbrev s_law_addresses : Stmt := top 24
abbrev N_law_addresses : List Str := ["state", "prefix", "other", "ends", "address"]
abbrev P_law_addresses : List Str := ["state", "prefix", "other"]

theorem sc_law_addresses : FnScope N_law_addresses P_law_addresses (defScope s_law_addresses) := ⟨rfl, rfl, rfl, by decide +kernel, rfl, by decide +kernel, by decide +kernel⟩

abbrev D_law_addresses : He.DefD := ⟨("_law_addresses", none), "_law_addresses", "_law_addresses", defArgs s_law_addresses, defBody s_law_addresses, defScope s_law_addresses, [], []⟩

abbrev s_law_two : Stmt := top 25
abbrev N_law_two : List Str := ["state", "prefix", "other", "address", "at", "near", "within"]
abbrev P_law_two : List Str := ["state", "prefix", "other"]

theorem sc_law_two : FnScope N_law_two P_law_two (defScope s_law_two) := ⟨rfl, rfl, rfl, by decide +kernel, rfl, by decide +kernel, by decide +kernel⟩

abbrev D_law_two : He.DefD := ⟨("_law_two", none), "_law_two", "_law_two", defArgs s_law_two, defBody s_law_two, defScope s_law_two, [], []⟩

abbrev s_law_pair : Stmt := top 26
abbrev N_law_pair : List Str := ["state", "made", "k", "length", "base", "told", "near"]
abbrev P_law_pair : List Str := ["state"]

theorem sc_law_pair : FnScope N_law_pair P_law_pair (defScope s_law_pair) := ⟨rfl, rfl, rfl, by decide +kernel, rfl, by decide +kernel, by decide +kernel⟩

abbrev D_law_pair : He.DefD := ⟨("_law_pair", none), "_law_pair", "_law_pair", defArgs s_law_pair, defBody s_law_pair, defScope s_law_pair, [], []⟩

abbrev s_law : Stmt := top 27
abbrev N_law : List Str := ["script", "k"]
abbrev P_law : List Str := ["script"]

theorem sc_law : FnScope N_law P_law (defScope s_law) := ⟨rfl, rfl, rfl, by decide +kernel, rfl, by decide +kernel, by decide +kernel⟩

abbrev D_law : He.DefD := ⟨("law", none), "law", "law", defArgs s_law, defBody s_law, defScope s_law, [], []⟩

abbrev fn : List He.DefD := [D_span_of, D_bit_of, D_Prefix_init, D_Prefix__eq, D_Prefix_pair, D_Prefix_span, D_Prefix_covers, D_Prefix_contains, D_Prefix_halves, D_prefix_of, D_law_span, D_law_cell, D_law_start, D_law_digit, D_law_is_integer, D_law_bits, D_law_may, D_law_made, D_law_base, D_law_shares, D_law_halves, D_law_one, D_law_addresses, D_law_two, D_law_pair, D_law]

abbrev fa : List He.Fa := [.exm "InvalidPrefix" "InvalidPrefix" true, .glo "SPANS", .int "BITS" 16, .exc "InvalidPrefix", .glo "InvalidPrefix", .int "ADDRESSES" 65536, .glo "Prefix", .free "isinstance", .free "len", .free "int", .free "range", .free "bool", .free "tuple", .free "min", .glo "span_of", .glo "bit_of", .mkr "Prefix", .cls "Prefix", .meth "Prefix" "__eq__", .meth "Prefix" "pair", .meth "Prefix" "span", .meth "Prefix" "covers", .meth "Prefix" "contains", .meth "Prefix" "halves", .glo "prefix_of", .glo "_law_span", .glo "_law_cell", .glo "_law_start", .glo "_law_digit", .glo "_law_is_integer", .glo "_law_bits", .glo "_law_may", .glo "_law_made", .glo "_law_base", .glo "_law_shares", .glo "_law_halves", .glo "_law_one", .glo "_law_addresses", .glo "_law_two", .glo "_law_pair", .glo "law", .noat "Prefix" "base", .noat "Prefix" "length"]

abbrev pr : List Pr := []
abbrev ex : List Ex := [(insB "Prefix"), (kitOB "Prefix" "Prefix" true), (kitTB "tuple" "Prefix" false), (nfB "Prefix" "tuple"), (kitTB "int" "Prefix" false), (tupX "SPANS" [.int 65536, .int 32768, .int 16384, .int 8192, .int 4096, .int 2048, .int 1024, .int 512, .int 256, .int 128, .int 64, .int 32, .int 16, .int 8, .int 4, .int 2, .int 1])]
abbrev TX (K : PySem.W.Frag) (mg : Str → Option Value) (base : Heap) : Prop := TxB fa fn pr ex K mg base

abbrev v_SPANS : List V := [.int 65536, .int 32768, .int 16384, .int 8192, .int 4096, .int 2048, .int 1024, .int 512, .int 256, .int 128, .int 64, .int 32, .int 16, .int 8, .int 4, .int 2, .int 1]
theorem kx_SPANS {K : PySem.W.Frag} {mg : Str → Option Value} {base : Heap} (T : TX K mg base) (H : Hp) : SqT K H (He.ga K "SPANS") v_SPANS := He.tupB_ok (x := "SPANS") (vs := [.int 65536, .int 32768, .int 16384, .int 8192, .int 4096, .int 2048, .int 1024, .int 512, .int 256, .int 128, .int 64, .int 32, .int 16, .int 8, .int 4, .int 2, .int 1]) (T.b.ex_ 5) H

section
variable {K : PySem.W.Frag} {mg : Str → Option Value} {base : Heap}

theorem cl_Prefix (T : TX K mg base) : Cls K (He.ga K "Prefix") := T.cls 17

theorem na_Prefix_base (T : TX K mg base) : NoAttr K (He.ga K "Prefix") "base" := T.noat 41

theorem na_Prefix_length (T : TX K mg base) : NoAttr K (He.ga K "Prefix") "length" := T.noat 42

/-- the attributes of a Prefix, in the order of its __init__ -/
abbrev fPrefix (x0 x1 : V) : List (Str × V) := [("base", x0), ("length", x1)]

theorem lk_Prefix_base {x0 x1 : V} : (fPrefix x0 x1).lookup ("base" : Str) = some x0 := by kernel_rfl

theorem pt_Prefix_base {x0 x1 y : V} : putF "base" y (fPrefix x0 x1) = fPrefix y x1 := by kernel_rfl

theorem pn_Prefix_base { y : V} : putF "base" y ([] : List (Str × V)) = ([("base", y)] : List (Str × V)) := by kernel_rfl

theorem lk_Prefix_length {x0 x1 : V} : (fPrefix x0 x1).lookup ("length" : Str) = some x1 := by kernel_rfl

theorem pt_Prefix_length {x0 x1 y : V} : putF "length" y (fPrefix x0 x1) = fPrefix x0 y := by kernel_rfl

theorem pn_Prefix_length {x0 y : V} : putF "length" y ([("base", x0)] : List (Str × V)) = ([("base", x0), ("length", y)] : List (Str × V)) := by kernel_rfl

theorem ln_Prefix___eq__ {x0 x1 : V} : (fPrefix x0 x1).lookup ("__eq__" : Str) = none := by kernel_rfl

theorem ln_Prefix_pair {x0 x1 : V} : (fPrefix x0 x1).lookup ("pair" : Str) = none := by kernel_rfl

theorem ln_Prefix_span {x0 x1 : V} : (fPrefix x0 x1).lookup ("span" : Str) = none := by kernel_rfl

theorem ln_Prefix_covers {x0 x1 : V} : (fPrefix x0 x1).lookup ("covers" : Str) = none := by kernel_rfl

theorem ln_Prefix_contains {x0 x1 : V} : (fPrefix x0 x1).lookup ("contains" : Str) = none := by kernel_rfl

theorem ln_Prefix_halves {x0 x1 : V} : (fPrefix x0 x1).lookup ("halves" : Str) = none := by kernel_rfl

end
end K72

namespace K72
open PySem PySem.Spec PyProof.Rows L2 G
abbrev cP (K : PySem.W.Frag) : Addr := He.ga K "Prefix"
abbrev eP (K : PySem.W.Frag) : Value := .ref (He.ga K "InvalidPrefix")
/-- a prefix -/
abbrev oP (K : PySem.W.Frag) (dx : Addr) (b l : Int) : HO := .ins (cP K) dx (fPrefix (.int b) (.int l))
/-- how many addresses a prefix of this length has -/
def sn (l : Int) : Int := 2 ^ (16 - l.toNat)
def Ok (b l : Int) : Prop := 0 ≤ l ∧ l ≤ 16 ∧ 0 ≤ b ∧ b < 65536 ∧ b % sn l = 0
instance (b l : Int) : Decidable (Ok b l) := inferInstanceAs (Decidable (_ ∧ _))
def bits (a : Int) : List Int := (List.range 16).map fun (k : Nat) => a / sn ((k : Int) + 1) % 2
abbrev spV := VK
def sp_span_of (K : PySem.W.Frag) : Sp := fun vs H Q _ => ∃ l : Int, vs = [.int l] ∧ 0 ≤ l ∧ l ≤ 16 ∧ Q (.int (sn l)) H
def sp_bit_of (K : PySem.W.Frag) : Sp := fun vs H Q _ => ∃ a l : Int, vs = [.int a, .int l] ∧ 0 ≤ l ∧ l ≤ 15 ∧ Q (.int (a / sn (l + 1) % 2)) H
def sp_Prefix_init (K : PySem.W.Frag) : Sp := fun vs H Q E => ∃ (p dx : Addr) (b l : Int), vs = [.ref p, .int b, .int l] ∧ H p = some (.ins (cP K) dx []) ∧ (¬ Ok b l → E (eP K) none H) ∧ (Ok b l → Q .non (upd H p (oP K dx b l)))
def sp_Prefix__eq (K : PySem.W.Frag) : Sp := fun vs H Q _ => ∃ (p dx : Addr) (b l : Int) (q : Addr), vs = [.ref p, .ref q] ∧ H p = some (oP K dx b l) ∧
  ((∃ dy c m, H q = some (oP K dy c m) ∧ Q (.bl (decide (b = c ∧ l = m))) H) ∨ ∃ xs, H q = some (.tup xs) ∧ Q (.bl false) H)
def sp_Prefix_pair (K : PySem.W.Frag) : Sp := fun vs H Q _ => ∃ (p dx : Addr) (b l : Int), vs = [.ref p] ∧ H p = some (oP K dx b l) ∧ ∀ t, H t = none → Q (.ref t) (upd H t (.tup [.int b, .int l]))
def sp_Prefix_span (K : PySem.W.Frag) : Sp := fun vs H Q _ => ∃ (p dx : Addr) (b l : Int), vs = [.ref p] ∧ H p = some (oP K dx b l) ∧ 0 ≤ l ∧ l ≤ 16 ∧ Q (.int (sn l)) H
def sp_Prefix_covers (K : PySem.W.Frag) : Sp := fun vs H Q _ => ∃ (p dx : Addr) (b l a : Int), vs = [.ref p, .int a] ∧ H p = some (oP K dx b l) ∧ 0 ≤ l ∧ l ≤ 16 ∧ Q (.bl (decide (b ≤ a ∧ a < b + sn l))) H
def sp_Prefix_contains (K : PySem.W.Frag) : Sp := fun vs H Q _ => ∃ (p dx : Addr) (b l : Int) (q dy : Addr) (c m : Int), vs = [.ref p, .ref q] ∧ H p = some (oP K dx b l) ∧ H q = some (oP K dy c m) ∧ 0 ≤ l ∧ l ≤ 16 ∧ Q (.bl (decide (l ≤ m ∧ b ≤ c ∧ c < b + sn l))) H
def sp_Prefix_halves (K : PySem.W.Frag) : Sp := fun vs H Q _ => ∃ (p dx : Addr) (b l : Int), vs = [.ref p] ∧ H p = some (oP K dx b l) ∧ Ok b l ∧ (l = 16 → Q .non H) ∧
  (l < 16 → ∀ H' t q1 d1 q2 d2, Ext H H' → H' t = some (.tup [.ref q1, .ref q2]) → H' q1 = some (oP K d1 b (l + 1)) → H' q2 = some (oP K d2 (b + sn (l + 1)) (l + 1)) → Q (.ref t) H')
def sp_prefix_of (K : PySem.W.Frag) : Sp := fun vs H Q _ => ∃ (a l : Int), vs = [.int a, .int l] ∧ 0 ≤ l ∧ l ≤ 16 ∧ 0 ≤ a ∧ a < 65536 ∧ ∀ H' q dq, Ext H H' → H' q = some (oP K dq (a - a % sn l) l) → Q (.ref q) H'
def sp_law_span (K : PySem.W.Frag) : Sp := fun vs H Q _ => ∃ l : Int, vs = [.int l] ∧ 0 ≤ l ∧ l ≤ 16 ∧ ∀ H', Ext H H' → Q (.int (sn l)) H'
abbrev sp_law_cell := gsCell
abbrev sp_law_start := gsStart
abbrev sp_law_digit := gsDigit
abbrev sp_law_is_integer := gsIsInt
def sp_law_bits (K : PySem.W.Frag) : Sp := fun vs H Q _ => ∃ a : Int, vs = [.int a] ∧ ∀ H' p, Ext H H' → H' p = some (.lst ((bits a).map V.int)) → Q (.ref p) H'
def sp_law_may (K : PySem.W.Frag) : Sp := fun vs H Q _ => ∃ b l : Int, vs = [.int b, .int l] ∧ ∀ H', Ext H H' → Q (.bl (decide (Ok b l))) H'
def sp_law_made (K : PySem.W.Frag) : Sp := fun vs H Q _ => ∃ b l : Int, vs = [.int b, .int l] ∧ (Ok b l → ∀ H' t q dq, Ext H H' → H' t = some (.tup [.bl true, .ref q]) → H' q = some (oP K dq b l) → Q (.ref t) H') ∧
  (¬ Ok b l → ∀ H' t, Ext H H' → H' t = some (.tup [.bl false, .non]) → Q (.ref t) H')
def sp_law_base (K : PySem.W.Frag) : Sp := fun vs H Q _ => ∃ (p : Addr) (n l : Int), vs = [.ref p, .int l] ∧ H p = some (.lst [.int n]) ∧ ∀ b H' n', ExtP p H H' → H' p = some (.lst [.int n']) → Q (.int b) H'
def sp_law_shares (K : PySem.W.Frag) : Sp := fun vs H Q _ => ∃ b l a : Int, vs = [.int b, .int l, .int a] ∧ 0 ≤ l ∧ l ≤ 16 ∧ ∀ H', Ext H H' → Q (.bl (decide ((bits b).take l.toNat = (bits a).take l.toNat))) H'
def sp_law_halves (K : PySem.W.Frag) : Sp := fun vs H Q _ => ∃ (p dx : Addr) (b l : Int), vs = [.ref p] ∧ H p = some (oP K dx b l) ∧ Ok b l ∧ ∀ H', Ext H H' → Q (.bl true) H'
def sp_law_one (K : PySem.W.Frag) : Sp := fun vs H Q _ => ∃ (p dx : Addr) (b l : Int), vs = [.ref p, .int b, .int l] ∧ H p = some (oP K dx b l) ∧ Ok b l ∧ ∀ H', Ext H H' → Q (.bl true) H'
def sp_law_addresses (K : PySem.W.Frag) : Sp := fun vs H Q _ => ∃ (s : Addr) (n : Int) (p dx : Addr) (b l : Int) (q dy : Addr) (c m : Int), vs = [.ref s, .ref p, .ref q] ∧ H s = some (.lst [.int n]) ∧ H p = some (oP K dx b l) ∧ H q = some (oP K dy c m) ∧ Ok b l ∧ Ok c m ∧
  ∀ H' t (as : List Int) n', ExtP s H H' → H' s = some (.lst [.int n']) → H' t = some (.lst (as.map V.int)) → (∀ x ∈ as, 0 ≤ x ∧ x ≤ 65535) → t ≠ s → Q (.ref t) H'
def sp_law_two (K : PySem.W.Frag) : Sp := fun vs H Q _ => ∃ (s : Addr) (n : Int) (p dx : Addr) (b l : Int) (q dy : Addr) (c m : Int), vs = [.ref s, .ref p, .ref q] ∧ H s = some (.lst [.int n]) ∧ H p = some (oP K dx b l) ∧ H q = some (oP K dy c m) ∧ Ok b l ∧ Ok c m ∧
  ∀ H' n', ExtP s H H' → H' s = some (.lst [.int n']) → Q (.bl true) H'
def sp_law_pair (K : PySem.W.Frag) : Sp := fun vs H Q _ => ∃ (s : Addr) (n : Int), vs = [.ref s] ∧ H s = some (.lst [.int n]) ∧ ∀ H', ExtP s H H' → Q (.bl true) H'
def sp_law (K : PySem.W.Frag) : Sp := fun vs H Q _ => ∃ (a : Addr) (ns : List Int), vs = [.ref a] ∧ Scr K H a (ns.map V.int) ∧ ∀ H', Q (.bl true) H'
theorem law_start {K : PySem.W.Frag} {H : Hp} {a : Addr} {ns : List Int} {E : XK} (hl : ns.length ≤ 63) (hb : ∀ z ∈ ns, Builtin.Int.intBits z ≤ 1048576) (hO : Only H) (hS : SqL K H a (ns.map V.int)) :
    sp_law K [.ref a] H (fun v _ => v = .bl true) E := ⟨a, ns, rfl, .of hO hS, fun _ => rfl⟩
/-! the same as steps -/
section
variable {K : PySem.W.Frag} {H : Hp} {Q : VK} {E : XK} {p q dx dy s : Addr} {b l c m a n : Int}
theorem c_span_of (h0 : 0 ≤ l) (h1 : l ≤ 16) (k : Q (.int (sn l)) H) : sp_span_of K [.int l] H Q E := ⟨l, rfl, h0, h1, k⟩
theorem c_bit_of (h0 : 0 ≤ l) (h1 : l ≤ 15) (k : Q (.int (a / sn (l + 1) % 2)) H) : sp_bit_of K [.int a, .int l] H Q E := ⟨a, l, rfl, h0, h1, k⟩
theorem c_pair (h : H p = some (oP K dx b l)) (k : ∀ t, H t = none → Q (.ref t) (upd H t (.tup [.int b, .int l]))) : sp_Prefix_pair K [.ref p] H Q E := ⟨p, dx, b, l, rfl, h, k⟩
theorem c_span (h : H p = some (oP K dx b l)) (h0 : 0 ≤ l ∧ l ≤ 16) (k : Q (.int (sn l)) H) : sp_Prefix_span K [.ref p] H Q E := ⟨p, dx, b, l, rfl, h, h0.1, h0.2, k⟩
theorem c_covers (h : H p = some (oP K dx b l)) (h0 : 0 ≤ l ∧ l ≤ 16) (k : Q (.bl (decide (b ≤ a ∧ a < b + sn l))) H) : sp_Prefix_covers K [.ref p, .int a] H Q E := ⟨p, dx, b, l, a, rfl, h, h0.1, h0.2, k⟩
theorem c_contains (h : H p = some (oP K dx b l)) (h2 : H q = some (oP K dy c m)) (h0 : 0 ≤ l ∧ l ≤ 16) (k : Q (.bl (decide (l ≤ m ∧ b ≤ c ∧ c < b + sn l))) H) : sp_Prefix_contains K [.ref p, .ref q] H Q E := ⟨p, dx, b, l, q, dy, c, m, rfl, h, h2, h0.1, h0.2, k⟩
theorem c_law_span (h0 : 0 ≤ l) (h1 : l ≤ 16) (k : ∀ H', Ext H H' → Q (.int (sn l)) H') : sp_law_span K [.int l] H Q E := ⟨l, rfl, h0, h1, k⟩
theorem c_prefix_of (h : 0 ≤ l ∧ l ≤ 16 ∧ 0 ≤ a ∧ a < 65536) (k : ∀ H' q dq, Ext H H' → H' q = some (oP K dq (a - a % sn l) l) → Q (.ref q) H') : sp_prefix_of K [.int a, .int l] H Q E := ⟨a, l, rfl, h.1, h.2.1, h.2.2.1, h.2.2.2, k⟩
theorem c_law_bits (k : ∀ H' p, Ext H H' → H' p = some (.lst ((bits a).map V.int)) → Q (.ref p) H') : sp_law_bits K [.int a] H Q E := ⟨a, rfl, k⟩
theorem c_law_may (k : ∀ H', Ext H H' → Q (.bl (decide (Ok b l))) H') : sp_law_may K [.int b, .int l] H Q E := ⟨b, l, rfl, k⟩
theorem c_law_base (h : H s = some (.lst [.int n])) (k : ∀ b H' n', ExtP s H H' → H' s = some (.lst [.int n']) → Q (.int b) H') : sp_law_base K [.ref s, .int l] H Q E := ⟨s, n, l, rfl, h, k⟩
theorem c_law_shares (h0 : 0 ≤ l ∧ l ≤ 16) (k : ∀ H', Ext H H' → Q (.bl (decide ((bits b).take l.toNat = (bits a).take l.toNat))) H') : sp_law_shares K [.int b, .int l, .int a] H Q E := ⟨b, l, a, rfl, h0.1, h0.2, k⟩
theorem c_law_halves (h : H p = some (oP K dx b l)) (o : Ok b l) (k : ∀ H', Ext H H' → Q (.bl true) H') : sp_law_halves K [.ref p] H Q E := ⟨p, dx, b, l, rfl, h, o, k⟩
theorem c_law_one (h : H p = some (oP K dx b l)) (o : Ok b l) (k : ∀ H', Ext H H' → Q (.bl true) H') : sp_law_one K [.ref p, .int b, .int l] H Q E := ⟨p, dx, b, l, rfl, h, o, k⟩
end
end K72
namespace K72
/-! plain mathematics -/
theorem sn_lit : ∀ l : Int, 0 ≤ l → l ≤ 16 → (l = 0 ∧ sn l = 65536) ∨ (l = 1 ∧ sn l = 32768) ∨ (l = 2 ∧ sn l = 16384) ∨ (l = 3 ∧ sn l = 8192) ∨ (l = 4 ∧ sn l = 4096) ∨ (l = 5 ∧ sn l = 2048) ∨ (l = 6 ∧ sn l = 1024) ∨ (l = 7 ∧ sn l = 512) ∨ (l = 8 ∧ sn l = 256) ∨
    (l = 9 ∧ sn l = 128) ∨ (l = 10 ∧ sn l = 64) ∨ (l = 11 ∧ sn l = 32) ∨ (l = 12 ∧ sn l = 16) ∨ (l = 13 ∧ sn l = 8) ∨ (l = 14 ∧ sn l = 4) ∨ (l = 15 ∧ sn l = 2) ∨ (l = 16 ∧ sn l = 1) := by
  intro l h0 h1
  have h : l = 0 ∨ l = 1 ∨ l = 2 ∨ l = 3 ∨ l = 4 ∨ l = 5 ∨ l = 6 ∨ l = 7 ∨ l = 8 ∨ l = 9 ∨ l = 10 ∨ l = 11 ∨ l = 12 ∨ l = 13 ∨ l = 14 ∨ l = 15 ∨ l = 16 := by omega
  rcases h with h | h | h | h | h | h | h | h | h | h | h | h | h | h | h | h | h <;> (subst h; decide +kernel)
theorem sn_pos {l : Int} : 0 < sn l := by
  unfold sn
  exact Int.pow_pos (by decide)
theorem sn_small {l : Int} (h0 : 0 ≤ l) (h1 : l ≤ 16) : sn l ≤ 65536 := by
  have := sn_lit l h0 h1
  omega
theorem sn_step {l : Int} (h0 : 0 ≤ l) (h1 : l < 16) : sn l = 2 * sn (l + 1) := by
  have e : (16 - l.toNat) = (16 - (l + 1).toNat) + 1 := by omega
  unfold sn
  rw [e, Int.pow_succ, Int.mul_comm]
theorem half_ok {b l : Int} (o : Ok b l) (h : l < 16) : Ok b (l + 1) ∧ Ok (b + sn (l + 1)) (l + 1) := by
  obtain ⟨h0, h1, h2, h3, h4⟩ := o
  have h5 := sn_step h0 h
  have h6 := sn_lit (l + 1) (by omega) (by omega)
  rw [h5] at h4
  unfold Ok
  generalize sn (l + 1) = z at *
  rcases h6 with h6 | h6 | h6 | h6 | h6 | h6 | h6 | h6 | h6 | h6 | h6 | h6 | h6 | h6 | h6 | h6 | h6 <;> (obtain ⟨_, rfl⟩ := h6; omega)
theorem of_ok {a l : Int} (h0 : 0 ≤ l) (h1 : l ≤ 16) (h2 : 0 ≤ a) (h3 : a < 65536) : Ok (a - a % sn l) l := by
  have h6 := sn_lit l h0 h1
  unfold Ok
  generalize sn l = z at *
  rcases h6 with h6 | h6 | h6 | h6 | h6 | h6 | h6 | h6 | h6 | h6 | h6 | h6 | h6 | h6 | h6 | h6 | h6 <;> (obtain ⟨_, rfl⟩ := h6; omega)
theorem near_iff {a b l : Int} (o : Ok b l) (h2 : 0 ≤ a) (h3 : a < 65536) : (a - a % sn l = b ↔ (b ≤ a ∧ a < b + sn l)) ∧ (a - a % sn l ≤ a ∧ a < a - a % sn l + sn l) := by
  obtain ⟨h0, h1, h4, h5, h7⟩ := o
  have h6 := sn_lit l h0 h1
  generalize sn l = z at *
  rcases h6 with h6 | h6 | h6 | h6 | h6 | h6 | h6 | h6 | h6 | h6 | h6 | h6 | h6 | h6 | h6 | h6 | h6 <;> (obtain ⟨_, rfl⟩ := h6; omega)
theorem bits_len (a : Int) : (bits a).length = 16 := by simp [bits]
theorem bits_at {a : Int} {k : Nat} (h : k < 16) : (bits a)[k]? = some (a / sn ((k : Int) + 1) % 2) := by
  unfold bits
  rw [List.getElem?_map, List.getElem?_range h]
  rfl
/-- one more bit -/
theorem div_step (a : Int) {l : Int} (h0 : 0 ≤ l) (h1 : l < 16) : a / sn (l + 1) = 2 * (a / sn l) + a / sn (l + 1) % 2 := by
  have h := sn_step h0 h1
  have e : a / sn l = a / sn (l + 1) / 2 := by
    rw [h, Int.mul_comm, Int.ediv_ediv_of_nonneg (Int.le_of_lt sn_pos)]
  rw [e]
  omega
theorem mod_step (a : Int) {l : Int} (h0 : 0 ≤ l) (h1 : l < 16) : a % sn l = a / sn (l + 1) % 2 * sn (l + 1) + a % sn (l + 1) := by
  have h := div_step a h0 h1
  have h2 := sn_step h0 h1
  have e1 := Int.emod_add_mul_ediv a (sn l)
  have e2 := Int.emod_add_mul_ediv a (sn (l + 1))
  have e3 : sn (l + 1) * (a / sn (l + 1)) = sn l * (a / sn l) + a / sn (l + 1) % 2 * sn (l + 1) := by
    conv =>
      lhs
      rw [h]
    rw [h2]
    generalize a / (2 * sn (l + 1)) = y
    generalize a / sn (l + 1) % 2 = z
    rw [Int.mul_add, Int.mul_comm 2 (sn (l + 1)), Int.mul_assoc, Int.mul_comm z]
  omega
/-- the first l bits are the same: the same quotient -/
theorem take_iff {a b : Int} (ha : 0 ≤ a ∧ a < 65536) (hb : 0 ≤ b ∧ b < 65536) : ∀ n : Nat, n ≤ 16 → ((bits b).take n = (bits a).take n ↔ b / sn (n : Int) = a / sn (n : Int))
  | 0, _ => by
    have e : sn ((0 : Nat) : Int) = 65536 := by decide +kernel
    rw [e, List.take_zero, List.take_zero]
    simp
    omega
  | n + 1, h => by
    have ih := take_iff ha hb n (by omega)
    have t1 : (bits b).take (n + 1) = (bits b).take n ++ [b / sn ((n : Int) + 1) % 2] := by rw [List.take_add_one, bits_at (by omega)]; rfl
    have t2 : (bits a).take (n + 1) = (bits a).take n ++ [a / sn ((n : Int) + 1) % 2] := by rw [List.take_add_one, bits_at (by omega)]; rfl
    have d1 := div_step a (l := (n : Int)) (by omega) (by omega)
    have d2 := div_step b (l := (n : Int)) (by omega) (by omega)
    rw [t1, t2]
    have e : ((n + 1 : Nat) : Int) = (n : Int) + 1 := by omega
    rw [e]
    constructor
    · intro z
      obtain ⟨z1, z2⟩ := List.append_inj z (by rw [List.length_take, List.length_take, bits_len, bits_len])
      have z3 := ih.mp z1
      have z4 : b / sn ((n : Int) + 1) % 2 = a / sn ((n : Int) + 1) % 2 := by simpa using z2
      rw [d1, d2, z3, z4]
    · intro z
      have z1 : b / sn (n : Int) = a / sn (n : Int) := by omega
      rw [ih.mpr z1, z]
theorem drop_iff {b : Int} (hb : 0 ≤ b ∧ b < 65536) : ∀ n : Nat, n ≤ 16 → ((bits b).drop (16 - n) = List.replicate n 0 ↔ b % sn ((16 - n : Nat) : Int) = 0)
  | 0, _ => by
    have e : sn ((16 : Nat) : Int) = 1 := by decide +kernel
    rw [List.drop_eq_nil_of_le (by rw [bits_len]; omega)]
    show ([] = List.replicate 0 (0 : Int) ↔ b % sn ((16 : Nat) : Int) = 0)
    rw [e]
    simp
  | n + 1, h => by
    have ih := drop_iff hb n (by omega)
    have e : 16 - n = (16 - (n + 1)) + 1 := by omega
    have t1 : (bits b).drop (16 - (n + 1)) = (b / sn (((16 - (n + 1) : Nat) : Int) + 1) % 2) :: (bits b).drop (16 - n) := by
      have g := bits_at (a := b) (k := 16 - (n + 1)) (by omega)
      rw [e]
      have hl : 16 - (n + 1) < (bits b).length := by rw [bits_len]; omega
      rw [List.drop_eq_getElem_cons hl]
      rw [List.getElem?_eq_getElem hl] at g
      rw [Option.some.inj g]
    have d1 := mod_step b (l := ((16 - (n + 1) : Nat) : Int)) (by omega) (by omega)
    have e2 : ((16 - n : Nat) : Int) = ((16 - (n + 1) : Nat) : Int) + 1 := by omega
    rw [e2] at ih
    rw [t1, List.replicate_succ, d1, List.cons.injEq, ih]
    have p1 : 0 < sn (((16 - (n + 1) : Nat) : Int) + 1) := sn_pos
    have p2 := Int.emod_nonneg b (b := sn (((16 - (n + 1) : Nat) : Int) + 1)) (by omega)
    have p3 : b / sn (((16 - (n + 1) : Nat) : Int) + 1) % 2 = 0 ∨ b / sn (((16 - (n + 1) : Nat) : Int) + 1) % 2 = 1 := by omega
    generalize b % sn (((16 - (n + 1) : Nat) : Int) + 1) = r at *
    generalize sn (((16 - (n + 1) : Nat) : Int) + 1) = t at *
    rcases p3 with p3 | p3 <;> rw [p3] <;> simp <;> omega
theorem may_iff {b l : Int} (h0 : 0 ≤ l) (h1 : l ≤ 16) (h2 : 0 ≤ b) (h3 : b ≤ 65535) : decide ((bits b).drop l.toNat = (List.replicate (16 - l.toNat) (0 : Int))) = decide (Ok b l) := by
  have h := drop_iff (b := b) ⟨h2, by omega⟩ (16 - l.toNat) (by omega)
  have e : 16 - (16 - l.toNat) = l.toNat := by omega
  have e2 : ((l.toNat : Nat) : Int) = l := by omega
  rw [e, e2] at h
  refine decide_eq_decide.mpr (h.trans ⟨fun z => ⟨h0, h1, h2, by omega, z⟩, fun z => z.2.2.2.2⟩)
theorem shares_iff {a b l : Int} (o : Ok b l) (h2 : 0 ≤ a) (h3 : a < 65536) : decide ((bits b).take l.toNat = (bits a).take l.toNat) = decide (b ≤ a ∧ a < b + sn l) := by
  obtain ⟨h0, h1, h4, h5, h7⟩ := o
  have h := take_iff (a := a) (b := b) ⟨h2, h3⟩ ⟨h4, h5⟩ l.toNat (by omega)
  have e2 : ((l.toNat : Nat) : Int) = l := by omega
  rw [e2] at h
  refine decide_eq_decide.mpr (h.trans ?_)
  have h6 := sn_lit l h0 h1
  generalize sn l = z at *
  rcases h6 with h6 | h6 | h6 | h6 | h6 | h6 | h6 | h6 | h6 | h6 | h6 | h6 | h6 | h6 | h6 | h6 | h6 <;> (obtain ⟨_, rfl⟩ := h6; omega)
end K72

namespace K72
open PySem PySem.Spec PyProof.Rows L2 G

/-- span_of -/
def t_span_of (K : PySem.W.Frag) (E : XK) : TS :=
  (tRet (tOp (rIxT K) (tC (.ref (He.ga K "SPANS"))) (tVar 0)))

/-- bit_of -/
def t_bit_of (K : PySem.W.Frag) (E : XK) : TS :=
  (tRet (tOp gMod (tOp gDiv (tVar 0) (tCallS (sp_span_of K) (WE (wB E)) (tCons (tOp gAdd (tVar 1) (tC (.int 1))) tNil))) (tC (.int 2))))

/-- Prefix.__init__ -/
def t_Prefix_init (K : PySem.W.Frag) (E : XK) : TS :=
  (tSeq (tIfS (tNot (tTest (tChain gLe gLe (tC (.int 0)) (tVar 2) (tC (.int 16)))))
  (tRs (He.ga K "InvalidPrefix") (wB E))
  tNext)
  (tSeq (tIfS (tNot (tTest (tChain gLe gLt (tC (.int 0)) (tVar 1) (tC (.int 65536)))))
  (tRs (He.ga K "InvalidPrefix") (wB E))
  tNext)
  (tSeq (tIfS (tTest (tOp rNe (tOp gMod (tVar 1) (tCallS (sp_span_of K) (WE (wB E)) (tCons (tVar 2) tNil))) (tC (.int 0))))
  (tRs (He.ga K "InvalidPrefix") (wB E))
  tNext)
  (tSeq (sFld K (tVar 0) (tVar 1) "base")
  (sFld K (tVar 0) (tVar 2) "length")))))

/-- Prefix.__eq__ -/
def t_Prefix__eq (K : PySem.W.Frag) (E : XK) : TS :=
  (tRet (tAndV (tCB (rIsi K) (tCons (tVar 1) (tCons (tC (.ref (He.ga K "Prefix"))) tNil))) (tAndV (tOp rEq (tFld K (tVar 0) "base") (tFld K (tVar 1) "base")) (tOp rEq (tFld K (tVar 0) "length") (tFld K (tVar 1) "length")))))

/-- Prefix.pair -/
def t_Prefix_pair (K : PySem.W.Frag) (E : XK) : TS :=
  (tRet (tTup (tCons (tFld K (tVar 0) "base") (tCons (tFld K (tVar 0) "length") tNil))))

/-- Prefix.span -/
def t_Prefix_span (K : PySem.W.Frag) (E : XK) : TS :=
  (tRet (tCallS (sp_span_of K) (WE (wB E)) (tCons (tFld K (tVar 0) "length") tNil)))

/-- Prefix.covers -/
def t_Prefix_covers (K : PySem.W.Frag) (E : XK) : TS :=
  (tRet (tChain gLe gLt (tFld K (tVar 0) "base") (tVar 1) (tOp gAdd (tFld K (tVar 0) "base") (tMt (He.ga K "Prefix") "span" (sp_Prefix_span K) (WE (wB E)) (tVar 0) tNil))))

/-- Prefix.contains -/
def t_Prefix_contains (K : PySem.W.Frag) (E : XK) : TS :=
  (tRet (tAndV (tOp gLe (tFld K (tVar 0) "length") (tFld K (tVar 1) "length")) (tMt (He.ga K "Prefix") "covers" (sp_Prefix_covers K) (WE (wB E)) (tVar 0) (tCons (tFld K (tVar 1) "base") tNil))))

/-- Prefix.halves -/
def t_Prefix_halves (K : PySem.W.Frag) (E : XK) : TS :=
  (tSeq (tIfS (tTest (tOp rEq (tFld K (tVar 0) "length") (tC (.int 16))))
  (tRet (tC .non))
  tNext)
  (tSeq (tAsg (tCallS (sp_span_of K) (WE (wB E)) (tCons (tOp gAdd (tFld K (tVar 0) "length") (tC (.int 1))) tNil)) (gName 1))
  (tRet (tTup (tCons (tMk (He.ga K "Prefix") (sp_Prefix_init K) (WE (wB E)) (tCons (tFld K (tVar 0) "base") (tCons (tOp gAdd (tFld K (tVar 0) "length") (tC (.int 1))) tNil))) (tCons (tMk (He.ga K "Prefix") (sp_Prefix_init K) (WE (wB E)) (tCons (tOp gAdd (tFld K (tVar 0) "base") (tVar 1)) (tCons (tOp gAdd (tFld K (tVar 0) "length") (tC (.int 1))) tNil))) tNil))))))

/-- prefix_of -/
def t_prefix_of (K : PySem.W.Frag) (E : XK) : TS :=
  (tRet (tMk (He.ga K "Prefix") (sp_Prefix_init K) (WE (wB E)) (tCons (tOp gMinus (tVar 0) (tOp gMod (tVar 0) (tCallS (sp_span_of K) (WE (wB E)) (tCons (tVar 1) tNil)))) (tCons (tVar 1) tNil))))

/-- _law_span -/
def t_law_span (K : PySem.W.Frag) (E : XK) : TS :=
  (tRet (tOp (rIxT K) (tTup (tCons (tC (.int 65536)) (tCons (tC (.int 32768)) (tCons (tC (.int 16384)) (tCons (tC (.int 8192)) (tCons (tC (.int 4096)) (tCons (tC (.int 2048)) (tCons (tC (.int 1024)) (tCons (tC (.int 512)) (tCons (tC (.int 256)) (tCons (tC (.int 128)) (tCons (tC (.int 64)) (tCons (tC (.int 32)) (tCons (tC (.int 16)) (tCons (tC (.int 8)) (tCons (tC (.int 4)) (tCons (tC (.int 2)) (tCons (tC (.int 1)) tNil)))))))))))))))))) (tVar 0)))

/-- _law_cell -/
def t_law_cell (K : PySem.W.Frag) (E : XK) : TS :=
  (tSeq (tIfS (tTest (tOp gLt (tVar 1) (tCB (gLen K) (tCons (tVar 0) tNil))))
  (tRet (tOp (rIxL K) (tVar 0) (tVar 1)))
  tNext)
  (tRet (tC (.int 0))))

/-- _law_start -/
def t_law_start (K : PySem.W.Frag) (E : XK) : TS :=
  (tSeq (tAsg (tC (.int 618970019642690137449562111)) (gName 2))
  (tSeq (tIfS (tTest (tChain gLt gLt (tUn gNeg (tC (.int 1000000000000000000))) (tVar 0) (tC (.int 1000000000000000000))))
  (tSeq (tAsg (tOp gMod (tCB gInt1 (tCons (tOp gAdd (tOp gMul (tVar 0) (tC (.int 2654435761))) (tOp gMul (tOp gAdd (tVar 1) (tC (.int 1))) (tC (.int 6700417)))) tNil)) (tVar 2)) (gName 3))
  (tSeq (tAsg (tC (.int 0)) (gName 4))
  (tSeq (tFor (iRng1 (tCons (tC (.int 4)) tNil)) (gName 5)
  (tSeq (tAsg (tOp gMod (tCB gInt1 (tCons (tOp gAdd (tOp gAdd (tOp gAdd (tOp gMulW (tVar 3) (tVar 3)) (tOp gMul (tC (.int 7)) (tVar 3))) (tVar 1)) (tVar 5)) tNil)) (tVar 2)) (gName 3))
  (tAsg (tOp gAdd (tOp gMulW (tVar 4) (tVar 2)) (tVar 3)) (gName 4))))
  (tRet (tLst (tCons (tVar 4) tNil))))))
  tNext)
  (tRet (tLst (tCons (tVar 0) tNil)))))

/-- _law_digit -/
def t_law_digit (K : PySem.W.Frag) (E : XK) : TS :=
  (tSeq (tAsg (tOp gMod (tCB gInt1 (tCons (tOp (rIxL K) (tVar 0) (tC (.int 0))) tNil)) (tVar 1)) (gName 2))
  (tSeq (tAsg (tOp gDivW (tOp (rIxL K) (tVar 0) (tC (.int 0))) (tVar 1)) (gSub (tVar 0) (tC (.int 0)) rSetL))
  (tRet (tVar 2))))

/-- _law_is_integer -/
def t_law_is_integer (K : PySem.W.Frag) (E : XK) : TS :=
  (tRet (tAndV (tCB (rIsi K) (tCons (tVar 0) (tCons (tC (.ty "int")) tNil))) (tNotV (tCB (rIsi K) (tCons (tVar 0) (tCons (tC (.ty "bool")) tNil))))))

/-- _law_bits -/
def t_law_bits (K : PySem.W.Frag) (E : XK) : TS :=
  (tRet (tLc (iRng1 (tCons (tC (.int 16)) tNil)) (gName 1) tYes (tOp gMod (tOp gDiv (tVar 0) (tCallS (sp_law_span K) (fun _ => E0) (tCons (tOp gAdd (tVar 1) (tC (.int 1))) tNil))) (tC (.int 2))) [1]))

/-- _law_may -/
def t_law_may (K : PySem.W.Frag) (E : XK) : TS :=
  (tSeq (tIfS (tOr (tTest (tOp gLt (tVar 1) (tC (.int 0)))) (tOr (tTest (tOp gGt (tVar 1) (tC (.int 16)))) (tOr (tTest (tOp gLt (tVar 0) (tC (.int 0)))) (tTest (tOp gGt (tVar 0) (tC (.int 65535)))))))
  (tRet (tC (.bl false)))
  tNext)
  (tRet (tOp (rEqD K) (tSl (rSlL K) (tCallS (sp_law_bits K) (WE (wB E)) (tCons (tVar 0) tNil)) (tPart (tVar 1)) tNoPart) (tLc (iRng1 (tCons (tOp gMinus (tC (.int 16)) (tVar 1)) tNil)) (gName 2) tYes (tC (.int 0)) [2]))))

/-- _law_made -/
def t_law_made (K : PySem.W.Frag) (E : XK) : TS :=
  (fun D σ H => (fun W1 : WX => (tRet (tTup (tCons (tC (.bl true)) (tCons (tMk (He.ga K "Prefix") (sp_Prefix_init K) (WE W1) (tCons (tVar 0) (tCons (tVar 1) tNil))) tNil))))) (wOnly K (.ref (He.ga K "InvalidPrefix")) (fun (aX : Addr) (clX : Value) (dX : Option Addr) => (tRet (tTup (tCons (tC (.bl false)) (tCons (tC .non) tNil))))) (wB E) D) D σ H)

/-- _law_base -/
def t_law_base (K : PySem.W.Frag) (E : XK) : TS :=
  (tSeq (tAsg (tOp gMinus (tCallS (sp_law_digit K) (WE (wB E)) (tCons (tVar 0) (tCons (tC (.int 65540)) tNil))) (tC (.int 2))) (gName 2))
  (tSeq (tIfS (tAnd (tTest (tOp gGt (tCallS (sp_law_digit K) (WE (wB E)) (tCons (tVar 0) (tCons (tC (.int 4)) tNil))) (tC (.int 0)))) (tAnd (tTest (tChain gLe gLe (tC (.int 0)) (tVar 1) (tC (.int 16)))) (tTest (tChain gLe gLe (tC (.int 0)) (tVar 2) (tC (.int 65535))))))
  (tRet (tOp gMinus (tVar 2) (tOp gMod (tVar 2) (tCallS (sp_law_span K) (WE (wB E)) (tCons (tVar 1) tNil)))))
  tNext)
  (tRet (tVar 2))))

/-- _law_shares -/
def t_law_shares (K : PySem.W.Frag) (E : XK) : TS :=
  (tRet (tOp (rEqD K) (tSl (rSlL K) (tCallS (sp_law_bits K) (WE (wB E)) (tCons (tVar 0) tNil)) tNoPart (tPart (tVar 1))) (tSl (rSlL K) (tCallS (sp_law_bits K) (WE (wB E)) (tCons (tVar 2) tNil)) tNoPart (tPart (tVar 1)))))

/-- _law_halves -/
def t_law_halves (K : PySem.W.Frag) (E : XK) : TS :=
  (tSeq (tAsg (tMt (He.ga K "Prefix") "halves" (sp_Prefix_halves K) (WE (wB E)) (tVar 0) tNil) (gName 1))
  (tSeq (tIfS (tTest (tOp rEq (tFld K (tVar 0) "length") (tC (.int 16))))
  (tRet (tOp rIsN (tVar 1) (tC .non)))
  tNext)
  (tSeq (tIfS (tOr (tNot (tB (tCB (rIsi K) (tCons (tVar 1) (tCons (tC (.ty "tuple")) tNil))))) (tTest (tOp rNe (tCB (gLen K) (tCons (tVar 1) tNil)) (tC (.int 2)))))
  (tRet (tC (.bl false)))
  tNext)
  (tSeq (tAsg (tCallS (sp_law_span K) (WE (wB E)) (tCons (tOp gAdd (tFld K (tVar 0) "length") (tC (.int 1))) tNil)) (gName 2))
  (tSeq (tFor (iRng1 (tCons (tC (.int 2)) tNil)) (gName 3)
  (tIfS (tOr (tNot (tB (tCB (rIsi K) (tCons (tOp (rIxT K) (tVar 1) (tVar 3)) (tCons (tC (.ref (He.ga K "Prefix"))) tNil))))) (tTest (tOp (rNeD K) (tMt (He.ga K "Prefix") "pair" (sp_Prefix_pair K) (WE (wB E)) (tOp (rIxT K) (tVar 1) (tVar 3)) tNil) (tTup (tCons (tOp gAdd (tFld K (tVar 0) "base") (tOp gMul (tVar 3) (tVar 2))) (tCons (tOp gAdd (tFld K (tVar 0) "length") (tC (.int 1))) tNil))))))
  (tRet (tC (.bl false)))
  tNext))
  (tRet (tC (.bl true))))))))

/-- _law_one -/
def t_law_one (K : PySem.W.Frag) (E : XK) : TS :=
  (tSeq (tIfS (tOr (tTest (tOp rNe (tFld K (tVar 0) "base") (tVar 1))) (tOr (tTest (tOp rNe (tFld K (tVar 0) "length") (tVar 2))) (tNot (tB (tCallS (sp_law_is_integer K) (WE (wB E)) (tCons (tFld K (tVar 0) "base") tNil))))))
  (tRet (tC (.bl false)))
  tNext)
  (tSeq (tIfS (tOr (tTest (tOp (rNeD K) (tMt (He.ga K "Prefix") "pair" (sp_Prefix_pair K) (WE (wB E)) (tVar 0) tNil) (tTup (tCons (tVar 1) (tCons (tVar 2) tNil))))) (tOr (tTest (tOp rNe (tMt (He.ga K "Prefix") "span" (sp_Prefix_span K) (WE (wB E)) (tVar 0) tNil) (tCallS (sp_law_span K) (WE (wB E)) (tCons (tVar 2) tNil)))) (tTest (tOp rNe (tCallS (sp_span_of K) (WE (wB E)) (tCons (tVar 2) tNil)) (tMt (He.ga K "Prefix") "span" (sp_Prefix_span K) (WE (wB E)) (tVar 0) tNil)))))
  (tRet (tC (.bl false)))
  tNext)
  (tRet (tCallS (sp_law_halves K) (WE (wB E)) (tCons (tVar 0) tNil)))))

/-- _law_addresses -/
def t_law_addresses (K : PySem.W.Frag) (E : XK) : TS :=
  (tSeq (tAsg (tLst (tCons (tFld K (tVar 1) "base") (tCons (tOp gMinus (tOp gAdd (tFld K (tVar 1) "base") (tMt (He.ga K "Prefix") "span" (sp_Prefix_span K) (WE (wB E)) (tVar 1) tNil)) (tC (.int 1))) (tCons (tOp gAdd (tFld K (tVar 1) "base") (tMt (He.ga K "Prefix") "span" (sp_Prefix_span K) (WE (wB E)) (tVar 1) tNil)) (tCons (tOp gMinus (tFld K (tVar 1) "base") (tC (.int 1))) tNil))))) (gName 3))
  (tSeq (tAsg (tOp rCat (tVar 3) (tLst (tCons (tFld K (tVar 2) "base") (tCons (tOp gMinus (tOp gAdd (tFld K (tVar 2) "base") (tMt (He.ga K "Prefix") "span" (sp_Prefix_span K) (WE (wB E)) (tVar 2) tNil)) (tC (.int 1))) (tCons (tCallS (sp_law_digit K) (WE (wB E)) (tCons (tVar 0) (tCons (tC (.int 65536)) tNil))) tNil))))) (gName 3))
  (tRet (tLc (iList K (tVar 3)) (gName 4) (tTest (tChain gLe gLe (tC (.int 0)) (tVar 4) (tC (.int 65535)))) (tVar 4) [4]))))

/-- _law_two -/
def t_law_two (K : PySem.W.Frag) (E : XK) : TS :=
  (tSeq (tFor (iList K (tCallS (sp_law_addresses K) (WE (wB E)) (tCons (tVar 0) (tCons (tVar 1) (tCons (tVar 2) tNil))))) (gName 3)
  (tSeq (tIfS (tTest (tOp rNe (tMt (He.ga K "Prefix") "covers" (sp_Prefix_covers K) (WE (wB E)) (tVar 1) (tCons (tVar 3) tNil)) (tCallS (sp_law_shares K) (WE (wB E)) (tCons (tFld K (tVar 1) "base") (tCons (tFld K (tVar 1) "length") (tCons (tVar 3) tNil))))))
  (tRet (tC (.bl false)))
  tNext)
  (tSeq (tIfS (tTest (tOp (rNeD K) (tLc (iRng1 (tCons (tC (.int 16)) tNil)) (gName 4) tYes (tCallS (sp_bit_of K) (fun _ => E0) (tCons (tVar 3) (tCons (tVar 4) tNil))) [4]) (tCallS (sp_law_bits K) (WE (wB E)) (tCons (tVar 3) tNil))))
  (tRet (tC (.bl false)))
  tNext)
  (tSeq (tAsg (tCallS (sp_prefix_of K) (WE (wB E)) (tCons (tVar 3) (tCons (tFld K (tVar 1) "length") tNil))) (gName 5))
  (tSeq (tIfS (tOr (tNot (tB (tMt (He.ga K "Prefix") "covers" (sp_Prefix_covers K) (WE (wB E)) (tVar 5) (tCons (tVar 3) tNil)))) (tTest (tOp rNe (tFld K (tVar 5) "length") (tFld K (tVar 1) "length"))))
  (tRet (tC (.bl false)))
  tNext)
  (tIfS (tTest (tOp rNe (tOp (rOwn K (He.ga K "Prefix") (sp_Prefix__eq K)) (tVar 5) (tVar 1)) (tMt (He.ga K "Prefix") "covers" (sp_Prefix_covers K) (WE (wB E)) (tVar 1) (tCons (tVar 3) tNil))))
  (tRet (tC (.bl false)))
  tNext))))))
  (Evl.tCut (tAsg (tAndV (tOp gLe (tFld K (tVar 1) "length") (tFld K (tVar 2) "length")) (tCallS (sp_law_shares K) (WE (wB E)) (tCons (tFld K (tVar 1) "base") (tCons (tFld K (tVar 1) "length") (tCons (tFld K (tVar 2) "base") tNil))))) (gName 6))
  (tSeq (tIfS (tTest (tOp rNe (tMt (He.ga K "Prefix") "contains" (sp_Prefix_contains K) (WE (wB E)) (tVar 1) (tCons (tVar 2) tNil)) (tVar 6)))
  (tRet (tC (.bl false)))
  tNext)
  (Evl.tCut (tIfS (tTest (tOp rNe (tOp (rOwn K (He.ga K "Prefix") (sp_Prefix__eq K)) (tVar 1) (tVar 2)) (tAndV (tOp rEq (tFld K (tVar 1) "base") (tFld K (tVar 2) "base")) (tOp rEq (tFld K (tVar 1) "length") (tFld K (tVar 2) "length")))))
  (tRet (tC (.bl false)))
  tNext)
  (tRet (tOp rIsB (tOp (rOwn K (He.ga K "Prefix") (sp_Prefix__eq K)) (tVar 1) (tMt (He.ga K "Prefix") "pair" (sp_Prefix_pair K) (WE (wB E)) (tVar 1) tNil)) (tC (.bl false))))))))

/-- _law_pair -/
def t_law_pair (K : PySem.W.Frag) (E : XK) : TS :=
  (tSeq (tAsg (tLst tNil) (gName 1))
  (tSeq (tFor (iRng1 (tCons (tC (.int 2)) tNil)) (gName 2)
  (tSeq (tAsg (tOp gMinus (tCallS (sp_law_digit K) (WE (wB E)) (tCons (tVar 0) (tCons (tC (.int 19)) tNil))) (tC (.int 1))) (gName 3))
  (tSeq (tAsg (tCallS (sp_law_base K) (WE (wB E)) (tCons (tVar 0) (tCons (tVar 3) tNil))) (gName 4))
  (tSeq (tAsg (tCallS (sp_law_made K) (WE (wB E)) (tCons (tVar 4) (tCons (tVar 3) tNil))) (gName 5))
  (tSeq (tIfS (tTest (tOp rNe (tOp (rIxT K) (tVar 5) (tC (.int 0))) (tCallS (sp_law_may K) (WE (wB E)) (tCons (tVar 4) (tCons (tVar 3) tNil)))))
  (tRet (tC (.bl false)))
  tNext)
  (tIfS (tB (tOp (rIxT K) (tVar 5) (tC (.int 0))))
  (tSeq (tIfS (tNot (tB (tCallS (sp_law_one K) (WE (wB E)) (tCons (tOp (rIxT K) (tVar 5) (tC (.int 1))) (tCons (tVar 4) (tCons (tVar 3) tNil))))))
  (tRet (tC (.bl false)))
  tNext)
  (tDrop (tBM K "list" rAppend (tVar 1) (tCons (tOp (rIxT K) (tVar 5) (tC (.int 1))) tNil))))
  tNext))))))
  (tSeq (tIfS (tTest (tOp gLt (tCB (gLen K) (tCons (tVar 1) tNil)) (tC (.int 2))))
  (tRet (tC (.bl true)))
  tNext)
  (tSeq (tAsg (tCallS (sp_prefix_of K) (WE (wB E)) (tCons (tFld K (tOp (rIxL K) (tVar 1) (tC (.int 0))) "base") (tCons (tCallS (sp_law_digit K) (WE (wB E)) (tCons (tVar 0) (tCons (tC (.int 17)) tNil))) tNil))) (gName 6))
  (tRet (tAndV (tCallS (sp_law_two K) (WE (wB E)) (tCons (tVar 0) (tCons (tOp (rIxL K) (tVar 1) (tC (.int 0))) (tCons (tOp (rIxL K) (tVar 1) (tC (.int 1))) tNil)))) (tAndV (tCallS (sp_law_two K) (WE (wB E)) (tCons (tVar 0) (tCons (tVar 6) (tCons (tOp (rIxL K) (tVar 1) (tC (.int 0))) tNil)))) (tCallS (sp_law_two K) (WE (wB E)) (tCons (tVar 0) (tCons (tOp (rIxL K) (tVar 1) (tC (.int 0))) (tCons (tVar 6) tNil)))))))))))

/-- law -/
def t_law (K : PySem.W.Frag) (E : XK) : TS :=
  (tSeq (tFor (iRng1 (tCons (tCB gMin2 (tCons (tC (.int 30)) (tCons (tOp gAdd (tC (.int 1)) (tCB (gLen K) (tCons (tVar 0) tNil))) tNil))) tNil)) (gName 1)
  (tIfS (tNot (tB (tCallS (sp_law_pair K) (WE (wB E)) (tCons (tCallS (sp_law_start K) (WE (wB E)) (tCons (tCallS (sp_law_cell K) (WE (wB E)) (tCons (tVar 0) (tCons (tVar 1) tNil))) (tCons (tVar 1) tNil))) tNil))))
  (tRet (tC (.bl false)))
  tNext))
  (tRet (tC (.bl true))))

end K72

namespace K72
open PySem PySem.Spec PyProof.Rows L2 G
section
variable {P : Program} {w : World} {K : PySem.W.Frag} {mg : Str → Option Value} {base : Heap}

theorem d_span_of (T : TX K mg base)  {cdv : Value} {A : Around} {outer : List Env} {s : Shared} {H : Hp} {E : XK} (hr : Room 0 (A.deeper (envOfC "span_of" (defScope s_span_of) s.heap.objs.size (He.ga K "span_of") cdv))) :
    PSs (cxOf (L2.CX P w) P w K mg base N_span_of "span_of" (defScope s_span_of) (He.ga K "span_of") cdv A outer s H E) (defBody s_span_of) (t_span_of K E) := by
  have tk : Takes (cxOf (L2.CX P w) P w K mg base N_span_of "span_of" (defScope s_span_of) (He.ga K "span_of") cdv A outer s H E) (wB E) := takes_of rfl rfl rfl rfl
  exact (pss_one (ps_ret (pe_ix ix_tup (pe_gref rfl (T.glo 1)) (pv 0) (fun _ _ => rfl))))

theorem d_bit_of (T : TX K mg base) (h_span_of : Has P w K mg base 1 "span_of" P_span_of (sp_span_of K)) {cdv : Value} {A : Around} {outer : List Env} {s : Shared} {H : Hp} {E : XK} (hr : Room 1 (A.deeper (envOfC "bit_of" (defScope s_bit_of) s.heap.objs.size (He.ga K "bit_of") cdv))) :
    PSs (cxOf (L2.CX P w) P w K mg base N_bit_of "bit_of" (defScope s_bit_of) (He.ga K "bit_of") cdv A outer s H E) (defBody s_bit_of) (t_bit_of K E) := by
  have tk : Takes (cxOf (L2.CX P w) P w K mg base N_bit_of "bit_of" (defScope s_bit_of) (He.ga K "bit_of") cdv A outer s H E) (wB E) := takes_of rfl rfl rfl rfl
  exact (pss_one (ps_ret (pe_op op_mod (pe_op op_fdiv (pv 0) (pe_h h_span_of (hr.mono (by decide)) rfl (fun σ => passAt tk σ) (pa_cons (pe_op op_add (pv 1) pe_int) pa_nil))) pe_int)))

theorem d_Prefix_init (T : TX K mg base) (h_span_of : Has P w K mg base 1 "span_of" P_span_of (sp_span_of K)) {cdv : Value} {A : Around} {outer : List Env} {s : Shared} {H : Hp} {E : XK} (hr : Room 1 (A.deeper (envOfC "Prefix.__init__" (defScope s_Prefix_init) s.heap.objs.size (He.ma K (He.ga K "Prefix") "__init__") cdv))) :
    PSs (cxOf (L2.CX P w) P w K mg base N_Prefix_init "Prefix.__init__" (defScope s_Prefix_init) (He.ma K (He.ga K "Prefix") "__init__") cdv A outer s H E) (defBody s_Prefix_init) (t_Prefix_init K E) := by
  have tk : Takes (cxOf (L2.CX P w) P w K mg base N_Prefix_init "Prefix.__init__" (defScope s_Prefix_init) (He.ma K (He.ga K "Prefix") "__init__") cdv A outer s H E) (wB E) := takes_of rfl rfl rfl rfl
  exact (pss_cons (ps_if (pt_not (pt_chain op_le op_le pe_int (pv 2) (pe_gint rfl (T.int 2))))
  (pss_one (ps_rs rfl tk (T.exc 3 4) rfl))
  pss_nil)
  (pss_cons (ps_if (pt_not (pt_chain op_le op_lt pe_int (pv 1) (pe_gint rfl (T.int 5))))
  (pss_one (ps_rs rfl tk (T.exc 3 4) rfl))
  pss_nil)
  (pss_cons (ps_if (pt_cmpR op_ne (pe_op op_mod (pv 1) (pe_h h_span_of (hr.mono (by decide)) rfl (fun σ => passAt tk σ) (pa_cons (pv 2) pa_nil))) pe_int (nomark _))
  (pss_one (ps_rs rfl tk (T.exc 3 4) rfl))
  pss_nil)
  (pss_cons (ps_fld (pv 0) (pv 1) rfl)
  (pss_one (ps_fld (pv 0) (pv 2) rfl))))))

theorem d_Prefix__eq (T : TX K mg base)  {cdv : Value} {A : Around} {outer : List Env} {s : Shared} {H : Hp} {E : XK} (hr : Room 0 (A.deeper (envOfC "Prefix.__eq__" (defScope s_Prefix__eq) s.heap.objs.size (He.ma K (He.ga K "Prefix") "__eq__") cdv))) :
    PSs (cxOf (L2.CX P w) P w K mg base N_Prefix__eq "Prefix.__eq__" (defScope s_Prefix__eq) (He.ma K (He.ga K "Prefix") "__eq__") cdv A outer s H E) (defBody s_Prefix__eq) (t_Prefix__eq K E) := by
  have tk : Takes (cxOf (L2.CX P w) P w K mg base N_Prefix__eq "Prefix.__eq__" (defScope s_Prefix__eq) (He.ma K (He.ga K "Prefix") "__eq__") cdv A outer s H E) (wB E) := takes_of rfl rfl rfl rfl
  exact (pss_one (ps_ret (pe_and (pe_callB call_isi (by rfl) (T.free 7) (by decide +kernel) (pa_cons (pv 1) (pa_cons (pe_gref rfl (T.glo 6)) pa_nil))) (pe_and (pe_cmpR op_eq (pe_fld (pv 0) rfl) (pe_fld (pv 1) rfl) (nomark _)) (pe_one (pe_cmpR op_eq (pe_fld (pv 0) rfl) (pe_fld (pv 1) rfl) (nomark _)))))))

theorem d_Prefix_pair (T : TX K mg base)  {cdv : Value} {A : Around} {outer : List Env} {s : Shared} {H : Hp} {E : XK} (hr : Room 0 (A.deeper (envOfC "Prefix.pair" (defScope s_Prefix_pair) s.heap.objs.size (He.ma K (He.ga K "Prefix") "pair") cdv))) :
    PSs (cxOf (L2.CX P w) P w K mg base N_Prefix_pair "Prefix.pair" (defScope s_Prefix_pair) (He.ma K (He.ga K "Prefix") "pair") cdv A outer s H E) (defBody s_Prefix_pair) (t_Prefix_pair K E) := by
  have tk : Takes (cxOf (L2.CX P w) P w K mg base N_Prefix_pair "Prefix.pair" (defScope s_Prefix_pair) (He.ma K (He.ga K "Prefix") "pair") cdv A outer s H E) (wB E) := takes_of rfl rfl rfl rfl
  exact (pss_one (ps_ret (pe_tup (pa_cons (pe_fld (pv 0) rfl) (pa_cons (pe_fld (pv 0) rfl) pa_nil)))))

theorem d_Prefix_span (T : TX K mg base) (h_span_of : Has P w K mg base 1 "span_of" P_span_of (sp_span_of K)) {cdv : Value} {A : Around} {outer : List Env} {s : Shared} {H : Hp} {E : XK} (hr : Room 1 (A.deeper (envOfC "Prefix.span" (defScope s_Prefix_span) s.heap.objs.size (He.ma K (He.ga K "Prefix") "span") cdv))) :
    PSs (cxOf (L2.CX P w) P w K mg base N_Prefix_span "Prefix.span" (defScope s_Prefix_span) (He.ma K (He.ga K "Prefix") "span") cdv A outer s H E) (defBody s_Prefix_span) (t_Prefix_span K E) := by
  have tk : Takes (cxOf (L2.CX P w) P w K mg base N_Prefix_span "Prefix.span" (defScope s_Prefix_span) (He.ma K (He.ga K "Prefix") "span") cdv A outer s H E) (wB E) := takes_of rfl rfl rfl rfl
  exact (pss_one (ps_ret (pe_h h_span_of (hr.mono (by decide)) rfl (fun σ => passAt tk σ) (pa_cons (pe_fld (pv 0) rfl) pa_nil))))

theorem d_Prefix_covers (T : TX K mg base) (h_Prefix_span : HasM P w K mg base 2 "Prefix" "span" P_Prefix_span (sp_Prefix_span K)) {cdv : Value} {A : Around} {outer : List Env} {s : Shared} {H : Hp} {E : XK} (hr : Room 2 (A.deeper (envOfC "Prefix.covers" (defScope s_Prefix_covers) s.heap.objs.size (He.ma K (He.ga K "Prefix") "covers") cdv))) :
    PSs (cxOf (L2.CX P w) P w K mg base N_Prefix_covers "Prefix.covers" (defScope s_Prefix_covers) (He.ma K (He.ga K "Prefix") "covers") cdv A outer s H E) (defBody s_Prefix_covers) (t_Prefix_covers K E) := by
  have tk : Takes (cxOf (L2.CX P w) P w K mg base N_Prefix_covers "Prefix.covers" (defScope s_Prefix_covers) (He.ma K (He.ga K "Prefix") "covers") cdv A outer s H E) (wB E) := takes_of rfl rfl rfl rfl
  exact (pss_one (ps_ret (pe_chain op_le op_lt (pe_fld (pv 0) rfl) (pv 1) (pe_op op_add (pe_fld (pv 0) rfl) (pe_m0 (pv 0) h_Prefix_span (hr.mono (by decide)) (fun σ => passAt tk σ))))))

theorem d_Prefix_contains (T : TX K mg base) (h_Prefix_covers : HasM P w K mg base 3 "Prefix" "covers" P_Prefix_covers (sp_Prefix_covers K)) {cdv : Value} {A : Around} {outer : List Env} {s : Shared} {H : Hp} {E : XK} (hr : Room 3 (A.deeper (envOfC "Prefix.contains" (defScope s_Prefix_contains) s.heap.objs.size (He.ma K (He.ga K "Prefix") "contains") cdv))) :
    PSs (cxOf (L2.CX P w) P w K mg base N_Prefix_contains "Prefix.contains" (defScope s_Prefix_contains) (He.ma K (He.ga K "Prefix") "contains") cdv A outer s H E) (defBody s_Prefix_contains) (t_Prefix_contains K E) := by
  have tk : Takes (cxOf (L2.CX P w) P w K mg base N_Prefix_contains "Prefix.contains" (defScope s_Prefix_contains) (He.ma K (He.ga K "Prefix") "contains") cdv A outer s H E) (wB E) := takes_of rfl rfl rfl rfl
  exact (pss_one (ps_ret (pe_and (pe_cmpR op_le (pe_fld (pv 0) rfl) (pe_fld (pv 1) rfl) (nomark _)) (pe_one (pe_m (pv 0) h_Prefix_covers (hr.mono (by decide)) (fun σ => passAt tk σ) (pa_cons (pe_fld (pv 1) rfl) pa_nil))))))

theorem d_Prefix_halves (T : TX K mg base) (h_span_of : Has P w K mg base 1 "span_of" P_span_of (sp_span_of K)) (h_Prefix_init : HasI P w K mg base 2 "Prefix" P_Prefix_init (sp_Prefix_init K)) {cdv : Value} {A : Around} {outer : List Env} {s : Shared} {H : Hp} {E : XK} (hr : Room 3 (A.deeper (envOfC "Prefix.halves" (defScope s_Prefix_halves) s.heap.objs.size (He.ma K (He.ga K "Prefix") "halves") cdv))) :
    PSs (cxOf (L2.CX P w) P w K mg base N_Prefix_halves "Prefix.halves" (defScope s_Prefix_halves) (He.ma K (He.ga K "Prefix") "halves") cdv A outer s H E) (defBody s_Prefix_halves) (t_Prefix_halves K E) := by
  have tk : Takes (cxOf (L2.CX P w) P w K mg base N_Prefix_halves "Prefix.halves" (defScope s_Prefix_halves) (He.ma K (He.ga K "Prefix") "halves") cdv A outer s H E) (wB E) := takes_of rfl rfl rfl rfl
  exact (pss_cons (ps_if (pt_cmpR op_eq (pe_fld (pv 0) rfl) (pe_gint rfl (T.int 2)) (nomark _))
  (pss_one (ps_ret pe_non))
  pss_nil)
  (pss_cons (ps_set (i := 1) sc_Prefix_halves.nd rfl (Or.inl rfl) (pe_h h_span_of (hr.mono (by decide)) rfl (fun σ => passAt tk σ) (pa_cons (pe_op op_add (pe_fld (pv 0) rfl) pe_int) pa_nil)))
  (pss_one (ps_ret (pe_tup (pa_cons (pe_i h_Prefix_init (hr.mono (by decide)) rfl (fun σ => passAt tk σ) (pa_cons (pe_fld (pv 0) rfl) (pa_cons (pe_op op_add (pe_fld (pv 0) rfl) pe_int) pa_nil))) (pa_cons (pe_i h_Prefix_init (hr.mono (by decide)) rfl (fun σ => passAt tk σ) (pa_cons (pe_op op_add (pe_fld (pv 0) rfl) (pv 1)) (pa_cons (pe_op op_add (pe_fld (pv 0) rfl) pe_int) pa_nil))) pa_nil)))))))

theorem d_prefix_of (T : TX K mg base) (h_Prefix_init : HasI P w K mg base 2 "Prefix" P_Prefix_init (sp_Prefix_init K)) (h_span_of : Has P w K mg base 1 "span_of" P_span_of (sp_span_of K)) {cdv : Value} {A : Around} {outer : List Env} {s : Shared} {H : Hp} {E : XK} (hr : Room 3 (A.deeper (envOfC "prefix_of" (defScope s_prefix_of) s.heap.objs.size (He.ga K "prefix_of") cdv))) :
    PSs (cxOf (L2.CX P w) P w K mg base N_prefix_of "prefix_of" (defScope s_prefix_of) (He.ga K "prefix_of") cdv A outer s H E) (defBody s_prefix_of) (t_prefix_of K E) := by
  have tk : Takes (cxOf (L2.CX P w) P w K mg base N_prefix_of "prefix_of" (defScope s_prefix_of) (He.ga K "prefix_of") cdv A outer s H E) (wB E) := takes_of rfl rfl rfl rfl
  exact (pss_one (ps_ret (pe_i h_Prefix_init (hr.mono (by decide)) rfl (fun σ => passAt tk σ) (pa_cons (pe_op op_sub (pv 0) (pe_op op_mod (pv 0) (pe_h h_span_of (hr.mono (by decide)) rfl (fun σ => passAt tk σ) (pa_cons (pv 1) pa_nil)))) (pa_cons (pv 1) pa_nil)))))

theorem d_law_span (T : TX K mg base)  {cdv : Value} {A : Around} {outer : List Env} {s : Shared} {H : Hp} {E : XK} (hr : Room 0 (A.deeper (envOfC "_law_span" (defScope s_law_span) s.heap.objs.size (He.ga K "_law_span") cdv))) :
    PSs (cxOf (L2.CX P w) P w K mg base N_law_span "_law_span" (defScope s_law_span) (He.ga K "_law_span") cdv A outer s H E) (defBody s_law_span) (t_law_span K E) := by
  have tk : Takes (cxOf (L2.CX P w) P w K mg base N_law_span "_law_span" (defScope s_law_span) (He.ga K "_law_span") cdv A outer s H E) (wB E) := takes_of rfl rfl rfl rfl
  exact (pss_one (ps_ret (pe_ix ix_tup (pe_tup (pa_cons pe_int (pa_cons pe_int (pa_cons pe_int (pa_cons pe_int (pa_cons pe_int (pa_cons pe_int (pa_cons pe_int (pa_cons pe_int (pa_cons pe_int (pa_cons pe_int (pa_cons pe_int (pa_cons pe_int (pa_cons pe_int (pa_cons pe_int (pa_cons pe_int (pa_cons pe_int (pa_cons pe_int pa_nil)))))))))))))))))) (pv 0) (fun _ _ => rfl))))

theorem d_law_cell (T : TX K mg base)  {cdv : Value} {A : Around} {outer : List Env} {s : Shared} {H : Hp} {E : XK} (hr : Room 0 (A.deeper (envOfC "_law_cell" (defScope s_law_cell) s.heap.objs.size (He.ga K "_law_cell") cdv))) :
    PSs (cxOf (L2.CX P w) P w K mg base N_law_cell "_law_cell" (defScope s_law_cell) (He.ga K "_law_cell") cdv A outer s H E) (defBody s_law_cell) (t_law_cell K E) := by
  have tk : Takes (cxOf (L2.CX P w) P w K mg base N_law_cell "_law_cell" (defScope s_law_cell) (He.ga K "_law_cell") cdv A outer s H E) (wB E) := takes_of rfl rfl rfl rfl
  exact (pss_cons (ps_if (pt_cmpR op_lt (pv 1) (pe_callB call_len (by rfl) (T.free 8) PySem.boot_len (pa_cons (pv 0) pa_nil)) (nomark _))
  (pss_one (ps_ret (pe_ix ix_list (pv 0) (pv 1) (fun _ _ => rfl))))
  pss_nil)
  (pss_one (ps_ret pe_int)))

theorem d_law_start (T : TX K mg base)  {cdv : Value} {A : Around} {outer : List Env} {s : Shared} {H : Hp} {E : XK} (hr : Room 0 (A.deeper (envOfC "_law_start" (defScope s_law_start) s.heap.objs.size (He.ga K "_law_start") cdv))) :
    PSs (cxOf (L2.CX P w) P w K mg base N_law_start "_law_start" (defScope s_law_start) (He.ga K "_law_start") cdv A outer s H E) (defBody s_law_start) (t_law_start K E) := by
  have tk : Takes (cxOf (L2.CX P w) P w K mg base N_law_start "_law_start" (defScope s_law_start) (He.ga K "_law_start") cdv A outer s H E) (wB E) := takes_of rfl rfl rfl rfl
  have po : PassesOwn (model P w) (cxOf (L2.CX P w) P w K mg base N_law_start "_law_start" (defScope s_law_start) (He.ga K "_law_start") cdv A outer s H E).A (cxOf (L2.CX P w) P w K mg base N_law_start "_law_start" (defScope s_law_start) (He.ga K "_law_start") cdv A outer s H E).env (cxOf (L2.CX P w) P w K mg base N_law_start "_law_start" (defScope s_law_start) (He.ga K "_law_start") cdv A outer s H E).xe := passes_of rfl
  exact (pss_cons (ps_set (i := 2) sc_law_start.nd rfl (Or.inl rfl) pe_int)
  (pss_cons (ps_if (pt_chain op_lt op_lt (pe_un un_neg pe_int) (pv 0) pe_int)
  (pss_cons (ps_set (i := 3) sc_law_start.nd rfl (Or.inl rfl) (pe_op op_mod (pe_callTy call_int1 (by rfl) (T.free 9) (by decide +kernel) (pa_cons (pe_op op_add (pe_op op_mul (pv 0) pe_int) (pe_op op_mul (pe_op op_add (pv 1) pe_int) pe_int)) pa_nil)) (pv 2)))
  (pss_cons (ps_set (i := 4) sc_law_start.nd rfl (Or.inl rfl) pe_int)
  (pss_cons (ps_for po rfl (pi_range1 rfl (T.free 10) (pa_cons pe_int pa_nil)) (pg_name (i := 5) sc_law_start.nd rfl (Or.inl rfl))
  (pss_cons (ps_set (i := 3) sc_law_start.nd rfl (Or.inl rfl) (pe_op op_mod (pe_callTy call_int1 (by rfl) (T.free 9) (by decide +kernel) (pa_cons (pe_op op_add (pe_op op_add (pe_op op_add (pe_op op_mulW (pv 3) (pv 3)) (pe_op op_mul pe_int (pv 3))) (pv 1)) (pv 5)) pa_nil)) (pv 2)))
  (pss_one (ps_set (i := 4) sc_law_start.nd rfl (Or.inl rfl) (pe_op op_add (pe_op op_mulW (pv 4) (pv 2)) (pv 3))))))
  (pss_one (ps_ret (pe_lst (pa_cons (pv 4) pa_nil)))))))
  pss_nil)
  (pss_one (ps_ret (pe_lst (pa_cons (pv 0) pa_nil))))))

theorem d_law_digit (T : TX K mg base)  {cdv : Value} {A : Around} {outer : List Env} {s : Shared} {H : Hp} {E : XK} (hr : Room 0 (A.deeper (envOfC "_law_digit" (defScope s_law_digit) s.heap.objs.size (He.ga K "_law_digit") cdv))) :
    PSs (cxOf (L2.CX P w) P w K mg base N_law_digit "_law_digit" (defScope s_law_digit) (He.ga K "_law_digit") cdv A outer s H E) (defBody s_law_digit) (t_law_digit K E) := by
  have tk : Takes (cxOf (L2.CX P w) P w K mg base N_law_digit "_law_digit" (defScope s_law_digit) (He.ga K "_law_digit") cdv A outer s H E) (wB E) := takes_of rfl rfl rfl rfl
  exact (pss_cons (ps_set (i := 2) sc_law_digit.nd rfl (Or.inl rfl) (pe_op op_mod (pe_callTy call_int1 (by rfl) (T.free 9) (by decide +kernel) (pa_cons (pe_ix ix_list (pv 0) pe_int (fun _ _ => rfl)) pa_nil)) (pv 1)))
  (pss_cons (ps_asg (pe_op op_fdivW (pe_ix ix_list (pv 0) pe_int (fun _ _ => rfl)) (pv 1)) (pg_sub (pv 0) pe_int set_list))
  (pss_one (ps_ret (pv 2)))))

theorem d_law_is_integer (T : TX K mg base)  {cdv : Value} {A : Around} {outer : List Env} {s : Shared} {H : Hp} {E : XK} (hr : Room 0 (A.deeper (envOfC "_law_is_integer" (defScope s_law_is_integer) s.heap.objs.size (He.ga K "_law_is_integer") cdv))) :
    PSs (cxOf (L2.CX P w) P w K mg base N_law_is_integer "_law_is_integer" (defScope s_law_is_integer) (He.ga K "_law_is_integer") cdv A outer s H E) (defBody s_law_is_integer) (t_law_is_integer K E) := by
  have tk : Takes (cxOf (L2.CX P w) P w K mg base N_law_is_integer "_law_is_integer" (defScope s_law_is_integer) (He.ga K "_law_is_integer") cdv A outer s H E) (wB E) := takes_of rfl rfl rfl rfl
  exact (pss_one (ps_ret (pe_and (pe_callB call_isi (by rfl) (T.free 7) (by decide +kernel) (pa_cons (pv 0) (pa_cons (pe_bltn (v := .ty "int") rfl (T.free 9) (by decide +kernel) rfl) pa_nil))) (pe_one (pe_not (pe_callB call_isi (by rfl) (T.free 7) (by decide +kernel) (pa_cons (pv 0) (pa_cons (pe_bltn (v := .ty "bool") rfl (T.free 11) (by decide +kernel) rfl) pa_nil))))))))

theorem d_law_bits (T : TX K mg base) (h_law_span : Has P w K mg base 1 "_law_span" P_law_span (sp_law_span K)) {cdv : Value} {A : Around} {outer : List Env} {s : Shared} {H : Hp} {E : XK} (hr : Room 1 (A.deeper (envOfC "_law_bits" (defScope s_law_bits) s.heap.objs.size (He.ga K "_law_bits") cdv))) :
    PSs (cxOf (L2.CX P w) P w K mg base N_law_bits "_law_bits" (defScope s_law_bits) (He.ga K "_law_bits") cdv A outer s H E) (defBody s_law_bits) (t_law_bits K E) := by
  have tk : Takes (cxOf (L2.CX P w) P w K mg base N_law_bits "_law_bits" (defScope s_law_bits) (He.ga K "_law_bits") cdv A outer s H E) (wB E) := takes_of rfl rfl rfl rfl
  exact (pss_one (ps_ret (pe_lc (own := [("k", 1)]) (g := (gName 1)) (tt := tYes) rfl sc_law_bits.nd (pi_range1 rfl (T.free 10) (pa_cons pe_int pa_nil)) (blkOk_by (own := [("k", 1)]) (N := N_law_bits) (sc := defScope s_law_bits) (by decide +kernel)) (fun _ _ _ _ _ => (pg_name (i := 1) sc_law_bits.nd rfl (Or.inl rfl))) (fun _ _ _ _ _ => pts_nil) (fun _ _ _ _ _ => (pe_op op_mod (pe_op op_fdiv (pv 0) (pe_h h_law_span (hr.mono (by decide)) rfl (fun σ => passZ σ) (pa_cons (pe_op op_add (pv 1) pe_int) pa_nil))) pe_int)))))

theorem d_law_may (T : TX K mg base) (h_law_bits : Has P w K mg base 2 "_law_bits" P_law_bits (sp_law_bits K)) {cdv : Value} {A : Around} {outer : List Env} {s : Shared} {H : Hp} {E : XK} (hr : Room 2 (A.deeper (envOfC "_law_may" (defScope s_law_may) s.heap.objs.size (He.ga K "_law_may") cdv))) :
    PSs (cxOf (L2.CX P w) P w K mg base N_law_may "_law_may" (defScope s_law_may) (He.ga K "_law_may") cdv A outer s H E) (defBody s_law_may) (t_law_may K E) := by
  have tk : Takes (cxOf (L2.CX P w) P w K mg base N_law_may "_law_may" (defScope s_law_may) (He.ga K "_law_may") cdv A outer s H E) (wB E) := takes_of rfl rfl rfl rfl
  exact (pss_cons (ps_if (PW.pt (pw_or (pt_cmpR op_lt (pv 1) pe_int (nomark _)) (pw_or (pt_cmpR op_gt (pv 1) pe_int (nomark _)) (pw_or (pt_cmpR op_lt (pv 0) pe_int (nomark _)) (pw_or1 (pt_cmpR op_gt (pv 0) pe_int (nomark _)))))))
  (pss_one (ps_ret pe_bl))
  pss_nil)
  (pss_one (ps_ret (pe_cmpR (op_eqD hr.units) (pe_slice sl_list (pe_h h_law_bits (hr.mono (by decide)) rfl (fun σ => passAt tk σ) (pa_cons (pv 0) pa_nil)) (po_some (pv 1)) po_none) (pe_lc (own := [("k", 2)]) (g := (gName 2)) (tt := tYes) rfl sc_law_may.nd (pi_range1 rfl (T.free 10) (pa_cons (pe_op op_sub pe_int (pv 1)) pa_nil)) (blkOk_by (own := [("k", 2)]) (N := N_law_may) (sc := defScope s_law_may) (by decide +kernel)) (fun _ _ _ _ _ => (pg_name (i := 2) sc_law_may.nd rfl (Or.inl rfl))) (fun _ _ _ _ _ => pts_nil) (fun _ _ _ _ _ => pe_int)) (nomark _)))))

theorem d_law_made (T : TX K mg base) (h_Prefix_init : HasI P w K mg base 2 "Prefix" P_Prefix_init (sp_Prefix_init K)) {cdv : Value} {A : Around} {outer : List Env} {s : Shared} {H : Hp} {E : XK} (hr : Room 3 (A.deeper (envOfC "_law_made" (defScope s_law_made) s.heap.objs.size (He.ga K "_law_made") cdv))) :
    PSs (cxOf (L2.CX P w) P w K mg base N_law_made "_law_made" (defScope s_law_made) (He.ga K "_law_made") cdv A outer s H E) (defBody s_law_made) (t_law_made K E) := by
  have tk : Takes (cxOf (L2.CX P w) P w K mg base N_law_made "_law_made" (defScope s_law_made) (He.ga K "_law_made") cdv A outer s H E) (wB E) := takes_of rfl rfl rfl rfl
  exact (pss_one (ps_try_only (tb := fun W1 => (tRet (tTup (tCons (tC (.bl true)) (tCons (tMk (He.ga K "Prefix") (sp_Prefix_init K) (WE W1) (tCons (tVar 0) (tCons (tVar 1) tNil))) tNil))))) (ts := (fun (aX : Addr) (clX : Value) (dX : Option Addr) => (tRet (tTup (tCons (tC (.bl false)) (tCons (tC .non) tNil)))))) (Wout := (wB E)) rfl rfl ⟨rfl, by decide, .inl (T.glo 4)⟩ tk (fun W1 pn xe tk1 po1 => (pss_one (ps_ret (pe_tup (pa_cons pe_bl (pa_cons (pe_i h_Prefix_init (hr.mono (by decide)) rfl (fun σ => passAt tk1 σ) (pa_cons (pv 0) (pa_cons (pv 1) pa_nil))) pa_nil)))))) (fun aX oX clX dX pn hzX hfX => (pss_one (ps_ret (pe_tup (pa_cons pe_bl (pa_cons pe_non pa_nil))))))))

theorem d_law_base (T : TX K mg base) (h_law_digit : Has P w K mg base 1 "_law_digit" P_law_digit (sp_law_digit K)) (h_law_span : Has P w K mg base 1 "_law_span" P_law_span (sp_law_span K)) {cdv : Value} {A : Around} {outer : List Env} {s : Shared} {H : Hp} {E : XK} (hr : Room 1 (A.deeper (envOfC "_law_base" (defScope s_law_base) s.heap.objs.size (He.ga K "_law_base") cdv))) :
    PSs (cxOf (L2.CX P w) P w K mg base N_law_base "_law_base" (defScope s_law_base) (He.ga K "_law_base") cdv A outer s H E) (defBody s_law_base) (t_law_base K E) := by
  have tk : Takes (cxOf (L2.CX P w) P w K mg base N_law_base "_law_base" (defScope s_law_base) (He.ga K "_law_base") cdv A outer s H E) (wB E) := takes_of rfl rfl rfl rfl
  exact (pss_cons (ps_set (i := 2) sc_law_base.nd rfl (Or.inl rfl) (pe_op op_sub (pe_h h_law_digit (hr.mono (by decide)) rfl (fun σ => passAt tk σ) (pa_cons (pv 0) (pa_cons pe_int pa_nil))) pe_int))
  (pss_cons (ps_if (PW.pt (pw_and (pt_cmpR op_gt (pe_h h_law_digit (hr.mono (by decide)) rfl (fun σ => passAt tk σ) (pa_cons (pv 0) (pa_cons pe_int pa_nil))) pe_int (nomark _)) (pw_and (pt_chain op_le op_le pe_int (pv 1) pe_int) (pw_and1 (pt_chain op_le op_le pe_int (pv 2) pe_int)))))
  (pss_one (ps_ret (pe_op op_sub (pv 2) (pe_op op_mod (pv 2) (pe_h h_law_span (hr.mono (by decide)) rfl (fun σ => passAt tk σ) (pa_cons (pv 1) pa_nil))))))
  pss_nil)
  (pss_one (ps_ret (pv 2)))))

theorem d_law_shares (T : TX K mg base) (h_law_bits : Has P w K mg base 2 "_law_bits" P_law_bits (sp_law_bits K)) {cdv : Value} {A : Around} {outer : List Env} {s : Shared} {H : Hp} {E : XK} (hr : Room 2 (A.deeper (envOfC "_law_shares" (defScope s_law_shares) s.heap.objs.size (He.ga K "_law_shares") cdv))) :
    PSs (cxOf (L2.CX P w) P w K mg base N_law_shares "_law_shares" (defScope s_law_shares) (He.ga K "_law_shares") cdv A outer s H E) (defBody s_law_shares) (t_law_shares K E) := by
  have tk : Takes (cxOf (L2.CX P w) P w K mg base N_law_shares "_law_shares" (defScope s_law_shares) (He.ga K "_law_shares") cdv A outer s H E) (wB E) := takes_of rfl rfl rfl rfl
  exact (pss_one (ps_ret (pe_cmpR (op_eqD hr.units) (pe_slice sl_list (pe_h h_law_bits (hr.mono (by decide)) rfl (fun σ => passAt tk σ) (pa_cons (pv 0) pa_nil)) po_none (po_some (pv 1))) (pe_slice sl_list (pe_h h_law_bits (hr.mono (by decide)) rfl (fun σ => passAt tk σ) (pa_cons (pv 2) pa_nil)) po_none (po_some (pv 1))) (nomark _))))

theorem d_law_halves (T : TX K mg base) (h_Prefix_halves : HasM P w K mg base 4 "Prefix" "halves" P_Prefix_halves (sp_Prefix_halves K)) (h_law_span : Has P w K mg base 1 "_law_span" P_law_span (sp_law_span K)) (h_Prefix_pair : HasM P w K mg base 1 "Prefix" "pair" P_Prefix_pair (sp_Prefix_pair K)) {cdv : Value} {A : Around} {outer : List Env} {s : Shared} {H : Hp} {E : XK} (hr : Room 4 (A.deeper (envOfC "_law_halves" (defScope s_law_halves) s.heap.objs.size (He.ga K "_law_halves") cdv))) :
    PSs (cxOf (L2.CX P w) P w K mg base N_law_halves "_law_halves" (defScope s_law_halves) (He.ga K "_law_halves") cdv A outer s H E) (defBody s_law_halves) (t_law_halves K E) := by
  have tk : Takes (cxOf (L2.CX P w) P w K mg base N_law_halves "_law_halves" (defScope s_law_halves) (He.ga K "_law_halves") cdv A outer s H E) (wB E) := takes_of rfl rfl rfl rfl
  have po : PassesOwn (model P w) (cxOf (L2.CX P w) P w K mg base N_law_halves "_law_halves" (defScope s_law_halves) (He.ga K "_law_halves") cdv A outer s H E).A (cxOf (L2.CX P w) P w K mg base N_law_halves "_law_halves" (defScope s_law_halves) (He.ga K "_law_halves") cdv A outer s H E).env (cxOf (L2.CX P w) P w K mg base N_law_halves "_law_halves" (defScope s_law_halves) (He.ga K "_law_halves") cdv A outer s H E).xe := passes_of rfl
  exact (pss_cons (ps_set (i := 1) sc_law_halves.nd rfl (Or.inl rfl) (pe_m0 (pv 0) h_Prefix_halves (hr.mono (by decide)) (fun σ => passAt tk σ)))
  (pss_cons (ps_if (pt_cmpR op_eq (pe_fld (pv 0) rfl) pe_int (nomark _))
  (pss_one (ps_ret (pe_cmpR op_isN1 (pv 1) pe_non (nomark _))))
  pss_nil)
  (pss_cons (ps_if (PW.pt (pw_or (pt_not (pt_val (pe_callB call_isi (by rfl) (T.free 7) (by decide +kernel) (pa_cons (pv 1) (pa_cons (pe_bltn (v := .ty "tuple") rfl (T.free 12) (by decide +kernel) rfl) pa_nil))))) (pw_or1 (pt_cmpR op_ne (pe_callB call_len (by rfl) (T.free 8) PySem.boot_len (pa_cons (pv 1) pa_nil)) pe_int (nomark _)))))
  (pss_one (ps_ret pe_bl))
  pss_nil)
  (pss_cons (ps_set (i := 2) sc_law_halves.nd rfl (Or.inl rfl) (pe_h h_law_span (hr.mono (by decide)) rfl (fun σ => passAt tk σ) (pa_cons (pe_op op_add (pe_fld (pv 0) rfl) pe_int) pa_nil)))
  (pss_cons (ps_for po rfl (pi_range1 rfl (T.free 10) (pa_cons pe_int pa_nil)) (pg_name (i := 3) sc_law_halves.nd rfl (Or.inl rfl))
  (pss_one (ps_if (PW.pt (pw_or (pt_not (pt_val (pe_callB call_isi (by rfl) (T.free 7) (by decide +kernel) (pa_cons (pe_ix ix_tup (pv 1) (pv 3) (fun _ _ => rfl)) (pa_cons (pe_gref rfl (T.glo 6)) pa_nil))))) (pw_or1 (pt_cmpR (op_neD hr.units) (pe_m0 (pe_ix ix_tup (pv 1) (pv 3) (fun _ _ => rfl)) h_Prefix_pair (hr.mono (by decide)) (fun σ => passAt tk σ)) (pe_tup (pa_cons (pe_op op_add (pe_fld (pv 0) rfl) (pe_op op_mul (pv 3) (pv 2))) (pa_cons (pe_op op_add (pe_fld (pv 0) rfl) pe_int) pa_nil))) (nomark _)))))
  (pss_one (ps_ret pe_bl))
  pss_nil)))
  (pss_one (ps_ret pe_bl)))))))

theorem d_law_one (T : TX K mg base) (h_law_is_integer : Has P w K mg base 1 "_law_is_integer" P_law_is_integer (sp_law_is_integer K)) (h_Prefix_pair : HasM P w K mg base 1 "Prefix" "pair" P_Prefix_pair (sp_Prefix_pair K)) (h_Prefix_span : HasM P w K mg base 2 "Prefix" "span" P_Prefix_span (sp_Prefix_span K)) (h_law_span : Has P w K mg base 1 "_law_span" P_law_span (sp_law_span K)) (h_span_of : Has P w K mg base 1 "span_of" P_span_of (sp_span_of K)) (h_law_halves : Has P w K mg base 5 "_law_halves" P_law_halves (sp_law_halves K)) {cdv : Value} {A : Around} {outer : List Env} {s : Shared} {H : Hp} {E : XK} (hr : Room 5 (A.deeper (envOfC "_law_one" (defScope s_law_one) s.heap.objs.size (He.ga K "_law_one") cdv))) :
    PSs (cxOf (L2.CX P w) P w K mg base N_law_one "_law_one" (defScope s_law_one) (He.ga K "_law_one") cdv A outer s H E) (defBody s_law_one) (t_law_one K E) := by
  have tk : Takes (cxOf (L2.CX P w) P w K mg base N_law_one "_law_one" (defScope s_law_one) (He.ga K "_law_one") cdv A outer s H E) (wB E) := takes_of rfl rfl rfl rfl
  exact (pss_cons (ps_if (PW.pt (pw_or (pt_cmpR op_ne (pe_fld (pv 0) rfl) (pv 1) (nomark _)) (pw_or (pt_cmpR op_ne (pe_fld (pv 0) rfl) (pv 2) (nomark _)) (pw_or1 (pt_not (pt_val (pe_h h_law_is_integer (hr.mono (by decide)) rfl (fun σ => passAt tk σ) (pa_cons (pe_fld (pv 0) rfl) pa_nil))))))))
  (pss_one (ps_ret pe_bl))
  pss_nil)
  (pss_cons (ps_if (PW.pt (pw_or (pt_cmpR (op_neD hr.units) (pe_m0 (pv 0) h_Prefix_pair (hr.mono (by decide)) (fun σ => passAt tk σ)) (pe_tup (pa_cons (pv 1) (pa_cons (pv 2) pa_nil))) (nomark _)) (pw_or (pt_cmpR op_ne (pe_m0 (pv 0) h_Prefix_span (hr.mono (by decide)) (fun σ => passAt tk σ)) (pe_h h_law_span (hr.mono (by decide)) rfl (fun σ => passAt tk σ) (pa_cons (pv 2) pa_nil)) (nomark _)) (pw_or1 (pt_cmpR op_ne (pe_h h_span_of (hr.mono (by decide)) rfl (fun σ => passAt tk σ) (pa_cons (pv 2) pa_nil)) (pe_m0 (pv 0) h_Prefix_span (hr.mono (by decide)) (fun σ => passAt tk σ)) (nomark _))))))
  (pss_one (ps_ret pe_bl))
  pss_nil)
  (pss_one (ps_ret (pe_h h_law_halves (hr.mono (by decide)) rfl (fun σ => passAt tk σ) (pa_cons (pv 0) pa_nil))))))

theorem d_law_addresses (T : TX K mg base) (h_Prefix_span : HasM P w K mg base 2 "Prefix" "span" P_Prefix_span (sp_Prefix_span K)) (h_law_digit : Has P w K mg base 1 "_law_digit" P_law_digit (sp_law_digit K)) {cdv : Value} {A : Around} {outer : List Env} {s : Shared} {H : Hp} {E : XK} (hr : Room 2 (A.deeper (envOfC "_law_addresses" (defScope s_law_addresses) s.heap.objs.size (He.ga K "_law_addresses") cdv))) :
    PSs (cxOf (L2.CX P w) P w K mg base N_law_addresses "_law_addresses" (defScope s_law_addresses) (He.ga K "_law_addresses") cdv A outer s H E) (defBody s_law_addresses) (t_law_addresses K E) := by
  have tk : Takes (cxOf (L2.CX P w) P w K mg base N_law_addresses "_law_addresses" (defScope s_law_addresses) (He.ga K "_law_addresses") cdv A outer s H E) (wB E) := takes_of rfl rfl rfl rfl
  exact (pss_cons (ps_set (i := 3) sc_law_addresses.nd rfl (Or.inl rfl) (pe_lst (pa_cons (pe_fld (pv 1) rfl) (pa_cons (pe_op op_sub (pe_op op_add (pe_fld (pv 1) rfl) (pe_m0 (pv 1) h_Prefix_span (hr.mono (by decide)) (fun σ => passAt tk σ))) pe_int) (pa_cons (pe_op op_add (pe_fld (pv 1) rfl) (pe_m0 (pv 1) h_Prefix_span (hr.mono (by decide)) (fun σ => passAt tk σ))) (pa_cons (pe_op op_sub (pe_fld (pv 1) rfl) pe_int) pa_nil))))))
  (pss_cons (ps_set (i := 3) sc_law_addresses.nd rfl (Or.inl rfl) (pe_op op_cat (pv 3) (pe_lst (pa_cons (pe_fld (pv 2) rfl) (pa_cons (pe_op op_sub (pe_op op_add (pe_fld (pv 2) rfl) (pe_m0 (pv 2) h_Prefix_span (hr.mono (by decide)) (fun σ => passAt tk σ))) pe_int) (pa_cons (pe_h h_law_digit (hr.mono (by decide)) rfl (fun σ => passAt tk σ) (pa_cons (pv 0) (pa_cons pe_int pa_nil))) pa_nil))))))
  (pss_one (ps_ret (pe_lc (own := [("address", 4)]) (g := (gName 4)) (tt := (tTest (tChain gLe gLe (tC (.int 0)) (tVar 4) (tC (.int 65535))))) rfl sc_law_addresses.nd (pi_list (pv 3)) (blkOk_by (own := [("address", 4)]) (N := N_law_addresses) (sc := defScope s_law_addresses) (by decide +kernel)) (fun _ _ _ _ _ => (pg_name (i := 4) sc_law_addresses.nd rfl (Or.inl rfl))) (fun _ _ _ _ _ => (pts_one (pt_chain op_le op_le pe_int (pv 4) pe_int))) (fun _ _ _ _ _ => (pv 4)))))))

theorem d_law_two (T : TX K mg base) (h_law_addresses : Has P w K mg base 3 "_law_addresses" P_law_addresses (sp_law_addresses K)) (h_Prefix_covers : HasM P w K mg base 3 "Prefix" "covers" P_Prefix_covers (sp_Prefix_covers K)) (h_law_shares : Has P w K mg base 3 "_law_shares" P_law_shares (sp_law_shares K)) (h_bit_of : Has P w K mg base 2 "bit_of" P_bit_of (sp_bit_of K)) (h_law_bits : Has P w K mg base 2 "_law_bits" P_law_bits (sp_law_bits K)) (h_prefix_of : Has P w K mg base 4 "prefix_of" P_prefix_of (sp_prefix_of K)) (h_Prefix__eq : HasM P w K mg base 1 "Prefix" "__eq__" P_Prefix__eq (sp_Prefix__eq K)) (h_Prefix_contains : HasM P w K mg base 4 "Prefix" "contains" P_Prefix_contains (sp_Prefix_contains K)) (h_Prefix_pair : HasM P w K mg base 1 "Prefix" "pair" P_Prefix_pair (sp_Prefix_pair K)) {cdv : Value} {A : Around} {outer : List Env} {s : Shared} {H : Hp} {E : XK} (hr : Room 4 (A.deeper (envOfC "_law_two" (defScope s_law_two) s.heap.objs.size (He.ga K "_law_two") cdv))) :
    PSs (cxOf (L2.CX P w) P w K mg base N_law_two "_law_two" (defScope s_law_two) (He.ga K "_law_two") cdv A outer s H E) (defBody s_law_two) (t_law_two K E) := by
  have tk : Takes (cxOf (L2.CX P w) P w K mg base N_law_two "_law_two" (defScope s_law_two) (He.ga K "_law_two") cdv A outer s H E) (wB E) := takes_of rfl rfl rfl rfl
  have po : PassesOwn (model P w) (cxOf (L2.CX P w) P w K mg base N_law_two "_law_two" (defScope s_law_two) (He.ga K "_law_two") cdv A outer s H E).A (cxOf (L2.CX P w) P w K mg base N_law_two "_law_two" (defScope s_law_two) (He.ga K "_law_two") cdv A outer s H E).env (cxOf (L2.CX P w) P w K mg base N_law_two "_law_two" (defScope s_law_two) (He.ga K "_law_two") cdv A outer s H E).xe := passes_of rfl
  exact (pss_cons (ps_for po rfl (pi_list (pe_h h_law_addresses (hr.mono (by decide)) rfl (fun σ => passAt tk σ) (pa_cons (pv 0) (pa_cons (pv 1) (pa_cons (pv 2) pa_nil))))) (pg_name (i := 3) sc_law_two.nd rfl (Or.inr rfl))
  (pss_cons (ps_if (pt_cmpR op_ne (pe_m (pv 1) h_Prefix_covers (hr.mono (by decide)) (fun σ => passAt tk σ) (pa_cons (pv 3) pa_nil)) (pe_h h_law_shares (hr.mono (by decide)) rfl (fun σ => passAt tk σ) (pa_cons (pe_fld (pv 1) rfl) (pa_cons (pe_fld (pv 1) rfl) (pa_cons (pv 3) pa_nil)))) (nomark _))
  (pss_one (ps_ret pe_bl))
  pss_nil)
  (pss_cons (ps_if (pt_cmpR (op_neD hr.units) (pe_lc (own := [("at", 4)]) (g := (gName 4)) (tt := tYes) rfl sc_law_two.nd (pi_range1 rfl (T.free 10) (pa_cons pe_int pa_nil)) (blkOk_by (own := [("at", 4)]) (N := N_law_two) (sc := defScope s_law_two) (by decide +kernel)) (fun _ _ _ _ _ => (pg_name (i := 4) sc_law_two.nd rfl (Or.inl rfl))) (fun _ _ _ _ _ => pts_nil) (fun _ _ _ _ _ => (pe_h h_bit_of (hr.mono (by decide)) rfl (fun σ => passZ σ) (pa_cons (pv 3) (pa_cons (pv 4) pa_nil))))) (pe_h h_law_bits (hr.mono (by decide)) rfl (fun σ => passAt tk σ) (pa_cons (pv 3) pa_nil)) (nomark _))
  (pss_one (ps_ret pe_bl))
  pss_nil)
  (pss_cons (ps_set (i := 5) sc_law_two.nd rfl (Or.inl rfl) (pe_h h_prefix_of (hr.mono (by decide)) rfl (fun σ => passAt tk σ) (pa_cons (pv 3) (pa_cons (pe_fld (pv 1) rfl) pa_nil))))
  (pss_cons (ps_if (PW.pt (pw_or (pt_not (pt_val (pe_m (pv 5) h_Prefix_covers (hr.mono (by decide)) (fun σ => passAt tk σ) (pa_cons (pv 3) pa_nil)))) (pw_or1 (pt_cmpR op_ne (pe_fld (pv 5) rfl) (pe_fld (pv 1) rfl) (nomark _)))))
  (pss_one (ps_ret pe_bl))
  pss_nil)
  (pss_one (ps_if (pt_cmpR op_ne (pe_cmpR (op_own h_Prefix__eq (hr.mono (by decide))) (pv 5) (pv 1) (nomark _)) (pe_m (pv 1) h_Prefix_covers (hr.mono (by decide)) (fun σ => passAt tk σ) (pa_cons (pv 3) pa_nil)) (nomark _))
  (pss_one (ps_ret pe_bl))
  pss_nil)))))))
  (Evl.pss_cut (ps_set (i := 6) sc_law_two.nd rfl (Or.inl rfl) (pe_and (pe_cmpR op_le (pe_fld (pv 1) rfl) (pe_fld (pv 2) rfl) (nomark _)) (pe_one (pe_h h_law_shares (hr.mono (by decide)) rfl (fun σ => passAt tk σ) (pa_cons (pe_fld (pv 1) rfl) (pa_cons (pe_fld (pv 1) rfl) (pa_cons (pe_fld (pv 2) rfl) pa_nil)))))))
  (pss_cons (ps_if (pt_cmpR op_ne (pe_m (pv 1) h_Prefix_contains (hr.mono (by decide)) (fun σ => passAt tk σ) (pa_cons (pv 2) pa_nil)) (pv 6) (nomark _))
  (pss_one (ps_ret pe_bl))
  pss_nil)
  (Evl.pss_cut (ps_if (pt_cmpR op_ne (pe_cmpR (op_own h_Prefix__eq (hr.mono (by decide))) (pv 1) (pv 2) (nomark _)) (pe_and (pe_cmpR op_eq (pe_fld (pv 1) rfl) (pe_fld (pv 2) rfl) (nomark _)) (pe_one (pe_cmpR op_eq (pe_fld (pv 1) rfl) (pe_fld (pv 2) rfl) (nomark _)))) (nomark _))
  (pss_one (ps_ret pe_bl))
  pss_nil)
  (pss_one (ps_ret (pe_cmpR op_is_bl (pe_cmpR (op_own h_Prefix__eq (hr.mono (by decide))) (pv 1) (pe_m0 (pv 1) h_Prefix_pair (hr.mono (by decide)) (fun σ => passAt tk σ)) (nomark _)) pe_bl (nomark _))))))))

theorem d_law_pair (T : TX K mg base) (h_law_digit : Has P w K mg base 1 "_law_digit" P_law_digit (sp_law_digit K)) (h_law_base : Has P w K mg base 2 "_law_base" P_law_base (sp_law_base K)) (h_law_made : Has P w K mg base 4 "_law_made" P_law_made (sp_law_made K)) (h_law_may : Has P w K mg base 3 "_law_may" P_law_may (sp_law_may K)) (h_law_one : Has P w K mg base 6 "_law_one" P_law_one (sp_law_one K)) (h_prefix_of : Has P w K mg base 4 "prefix_of" P_prefix_of (sp_prefix_of K)) (h_law_two : Has P w K mg base 5 "_law_two" P_law_two (sp_law_two K)) {cdv : Value} {A : Around} {outer : List Env} {s : Shared} {H : Hp} {E : XK} (hr : Room 6 (A.deeper (envOfC "_law_pair" (defScope s_law_pair) s.heap.objs.size (He.ga K "_law_pair") cdv))) :
    PSs (cxOf (L2.CX P w) P w K mg base N_law_pair "_law_pair" (defScope s_law_pair) (He.ga K "_law_pair") cdv A outer s H E) (defBody s_law_pair) (t_law_pair K E) := by
  have tk : Takes (cxOf (L2.CX P w) P w K mg base N_law_pair "_law_pair" (defScope s_law_pair) (He.ga K "_law_pair") cdv A outer s H E) (wB E) := takes_of rfl rfl rfl rfl
  have po : PassesOwn (model P w) (cxOf (L2.CX P w) P w K mg base N_law_pair "_law_pair" (defScope s_law_pair) (He.ga K "_law_pair") cdv A outer s H E).A (cxOf (L2.CX P w) P w K mg base N_law_pair "_law_pair" (defScope s_law_pair) (He.ga K "_law_pair") cdv A outer s H E).env (cxOf (L2.CX P w) P w K mg base N_law_pair "_law_pair" (defScope s_law_pair) (He.ga K "_law_pair") cdv A outer s H E).xe := passes_of rfl
  exact (pss_cons (ps_set (i := 1) sc_law_pair.nd rfl (Or.inl rfl) (pe_lst pa_nil))
  (pss_cons (ps_for po rfl (pi_range1 rfl (T.free 10) (pa_cons pe_int pa_nil)) (pg_name (i := 2) sc_law_pair.nd rfl (Or.inl rfl))
  (pss_cons (ps_set (i := 3) sc_law_pair.nd rfl (Or.inl rfl) (pe_op op_sub (pe_h h_law_digit (hr.mono (by decide)) rfl (fun σ => passAt tk σ) (pa_cons (pv 0) (pa_cons pe_int pa_nil))) pe_int))
  (pss_cons (ps_set (i := 4) sc_law_pair.nd rfl (Or.inl rfl) (pe_h h_law_base (hr.mono (by decide)) rfl (fun σ => passAt tk σ) (pa_cons (pv 0) (pa_cons (pv 3) pa_nil))))
  (pss_cons (ps_set (i := 5) sc_law_pair.nd rfl (Or.inl rfl) (pe_h h_law_made (hr.mono (by decide)) rfl (fun σ => passAt tk σ) (pa_cons (pv 4) (pa_cons (pv 3) pa_nil))))
  (pss_cons (ps_if (pt_cmpR op_ne (pe_ix ix_tup (pv 5) pe_int (fun _ _ => rfl)) (pe_h h_law_may (hr.mono (by decide)) rfl (fun σ => passAt tk σ) (pa_cons (pv 4) (pa_cons (pv 3) pa_nil))) (nomark _))
  (pss_one (ps_ret pe_bl))
  pss_nil)
  (pss_one (ps_if (pt_val (pe_ix ix_tup (pv 5) pe_int (fun _ _ => rfl)))
  (pss_cons (ps_if (pt_not (pt_val (pe_h h_law_one (hr.mono (by decide)) rfl (fun σ => passAt tk σ) (pa_cons (pe_ix ix_tup (pv 5) pe_int (fun _ _ => rfl)) (pa_cons (pv 4) (pa_cons (pv 3) pa_nil))))))
  (pss_one (ps_ret pe_bl))
  pss_nil)
  (pss_one (ps_expr (pe_bm PySem.F.plainAttrs_list PySem.F.slot_list_append PySem.F.type_list_append mt_append (pv 1) (pa_cons (pe_ix ix_tup (pv 5) pe_int (fun _ _ => rfl)) pa_nil)))))
  pss_nil)))))))
  (pss_cons (ps_if (pt_cmpR op_lt (pe_callB call_len (by rfl) (T.free 8) PySem.boot_len (pa_cons (pv 1) pa_nil)) pe_int (nomark _))
  (pss_one (ps_ret pe_bl))
  pss_nil)
  (pss_cons (ps_set (i := 6) sc_law_pair.nd rfl (Or.inl rfl) (pe_h h_prefix_of (hr.mono (by decide)) rfl (fun σ => passAt tk σ) (pa_cons (pe_fld (pe_ix ix_list (pv 1) pe_int (fun _ _ => rfl)) rfl) (pa_cons (pe_h h_law_digit (hr.mono (by decide)) rfl (fun σ => passAt tk σ) (pa_cons (pv 0) (pa_cons pe_int pa_nil))) pa_nil))))
  (pss_one (ps_ret (pe_and (pe_h h_law_two (hr.mono (by decide)) rfl (fun σ => passAt tk σ) (pa_cons (pv 0) (pa_cons (pe_ix ix_list (pv 1) pe_int (fun _ _ => rfl)) (pa_cons (pe_ix ix_list (pv 1) pe_int (fun _ _ => rfl)) pa_nil)))) (pe_and (pe_h h_law_two (hr.mono (by decide)) rfl (fun σ => passAt tk σ) (pa_cons (pv 0) (pa_cons (pv 6) (pa_cons (pe_ix ix_list (pv 1) pe_int (fun _ _ => rfl)) pa_nil)))) (pe_one (pe_h h_law_two (hr.mono (by decide)) rfl (fun σ => passAt tk σ) (pa_cons (pv 0) (pa_cons (pe_ix ix_list (pv 1) pe_int (fun _ _ => rfl)) (pa_cons (pv 6) pa_nil)))))))))))))

theorem d_law (T : TX K mg base) (h_law_pair : Has P w K mg base 7 "_law_pair" P_law_pair (sp_law_pair K)) (h_law_start : Has P w K mg base 1 "_law_start" P_law_start (sp_law_start K)) (h_law_cell : Has P w K mg base 1 "_law_cell" P_law_cell (sp_law_cell K)) {cdv : Value} {A : Around} {outer : List Env} {s : Shared} {H : Hp} {E : XK} (hr : Room 7 (A.deeper (envOfC "law" (defScope s_law) s.heap.objs.size (He.ga K "law") cdv))) :
    PSs (cxOf (L2.CX P w) P w K mg base N_law "law" (defScope s_law) (He.ga K "law") cdv A outer s H E) (defBody s_law) (t_law K E) := by
  have tk : Takes (cxOf (L2.CX P w) P w K mg base N_law "law" (defScope s_law) (He.ga K "law") cdv A outer s H E) (wB E) := takes_of rfl rfl rfl rfl
  have po : PassesOwn (model P w) (cxOf (L2.CX P w) P w K mg base N_law "law" (defScope s_law) (He.ga K "law") cdv A outer s H E).A (cxOf (L2.CX P w) P w K mg base N_law "law" (defScope s_law) (He.ga K "law") cdv A outer s H E).env (cxOf (L2.CX P w) P w K mg base N_law "law" (defScope s_law) (He.ga K "law") cdv A outer s H E).xe := passes_of rfl
  exact (pss_cons (ps_for po rfl (pi_range1 rfl (T.free 10) (pa_cons (pe_callB (call_min2 rfl) (by rfl) (T.free 13) (by decide +kernel) (pa_cons pe_int (pa_cons (pe_op op_add pe_int (pe_callB call_len (by rfl) (T.free 8) PySem.boot_len (pa_cons (pv 0) pa_nil))) pa_nil))) pa_nil)) (pg_name (i := 1) sc_law.nd rfl (Or.inl rfl))
  (pss_one (ps_if (pt_not (pt_val (pe_h h_law_pair (hr.mono (by decide)) rfl (fun σ => passAt tk σ) (pa_cons (pe_h h_law_start (hr.mono (by decide)) rfl (fun σ => passAt tk σ) (pa_cons (pe_h h_law_cell (hr.mono (by decide)) rfl (fun σ => passAt tk σ) (pa_cons (pv 0) (pa_cons (pv 1) pa_nil))) (pa_cons (pv 1) pa_nil))) pa_nil))))
  (pss_one (ps_ret pe_bl))
  pss_nil)))
  (pss_one (ps_ret pe_bl)))

end
end K72

namespace K72
open PySem PySem.Spec PyProof.Rows L2 G
local macro_rules | `(tactic| wtm_at "g_get") => `(tactic| first
  | ((with_reducible refine' w_fld ?k1 (cl_Prefix (by assumption)) (na_Prefix_base (by assumption)) lk_Prefix_base ?_); (case k1 => wtm_at "g_hp"))
  | ((with_reducible refine' w_fld ?k1 (cl_Prefix (by assumption)) (na_Prefix_length (by assumption)) lk_Prefix_length ?_); (case k1 => wtm_at "g_hp"))
  | fail)
local macro_rules | `(tactic| wtm_at "g_set") => `(tactic| first
  | ((with_reducible refine' w_sput ?k1 (cl_Prefix (by assumption)) (na_Prefix_base (by assumption)) pt_Prefix_base rfl ?_); (case k1 => wtm_at "g_hp"))
  | ((with_reducible refine' w_sput ?k1 (cl_Prefix (by assumption)) (na_Prefix_base (by assumption)) pn_Prefix_base rfl ?_); (case k1 => wtm_at "g_hp"))
  | ((with_reducible refine' w_sput ?k1 (cl_Prefix (by assumption)) (na_Prefix_length (by assumption)) pt_Prefix_length rfl ?_); (case k1 => wtm_at "g_hp"))
  | ((with_reducible refine' w_sput ?k1 (cl_Prefix (by assumption)) (na_Prefix_length (by assumption)) pn_Prefix_length rfl ?_); (case k1 => wtm_at "g_hp"))
  | fail)
local macro_rules | `(tactic| wtm_at "g_set2") => `(tactic| first
  | ((with_reducible refine' w_sput2 ?k1 pt_Prefix_base rfl ?_); (case k1 => wtm_at "g_hp"))
  | ((with_reducible refine' w_sput2 ?k1 pt_Prefix_length rfl ?_); (case k1 => wtm_at "g_hp"))
  | fail)
local macro_rules | `(tactic| wtm_at "g_mt") => `(tactic| first
  | ((with_reducible refine' w_mt1 ?k1 ln_Prefix___eq__ ?_); (case k1 => wtm_at "g_hp"))
  | ((with_reducible refine' w_mt1 ?k1 ln_Prefix_pair ?_); (case k1 => wtm_at "g_hp"))
  | ((with_reducible refine' w_mt1 ?k1 ln_Prefix_span ?_); (case k1 => wtm_at "g_hp"))
  | ((with_reducible refine' w_mt1 ?k1 ln_Prefix_covers ?_); (case k1 => wtm_at "g_hp"))
  | ((with_reducible refine' w_mt1 ?k1 ln_Prefix_contains ?_); (case k1 => wtm_at "g_hp"))
  | ((with_reducible refine' w_mt1 ?k1 ln_Prefix_halves ?_); (case k1 => wtm_at "g_hp"))
  | fail)
local macro_rules | `(tactic| wtm_at "g_call") => `(tactic| first
  | ((with_reducible refine' c_digit ?k1 ?k2 ?k3 ?_); (case k1 => wtm_at "g_hp"); (case k2 => omega); (case k3 => omega); intro _ _ _ _)
  | ((with_reducible refine' c_start ?_); intro _ _ _)
  | ((with_reducible refine' c_isint ?_))
  | ((with_reducible refine' c_cell ?k1 ?k2 ?_); (case k1 => wtm_at "g_sq"); (case k2 => omega); intro _)
  | ((with_reducible refine' c_span_of ?k1 ?k2 ?_); (case k1 => omega); (case k2 => omega))
  | ((with_reducible refine' c_bit_of ?k1 ?k2 ?_); (case k1 => omega); (case k2 => omega))
  | ((with_reducible refine' c_law_span ?k1 ?k2 ?_); (case k1 => omega); (case k2 => omega); intro _ _)
  | ((with_reducible refine' c_pair ?k1 ?_); (case k1 => wtm_at "g_hp"); intro _ _)
  | ((with_reducible refine' c_span ?k1 ?k2 ?_); (case k1 => wtm_at "g_hp"); (case k2 => omega))
  | ((with_reducible refine' c_covers ?k1 ?k2 ?_); (case k1 => wtm_at "g_hp"); (case k2 => omega))
  | ((with_reducible refine' c_contains ?k1 ?k2 ?k3 ?_); (case k1 => wtm_at "g_hp"); (case k2 => wtm_at "g_hp"); (case k3 => omega))
  | ((with_reducible refine' c_law_bits ?_); intro _ _ _ _)
  | ((with_reducible refine' c_law_may ?_); intro _ _)
  | ((with_reducible refine' c_law_shares ?k1 ?_); (case k1 => omega); intro _ _)
  | ((with_reducible refine' c_prefix_of ?k1 ?_); (case k1 => omega); intro _ _ _ _ _)
  | ((with_reducible refine' c_law_base ?k1 ?_); (case k1 => wtm_at "g_hp"); intro _ _ _ _ _)
  | ((with_reducible refine' c_law_halves ?k1 ?k2 ?_); (case k1 => wtm_at "g_hp"); (case k2 => assumption); intro _ _)
  | ((with_reducible refine' c_law_one ?k1 ?k2 ?_); (case k1 => wtm_at "g_hp"); (case k2 => assumption); intro _ _))
local macro_rules | `(tactic| wtm_at "g_ne") => `(tactic| first
  | (with_reducible assumption) | (with_reducible exact Ne.symm (by assumption)) | (with_reducible exact ne_of_none (by assumption) (by assumption)) | (with_reducible exact (ne_of_none (by assumption) (by assumption)).symm)
  | fail)
local macro_rules | `(tactic| wtm_at "g_hp") => `(tactic| first
  | (with_reducible assumption) | (with_reducible exact upd_same) | ((with_reducible refine' up_nn ?k1 ?k2); (case k1 => with_reducible assumption); (case k2 => wtm_at "g_hp")) | ((with_reducible refine' up_k' ?k1 ?k2); (case k1 => wtm_at "g_ne"); (case k2 => wtm_at "g_hp"))
  | ((with_reducible refine' up_ko ?k1 ?k2 ?k3); (case k1 => wtm_at "g_hp"); (case k2 => wtm_at "g_hp"); (case k3 => (intro z; cases z)))
  | ((with_reducible refine' ext_get ?k1 ?k2); (case k1 => assumption); (case k2 => wtm_at "g_hp"))
  | ((with_reducible refine' extp_get ?k1 ?k2 ?k3); (case k1 => assumption); (case k2 => wtm_at "g_ne"); (case k3 => wtm_at "g_hp"))
  | fail)
local macro_rules | `(tactic| wtm_at "g_nn") => `(tactic| first
  | (with_reducible assumption) | ((with_reducible refine' none_up ?k1 ?k2); (case k1 => wtm_at "g_ne"); (case k2 => wtm_at "g_nn")) | ((with_reducible refine' none_dn ?k1); (case k1 => with_reducible assumption))
  | fail)
local macro_rules | `(tactic| wtm_at "g_ex") => `(tactic| first
  | (with_reducible assumption) | (with_reducible exact Ext.rfl') | (with_reducible exact ExtP.rfl')
  | ((with_reducible refine' ext_up ?k1 ?k2); (case k1 => wtm_at "g_nn"); (case k2 => wtm_at "g_ex"))
  | ((with_reducible refine' ext_put ?k1 ?k2); (case k1 => wtm_at "g_nn"); (case k2 => wtm_at "g_ex"))
  | ((with_reducible refine' ext_via ?k1 ?k2); (case k1 => assumption); (case k2 => wtm_at "g_ex"))
  | ((with_reducible refine' ext_thr ?k1 ?k2 ?k3); (case k2 => assumption); (case k1 => wtm_at "g_nn"); (case k3 => wtm_at "g_ex"))
  | ((with_reducible refine' extp_put ?k1); (case k1 => wtm_at "g_ex"))
  | ((with_reducible refine' extp_up ?k1 ?k2); (case k1 => wtm_at "g_nn"); (case k2 => wtm_at "g_ex"))
  | ((with_reducible refine' extp_putn ?k1 ?k2); (case k1 => wtm_at "g_nn"); (case k2 => wtm_at "g_ex"))
  | ((with_reducible refine' extp_via ?k1 ?k2); (case k1 => assumption); (case k2 => wtm_at "g_ex"))
  | ((with_reducible refine' extp_viae ?k1 ?k2); (case k1 => assumption); (case k2 => wtm_at "g_ex"))
  | ((with_reducible refine' extp_thr ?k1 ?k2 ?k3); (case k2 => assumption); (case k1 => wtm_at "g_nn"); (case k3 => wtm_at "g_ex"))
  | fail)
local macro_rules | `(tactic| wtm_at "g_thw") => `(tactic| first
  | (with_reducible assumption) | ((with_reducible refine' Thw.lst ?k1); (case k1 => wtm_at "g_hp")) | ((with_reducible refine' Thw.ins ?k1); (case k1 => wtm_at "g_hp"))
  | fail)
local macro_rules | `(tactic| wtm_at "g_sc") => `(tactic| first
  | (with_reducible assumption) | ((with_reducible refine' scr_new' ?k1 ?k2); (case k1 => wtm_at "g_nn"); (case k2 => wtm_at "g_sc")) | ((with_reducible refine' scr_put' ?k1 ?k2); (case k1 => wtm_at "g_thw"); (case k2 => wtm_at "g_sc"))
  | ((with_reducible refine' scr_ext ?k1 ?k2); (case k1 => assumption); (case k2 => wtm_at "g_sc")) | ((with_reducible refine' scr_extp ?k1 ?k2 ?k3); (case k1 => assumption); (case k2 => wtm_at "g_thw"); (case k3 => wtm_at "g_sc")) | ((with_reducible refine' scr_extn ?k1 ?k2 ?k3); (case k1 => assumption); (case k2 => wtm_at "g_nn"); (case k3 => wtm_at "g_sc"))
  | fail)
local macro_rules | `(tactic| wtm_at "g_sq") => `(tactic| first
  | (with_reducible assumption) | ((with_reducible refine' SqL.of ?k1); (case k1 => wtm_at "g_hp")) | ((with_reducible refine' Scr.sq ?k1); (case k1 => wtm_at "g_sc")) | ((with_reducible refine' sq_new' ?k1 ?k2); (case k1 => wtm_at "g_nn"); (case k2 => wtm_at "g_sq")) | ((with_reducible refine' sq_put' ?k1 ?k2); (case k1 => wtm_at "g_ne"); (case k2 => wtm_at "g_sq"))
  | ((with_reducible refine' sq_ext ?k1 ?k2); (case k1 => assumption); (case k2 => wtm_at "g_sq"))
  | fail)
local macro_rules | `(tactic| wtm_at "g_sqt") => `(tactic| first
  | (with_reducible assumption) | ((with_reducible refine' SqT.of' ?k1); (case k1 => wtm_at "g_hp")) | ((with_reducible refine' sqt_ext ?k1 ?k2); (case k1 => assumption); (case k2 => wtm_at "g_sqt"))
  | fail)
local macro_rules | `(tactic| wtm_at "g_st") => `(tactic| first
  | (with_reducible first
      | refine w_seq ?_ | refine w_asg ?_ | refine w_nm ?_ | refine w_next ?_ | refine w_if ?_ | refine w_ret ?_ | refine w_retN ?_ | refine w_drop ?_
      | refine w_var rfl ?_ | refine w_c ?_ | refine w_op ?_ | refine w_I0 ?_
      | refine w_eqI ?_ | refine w_neI ?_ | refine w_eqB ?_ | refine w_neB ?_ | refine w_eqS ?_ | refine w_neS ?_ | refine w_isN0 ?_ | refine w_isNi ?_ | refine w_isNr ?_ | refine w_isNb ?_ | refine w_isNs ?_ | refine w_notN0 ?_ | refine w_notNi ?_ | refine w_notNr ?_ | refine w_notNb ?_ | refine w_notNs ?_ | refine w_isN ?_ | refine w_notN ?_ | refine w_isB ?_ | refine w_notB ?_
      | refine w_un ?_ | refine w_U ?_ | refine w_chain ?_ | refine w_k ?_ | refine w_test ?_ | refine w_tB ?_ | refine w_tru ?_ | refine w_not ?_ | refine w_and ?_ | refine w_or ?_
      | refine w_andV ?_ | refine w_orV ?_ | refine w_notV ?_ | refine w_ife ?_ | refine w_nil ?_ | refine w_cons ?_ | refine w_tup ?_ | refine w_lst ?_ | refine w_small rfl ?_
      | refine w_call ?_ | refine w_mk ?_ | refine w_mt ?_ | refine w_cb ?_ | refine w_min2 ?_ | refine w_max2 ?_ | refine w_abs ?_ | refine w_int ?_
      | refine w_fld0 ?_ | refine w_bm ?_ | refine w_bm0 ?_ | refine w_sub ?_ | refine w_sfld ?_ | refine w_sfa ?_ | refine w_radd ?_ | refine w_rsub ?_ | refine w_ip ?_ | refine w_rs ?_ | refine w_pr ?_
      | refine w_lcR1 ?_ | refine w_lcR2 ?_ | refine w_lcL ?_ | refine w_lcT ?_ | refine w_sl ?_ | refine w_nopart ?_ | refine w_part ?_ | refine w_pint ?_
      | refine w_forR1 ?_ | refine w_forR2 ?_ | refine w_forL ?_ | refine w_forT ?_ | refine w_aug rfl ?_ | refine w_par ?_ | refine w_brk ?_ | refine w_cont ?_
      | refine w_isi_ii ?_ | refine w_isi_ib ?_ | refine w_isi_bi ?_ | refine w_isi_bb ?_ | refine w_isi_ss ?_ | refine w_isi_is ?_ | refine w_isi_il ?_ | refine w_isi_it ?_ | refine w_isi_sl ?_ | refine w_isi_st ?_ | refine w_isi_nl ?_ | refine w_isi_nt ?_
      | refine if_T ?_ | refine if_F ?_ | refine if_nT ?_ | refine if_nF ?_)
  | ((with_reducible refine' w_lenL ?k1 ?_); (case k1 => wtm_at "g_sq"))
  | ((with_reducible refine' w_lenT ?k1 ?_); (case k1 => wtm_at "g_sqt"))
  | ((with_reducible refine' w_isi_ll ?k1 ?_); (case k1 => wtm_at "g_hp"))
  | ((with_reducible refine' w_isi_tt ?k1 ?_); (case k1 => wtm_at "g_hp"))
  | ((with_reducible refine' w_isi_lt ?k1 ?_); (case k1 => wtm_at "g_hp"))
  | ((with_reducible refine' w_isi_tl ?k1 ?_); (case k1 => wtm_at "g_hp"))
  | wtm_at "g_get"
  | wtm_at "g_mt"
  | wtm_at "g_set"
  | wtm_at "g_set2"
  | wtm_at "g_call"
  | fail)
local macro_rules | `(tactic| wtm_at "g_go") => `(tactic| repeat wtm_at "g_st")
local macro_rules | `(tactic| wtm_at "g_ifo") => `(tactic| first
  | (refine if_nno rfl ?_) | (refine if_yes rfl ?_)
  | (refine if_no (by omega) ?_)
  | (refine if_yes (by omega) ?_)
  | (refine if_nno (by omega) ?_)
  | (refine if_nyes (by omega) ?_)
  | (refine if_nno (decide_eq_false (by omega)).symm ?_)
  | (refine if_nno (decide_eq_true (by omega)).symm ?_)
  | fail)
local macro_rules | `(tactic| wtm_at "g_goo") => `(tactic| repeat (first | wtm_at "g_st" | wtm_at "g_ifo"))
section
variable {K : PySem.W.Frag} {mg : Str → Option Value} {base : Heap}
theorem pure_law_cell (T : TX K mg base) (vs : List V) (H : Hp) (Q : VK) (E : XK) (h : sp_law_cell K vs H Q E) : t_law_cell K E { nx := fun _ H' => Q .non H', rt := Q } (start N_law_cell vs) H := by
  obtain ⟨a, ns, k, rfl, hS, h0, q⟩ := h
  unfold t_law_cell
  wtm_at "g_go"
  rw [List.length_map]
  refine if_d (fun hk => ?_) (fun hk => ?_)
  · wtm_at "g_go"
    obtain ⟨z, hz⟩ : ∃ z, ns[k.toNat]? = some z := ⟨ns[k.toNat], List.getElem?_eq_getElem (by omega)⟩
    refine w_ixL hS (at_of (j := k.toNat) (v := V.int z) (by omega) (by rw [List.getElem?_map, hz]; rfl)) (q z)
  · wtm_at "g_go"
    exact q 0
theorem pure_law_digit (T : TX K mg base) (vs : List V) (H : Hp) (Q : VK) (E : XK) (h : sp_law_digit K vs H Q E) : t_law_digit K E { nx := fun _ H' => Q .non H', rt := Q } (start N_law_digit vs) H := by
  obtain ⟨p, n, m, rfl, hp, h0, h1, q⟩ := h
  unfold t_law_digit
  wtm_at "g_go"
  refine w_ixL (SqL.of hp) (v := .int n) rfl ?_
  wtm_at "g_go"
  refine w_I h0 ?_
  wtm_at "g_go"
  refine w_ixL (SqL.of hp) (v := .int n) rfl ?_
  wtm_at "g_go"
  refine w_I (digit_div h0 h1 _) ?_
  wtm_at "g_go"
  refine w_setL hp (j := 0) rfl ?_
  wtm_at "g_go"
  exact q _ _ (Int.emod_nonneg _ (by omega)) (Int.emod_lt_of_pos _ h0)
theorem pure_law_start (T : TX K mg base) (vs : List V) (H : Hp) (Q : VK) (E : XK) (h : sp_law_start K vs H Q E) : t_law_start K E { nx := fun _ H' => Q .non H', rt := Q } (start N_law_start vs) H := by
  obtain ⟨c, k, rfl, q⟩ := h
  unfold t_law_start
  wtm_at "g_go"
  refine if_d (fun h1 => ?_) (fun h1 => ?_)
  · wtm_at "g_go"
    refine if_d (fun h2 => ?_) (fun h2 => ?_)
    · wtm_at "g_go"
      refine w_I (.inr (by decide)) ?_
      wtm_at "g_go"
      refine w_I (.inr (by decide)) ?_
      wtm_at "g_go"
      refine w_I (by decide) ?_
      wtm_at "g_go"
      refine loop1 (n := 4) (fun i σ H' => H' = H ∧ ∃ (m n : Int) (v : Option V), σ = [some (.int c), some (.int k), some (.int 618970019642690137449562111), some (.int m), some (.int n), v] ∧ 0 ≤ m ∧ m < 618970019642690137449562111 ∧ 0 ≤ n ∧ n < (618970019642690137449562111 : Int) ^ i) rfl (by decide)
        ⟨rfl, _, _, _, rfl, Int.emod_nonneg _ (by decide), Int.emod_lt_of_pos _ (by decide), by decide, by decide⟩ ?_ ?_
      · rintro i σ H' hi ⟨rfl, m, n, v, rfl, m0, m1, n0, n1⟩
        obtain ⟨b1, b2⟩ := pr_pow i hi
        have e3 : (618970019642690137449562111 : Int) < 618970019642690137449562111 ^ 3 + 1 := by decide +kernel
        wtm_at "g_go"
        refine w_I (wide_mul (a := 300) (b := 300) (small_w m0 (Int.lt_trans m1 e3)) (small_w m0 (Int.lt_trans m1 e3)) (by decide) (by decide) (by decide)) ?_
        wtm_at "g_go"
        refine w_I (.inl (by decide)) ?_
        wtm_at "g_go"
        refine w_I (by decide) ?_
        wtm_at "g_go"
        refine w_I (wide_mul (a := 300) (b := 300) (small_w n0 (Int.lt_trans n1 b1)) (small_w (by decide) e3) (by decide) (by decide) (by decide)) ?_
        wtm_at "g_go"
        refine ⟨rfl, _, _, _, rfl, Int.emod_nonneg _ (by decide), Int.emod_lt_of_pos _ (by decide), ?_⟩
        rw [Int.pow_succ]
        exact num_step n0 n1 (Int.emod_nonneg _ (by decide)) (Int.emod_lt_of_pos _ (by decide))
      · rintro σ H' ⟨rfl, m, n, v, rfl, m0, m1, n0, n1⟩
        wtm_at "g_go"
        exact q n
    · wtm_at "g_go"
      exact q c
  · wtm_at "g_go"
    exact q c
end
section
variable {K : PySem.W.Frag} {mg : Str → Option Value} {base : Heap}
theorem spans_at {l : Int} (h0 : 0 ≤ l) (h1 : l ≤ 16) : atI v_SPANS l = some (V.int (sn l)) := by
  have h := sn_lit l h0 h1
  rcases h with h | h | h | h | h | h | h | h | h | h | h | h | h | h | h | h | h <;> (obtain ⟨rfl, e⟩ := h; rw [e]; rfl)
theorem pure_span_of (T : TX K mg base) (vs : List V) (H : Hp) (Q : VK) (E : XK) (h : sp_span_of K vs H Q E) : t_span_of K E { nx := fun _ H' => Q .non H', rt := Q } (start N_span_of vs) H := by
  obtain ⟨l, rfl, h0, h1, q⟩ := h
  unfold t_span_of
  wtm_at "g_go"
  exact w_ixT (kx_SPANS T H) (spans_at h0 h1) q
theorem pure_law_span (T : TX K mg base) (vs : List V) (H : Hp) (Q : VK) (E : XK) (h : sp_law_span K vs H Q E) : t_law_span K E { nx := fun _ H' => Q .non H', rt := Q } (start N_law_span vs) H := by
  obtain ⟨l, rfl, h0, h1, q⟩ := h
  unfold t_law_span
  wtm_at "g_go"
  intro p hp
  wtm_at "g_go"
  exact w_ixT (xs := v_SPANS) (SqT.of' upd_same) (spans_at h0 h1) (q _ (by wtm_at "g_ex"))
theorem pure_bit_of (T : TX K mg base) (vs : List V) (H : Hp) (Q : VK) (E : XK) (h : sp_bit_of K vs H Q E) : t_bit_of K E { nx := fun _ H' => Q .non H', rt := Q } (start N_bit_of vs) H := by
  obtain ⟨a, l, rfl, h0, h1, q⟩ := h
  unfold t_bit_of
  wtm_at "g_go"
  refine w_I ⟨sn_pos, by have := sn_small (l := l + 1) (by omega) (by omega); omega⟩ ?_
  wtm_at "g_go"
  refine w_I (by decide) q
theorem pure_Prefix_init (T : TX K mg base) (vs : List V) (H : Hp) (Q : VK) (E : XK) (h : sp_Prefix_init K vs H Q E) : t_Prefix_init K E { nx := fun _ H' => Q .non H', rt := Q } (start N_Prefix_init vs) H := by
  obtain ⟨p, dx, b, l, rfl, hp, q1, q2⟩ := h
  unfold t_Prefix_init
  wtm_at "g_go"
  by_cases h0 : 0 ≤ l
  case neg =>
    wtm_at "g_goo"
    exact q1 fun o => h0 o.1
  by_cases h1 : l ≤ 16
  case neg =>
    wtm_at "g_goo"
    exact q1 fun o => h1 o.2.1
  wtm_at "g_goo"
  by_cases h2 : 0 ≤ b
  case neg =>
    wtm_at "g_goo"
    exact q1 fun o => h2 o.2.2.1
  by_cases h3 : b < 65536
  case neg =>
    wtm_at "g_goo"
    exact q1 fun o => h3 o.2.2.2.1
  wtm_at "g_goo"
  refine w_I sn_pos ?_
  wtm_at "g_go"
  refine if_nd (fun h4 => ?_) (fun h4 => ?_)
  · wtm_at "g_go"
    exact q1 fun o => h4 o.2.2.2.2
  · wtm_at "g_go"
    rw [upd_upd]
    exact q2 ⟨h0, h1, h2, h3, h4⟩
theorem pure_Prefix__eq (T : TX K mg base) (vs : List V) (H : Hp) (Q : VK) (E : XK) (h : sp_Prefix__eq K vs H Q E) : t_Prefix__eq K E { nx := fun _ H' => Q .non H', rt := Q } (start N_Prefix__eq vs) H := by
  obtain ⟨p, dx, b, l, y, rfl, hp, ⟨dy, c, m, hy, q⟩ | ⟨xs, hy, q⟩⟩ := h
  · unfold t_Prefix__eq
    wtm_at "g_go"
    refine w_isi_own hy (insB_ok (T.b.ex_ 0)) (.own _) (of_decide_eq_true (T.b.ex_ 1)) ?_
    refine ⟨true, rfl, ?_⟩
    wtm_at "g_go"
    refine if_d (fun h1 => ?_) (fun h1 => ?_)
    · wtm_at "g_go"
      have e : decide (b = c ∧ l = m) = decide (l = m) := decide_eq_decide.mpr (by omega)
      rw [← e]
      exact q
    · have e : decide (b = c ∧ l = m) = false := decide_eq_false (by omega)
      rw [← e]
      exact q
  · unfold t_Prefix__eq
    wtm_at "g_go"
    refine w_isi (.own _) (.base (.tup hy)) (of_decide_eq_true (T.b.ex_ 2)) ?_
    exact ⟨false, rfl, q⟩
theorem pure_Prefix_pair (T : TX K mg base) (vs : List V) (H : Hp) (Q : VK) (E : XK) (h : sp_Prefix_pair K vs H Q E) : t_Prefix_pair K E { nx := fun _ H' => Q .non H', rt := Q } (start N_Prefix_pair vs) H := by
  obtain ⟨p, dx, b, l, rfl, hp, q⟩ := h
  unfold t_Prefix_pair
  wtm_at "g_go"
  exact q
theorem pure_Prefix_span (T : TX K mg base) (vs : List V) (H : Hp) (Q : VK) (E : XK) (h : sp_Prefix_span K vs H Q E) : t_Prefix_span K E { nx := fun _ H' => Q .non H', rt := Q } (start N_Prefix_span vs) H := by
  obtain ⟨p, dx, b, l, rfl, hp, h0, h1, q⟩ := h
  unfold t_Prefix_span
  wtm_at "g_go"
  exact q
theorem pure_Prefix_covers (T : TX K mg base) (vs : List V) (H : Hp) (Q : VK) (E : XK) (h : sp_Prefix_covers K vs H Q E) : t_Prefix_covers K E { nx := fun _ H' => Q .non H', rt := Q } (start N_Prefix_covers vs) H := by
  obtain ⟨p, dx, b, l, a, rfl, hp, h0, h1, q⟩ := h
  unfold t_Prefix_covers
  wtm_at "g_go"
  refine if_d (fun h2 => ?_) (fun h2 => ?_)
  · wtm_at "g_go"
    have e : decide (b ≤ a ∧ a < b + sn l) = decide (a < b + sn l) := decide_eq_decide.mpr ⟨fun z => z.2, fun z => ⟨h2, z⟩⟩
    rw [← e]
    exact q
  · have e : decide (b ≤ a ∧ a < b + sn l) = false := decide_eq_false fun z => h2 z.1
    rw [← e]
    exact q
theorem pure_Prefix_contains (T : TX K mg base) (vs : List V) (H : Hp) (Q : VK) (E : XK) (h : sp_Prefix_contains K vs H Q E) : t_Prefix_contains K E { nx := fun _ H' => Q .non H', rt := Q } (start N_Prefix_contains vs) H := by
  obtain ⟨p, dx, b, l, y, dy, c, m, rfl, hp, hy, h0, h1, q⟩ := h
  unfold t_Prefix_contains
  wtm_at "g_go"
  refine if_d (fun h2 => ?_) (fun h2 => ?_)
  · wtm_at "g_go"
    have e : decide (l ≤ m ∧ b ≤ c ∧ c < b + sn l) = decide (b ≤ c ∧ c < b + sn l) := decide_eq_decide.mpr ⟨fun z => z.2, fun z => ⟨h2, z⟩⟩
    rw [← e]
    exact q
  · have e : decide (l ≤ m ∧ b ≤ c ∧ c < b + sn l) = false := decide_eq_false fun z => h2 z.1
    rw [← e]
    exact q
theorem c_init {p dx : Addr} {b l : Int} {H : Hp} {Q : VK} {E : XK} (o : Ok b l) (h : H p = some (.ins (cP K) dx [])) (q : Q .non (upd H p (oP K dx b l))) : sp_Prefix_init K [.ref p, .int b, .int l] H Q E := ⟨p, dx, b, l, rfl, h, fun z => absurd o z, fun _ => q⟩
theorem pure_prefix_of (T : TX K mg base) (vs : List V) (H : Hp) (Q : VK) (E : XK) (h : sp_prefix_of K vs H Q E) : t_prefix_of K E { nx := fun _ H' => Q .non H', rt := Q } (start N_prefix_of vs) H := by
  obtain ⟨a, l, rfl, h0, h1, h2, h3, q⟩ := h
  unfold t_prefix_of
  wtm_at "g_go"
  refine w_I sn_pos ?_
  wtm_at "g_go"
  intro x dx hx hdx ne
  refine c_init (of_ok h0 h1 h2 h3) upd_same ⟨rfl, ?_⟩
  rw [upd_upd]
  exact q _ x dx (by wtm_at "g_ex") upd_same
theorem pure_Prefix_halves (T : TX K mg base) (vs : List V) (H : Hp) (Q : VK) (E : XK) (h : sp_Prefix_halves K vs H Q E) : t_Prefix_halves K E { nx := fun _ H' => Q .non H', rt := Q } (start N_Prefix_halves vs) H := by
  obtain ⟨p, dx, b, l, rfl, hp, o, q1, q2⟩ := h
  obtain ⟨h0, h1, h2, h3, h4⟩ := id o
  unfold t_Prefix_halves
  wtm_at "g_go"
  refine if_d (fun h5 => ?_) (fun h5 => ?_)
  · wtm_at "g_go"
    exact q1 h5
  have hk := half_ok o (by omega)
  wtm_at "g_go"
  intro x dx1 hx hdx1 ne1
  refine c_init hk.1 upd_same ⟨rfl, ?_⟩
  rw [upd_upd]
  wtm_at "g_go"
  intro y dy hy hdy ne2
  refine c_init hk.2 upd_same ⟨rfl, ?_⟩
  rw [upd_upd]
  wtm_at "g_go"
  intro t ht
  obtain ⟨n1, hy1⟩ := up_none hy
  obtain ⟨n2, hy2⟩ := up_none hy1
  obtain ⟨n3, hd1⟩ := up_none hdy
  obtain ⟨n4, hd2⟩ := up_none hd1
  obtain ⟨n5, ht1⟩ := up_none ht
  obtain ⟨n6, ht2⟩ := up_none ht1
  obtain ⟨n7, ht3⟩ := up_none ht2
  obtain ⟨n8, ht4⟩ := up_none ht3
  refine q2 (by omega) _ t x dx1 y dy ?_ upd_same ?_ ?_
  · wtm_at "g_ex"
  · wtm_at "g_hp"
  · wtm_at "g_hp"
theorem pure_law_is_integer (T : TX K mg base) (vs : List V) (H : Hp) (Q : VK) (E : XK) (h : sp_law_is_integer K vs H Q E) : t_law_is_integer K E { nx := fun _ H' => Q .non H', rt := Q } (start N_law_is_integer vs) H := by
  obtain ⟨x, rfl, ⟨i, rfl, q⟩ | ⟨i, rfl, q⟩⟩ := h
  · unfold t_law_is_integer
    wtm_at "g_go"
    exact q
  · unfold t_law_is_integer
    wtm_at "g_go"
    exact q
end
end K72

namespace K72
open PySem PySem.Spec PyProof.Rows L2 G
local macro_rules | `(tactic| wtm_at "g_get") => `(tactic| first
  | ((with_reducible refine' w_fld ?k1 (cl_Prefix (by assumption)) (na_Prefix_base (by assumption)) lk_Prefix_base ?_); (case k1 => wtm_at "g_hp"))
  | ((with_reducible refine' w_fld ?k1 (cl_Prefix (by assumption)) (na_Prefix_length (by assumption)) lk_Prefix_length ?_); (case k1 => wtm_at "g_hp"))
  | fail)
local macro_rules | `(tactic| wtm_at "g_set") => `(tactic| first
  | ((with_reducible refine' w_sput ?k1 (cl_Prefix (by assumption)) (na_Prefix_base (by assumption)) pt_Prefix_base rfl ?_); (case k1 => wtm_at "g_hp"))
  | ((with_reducible refine' w_sput ?k1 (cl_Prefix (by assumption)) (na_Prefix_base (by assumption)) pn_Prefix_base rfl ?_); (case k1 => wtm_at "g_hp"))
  | ((with_reducible refine' w_sput ?k1 (cl_Prefix (by assumption)) (na_Prefix_length (by assumption)) pt_Prefix_length rfl ?_); (case k1 => wtm_at "g_hp"))
  | ((with_reducible refine' w_sput ?k1 (cl_Prefix (by assumption)) (na_Prefix_length (by assumption)) pn_Prefix_length rfl ?_); (case k1 => wtm_at "g_hp"))
  | fail)
local macro_rules | `(tactic| wtm_at "g_set2") => `(tactic| first
  | ((with_reducible refine' w_sput2 ?k1 pt_Prefix_base rfl ?_); (case k1 => wtm_at "g_hp"))
  | ((with_reducible refine' w_sput2 ?k1 pt_Prefix_length rfl ?_); (case k1 => wtm_at "g_hp"))
  | fail)
local macro_rules | `(tactic| wtm_at "g_mt") => `(tactic| first
  | ((with_reducible refine' w_mt1 ?k1 ln_Prefix___eq__ ?_); (case k1 => wtm_at "g_hp"))
  | ((with_reducible refine' w_mt1 ?k1 ln_Prefix_pair ?_); (case k1 => wtm_at "g_hp"))
  | ((with_reducible refine' w_mt1 ?k1 ln_Prefix_span ?_); (case k1 => wtm_at "g_hp"))
  | ((with_reducible refine' w_mt1 ?k1 ln_Prefix_covers ?_); (case k1 => wtm_at "g_hp"))
  | ((with_reducible refine' w_mt1 ?k1 ln_Prefix_contains ?_); (case k1 => wtm_at "g_hp"))
  | ((with_reducible refine' w_mt1 ?k1 ln_Prefix_halves ?_); (case k1 => wtm_at "g_hp"))
  | fail)
local macro_rules | `(tactic| wtm_at "g_call") => `(tactic| first
  | ((with_reducible refine' c_digit ?k1 ?k2 ?k3 ?_); (case k1 => wtm_at "g_hp"); (case k2 => omega); (case k3 => omega); intro _ _ _ _)
  | ((with_reducible refine' c_start ?_); intro _ _ _)
  | ((with_reducible refine' c_isint ?_))
  | ((with_reducible refine' c_cell ?k1 ?k2 ?_); (case k1 => wtm_at "g_sq"); (case k2 => omega); intro _)
  | ((with_reducible refine' c_span_of ?k1 ?k2 ?_); (case k1 => omega); (case k2 => omega))
  | ((with_reducible refine' c_bit_of ?k1 ?k2 ?_); (case k1 => omega); (case k2 => omega))
  | ((with_reducible refine' c_law_span ?k1 ?k2 ?_); (case k1 => omega); (case k2 => omega); intro _ _)
  | ((with_reducible refine' c_pair ?k1 ?_); (case k1 => wtm_at "g_hp"); intro _ _)
  | ((with_reducible refine' c_span ?k1 ?k2 ?_); (case k1 => wtm_at "g_hp"); (case k2 => omega))
  | ((with_reducible refine' c_covers ?k1 ?k2 ?_); (case k1 => wtm_at "g_hp"); (case k2 => omega))
  | ((with_reducible refine' c_contains ?k1 ?k2 ?k3 ?_); (case k1 => wtm_at "g_hp"); (case k2 => wtm_at "g_hp"); (case k3 => omega))
  | ((with_reducible refine' c_law_bits ?_); intro _ _ _ _)
  | ((with_reducible refine' c_law_may ?_); intro _ _)
  | ((with_reducible refine' c_law_shares ?k1 ?_); (case k1 => omega); intro _ _)
  | ((with_reducible refine' c_prefix_of ?k1 ?_); (case k1 => omega); intro _ _ _ _ _)
  | ((with_reducible refine' c_law_base ?k1 ?_); (case k1 => wtm_at "g_hp"); intro _ _ _ _ _)
  | ((with_reducible refine' c_law_halves ?k1 ?k2 ?_); (case k1 => wtm_at "g_hp"); (case k2 => assumption); intro _ _)
  | ((with_reducible refine' c_law_one ?k1 ?k2 ?_); (case k1 => wtm_at "g_hp"); (case k2 => assumption); intro _ _))
local macro_rules | `(tactic| wtm_at "g_ne") => `(tactic| first
  | (with_reducible assumption) | (with_reducible exact Ne.symm (by assumption)) | (with_reducible exact ne_of_none (by assumption) (by assumption)) | (with_reducible exact (ne_of_none (by assumption) (by assumption)).symm)
  | fail)
local macro_rules | `(tactic| wtm_at "g_hp") => `(tactic| first
  | (with_reducible assumption) | (with_reducible exact upd_same) | ((with_reducible refine' up_nn ?k1 ?k2); (case k1 => with_reducible assumption); (case k2 => wtm_at "g_hp")) | ((with_reducible refine' up_k' ?k1 ?k2); (case k1 => wtm_at "g_ne"); (case k2 => wtm_at "g_hp"))
  | ((with_reducible refine' up_ko ?k1 ?k2 ?k3); (case k1 => wtm_at "g_hp"); (case k2 => wtm_at "g_hp"); (case k3 => (intro z; cases z)))
  | ((with_reducible refine' ext_get ?k1 ?k2); (case k1 => assumption); (case k2 => wtm_at "g_hp"))
  | ((with_reducible refine' extp_get ?k1 ?k2 ?k3); (case k1 => assumption); (case k2 => wtm_at "g_ne"); (case k3 => wtm_at "g_hp"))
  | fail)
local macro_rules | `(tactic| wtm_at "g_nn") => `(tactic| first
  | (with_reducible assumption) | ((with_reducible refine' none_up ?k1 ?k2); (case k1 => wtm_at "g_ne"); (case k2 => wtm_at "g_nn")) | ((with_reducible refine' none_dn ?k1); (case k1 => with_reducible assumption))
  | fail)
local macro_rules | `(tactic| wtm_at "g_ex") => `(tactic| first
  | (with_reducible assumption) | (with_reducible exact Ext.rfl') | (with_reducible exact ExtP.rfl')
  | ((with_reducible refine' ext_up ?k1 ?k2); (case k1 => wtm_at "g_nn"); (case k2 => wtm_at "g_ex"))
  | ((with_reducible refine' ext_put ?k1 ?k2); (case k1 => wtm_at "g_nn"); (case k2 => wtm_at "g_ex"))
  | ((with_reducible refine' ext_via ?k1 ?k2); (case k1 => assumption); (case k2 => wtm_at "g_ex"))
  | ((with_reducible refine' ext_thr ?k1 ?k2 ?k3); (case k2 => assumption); (case k1 => wtm_at "g_nn"); (case k3 => wtm_at "g_ex"))
  | ((with_reducible refine' extp_put ?k1); (case k1 => wtm_at "g_ex"))
  | ((with_reducible refine' extp_up ?k1 ?k2); (case k1 => wtm_at "g_nn"); (case k2 => wtm_at "g_ex"))
  | ((with_reducible refine' extp_putn ?k1 ?k2); (case k1 => wtm_at "g_nn"); (case k2 => wtm_at "g_ex"))
  | ((with_reducible refine' extp_via ?k1 ?k2); (case k1 => assumption); (case k2 => wtm_at "g_ex"))
  | ((with_reducible refine' extp_viae ?k1 ?k2); (case k1 => assumption); (case k2 => wtm_at "g_ex"))
  | ((with_reducible refine' extp_thr ?k1 ?k2 ?k3); (case k2 => assumption); (case k1 => wtm_at "g_nn"); (case k3 => wtm_at "g_ex"))
  | fail)
local macro_rules | `(tactic| wtm_at "g_thw") => `(tactic| first
  | (with_reducible assumption) | ((with_reducible refine' Thw.lst ?k1); (case k1 => wtm_at "g_hp")) | ((with_reducible refine' Thw.ins ?k1); (case k1 => wtm_at "g_hp"))
  | fail)
local macro_rules | `(tactic| wtm_at "g_sc") => `(tactic| first
  | (with_reducible assumption) | ((with_reducible refine' scr_new' ?k1 ?k2); (case k1 => wtm_at "g_nn"); (case k2 => wtm_at "g_sc")) | ((with_reducible refine' scr_put' ?k1 ?k2); (case k1 => wtm_at "g_thw"); (case k2 => wtm_at "g_sc"))
  | ((with_reducible refine' scr_ext ?k1 ?k2); (case k1 => assumption); (case k2 => wtm_at "g_sc")) | ((with_reducible refine' scr_extp ?k1 ?k2 ?k3); (case k1 => assumption); (case k2 => wtm_at "g_thw"); (case k3 => wtm_at "g_sc")) | ((with_reducible refine' scr_extn ?k1 ?k2 ?k3); (case k1 => assumption); (case k2 => wtm_at "g_nn"); (case k3 => wtm_at "g_sc"))
  | fail)
local macro_rules | `(tactic| wtm_at "g_sq") => `(tactic| first
  | (with_reducible assumption) | ((with_reducible refine' SqL.of ?k1); (case k1 => wtm_at "g_hp")) | ((with_reducible refine' Scr.sq ?k1); (case k1 => wtm_at "g_sc")) | ((with_reducible refine' sq_new' ?k1 ?k2); (case k1 => wtm_at "g_nn"); (case k2 => wtm_at "g_sq")) | ((with_reducible refine' sq_put' ?k1 ?k2); (case k1 => wtm_at "g_ne"); (case k2 => wtm_at "g_sq"))
  | ((with_reducible refine' sq_ext ?k1 ?k2); (case k1 => assumption); (case k2 => wtm_at "g_sq"))
  | fail)
local macro_rules | `(tactic| wtm_at "g_sqt") => `(tactic| first
  | (with_reducible assumption) | ((with_reducible refine' SqT.of' ?k1); (case k1 => wtm_at "g_hp")) | ((with_reducible refine' sqt_ext ?k1 ?k2); (case k1 => assumption); (case k2 => wtm_at "g_sqt"))
  | fail)
local macro_rules | `(tactic| wtm_at "g_st") => `(tactic| first
  | (with_reducible first
      | refine w_seq ?_ | refine w_asg ?_ | refine w_nm ?_ | refine w_next ?_ | refine w_if ?_ | refine w_ret ?_ | refine w_retN ?_ | refine w_drop ?_
      | refine w_var rfl ?_ | refine w_c ?_ | refine w_op ?_ | refine w_I0 ?_
      | refine w_eqI ?_ | refine w_neI ?_ | refine w_eqB ?_ | refine w_neB ?_ | refine w_eqS ?_ | refine w_neS ?_ | refine w_isN0 ?_ | refine w_isNi ?_ | refine w_isNr ?_ | refine w_isNb ?_ | refine w_isNs ?_ | refine w_notN0 ?_ | refine w_notNi ?_ | refine w_notNr ?_ | refine w_notNb ?_ | refine w_notNs ?_ | refine w_isN ?_ | refine w_notN ?_ | refine w_isB ?_ | refine w_notB ?_
      | refine w_un ?_ | refine w_U ?_ | refine w_chain ?_ | refine w_k ?_ | refine w_test ?_ | refine w_tB ?_ | refine w_tru ?_ | refine w_not ?_ | refine w_and ?_ | refine w_or ?_
      | refine w_andV ?_ | refine w_orV ?_ | refine w_notV ?_ | refine w_ife ?_ | refine w_nil ?_ | refine w_cons ?_ | refine w_tup ?_ | refine w_lst ?_ | refine w_small rfl ?_
      | refine w_call ?_ | refine w_mk ?_ | refine w_mt ?_ | refine w_cb ?_ | refine w_min2 ?_ | refine w_max2 ?_ | refine w_abs ?_ | refine w_int ?_
      | refine w_fld0 ?_ | refine w_bm ?_ | refine w_bm0 ?_ | refine w_sub ?_ | refine w_sfld ?_ | refine w_sfa ?_ | refine w_radd ?_ | refine w_rsub ?_ | refine w_ip ?_ | refine w_rs ?_ | refine w_pr ?_
      | refine w_lcR1 ?_ | refine w_lcR2 ?_ | refine w_lcL ?_ | refine w_lcT ?_ | refine w_sl ?_ | refine w_nopart ?_ | refine w_part ?_ | refine w_pint ?_
      | refine w_forR1 ?_ | refine w_forR2 ?_ | refine w_forL ?_ | refine w_forT ?_ | refine w_aug rfl ?_ | refine w_par ?_ | refine w_brk ?_ | refine w_cont ?_
      | refine w_isi_ii ?_ | refine w_isi_ib ?_ | refine w_isi_bi ?_ | refine w_isi_bb ?_ | refine w_isi_ss ?_ | refine w_isi_is ?_ | refine w_isi_il ?_ | refine w_isi_it ?_ | refine w_isi_sl ?_ | refine w_isi_st ?_ | refine w_isi_nl ?_ | refine w_isi_nt ?_
      | refine if_T ?_ | refine if_F ?_ | refine if_nT ?_ | refine if_nF ?_)
  | ((with_reducible refine' w_lenL ?k1 ?_); (case k1 => wtm_at "g_sq"))
  | ((with_reducible refine' w_lenT ?k1 ?_); (case k1 => wtm_at "g_sqt"))
  | ((with_reducible refine' w_isi_ll ?k1 ?_); (case k1 => wtm_at "g_hp"))
  | ((with_reducible refine' w_isi_tt ?k1 ?_); (case k1 => wtm_at "g_hp"))
  | ((with_reducible refine' w_isi_lt ?k1 ?_); (case k1 => wtm_at "g_hp"))
  | ((with_reducible refine' w_isi_tl ?k1 ?_); (case k1 => wtm_at "g_hp"))
  | wtm_at "g_get"
  | wtm_at "g_mt"
  | wtm_at "g_set"
  | wtm_at "g_set2"
  | wtm_at "g_call"
  | fail)
local macro_rules | `(tactic| wtm_at "g_go") => `(tactic| repeat wtm_at "g_st")
local macro_rules | `(tactic| wtm_at "g_ifo") => `(tactic| first
  | (refine if_nno rfl ?_) | (refine if_yes rfl ?_)
  | (refine if_no (by omega) ?_)
  | (refine if_yes (by omega) ?_)
  | (refine if_nno (by omega) ?_)
  | (refine if_nyes (by omega) ?_)
  | (refine if_nno (decide_eq_false (by omega)).symm ?_)
  | (refine if_nno (decide_eq_true (by omega)).symm ?_)
  | fail)
local macro_rules | `(tactic| wtm_at "g_goo") => `(tactic| repeat (first | wtm_at "g_st" | wtm_at "g_ifo"))
section
variable {K : PySem.W.Frag} {mg : Str → Option Value} {base : Heap}
theorem accM_ints {f : Nat → Int} {n : Nat} : accM (fun i => V.int (f i)) n = ((List.range n).map f).map V.int := by
  unfold accM
  rw [List.map_map]
  rfl
theorem pure_law_bits (T : TX K mg base) (vs : List V) (H : Hp) (Q : VK) (E : XK) (h : sp_law_bits K vs H Q E) : t_law_bits K E { nx := fun _ H' => Q .non H', rt := Q } (start N_law_bits vs) H := by
  obtain ⟨a, rfl, q⟩ := h
  unfold t_law_bits
  wtm_at "g_go"
  refine lcR1 (n := 16) (fun k => V.int (a / sn ((k : Int) + 1) % 2)) rfl (by decide) (fun i D H1 hi hD e hA => ?_) (fun D H1 hD e hA => ?_)
  · wtm_at "g_go"
    refine w_I ⟨sn_pos, by have := sn_small (l := (i : Int) + 1) (by omega) (by omega); omega⟩ ?_
    wtm_at "g_go"
    refine w_I (by decide) ?_
    exact lc_one (by wtm_at "g_hp") (by wtm_at "g_ex") hD (by omega) rfl
  · refine q H1 D e ?_
    rw [hA]
    exact congrArg (fun z => some (HO.lst z)) accM_ints
end
end K72

namespace K72
open PySem PySem.Spec PyProof.Rows L2 G
local macro_rules | `(tactic| wtm_at "g_get") => `(tactic| first
  | ((with_reducible refine' w_fld ?k1 (cl_Prefix (by assumption)) (na_Prefix_base (by assumption)) lk_Prefix_base ?_); (case k1 => wtm_at "g_hp"))
  | ((with_reducible refine' w_fld ?k1 (cl_Prefix (by assumption)) (na_Prefix_length (by assumption)) lk_Prefix_length ?_); (case k1 => wtm_at "g_hp"))
  | fail)
local macro_rules | `(tactic| wtm_at "g_set") => `(tactic| first
  | ((with_reducible refine' w_sput ?k1 (cl_Prefix (by assumption)) (na_Prefix_base (by assumption)) pt_Prefix_base rfl ?_); (case k1 => wtm_at "g_hp"))
  | ((with_reducible refine' w_sput ?k1 (cl_Prefix (by assumption)) (na_Prefix_base (by assumption)) pn_Prefix_base rfl ?_); (case k1 => wtm_at "g_hp"))
  | ((with_reducible refine' w_sput ?k1 (cl_Prefix (by assumption)) (na_Prefix_length (by assumption)) pt_Prefix_length rfl ?_); (case k1 => wtm_at "g_hp"))
  | ((with_reducible refine' w_sput ?k1 (cl_Prefix (by assumption)) (na_Prefix_length (by assumption)) pn_Prefix_length rfl ?_); (case k1 => wtm_at "g_hp"))
  | fail)
local macro_rules | `(tactic| wtm_at "g_set2") => `(tactic| first
  | ((with_reducible refine' w_sput2 ?k1 pt_Prefix_base rfl ?_); (case k1 => wtm_at "g_hp"))
  | ((with_reducible refine' w_sput2 ?k1 pt_Prefix_length rfl ?_); (case k1 => wtm_at "g_hp"))
  | fail)
local macro_rules | `(tactic| wtm_at "g_mt") => `(tactic| first
  | ((with_reducible refine' w_mt1 ?k1 ln_Prefix___eq__ ?_); (case k1 => wtm_at "g_hp"))
  | ((with_reducible refine' w_mt1 ?k1 ln_Prefix_pair ?_); (case k1 => wtm_at "g_hp"))
  | ((with_reducible refine' w_mt1 ?k1 ln_Prefix_span ?_); (case k1 => wtm_at "g_hp"))
  | ((with_reducible refine' w_mt1 ?k1 ln_Prefix_covers ?_); (case k1 => wtm_at "g_hp"))
  | ((with_reducible refine' w_mt1 ?k1 ln_Prefix_contains ?_); (case k1 => wtm_at "g_hp"))
  | ((with_reducible refine' w_mt1 ?k1 ln_Prefix_halves ?_); (case k1 => wtm_at "g_hp"))
  | fail)
local macro_rules | `(tactic| wtm_at "g_call") => `(tactic| first
  | ((with_reducible refine' c_digit ?k1 ?k2 ?k3 ?_); (case k1 => wtm_at "g_hp"); (case k2 => omega); (case k3 => omega); intro _ _ _ _)
  | ((with_reducible refine' c_start ?_); intro _ _ _)
  | ((with_reducible refine' c_isint ?_))
  | ((with_reducible refine' c_cell ?k1 ?k2 ?_); (case k1 => wtm_at "g_sq"); (case k2 => omega); intro _)
  | ((with_reducible refine' c_span_of ?k1 ?k2 ?_); (case k1 => omega); (case k2 => omega))
  | ((with_reducible refine' c_bit_of ?k1 ?k2 ?_); (case k1 => omega); (case k2 => omega))
  | ((with_reducible refine' c_law_span ?k1 ?k2 ?_); (case k1 => omega); (case k2 => omega); intro _ _)
  | ((with_reducible refine' c_pair ?k1 ?_); (case k1 => wtm_at "g_hp"); intro _ _)
  | ((with_reducible refine' c_span ?k1 ?k2 ?_); (case k1 => wtm_at "g_hp"); (case k2 => omega))
  | ((with_reducible refine' c_covers ?k1 ?k2 ?_); (case k1 => wtm_at "g_hp"); (case k2 => omega))
  | ((with_reducible refine' c_contains ?k1 ?k2 ?k3 ?_); (case k1 => wtm_at "g_hp"); (case k2 => wtm_at "g_hp"); (case k3 => omega))
  | ((with_reducible refine' c_law_bits ?_); intro _ _ _ _)
  | ((with_reducible refine' c_law_may ?_); intro _ _)
  | ((with_reducible refine' c_law_shares ?k1 ?_); (case k1 => omega); intro _ _)
  | ((with_reducible refine' c_prefix_of ?k1 ?_); (case k1 => omega); intro _ _ _ _ _)
  | ((with_reducible refine' c_law_base ?k1 ?_); (case k1 => wtm_at "g_hp"); intro _ _ _ _ _)
  | ((with_reducible refine' c_law_halves ?k1 ?k2 ?_); (case k1 => wtm_at "g_hp"); (case k2 => assumption); intro _ _)
  | ((with_reducible refine' c_law_one ?k1 ?k2 ?_); (case k1 => wtm_at "g_hp"); (case k2 => assumption); intro _ _))
local macro_rules | `(tactic| wtm_at "g_ne") => `(tactic| first
  | (with_reducible assumption) | (with_reducible exact Ne.symm (by assumption)) | (with_reducible exact ne_of_none (by assumption) (by assumption)) | (with_reducible exact (ne_of_none (by assumption) (by assumption)).symm)
  | fail)
local macro_rules | `(tactic| wtm_at "g_hp") => `(tactic| first
  | (with_reducible assumption) | (with_reducible exact upd_same) | ((with_reducible refine' up_nn ?k1 ?k2); (case k1 => with_reducible assumption); (case k2 => wtm_at "g_hp")) | ((with_reducible refine' up_k' ?k1 ?k2); (case k1 => wtm_at "g_ne"); (case k2 => wtm_at "g_hp"))
  | ((with_reducible refine' up_ko ?k1 ?k2 ?k3); (case k1 => wtm_at "g_hp"); (case k2 => wtm_at "g_hp"); (case k3 => (intro z; cases z)))
  | ((with_reducible refine' ext_get ?k1 ?k2); (case k1 => assumption); (case k2 => wtm_at "g_hp"))
  | ((with_reducible refine' extp_get ?k1 ?k2 ?k3); (case k1 => assumption); (case k2 => wtm_at "g_ne"); (case k3 => wtm_at "g_hp"))
  | fail)
local macro_rules | `(tactic| wtm_at "g_nn") => `(tactic| first
  | (with_reducible assumption) | ((with_reducible refine' none_up ?k1 ?k2); (case k1 => wtm_at "g_ne"); (case k2 => wtm_at "g_nn")) | ((with_reducible refine' none_dn ?k1); (case k1 => with_reducible assumption))
  | fail)
local macro_rules | `(tactic| wtm_at "g_ex") => `(tactic| first
  | (with_reducible assumption) | (with_reducible exact Ext.rfl') | (with_reducible exact ExtP.rfl')
  | ((with_reducible refine' ext_up ?k1 ?k2); (case k1 => wtm_at "g_nn"); (case k2 => wtm_at "g_ex"))
  | ((with_reducible refine' ext_put ?k1 ?k2); (case k1 => wtm_at "g_nn"); (case k2 => wtm_at "g_ex"))
  | ((with_reducible refine' ext_via ?k1 ?k2); (case k1 => assumption); (case k2 => wtm_at "g_ex"))
  | ((with_reducible refine' ext_thr ?k1 ?k2 ?k3); (case k2 => assumption); (case k1 => wtm_at "g_nn"); (case k3 => wtm_at "g_ex"))
  | ((with_reducible refine' extp_put ?k1); (case k1 => wtm_at "g_ex"))
  | ((with_reducible refine' extp_up ?k1 ?k2); (case k1 => wtm_at "g_nn"); (case k2 => wtm_at "g_ex"))
  | ((with_reducible refine' extp_putn ?k1 ?k2); (case k1 => wtm_at "g_nn"); (case k2 => wtm_at "g_ex"))
  | ((with_reducible refine' extp_via ?k1 ?k2); (case k1 => assumption); (case k2 => wtm_at "g_ex"))
  | ((with_reducible refine' extp_viae ?k1 ?k2); (case k1 => assumption); (case k2 => wtm_at "g_ex"))
  | ((with_reducible refine' extp_thr ?k1 ?k2 ?k3); (case k2 => assumption); (case k1 => wtm_at "g_nn"); (case k3 => wtm_at "g_ex"))
  | fail)
local macro_rules | `(tactic| wtm_at "g_thw") => `(tactic| first
  | (with_reducible assumption) | ((with_reducible refine' Thw.lst ?k1); (case k1 => wtm_at "g_hp")) | ((with_reducible refine' Thw.ins ?k1); (case k1 => wtm_at "g_hp"))
  | fail)
local macro_rules | `(tactic| wtm_at "g_sc") => `(tactic| first
  | (with_reducible assumption) | ((with_reducible refine' scr_new' ?k1 ?k2); (case k1 => wtm_at "g_nn"); (case k2 => wtm_at "g_sc")) | ((with_reducible refine' scr_put' ?k1 ?k2); (case k1 => wtm_at "g_thw"); (case k2 => wtm_at "g_sc"))
  | ((with_reducible refine' scr_ext ?k1 ?k2); (case k1 => assumption); (case k2 => wtm_at "g_sc")) | ((with_reducible refine' scr_extp ?k1 ?k2 ?k3); (case k1 => assumption); (case k2 => wtm_at "g_thw"); (case k3 => wtm_at "g_sc")) | ((with_reducible refine' scr_extn ?k1 ?k2 ?k3); (case k1 => assumption); (case k2 => wtm_at "g_nn"); (case k3 => wtm_at "g_sc"))
  | fail)
local macro_rules | `(tactic| wtm_at "g_sq") => `(tactic| first
  | (with_reducible assumption) | ((with_reducible refine' SqL.of ?k1); (case k1 => wtm_at "g_hp")) | ((with_reducible refine' Scr.sq ?k1); (case k1 => wtm_at "g_sc")) | ((with_reducible refine' sq_new' ?k1 ?k2); (case k1 => wtm_at "g_nn"); (case k2 => wtm_at "g_sq")) | ((with_reducible refine' sq_put' ?k1 ?k2); (case k1 => wtm_at "g_ne"); (case k2 => wtm_at "g_sq"))
  | ((with_reducible refine' sq_ext ?k1 ?k2); (case k1 => assumption); (case k2 => wtm_at "g_sq"))
  | fail)
local macro_rules | `(tactic| wtm_at "g_sqt") => `(tactic| first
  | (with_reducible assumption) | ((with_reducible refine' SqT.of' ?k1); (case k1 => wtm_at "g_hp")) | ((with_reducible refine' sqt_ext ?k1 ?k2); (case k1 => assumption); (case k2 => wtm_at "g_sqt"))
  | fail)
local macro_rules | `(tactic| wtm_at "g_st") => `(tactic| first
  | (with_reducible first
      | refine w_seq ?_ | refine w_asg ?_ | refine w_nm ?_ | refine w_next ?_ | refine w_if ?_ | refine w_ret ?_ | refine w_retN ?_ | refine w_drop ?_
      | refine w_var rfl ?_ | refine w_c ?_ | refine w_op ?_ | refine w_I0 ?_
      | refine w_eqI ?_ | refine w_neI ?_ | refine w_eqB ?_ | refine w_neB ?_ | refine w_eqS ?_ | refine w_neS ?_ | refine w_isN0 ?_ | refine w_isNi ?_ | refine w_isNr ?_ | refine w_isNb ?_ | refine w_isNs ?_ | refine w_notN0 ?_ | refine w_notNi ?_ | refine w_notNr ?_ | refine w_notNb ?_ | refine w_notNs ?_ | refine w_isN ?_ | refine w_notN ?_ | refine w_isB ?_ | refine w_notB ?_
      | refine w_un ?_ | refine w_U ?_ | refine w_chain ?_ | refine w_k ?_ | refine w_test ?_ | refine w_tB ?_ | refine w_tru ?_ | refine w_not ?_ | refine w_and ?_ | refine w_or ?_
      | refine w_andV ?_ | refine w_orV ?_ | refine w_notV ?_ | refine w_ife ?_ | refine w_nil ?_ | refine w_cons ?_ | refine w_tup ?_ | refine w_lst ?_ | refine w_small rfl ?_
      | refine w_call ?_ | refine w_mk ?_ | refine w_mt ?_ | refine w_cb ?_ | refine w_min2 ?_ | refine w_max2 ?_ | refine w_abs ?_ | refine w_int ?_
      | refine w_fld0 ?_ | refine w_bm ?_ | refine w_bm0 ?_ | refine w_sub ?_ | refine w_sfld ?_ | refine w_sfa ?_ | refine w_radd ?_ | refine w_rsub ?_ | refine w_ip ?_ | refine w_rs ?_ | refine w_pr ?_
      | refine w_lcR1 ?_ | refine w_lcR2 ?_ | refine w_lcL ?_ | refine w_lcT ?_ | refine w_sl ?_ | refine w_nopart ?_ | refine w_part ?_ | refine w_pint ?_
      | refine w_forR1 ?_ | refine w_forR2 ?_ | refine w_forL ?_ | refine w_forT ?_ | refine w_aug rfl ?_ | refine w_par ?_ | refine w_brk ?_ | refine w_cont ?_
      | refine w_isi_ii ?_ | refine w_isi_ib ?_ | refine w_isi_bi ?_ | refine w_isi_bb ?_ | refine w_isi_ss ?_ | refine w_isi_is ?_ | refine w_isi_il ?_ | refine w_isi_it ?_ | refine w_isi_sl ?_ | refine w_isi_st ?_ | refine w_isi_nl ?_ | refine w_isi_nt ?_
      | refine if_T ?_ | refine if_F ?_ | refine if_nT ?_ | refine if_nF ?_)
  | ((with_reducible refine' w_lenL ?k1 ?_); (case k1 => wtm_at "g_sq"))
  | ((with_reducible refine' w_lenT ?k1 ?_); (case k1 => wtm_at "g_sqt"))
  | ((with_reducible refine' w_isi_ll ?k1 ?_); (case k1 => wtm_at "g_hp"))
  | ((with_reducible refine' w_isi_tt ?k1 ?_); (case k1 => wtm_at "g_hp"))
  | ((with_reducible refine' w_isi_lt ?k1 ?_); (case k1 => wtm_at "g_hp"))
  | ((with_reducible refine' w_isi_tl ?k1 ?_); (case k1 => wtm_at "g_hp"))
  | wtm_at "g_get"
  | wtm_at "g_mt"
  | wtm_at "g_set"
  | wtm_at "g_set2"
  | wtm_at "g_call"
  | fail)
local macro_rules | `(tactic| wtm_at "g_go") => `(tactic| repeat wtm_at "g_st")
local macro_rules | `(tactic| wtm_at "g_ifo") => `(tactic| first
  | (refine if_nno rfl ?_) | (refine if_yes rfl ?_)
  | (refine if_no (by omega) ?_)
  | (refine if_yes (by omega) ?_)
  | (refine if_nno (by omega) ?_)
  | (refine if_nyes (by omega) ?_)
  | (refine if_nno (decide_eq_false (by omega)).symm ?_)
  | (refine if_nno (decide_eq_true (by omega)).symm ?_)
  | fail)
local macro_rules | `(tactic| wtm_at "g_goo") => `(tactic| repeat (first | wtm_at "g_st" | wtm_at "g_ifo"))
section
variable {K : PySem.W.Frag} {mg : Str → Option Value} {base : Heap}
theorem pure_law_shares (T : TX K mg base) (vs : List V) (H : Hp) (Q : VK) (E : XK) (h : sp_law_shares K vs H Q E) : t_law_shares K E { nx := fun _ H' => Q .non H', rt := Q } (start N_law_shares vs) H := by
  obtain ⟨b, l, a, rfl, h0, h1, q⟩ := h
  unfold t_law_shares
  wtm_at "g_go"
  rename_i H1 p1 e1 hp1
  refine w_slLto (SqL.of hp1) h0 fun p2 hp2 => ?_
  wtm_at "g_go"
  rename_i H2 p3 e2 hp3
  refine w_slLto (SqL.of hp3) h0 fun p4 hp4 => ?_
  wtm_at "g_go"
  refine w_eqLI (xs := (bits b).take l.toNat) (ys := (bits a).take l.toNat) (by rw [List.map_take]; wtm_at "g_sq") (by rw [List.map_take]; wtm_at "g_sq") ?_
  exact q _ (by wtm_at "g_ex")
end
end K72

namespace K72
open PySem PySem.Spec PyProof.Rows L2 G
local macro_rules | `(tactic| wtm_at "g_get") => `(tactic| first
  | ((with_reducible refine' w_fld ?k1 (cl_Prefix (by assumption)) (na_Prefix_base (by assumption)) lk_Prefix_base ?_); (case k1 => wtm_at "g_hp"))
  | ((with_reducible refine' w_fld ?k1 (cl_Prefix (by assumption)) (na_Prefix_length (by assumption)) lk_Prefix_length ?_); (case k1 => wtm_at "g_hp"))
  | fail)
local macro_rules | `(tactic| wtm_at "g_set") => `(tactic| first
  | ((with_reducible refine' w_sput ?k1 (cl_Prefix (by assumption)) (na_Prefix_base (by assumption)) pt_Prefix_base rfl ?_); (case k1 => wtm_at "g_hp"))
  | ((with_reducible refine' w_sput ?k1 (cl_Prefix (by assumption)) (na_Prefix_base (by assumption)) pn_Prefix_base rfl ?_); (case k1 => wtm_at "g_hp"))
  | ((with_reducible refine' w_sput ?k1 (cl_Prefix (by assumption)) (na_Prefix_length (by assumption)) pt_Prefix_length rfl ?_); (case k1 => wtm_at "g_hp"))
  | ((with_reducible refine' w_sput ?k1 (cl_Prefix (by assumption)) (na_Prefix_length (by assumption)) pn_Prefix_length rfl ?_); (case k1 => wtm_at "g_hp"))
  | fail)
local macro_rules | `(tactic| wtm_at "g_set2") => `(tactic| first
  | ((with_reducible refine' w_sput2 ?k1 pt_Prefix_base rfl ?_); (case k1 => wtm_at "g_hp"))
  | ((with_reducible refine' w_sput2 ?k1 pt_Prefix_length rfl ?_); (case k1 => wtm_at "g_hp"))
  | fail)
local macro_rules | `(tactic| wtm_at "g_mt") => `(tactic| first
  | ((with_reducible refine' w_mt1 ?k1 ln_Prefix___eq__ ?_); (case k1 => wtm_at "g_hp"))
  | ((with_reducible refine' w_mt1 ?k1 ln_Prefix_pair ?_); (case k1 => wtm_at "g_hp"))
  | ((with_reducible refine' w_mt1 ?k1 ln_Prefix_span ?_); (case k1 => wtm_at "g_hp"))
  | ((with_reducible refine' w_mt1 ?k1 ln_Prefix_covers ?_); (case k1 => wtm_at "g_hp"))
  | ((with_reducible refine' w_mt1 ?k1 ln_Prefix_contains ?_); (case k1 => wtm_at "g_hp"))
  | ((with_reducible refine' w_mt1 ?k1 ln_Prefix_halves ?_); (case k1 => wtm_at "g_hp"))
  | fail)
local macro_rules | `(tactic| wtm_at "g_call") => `(tactic| first
  | ((with_reducible refine' c_digit ?k1 ?k2 ?k3 ?_); (case k1 => wtm_at "g_hp"); (case k2 => omega); (case k3 => omega); intro _ _ _ _)
  | ((with_reducible refine' c_start ?_); intro _ _ _)
  | ((with_reducible refine' c_isint ?_))
  | ((with_reducible refine' c_cell ?k1 ?k2 ?_); (case k1 => wtm_at "g_sq"); (case k2 => omega); intro _)
  | ((with_reducible refine' c_span_of ?k1 ?k2 ?_); (case k1 => omega); (case k2 => omega))
  | ((with_reducible refine' c_bit_of ?k1 ?k2 ?_); (case k1 => omega); (case k2 => omega))
  | ((with_reducible refine' c_law_span ?k1 ?k2 ?_); (case k1 => omega); (case k2 => omega); intro _ _)
  | ((with_reducible refine' c_pair ?k1 ?_); (case k1 => wtm_at "g_hp"); intro _ _)
  | ((with_reducible refine' c_span ?k1 ?k2 ?_); (case k1 => wtm_at "g_hp"); (case k2 => omega))
  | ((with_reducible refine' c_covers ?k1 ?k2 ?_); (case k1 => wtm_at "g_hp"); (case k2 => omega))
  | ((with_reducible refine' c_contains ?k1 ?k2 ?k3 ?_); (case k1 => wtm_at "g_hp"); (case k2 => wtm_at "g_hp"); (case k3 => omega))
  | ((with_reducible refine' c_law_bits ?_); intro _ _ _ _)
  | ((with_reducible refine' c_law_may ?_); intro _ _)
  | ((with_reducible refine' c_law_shares ?k1 ?_); (case k1 => omega); intro _ _)
  | ((with_reducible refine' c_prefix_of ?k1 ?_); (case k1 => omega); intro _ _ _ _ _)
  | ((with_reducible refine' c_law_base ?k1 ?_); (case k1 => wtm_at "g_hp"); intro _ _ _ _ _)
  | ((with_reducible refine' c_law_halves ?k1 ?k2 ?_); (case k1 => wtm_at "g_hp"); (case k2 => assumption); intro _ _)
  | ((with_reducible refine' c_law_one ?k1 ?k2 ?_); (case k1 => wtm_at "g_hp"); (case k2 => assumption); intro _ _))
local macro_rules | `(tactic| wtm_at "g_ne") => `(tactic| first
  | (with_reducible assumption) | (with_reducible exact Ne.symm (by assumption)) | (with_reducible exact ne_of_none (by assumption) (by assumption)) | (with_reducible exact (ne_of_none (by assumption) (by assumption)).symm)
  | fail)
local macro_rules | `(tactic| wtm_at "g_hp") => `(tactic| first
  | (with_reducible assumption) | (with_reducible exact upd_same) | ((with_reducible refine' up_nn ?k1 ?k2); (case k1 => with_reducible assumption); (case k2 => wtm_at "g_hp")) | ((with_reducible refine' up_k' ?k1 ?k2); (case k1 => wtm_at "g_ne"); (case k2 => wtm_at "g_hp"))
  | ((with_reducible refine' up_ko ?k1 ?k2 ?k3); (case k1 => wtm_at "g_hp"); (case k2 => wtm_at "g_hp"); (case k3 => (intro z; cases z)))
  | ((with_reducible refine' ext_get ?k1 ?k2); (case k1 => assumption); (case k2 => wtm_at "g_hp"))
  | ((with_reducible refine' extp_get ?k1 ?k2 ?k3); (case k1 => assumption); (case k2 => wtm_at "g_ne"); (case k3 => wtm_at "g_hp"))
  | fail)
local macro_rules | `(tactic| wtm_at "g_nn") => `(tactic| first
  | (with_reducible assumption) | ((with_reducible refine' none_up ?k1 ?k2); (case k1 => wtm_at "g_ne"); (case k2 => wtm_at "g_nn")) | ((with_reducible refine' none_dn ?k1); (case k1 => with_reducible assumption))
  | fail)
local macro_rules | `(tactic| wtm_at "g_ex") => `(tactic| first
  | (with_reducible assumption) | (with_reducible exact Ext.rfl') | (with_reducible exact ExtP.rfl')
  | ((with_reducible refine' ext_up ?k1 ?k2); (case k1 => wtm_at "g_nn"); (case k2 => wtm_at "g_ex"))
  | ((with_reducible refine' ext_put ?k1 ?k2); (case k1 => wtm_at "g_nn"); (case k2 => wtm_at "g_ex"))
  | ((with_reducible refine' ext_via ?k1 ?k2); (case k1 => assumption); (case k2 => wtm_at "g_ex"))
  | ((with_reducible refine' ext_thr ?k1 ?k2 ?k3); (case k2 => assumption); (case k1 => wtm_at "g_nn"); (case k3 => wtm_at "g_ex"))
  | ((with_reducible refine' extp_put ?k1); (case k1 => wtm_at "g_ex"))
  | ((with_reducible refine' extp_up ?k1 ?k2); (case k1 => wtm_at "g_nn"); (case k2 => wtm_at "g_ex"))
  | ((with_reducible refine' extp_putn ?k1 ?k2); (case k1 => wtm_at "g_nn"); (case k2 => wtm_at "g_ex"))
  | ((with_reducible refine' extp_via ?k1 ?k2); (case k1 => assumption); (case k2 => wtm_at "g_ex"))
  | ((with_reducible refine' extp_viae ?k1 ?k2); (case k1 => assumption); (case k2 => wtm_at "g_ex"))
  | ((with_reducible refine' extp_thr ?k1 ?k2 ?k3); (case k2 => assumption); (case k1 => wtm_at "g_nn"); (case k3 => wtm_at "g_ex"))
  | fail)
local macro_rules | `(tactic| wtm_at "g_thw") => `(tactic| first
  | (with_reducible assumption) | ((with_reducible refine' Thw.lst ?k1); (case k1 => wtm_at "g_hp")) | ((with_reducible refine' Thw.ins ?k1); (case k1 => wtm_at "g_hp"))
  | fail)
local macro_rules | `(tactic| wtm_at "g_sc") => `(tactic| first
  | (with_reducible assumption) | ((with_reducible refine' scr_new' ?k1 ?k2); (case k1 => wtm_at "g_nn"); (case k2 => wtm_at "g_sc")) | ((with_reducible refine' scr_put' ?k1 ?k2); (case k1 => wtm_at "g_thw"); (case k2 => wtm_at "g_sc"))
  | ((with_reducible refine' scr_ext ?k1 ?k2); (case k1 => assumption); (case k2 => wtm_at "g_sc")) | ((with_reducible refine' scr_extp ?k1 ?k2 ?k3); (case k1 => assumption); (case k2 => wtm_at "g_thw"); (case k3 => wtm_at "g_sc")) | ((with_reducible refine' scr_extn ?k1 ?k2 ?k3); (case k1 => assumption); (case k2 => wtm_at "g_nn"); (case k3 => wtm_at "g_sc"))
  | fail)
local macro_rules | `(tactic| wtm_at "g_sq") => `(tactic| first
  | (with_reducible assumption) | ((with_reducible refine' SqL.of ?k1); (case k1 => wtm_at "g_hp")) | ((with_reducible refine' Scr.sq ?k1); (case k1 => wtm_at "g_sc")) | ((with_reducible refine' sq_new' ?k1 ?k2); (case k1 => wtm_at "g_nn"); (case k2 => wtm_at "g_sq")) | ((with_reducible refine' sq_put' ?k1 ?k2); (case k1 => wtm_at "g_ne"); (case k2 => wtm_at "g_sq"))
  | ((with_reducible refine' sq_ext ?k1 ?k2); (case k1 => assumption); (case k2 => wtm_at "g_sq"))
  | fail)
local macro_rules | `(tactic| wtm_at "g_sqt") => `(tactic| first
  | (with_reducible assumption) | ((with_reducible refine' SqT.of' ?k1); (case k1 => wtm_at "g_hp")) | ((with_reducible refine' sqt_ext ?k1 ?k2); (case k1 => assumption); (case k2 => wtm_at "g_sqt"))
  | fail)
local macro_rules | `(tactic| wtm_at "g_st") => `(tactic| first
  | (with_reducible first
      | refine w_seq ?_ | refine w_asg ?_ | refine w_nm ?_ | refine w_next ?_ | refine w_if ?_ | refine w_ret ?_ | refine w_retN ?_ | refine w_drop ?_
      | refine w_var rfl ?_ | refine w_c ?_ | refine w_op ?_ | refine w_I0 ?_
      | refine w_eqI ?_ | refine w_neI ?_ | refine w_eqB ?_ | refine w_neB ?_ | refine w_eqS ?_ | refine w_neS ?_ | refine w_isN0 ?_ | refine w_isNi ?_ | refine w_isNr ?_ | refine w_isNb ?_ | refine w_isNs ?_ | refine w_notN0 ?_ | refine w_notNi ?_ | refine w_notNr ?_ | refine w_notNb ?_ | refine w_notNs ?_ | refine w_isN ?_ | refine w_notN ?_ | refine w_isB ?_ | refine w_notB ?_
      | refine w_un ?_ | refine w_U ?_ | refine w_chain ?_ | refine w_k ?_ | refine w_test ?_ | refine w_tB ?_ | refine w_tru ?_ | refine w_not ?_ | refine w_and ?_ | refine w_or ?_
      | refine w_andV ?_ | refine w_orV ?_ | refine w_notV ?_ | refine w_ife ?_ | refine w_nil ?_ | refine w_cons ?_ | refine w_tup ?_ | refine w_lst ?_ | refine w_small rfl ?_
      | refine w_call ?_ | refine w_mk ?_ | refine w_mt ?_ | refine w_cb ?_ | refine w_min2 ?_ | refine w_max2 ?_ | refine w_abs ?_ | refine w_int ?_
      | refine w_fld0 ?_ | refine w_bm ?_ | refine w_bm0 ?_ | refine w_sub ?_ | refine w_sfld ?_ | refine w_sfa ?_ | refine w_radd ?_ | refine w_rsub ?_ | refine w_ip ?_ | refine w_rs ?_ | refine w_pr ?_
      | refine w_lcR1 ?_ | refine w_lcR2 ?_ | refine w_lcL ?_ | refine w_lcT ?_ | refine w_sl ?_ | refine w_nopart ?_ | refine w_part ?_ | refine w_pint ?_
      | refine w_forR1 ?_ | refine w_forR2 ?_ | refine w_forL ?_ | refine w_forT ?_ | refine w_aug rfl ?_ | refine w_par ?_ | refine w_brk ?_ | refine w_cont ?_
      | refine w_isi_ii ?_ | refine w_isi_ib ?_ | refine w_isi_bi ?_ | refine w_isi_bb ?_ | refine w_isi_ss ?_ | refine w_isi_is ?_ | refine w_isi_il ?_ | refine w_isi_it ?_ | refine w_isi_sl ?_ | refine w_isi_st ?_ | refine w_isi_nl ?_ | refine w_isi_nt ?_
      | refine if_T ?_ | refine if_F ?_ | refine if_nT ?_ | refine if_nF ?_)
  | ((with_reducible refine' w_lenL ?k1 ?_); (case k1 => wtm_at "g_sq"))
  | ((with_reducible refine' w_lenT ?k1 ?_); (case k1 => wtm_at "g_sqt"))
  | ((with_reducible refine' w_isi_ll ?k1 ?_); (case k1 => wtm_at "g_hp"))
  | ((with_reducible refine' w_isi_tt ?k1 ?_); (case k1 => wtm_at "g_hp"))
  | ((with_reducible refine' w_isi_lt ?k1 ?_); (case k1 => wtm_at "g_hp"))
  | ((with_reducible refine' w_isi_tl ?k1 ?_); (case k1 => wtm_at "g_hp"))
  | wtm_at "g_get"
  | wtm_at "g_mt"
  | wtm_at "g_set"
  | wtm_at "g_set2"
  | wtm_at "g_call"
  | fail)
local macro_rules | `(tactic| wtm_at "g_go") => `(tactic| repeat wtm_at "g_st")
local macro_rules | `(tactic| wtm_at "g_ifo") => `(tactic| first
  | (refine if_nno rfl ?_) | (refine if_yes rfl ?_)
  | (refine if_no (by omega) ?_)
  | (refine if_yes (by omega) ?_)
  | (refine if_nno (by omega) ?_)
  | (refine if_nyes (by omega) ?_)
  | (refine if_nno (decide_eq_false (by omega)).symm ?_)
  | (refine if_nno (decide_eq_true (by omega)).symm ?_)
  | fail)
local macro_rules | `(tactic| wtm_at "g_goo") => `(tactic| repeat (first | wtm_at "g_st" | wtm_at "g_ifo"))
section
variable {K : PySem.W.Frag} {mg : Str → Option Value} {base : Heap}
theorem pure_law_may (T : TX K mg base) (vs : List V) (H : Hp) (Q : VK) (E : XK) (h : sp_law_may K vs H Q E) : t_law_may K E { nx := fun _ H' => Q .non H', rt := Q } (start N_law_may vs) H := by
  obtain ⟨b, l, rfl, q⟩ := h
  have no : ∀ h : ¬ Ok b l, Q (.bl false) H := fun h => by
    have e : decide (Ok b l) = false := decide_eq_false h
    rw [← e]
    exact q H Ext.rfl'
  unfold t_law_may
  wtm_at "g_go"
  by_cases h0 : l < 0
  case pos =>
    wtm_at "g_goo"
    exact no fun o => by have := o.1; omega
  by_cases h1 : 16 < l
  case pos =>
    wtm_at "g_goo"
    exact no fun o => by have := o.2.1; omega
  by_cases h2 : b < 0
  case pos =>
    wtm_at "g_goo"
    exact no fun o => by have := o.2.2.1; omega
  by_cases h3 : 65535 < b
  case pos =>
    wtm_at "g_goo"
    exact no fun o => by have := o.2.2.2.1; omega
  wtm_at "g_goo"
  rename_i H1 p1 e1 hp1
  refine w_slLfrom (SqL.of hp1) (by omega) fun p2 hp2 => ?_
  wtm_at "g_go"
  refine lcR1 (n := 16 - l.toNat) (fun k => V.int 0) (by omega) (by omega) (fun i D H2 hi hD e hA => ?_) (fun D H2 hD e hA => ?_)
  · wtm_at "g_go"
    exact lc_one (by wtm_at "g_hp") (by wtm_at "g_ex") hD (by omega) rfl
  · have e0 : accM (fun _ => V.int 0) (16 - l.toNat) = (List.replicate (16 - l.toNat) (0 : Int)).map V.int := by
      rw [List.map_replicate]
      unfold accM
      rw [List.map_const', List.length_range]
    rw [e0] at hA
    wtm_at "g_go"
    refine w_eqLI (xs := (bits b).drop l.toNat) (ys := List.replicate (16 - l.toNat) (0 : Int)) (by rw [List.map_drop]; wtm_at "g_sq") (by wtm_at "g_sq") ?_
    rw [may_iff (by omega) (by omega) (by omega) (by omega)]
    exact q _ (by wtm_at "g_ex")
end
end K72

namespace K72
open PySem PySem.Spec PyProof.Rows L2 G
local macro_rules | `(tactic| wtm_at "g_get") => `(tactic| first
  | ((with_reducible refine' w_fld ?k1 (cl_Prefix (by assumption)) (na_Prefix_base (by assumption)) lk_Prefix_base ?_); (case k1 => wtm_at "g_hp"))
  | ((with_reducible refine' w_fld ?k1 (cl_Prefix (by assumption)) (na_Prefix_length (by assumption)) lk_Prefix_length ?_); (case k1 => wtm_at "g_hp"))
  | fail)
local macro_rules | `(tactic| wtm_at "g_set") => `(tactic| first
  | ((with_reducible refine' w_sput ?k1 (cl_Prefix (by assumption)) (na_Prefix_base (by assumption)) pt_Prefix_base rfl ?_); (case k1 => wtm_at "g_hp"))
  | ((with_reducible refine' w_sput ?k1 (cl_Prefix (by assumption)) (na_Prefix_base (by assumption)) pn_Prefix_base rfl ?_); (case k1 => wtm_at "g_hp"))
  | ((with_reducible refine' w_sput ?k1 (cl_Prefix (by assumption)) (na_Prefix_length (by assumption)) pt_Prefix_length rfl ?_); (case k1 => wtm_at "g_hp"))
  | ((with_reducible refine' w_sput ?k1 (cl_Prefix (by assumption)) (na_Prefix_length (by assumption)) pn_Prefix_length rfl ?_); (case k1 => wtm_at "g_hp"))
  | fail)
local macro_rules | `(tactic| wtm_at "g_set2") => `(tactic| first
  | ((with_reducible refine' w_sput2 ?k1 pt_Prefix_base rfl ?_); (case k1 => wtm_at "g_hp"))
  | ((with_reducible refine' w_sput2 ?k1 pt_Prefix_length rfl ?_); (case k1 => wtm_at "g_hp"))
  | fail)
local macro_rules | `(tactic| wtm_at "g_mt") => `(tactic| first
  | ((with_reducible refine' w_mt1 ?k1 ln_Prefix___eq__ ?_); (case k1 => wtm_at "g_hp"))
  | ((with_reducible refine' w_mt1 ?k1 ln_Prefix_pair ?_); (case k1 => wtm_at "g_hp"))
  | ((with_reducible refine' w_mt1 ?k1 ln_Prefix_span ?_); (case k1 => wtm_at "g_hp"))
  | ((with_reducible refine' w_mt1 ?k1 ln_Prefix_covers ?_); (case k1 => wtm_at "g_hp"))
  | ((with_reducible refine' w_mt1 ?k1 ln_Prefix_contains ?_); (case k1 => wtm_at "g_hp"))
  | ((with_reducible refine' w_mt1 ?k1 ln_Prefix_halves ?_); (case k1 => wtm_at "g_hp"))
  | fail)
local macro_rules | `(tactic| wtm_at "g_call") => `(tactic| first
  | ((with_reducible refine' c_digit ?k1 ?k2 ?k3 ?_); (case k1 => wtm_at "g_hp"); (case k2 => omega); (case k3 => omega); intro _ _ _ _)
  | ((with_reducible refine' c_start ?_); intro _ _ _)
  | ((with_reducible refine' c_isint ?_))
  | ((with_reducible refine' c_cell ?k1 ?k2 ?_); (case k1 => wtm_at "g_sq"); (case k2 => omega); intro _)
  | ((with_reducible refine' c_span_of ?k1 ?k2 ?_); (case k1 => omega); (case k2 => omega))
  | ((with_reducible refine' c_bit_of ?k1 ?k2 ?_); (case k1 => omega); (case k2 => omega))
  | ((with_reducible refine' c_law_span ?k1 ?k2 ?_); (case k1 => omega); (case k2 => omega); intro _ _)
  | ((with_reducible refine' c_pair ?k1 ?_); (case k1 => wtm_at "g_hp"); intro _ _)
  | ((with_reducible refine' c_span ?k1 ?k2 ?_); (case k1 => wtm_at "g_hp"); (case k2 => omega))
  | ((with_reducible refine' c_covers ?k1 ?k2 ?_); (case k1 => wtm_at "g_hp"); (case k2 => omega))
  | ((with_reducible refine' c_contains ?k1 ?k2 ?k3 ?_); (case k1 => wtm_at "g_hp"); (case k2 => wtm_at "g_hp"); (case k3 => omega))
  | ((with_reducible refine' c_law_bits ?_); intro _ _ _ _)
  | ((with_reducible refine' c_law_may ?_); intro _ _)
  | ((with_reducible refine' c_law_shares ?k1 ?_); (case k1 => omega); intro _ _)
  | ((with_reducible refine' c_prefix_of ?k1 ?_); (case k1 => omega); intro _ _ _ _ _)
  | ((with_reducible refine' c_law_base ?k1 ?_); (case k1 => wtm_at "g_hp"); intro _ _ _ _ _)
  | ((with_reducible refine' c_law_halves ?k1 ?k2 ?_); (case k1 => wtm_at "g_hp"); (case k2 => assumption); intro _ _)
  | ((with_reducible refine' c_law_one ?k1 ?k2 ?_); (case k1 => wtm_at "g_hp"); (case k2 => assumption); intro _ _))
local macro_rules | `(tactic| wtm_at "g_ne") => `(tactic| first
  | (with_reducible assumption) | (with_reducible exact Ne.symm (by assumption)) | (with_reducible exact ne_of_none (by assumption) (by assumption)) | (with_reducible exact (ne_of_none (by assumption) (by assumption)).symm)
  | fail)
local macro_rules | `(tactic| wtm_at "g_hp") => `(tactic| first
  | (with_reducible assumption) | (with_reducible exact upd_same) | ((with_reducible refine' up_nn ?k1 ?k2); (case k1 => with_reducible assumption); (case k2 => wtm_at "g_hp")) | ((with_reducible refine' up_k' ?k1 ?k2); (case k1 => wtm_at "g_ne"); (case k2 => wtm_at "g_hp"))
  | ((with_reducible refine' up_ko ?k1 ?k2 ?k3); (case k1 => wtm_at "g_hp"); (case k2 => wtm_at "g_hp"); (case k3 => (intro z; cases z)))
  | ((with_reducible refine' ext_get ?k1 ?k2); (case k1 => assumption); (case k2 => wtm_at "g_hp"))
  | ((with_reducible refine' extp_get ?k1 ?k2 ?k3); (case k1 => assumption); (case k2 => wtm_at "g_ne"); (case k3 => wtm_at "g_hp"))
  | fail)
local macro_rules | `(tactic| wtm_at "g_nn") => `(tactic| first
  | (with_reducible assumption) | ((with_reducible refine' none_up ?k1 ?k2); (case k1 => wtm_at "g_ne"); (case k2 => wtm_at "g_nn")) | ((with_reducible refine' none_dn ?k1); (case k1 => with_reducible assumption))
  | fail)
local macro_rules | `(tactic| wtm_at "g_ex") => `(tactic| first
  | (with_reducible assumption) | (with_reducible exact Ext.rfl') | (with_reducible exact ExtP.rfl')
  | ((with_reducible refine' ext_up ?k1 ?k2); (case k1 => wtm_at "g_nn"); (case k2 => wtm_at "g_ex"))
  | ((with_reducible refine' ext_put ?k1 ?k2); (case k1 => wtm_at "g_nn"); (case k2 => wtm_at "g_ex"))
  | ((with_reducible refine' ext_via ?k1 ?k2); (case k1 => assumption); (case k2 => wtm_at "g_ex"))
  | ((with_reducible refine' ext_thr ?k1 ?k2 ?k3); (case k2 => assumption); (case k1 => wtm_at "g_nn"); (case k3 => wtm_at "g_ex"))
  | ((with_reducible refine' extp_put ?k1); (case k1 => wtm_at "g_ex"))
  | ((with_reducible refine' extp_up ?k1 ?k2); (case k1 => wtm_at "g_nn"); (case k2 => wtm_at "g_ex"))
  | ((with_reducible refine' extp_putn ?k1 ?k2); (case k1 => wtm_at "g_nn"); (case k2 => wtm_at "g_ex"))
  | ((with_reducible refine' extp_via ?k1 ?k2); (case k1 => assumption); (case k2 => wtm_at "g_ex"))
  | ((with_reducible refine' extp_viae ?k1 ?k2); (case k1 => assumption); (case k2 => wtm_at "g_ex"))
  | ((with_reducible refine' extp_thr ?k1 ?k2 ?k3); (case k2 => assumption); (case k1 => wtm_at "g_nn"); (case k3 => wtm_at "g_ex"))
  | fail)
local macro_rules | `(tactic| wtm_at "g_thw") => `(tactic| first
  | (with_reducible assumption) | ((with_reducible refine' Thw.lst ?k1); (case k1 => wtm_at "g_hp")) | ((with_reducible refine' Thw.ins ?k1); (case k1 => wtm_at "g_hp"))
  | fail)
local macro_rules | `(tactic| wtm_at "g_sc") => `(tactic| first
  | (with_reducible assumption) | ((with_reducible refine' scr_new' ?k1 ?k2); (case k1 => wtm_at "g_nn"); (case k2 => wtm_at "g_sc")) | ((with_reducible refine' scr_put' ?k1 ?k2); (case k1 => wtm_at "g_thw"); (case k2 => wtm_at "g_sc"))
  | ((with_reducible refine' scr_ext ?k1 ?k2); (case k1 => assumption); (case k2 => wtm_at "g_sc")) | ((with_reducible refine' scr_extp ?k1 ?k2 ?k3); (case k1 => assumption); (case k2 => wtm_at "g_thw"); (case k3 => wtm_at "g_sc")) | ((with_reducible refine' scr_extn ?k1 ?k2 ?k3); (case k1 => assumption); (case k2 => wtm_at "g_nn"); (case k3 => wtm_at "g_sc"))
  | fail)
local macro_rules | `(tactic| wtm_at "g_sq") => `(tactic| first
  | (with_reducible assumption) | ((with_reducible refine' SqL.of ?k1); (case k1 => wtm_at "g_hp")) | ((with_reducible refine' Scr.sq ?k1); (case k1 => wtm_at "g_sc")) | ((with_reducible refine' sq_new' ?k1 ?k2); (case k1 => wtm_at "g_nn"); (case k2 => wtm_at "g_sq")) | ((with_reducible refine' sq_put' ?k1 ?k2); (case k1 => wtm_at "g_ne"); (case k2 => wtm_at "g_sq"))
  | ((with_reducible refine' sq_ext ?k1 ?k2); (case k1 => assumption); (case k2 => wtm_at "g_sq"))
  | fail)
local macro_rules | `(tactic| wtm_at "g_sqt") => `(tactic| first
  | (with_reducible assumption) | ((with_reducible refine' SqT.of' ?k1); (case k1 => wtm_at "g_hp")) | ((with_reducible refine' sqt_ext ?k1 ?k2); (case k1 => assumption); (case k2 => wtm_at "g_sqt"))
  | fail)
local macro_rules | `(tactic| wtm_at "g_st") => `(tactic| first
  | (with_reducible first
      | refine w_seq ?_ | refine w_asg ?_ | refine w_nm ?_ | refine w_next ?_ | refine w_if ?_ | refine w_ret ?_ | refine w_retN ?_ | refine w_drop ?_
      | refine w_var rfl ?_ | refine w_c ?_ | refine w_op ?_ | refine w_I0 ?_
      | refine w_eqI ?_ | refine w_neI ?_ | refine w_eqB ?_ | refine w_neB ?_ | refine w_eqS ?_ | refine w_neS ?_ | refine w_isN0 ?_ | refine w_isNi ?_ | refine w_isNr ?_ | refine w_isNb ?_ | refine w_isNs ?_ | refine w_notN0 ?_ | refine w_notNi ?_ | refine w_notNr ?_ | refine w_notNb ?_ | refine w_notNs ?_ | refine w_isN ?_ | refine w_notN ?_ | refine w_isB ?_ | refine w_notB ?_
      | refine w_un ?_ | refine w_U ?_ | refine w_chain ?_ | refine w_k ?_ | refine w_test ?_ | refine w_tB ?_ | refine w_tru ?_ | refine w_not ?_ | refine w_and ?_ | refine w_or ?_
      | refine w_andV ?_ | refine w_orV ?_ | refine w_notV ?_ | refine w_ife ?_ | refine w_nil ?_ | refine w_cons ?_ | refine w_tup ?_ | refine w_lst ?_ | refine w_small rfl ?_
      | refine w_call ?_ | refine w_mk ?_ | refine w_mt ?_ | refine w_cb ?_ | refine w_min2 ?_ | refine w_max2 ?_ | refine w_abs ?_ | refine w_int ?_
      | refine w_fld0 ?_ | refine w_bm ?_ | refine w_bm0 ?_ | refine w_sub ?_ | refine w_sfld ?_ | refine w_sfa ?_ | refine w_radd ?_ | refine w_rsub ?_ | refine w_ip ?_ | refine w_rs ?_ | refine w_pr ?_
      | refine w_lcR1 ?_ | refine w_lcR2 ?_ | refine w_lcL ?_ | refine w_lcT ?_ | refine w_sl ?_ | refine w_nopart ?_ | refine w_part ?_ | refine w_pint ?_
      | refine w_forR1 ?_ | refine w_forR2 ?_ | refine w_forL ?_ | refine w_forT ?_ | refine w_aug rfl ?_ | refine w_par ?_ | refine w_brk ?_ | refine w_cont ?_
      | refine w_isi_ii ?_ | refine w_isi_ib ?_ | refine w_isi_bi ?_ | refine w_isi_bb ?_ | refine w_isi_ss ?_ | refine w_isi_is ?_ | refine w_isi_il ?_ | refine w_isi_it ?_ | refine w_isi_sl ?_ | refine w_isi_st ?_ | refine w_isi_nl ?_ | refine w_isi_nt ?_
      | refine if_T ?_ | refine if_F ?_ | refine if_nT ?_ | refine if_nF ?_)
  | ((with_reducible refine' w_lenL ?k1 ?_); (case k1 => wtm_at "g_sq"))
  | ((with_reducible refine' w_lenT ?k1 ?_); (case k1 => wtm_at "g_sqt"))
  | ((with_reducible refine' w_isi_ll ?k1 ?_); (case k1 => wtm_at "g_hp"))
  | ((with_reducible refine' w_isi_tt ?k1 ?_); (case k1 => wtm_at "g_hp"))
  | ((with_reducible refine' w_isi_lt ?k1 ?_); (case k1 => wtm_at "g_hp"))
  | ((with_reducible refine' w_isi_tl ?k1 ?_); (case k1 => wtm_at "g_hp"))
  | wtm_at "g_get"
  | wtm_at "g_mt"
  | wtm_at "g_set"
  | wtm_at "g_set2"
  | wtm_at "g_call"
  | fail)
local macro_rules | `(tactic| wtm_at "g_go") => `(tactic| repeat wtm_at "g_st")
local macro_rules | `(tactic| wtm_at "g_ifo") => `(tactic| first
  | (refine if_nno rfl ?_) | (refine if_yes rfl ?_)
  | (refine if_no (by omega) ?_)
  | (refine if_yes (by omega) ?_)
  | (refine if_nno (by omega) ?_)
  | (refine if_nyes (by omega) ?_)
  | (refine if_nno (decide_eq_false (by omega)).symm ?_)
  | (refine if_nno (decide_eq_true (by omega)).symm ?_)
  | fail)
local macro_rules | `(tactic| wtm_at "g_goo") => `(tactic| repeat (first | wtm_at "g_st" | wtm_at "g_ifo"))
section
variable {K : PySem.W.Frag} {mg : Str → Option Value} {base : Heap}
theorem pure_law_made (T : TX K mg base) (vs : List V) (H : Hp) (Q : VK) (E : XK) (h : sp_law_made K vs H Q E) : t_law_made K E { nx := fun _ H' => Q .non H', rt := Q } (start N_law_made vs) H := by
  obtain ⟨b, l, rfl, q1, q2⟩ := h
  unfold t_law_made
  wtm_at "g_go"
  intro x dx hx hdx ne
  refine ⟨x, dx, b, l, rfl, upd_same, fun h => ⟨true, T.exm 0, fun _ a _ => ?_, fun z => Bool.noConfusion z⟩, fun h => ⟨rfl, ?_⟩⟩
  · wtm_at "g_go"
    intro t ht
    exact q2 h _ t (by wtm_at "g_ex") upd_same
  · rw [upd_upd]
    wtm_at "g_go"
    intro t ht
    exact q1 h _ t x dx (by wtm_at "g_ex") upd_same (by wtm_at "g_hp")
end
end K72

namespace K72
open PySem PySem.Spec PyProof.Rows L2 G
local macro_rules | `(tactic| wtm_at "g_get") => `(tactic| first
  | ((with_reducible refine' w_fld ?k1 (cl_Prefix (by assumption)) (na_Prefix_base (by assumption)) lk_Prefix_base ?_); (case k1 => wtm_at "g_hp"))
  | ((with_reducible refine' w_fld ?k1 (cl_Prefix (by assumption)) (na_Prefix_length (by assumption)) lk_Prefix_length ?_); (case k1 => wtm_at "g_hp"))
  | fail)
local macro_rules | `(tactic| wtm_at "g_set") => `(tactic| first
  | ((with_reducible refine' w_sput ?k1 (cl_Prefix (by assumption)) (na_Prefix_base (by assumption)) pt_Prefix_base rfl ?_); (case k1 => wtm_at "g_hp"))
  | ((with_reducible refine' w_sput ?k1 (cl_Prefix (by assumption)) (na_Prefix_base (by assumption)) pn_Prefix_base rfl ?_); (case k1 => wtm_at "g_hp"))
  | ((with_reducible refine' w_sput ?k1 (cl_Prefix (by assumption)) (na_Prefix_length (by assumption)) pt_Prefix_length rfl ?_); (case k1 => wtm_at "g_hp"))
  | ((with_reducible refine' w_sput ?k1 (cl_Prefix (by assumption)) (na_Prefix_length (by assumption)) pn_Prefix_length rfl ?_); (case k1 => wtm_at "g_hp"))
  | fail)
local macro_rules | `(tactic| wtm_at "g_set2") => `(tactic| first
  | ((with_reducible refine' w_sput2 ?k1 pt_Prefix_base rfl ?_); (case k1 => wtm_at "g_hp"))
  | ((with_reducible refine' w_sput2 ?k1 pt_Prefix_length rfl ?_); (case k1 => wtm_at "g_hp"))
  | fail)
local macro_rules | `(tactic| wtm_at "g_mt") => `(tactic| first
  | ((with_reducible refine' w_mt1 ?k1 ln_Prefix___eq__ ?_); (case k1 => wtm_at "g_hp"))
  | ((with_reducible refine' w_mt1 ?k1 ln_Prefix_pair ?_); (case k1 => wtm_at "g_hp"))
  | ((with_reducible refine' w_mt1 ?k1 ln_Prefix_span ?_); (case k1 => wtm_at "g_hp"))
  | ((with_reducible refine' w_mt1 ?k1 ln_Prefix_covers ?_); (case k1 => wtm_at "g_hp"))
  | ((with_reducible refine' w_mt1 ?k1 ln_Prefix_contains ?_); (case k1 => wtm_at "g_hp"))
  | ((with_reducible refine' w_mt1 ?k1 ln_Prefix_halves ?_); (case k1 => wtm_at "g_hp"))
  | fail)
local macro_rules | `(tactic| wtm_at "g_call") => `(tactic| first
  | ((with_reducible refine' c_digit ?k1 ?k2 ?k3 ?_); (case k1 => wtm_at "g_hp"); (case k2 => omega); (case k3 => omega); intro _ _ _ _)
  | ((with_reducible refine' c_start ?_); intro _ _ _)
  | ((with_reducible refine' c_isint ?_))
  | ((with_reducible refine' c_cell ?k1 ?k2 ?_); (case k1 => wtm_at "g_sq"); (case k2 => omega); intro _)
  | ((with_reducible refine' c_span_of ?k1 ?k2 ?_); (case k1 => omega); (case k2 => omega))
  | ((with_reducible refine' c_bit_of ?k1 ?k2 ?_); (case k1 => omega); (case k2 => omega))
  | ((with_reducible refine' c_law_span ?k1 ?k2 ?_); (case k1 => omega); (case k2 => omega); intro _ _)
  | ((with_reducible refine' c_pair ?k1 ?_); (case k1 => wtm_at "g_hp"); intro _ _)
  | ((with_reducible refine' c_span ?k1 ?k2 ?_); (case k1 => wtm_at "g_hp"); (case k2 => omega))
  | ((with_reducible refine' c_covers ?k1 ?k2 ?_); (case k1 => wtm_at "g_hp"); (case k2 => omega))
  | ((with_reducible refine' c_contains ?k1 ?k2 ?k3 ?_); (case k1 => wtm_at "g_hp"); (case k2 => wtm_at "g_hp"); (case k3 => omega))
  | ((with_reducible refine' c_law_bits ?_); intro _ _ _ _)
  | ((with_reducible refine' c_law_may ?_); intro _ _)
  | ((with_reducible refine' c_law_shares ?k1 ?_); (case k1 => omega); intro _ _)
  | ((with_reducible refine' c_prefix_of ?k1 ?_); (case k1 => omega); intro _ _ _ _ _)
  | ((with_reducible refine' c_law_base ?k1 ?_); (case k1 => wtm_at "g_hp"); intro _ _ _ _ _)
  | ((with_reducible refine' c_law_halves ?k1 ?k2 ?_); (case k1 => wtm_at "g_hp"); (case k2 => assumption); intro _ _)
  | ((with_reducible refine' c_law_one ?k1 ?k2 ?_); (case k1 => wtm_at "g_hp"); (case k2 => assumption); intro _ _))
local macro_rules | `(tactic| wtm_at "g_ne") => `(tactic| first
  | (with_reducible assumption) | (with_reducible exact Ne.symm (by assumption)) | (with_reducible exact ne_of_none (by assumption) (by assumption)) | (with_reducible exact (ne_of_none (by assumption) (by assumption)).symm)
  | fail)
local macro_rules | `(tactic| wtm_at "g_hp") => `(tactic| first
  | (with_reducible assumption) | (with_reducible exact upd_same) | ((with_reducible refine' up_nn ?k1 ?k2); (case k1 => with_reducible assumption); (case k2 => wtm_at "g_hp")) | ((with_reducible refine' up_k' ?k1 ?k2); (case k1 => wtm_at "g_ne"); (case k2 => wtm_at "g_hp"))
  | ((with_reducible refine' up_ko ?k1 ?k2 ?k3); (case k1 => wtm_at "g_hp"); (case k2 => wtm_at "g_hp"); (case k3 => (intro z; cases z)))
  | ((with_reducible refine' ext_get ?k1 ?k2); (case k1 => assumption); (case k2 => wtm_at "g_hp"))
  | ((with_reducible refine' extp_get ?k1 ?k2 ?k3); (case k1 => assumption); (case k2 => wtm_at "g_ne"); (case k3 => wtm_at "g_hp"))
  | fail)
local macro_rules | `(tactic| wtm_at "g_nn") => `(tactic| first
  | (with_reducible assumption) | ((with_reducible refine' none_up ?k1 ?k2); (case k1 => wtm_at "g_ne"); (case k2 => wtm_at "g_nn")) | ((with_reducible refine' none_dn ?k1); (case k1 => with_reducible assumption))
  | fail)
local macro_rules | `(tactic| wtm_at "g_ex") => `(tactic| first
  | (with_reducible assumption) | (with_reducible exact Ext.rfl') | (with_reducible exact ExtP.rfl')
  | ((with_reducible refine' ext_up ?k1 ?k2); (case k1 => wtm_at "g_nn"); (case k2 => wtm_at "g_ex"))
  | ((with_reducible refine' ext_put ?k1 ?k2); (case k1 => wtm_at "g_nn"); (case k2 => wtm_at "g_ex"))
  | ((with_reducible refine' ext_via ?k1 ?k2); (case k1 => assumption); (case k2 => wtm_at "g_ex"))
  | ((with_reducible refine' ext_thr ?k1 ?k2 ?k3); (case k2 => assumption); (case k1 => wtm_at "g_nn"); (case k3 => wtm_at "g_ex"))
  | ((with_reducible refine' extp_put ?k1); (case k1 => wtm_at "g_ex"))
  | ((with_reducible refine' extp_up ?k1 ?k2); (case k1 => wtm_at "g_nn"); (case k2 => wtm_at "g_ex"))
  | ((with_reducible refine' extp_putn ?k1 ?k2); (case k1 => wtm_at "g_nn"); (case k2 => wtm_at "g_ex"))
  | ((with_reducible refine' extp_via ?k1 ?k2); (case k1 => assumption); (case k2 => wtm_at "g_ex"))
  | ((with_reducible refine' extp_viae ?k1 ?k2); (case k1 => assumption); (case k2 => wtm_at "g_ex"))
  | ((with_reducible refine' extp_thr ?k1 ?k2 ?k3); (case k2 => assumption); (case k1 => wtm_at "g_nn"); (case k3 => wtm_at "g_ex"))
  | fail)
local macro_rules | `(tactic| wtm_at "g_thw") => `(tactic| first
  | (with_reducible assumption) | ((with_reducible refine' Thw.lst ?k1); (case k1 => wtm_at "g_hp")) | ((with_reducible refine' Thw.ins ?k1); (case k1 => wtm_at "g_hp"))
  | fail)
local macro_rules | `(tactic| wtm_at "g_sc") => `(tactic| first
  | (with_reducible assumption) | ((with_reducible refine' scr_new' ?k1 ?k2); (case k1 => wtm_at "g_nn"); (case k2 => wtm_at "g_sc")) | ((with_reducible refine' scr_put' ?k1 ?k2); (case k1 => wtm_at "g_thw"); (case k2 => wtm_at "g_sc"))
  | ((with_reducible refine' scr_ext ?k1 ?k2); (case k1 => assumption); (case k2 => wtm_at "g_sc")) | ((with_reducible refine' scr_extp ?k1 ?k2 ?k3); (case k1 => assumption); (case k2 => wtm_at "g_thw"); (case k3 => wtm_at "g_sc")) | ((with_reducible refine' scr_extn ?k1 ?k2 ?k3); (case k1 => assumption); (case k2 => wtm_at "g_nn"); (case k3 => wtm_at "g_sc"))
  | fail)
local macro_rules | `(tactic| wtm_at "g_sq") => `(tactic| first
  | (with_reducible assumption) | ((with_reducible refine' SqL.of ?k1); (case k1 => wtm_at "g_hp")) | ((with_reducible refine' Scr.sq ?k1); (case k1 => wtm_at "g_sc")) | ((with_reducible refine' sq_new' ?k1 ?k2); (case k1 => wtm_at "g_nn"); (case k2 => wtm_at "g_sq")) | ((with_reducible refine' sq_put' ?k1 ?k2); (case k1 => wtm_at "g_ne"); (case k2 => wtm_at "g_sq"))
  | ((with_reducible refine' sq_ext ?k1 ?k2); (case k1 => assumption); (case k2 => wtm_at "g_sq"))
  | fail)
local macro_rules | `(tactic| wtm_at "g_sqt") => `(tactic| first
  | (with_reducible assumption) | ((with_reducible refine' SqT.of' ?k1); (case k1 => wtm_at "g_hp")) | ((with_reducible refine' sqt_ext ?k1 ?k2); (case k1 => assumption); (case k2 => wtm_at "g_sqt"))
  | fail)
local macro_rules | `(tactic| wtm_at "g_st") => `(tactic| first
  | (with_reducible first
      | refine w_seq ?_ | refine w_asg ?_ | refine w_nm ?_ | refine w_next ?_ | refine w_if ?_ | refine w_ret ?_ | refine w_retN ?_ | refine w_drop ?_
      | refine w_var rfl ?_ | refine w_c ?_ | refine w_op ?_ | refine w_I0 ?_
      | refine w_eqI ?_ | refine w_neI ?_ | refine w_eqB ?_ | refine w_neB ?_ | refine w_eqS ?_ | refine w_neS ?_ | refine w_isN0 ?_ | refine w_isNi ?_ | refine w_isNr ?_ | refine w_isNb ?_ | refine w_isNs ?_ | refine w_notN0 ?_ | refine w_notNi ?_ | refine w_notNr ?_ | refine w_notNb ?_ | refine w_notNs ?_ | refine w_isN ?_ | refine w_notN ?_ | refine w_isB ?_ | refine w_notB ?_
      | refine w_un ?_ | refine w_U ?_ | refine w_chain ?_ | refine w_k ?_ | refine w_test ?_ | refine w_tB ?_ | refine w_tru ?_ | refine w_not ?_ | refine w_and ?_ | refine w_or ?_
      | refine w_andV ?_ | refine w_orV ?_ | refine w_notV ?_ | refine w_ife ?_ | refine w_nil ?_ | refine w_cons ?_ | refine w_tup ?_ | refine w_lst ?_ | refine w_small rfl ?_
      | refine w_call ?_ | refine w_mk ?_ | refine w_mt ?_ | refine w_cb ?_ | refine w_min2 ?_ | refine w_max2 ?_ | refine w_abs ?_ | refine w_int ?_
      | refine w_fld0 ?_ | refine w_bm ?_ | refine w_bm0 ?_ | refine w_sub ?_ | refine w_sfld ?_ | refine w_sfa ?_ | refine w_radd ?_ | refine w_rsub ?_ | refine w_ip ?_ | refine w_rs ?_ | refine w_pr ?_
      | refine w_lcR1 ?_ | refine w_lcR2 ?_ | refine w_lcL ?_ | refine w_lcT ?_ | refine w_sl ?_ | refine w_nopart ?_ | refine w_part ?_ | refine w_pint ?_
      | refine w_forR1 ?_ | refine w_forR2 ?_ | refine w_forL ?_ | refine w_forT ?_ | refine w_aug rfl ?_ | refine w_par ?_ | refine w_brk ?_ | refine w_cont ?_
      | refine w_isi_ii ?_ | refine w_isi_ib ?_ | refine w_isi_bi ?_ | refine w_isi_bb ?_ | refine w_isi_ss ?_ | refine w_isi_is ?_ | refine w_isi_il ?_ | refine w_isi_it ?_ | refine w_isi_sl ?_ | refine w_isi_st ?_ | refine w_isi_nl ?_ | refine w_isi_nt ?_
      | refine if_T ?_ | refine if_F ?_ | refine if_nT ?_ | refine if_nF ?_)
  | ((with_reducible refine' w_lenL ?k1 ?_); (case k1 => wtm_at "g_sq"))
  | ((with_reducible refine' w_lenT ?k1 ?_); (case k1 => wtm_at "g_sqt"))
  | ((with_reducible refine' w_isi_ll ?k1 ?_); (case k1 => wtm_at "g_hp"))
  | ((with_reducible refine' w_isi_tt ?k1 ?_); (case k1 => wtm_at "g_hp"))
  | ((with_reducible refine' w_isi_lt ?k1 ?_); (case k1 => wtm_at "g_hp"))
  | ((with_reducible refine' w_isi_tl ?k1 ?_); (case k1 => wtm_at "g_hp"))
  | wtm_at "g_get"
  | wtm_at "g_mt"
  | wtm_at "g_set"
  | wtm_at "g_set2"
  | wtm_at "g_call"
  | fail)
local macro_rules | `(tactic| wtm_at "g_go") => `(tactic| repeat wtm_at "g_st")
local macro_rules | `(tactic| wtm_at "g_ifo") => `(tactic| first
  | (refine if_nno rfl ?_) | (refine if_yes rfl ?_)
  | (refine if_no (by omega) ?_)
  | (refine if_yes (by omega) ?_)
  | (refine if_nno (by omega) ?_)
  | (refine if_nyes (by omega) ?_)
  | (refine if_nno (decide_eq_false (by omega)).symm ?_)
  | (refine if_nno (decide_eq_true (by omega)).symm ?_)
  | fail)
local macro_rules | `(tactic| wtm_at "g_goo") => `(tactic| repeat (first | wtm_at "g_st" | wtm_at "g_ifo"))
section
variable {K : PySem.W.Frag} {mg : Str → Option Value} {base : Heap}
theorem pure_law_base (T : TX K mg base) (vs : List V) (H : Hp) (Q : VK) (E : XK) (h : sp_law_base K vs H Q E) : t_law_base K E { nx := fun _ H' => Q .non H', rt := Q } (start N_law_base vs) H := by
  obtain ⟨p, n, l, rfl, hp, q⟩ := h
  unfold t_law_base
  wtm_at "g_go"
  refine if_d (fun h1 => ?_) (fun h1 => ?_)
  · by_cases h2 : 0 ≤ l ∧ l ≤ 16
    · wtm_at "g_goo"
      refine if_d (fun h3 => ?_) (fun h3 => ?_)
      · wtm_at "g_go"
        refine if_d (fun h4 => ?_) (fun h4 => ?_)
        · wtm_at "g_go"
          refine w_I sn_pos ?_
          wtm_at "g_go"
          exact q _ _ _ (by wtm_at "g_ex") (by wtm_at "g_hp")
        · wtm_at "g_go"
          exact q _ _ _ (by wtm_at "g_ex") (by wtm_at "g_hp")
      · wtm_at "g_go"
        exact q _ _ _ (by wtm_at "g_ex") (by wtm_at "g_hp")
    · by_cases h5 : 0 ≤ l
      · wtm_at "g_goo"
        exact q _ _ _ (by wtm_at "g_ex") (by wtm_at "g_hp")
      · wtm_at "g_goo"
        exact q _ _ _ (by wtm_at "g_ex") (by wtm_at "g_hp")
  · wtm_at "g_go"
    exact q _ _ _ (by wtm_at "g_ex") (by wtm_at "g_hp")
end
end K72

namespace K72
open PySem PySem.Spec PyProof.Rows L2 G
local macro_rules | `(tactic| wtm_at "g_get") => `(tactic| first
  | ((with_reducible refine' w_fld ?k1 (cl_Prefix (by assumption)) (na_Prefix_base (by assumption)) lk_Prefix_base ?_); (case k1 => wtm_at "g_hp"))
  | ((with_reducible refine' w_fld ?k1 (cl_Prefix (by assumption)) (na_Prefix_length (by assumption)) lk_Prefix_length ?_); (case k1 => wtm_at "g_hp"))
  | fail)
local macro_rules | `(tactic| wtm_at "g_set") => `(tactic| first
  | ((with_reducible refine' w_sput ?k1 (cl_Prefix (by assumption)) (na_Prefix_base (by assumption)) pt_Prefix_base rfl ?_); (case k1 => wtm_at "g_hp"))
  | ((with_reducible refine' w_sput ?k1 (cl_Prefix (by assumption)) (na_Prefix_base (by assumption)) pn_Prefix_base rfl ?_); (case k1 => wtm_at "g_hp"))
  | ((with_reducible refine' w_sput ?k1 (cl_Prefix (by assumption)) (na_Prefix_length (by assumption)) pt_Prefix_length rfl ?_); (case k1 => wtm_at "g_hp"))
  | ((with_reducible refine' w_sput ?k1 (cl_Prefix (by assumption)) (na_Prefix_length (by assumption)) pn_Prefix_length rfl ?_); (case k1 => wtm_at "g_hp"))
  | fail)
local macro_rules | `(tactic| wtm_at "g_set2") => `(tactic| first
  | ((with_reducible refine' w_sput2 ?k1 pt_Prefix_base rfl ?_); (case k1 => wtm_at "g_hp"))
  | ((with_reducible refine' w_sput2 ?k1 pt_Prefix_length rfl ?_); (case k1 => wtm_at "g_hp"))
  | fail)
local macro_rules | `(tactic| wtm_at "g_mt") => `(tactic| first
  | ((with_reducible refine' w_mt1 ?k1 ln_Prefix___eq__ ?_); (case k1 => wtm_at "g_hp"))
  | ((with_reducible refine' w_mt1 ?k1 ln_Prefix_pair ?_); (case k1 => wtm_at "g_hp"))
  | ((with_reducible refine' w_mt1 ?k1 ln_Prefix_span ?_); (case k1 => wtm_at "g_hp"))
  | ((with_reducible refine' w_mt1 ?k1 ln_Prefix_covers ?_); (case k1 => wtm_at "g_hp"))
  | ((with_reducible refine' w_mt1 ?k1 ln_Prefix_contains ?_); (case k1 => wtm_at "g_hp"))
  | ((with_reducible refine' w_mt1 ?k1 ln_Prefix_halves ?_); (case k1 => wtm_at "g_hp"))
  | fail)
local macro_rules | `(tactic| wtm_at "g_call") => `(tactic| first
  | ((with_reducible refine' c_digit ?k1 ?k2 ?k3 ?_); (case k1 => wtm_at "g_hp"); (case k2 => omega); (case k3 => omega); intro _ _ _ _)
  | ((with_reducible refine' c_start ?_); intro _ _ _)
  | ((with_reducible refine' c_isint ?_))
  | ((with_reducible refine' c_cell ?k1 ?k2 ?_); (case k1 => wtm_at "g_sq"); (case k2 => omega); intro _)
  | ((with_reducible refine' c_span_of ?k1 ?k2 ?_); (case k1 => omega); (case k2 => omega))
  | ((with_reducible refine' c_bit_of ?k1 ?k2 ?_); (case k1 => omega); (case k2 => omega))
  | ((with_reducible refine' c_law_span ?k1 ?k2 ?_); (case k1 => omega); (case k2 => omega); intro _ _)
  | ((with_reducible refine' c_pair ?k1 ?_); (case k1 => wtm_at "g_hp"); intro _ _)
  | ((with_reducible refine' c_span ?k1 ?k2 ?_); (case k1 => wtm_at "g_hp"); (case k2 => omega))
  | ((with_reducible refine' c_covers ?k1 ?k2 ?_); (case k1 => wtm_at "g_hp"); (case k2 => omega))
  | ((with_reducible refine' c_contains ?k1 ?k2 ?k3 ?_); (case k1 => wtm_at "g_hp"); (case k2 => wtm_at "g_hp"); (case k3 => omega))
  | ((with_reducible refine' c_law_bits ?_); intro _ _ _ _)
  | ((with_reducible refine' c_law_may ?_); intro _ _)
  | ((with_reducible refine' c_law_shares ?k1 ?_); (case k1 => omega); intro _ _)
  | ((with_reducible refine' c_prefix_of ?k1 ?_); (case k1 => omega); intro _ _ _ _ _)
  | ((with_reducible refine' c_law_base ?k1 ?_); (case k1 => wtm_at "g_hp"); intro _ _ _ _ _)
  | ((with_reducible refine' c_law_halves ?k1 ?k2 ?_); (case k1 => wtm_at "g_hp"); (case k2 => assumption); intro _ _)
  | ((with_reducible refine' c_law_one ?k1 ?k2 ?_); (case k1 => wtm_at "g_hp"); (case k2 => assumption); intro _ _))
local macro_rules | `(tactic| wtm_at "g_ne") => `(tactic| first
  | (with_reducible assumption) | (with_reducible exact Ne.symm (by assumption)) | (with_reducible exact ne_of_none (by assumption) (by assumption)) | (with_reducible exact (ne_of_none (by assumption) (by assumption)).symm)
  | fail)
local macro_rules | `(tactic| wtm_at "g_hp") => `(tactic| first
  | (with_reducible assumption) | (with_reducible exact upd_same) | ((with_reducible refine' up_nn ?k1 ?k2); (case k1 => with_reducible assumption); (case k2 => wtm_at "g_hp")) | ((with_reducible refine' up_k' ?k1 ?k2); (case k1 => wtm_at "g_ne"); (case k2 => wtm_at "g_hp"))
  | ((with_reducible refine' up_ko ?k1 ?k2 ?k3); (case k1 => wtm_at "g_hp"); (case k2 => wtm_at "g_hp"); (case k3 => (intro z; cases z)))
  | ((with_reducible refine' ext_get ?k1 ?k2); (case k1 => assumption); (case k2 => wtm_at "g_hp"))
  | ((with_reducible refine' extp_get ?k1 ?k2 ?k3); (case k1 => assumption); (case k2 => wtm_at "g_ne"); (case k3 => wtm_at "g_hp"))
  | fail)
local macro_rules | `(tactic| wtm_at "g_nn") => `(tactic| first
  | (with_reducible assumption) | ((with_reducible refine' none_up ?k1 ?k2); (case k1 => wtm_at "g_ne"); (case k2 => wtm_at "g_nn")) | ((with_reducible refine' none_dn ?k1); (case k1 => with_reducible assumption))
  | fail)
local macro_rules | `(tactic| wtm_at "g_ex") => `(tactic| first
  | (with_reducible assumption) | (with_reducible exact Ext.rfl') | (with_reducible exact ExtP.rfl')
  | ((with_reducible refine' ext_up ?k1 ?k2); (case k1 => wtm_at "g_nn"); (case k2 => wtm_at "g_ex"))
  | ((with_reducible refine' ext_put ?k1 ?k2); (case k1 => wtm_at "g_nn"); (case k2 => wtm_at "g_ex"))
  | ((with_reducible refine' ext_via ?k1 ?k2); (case k1 => assumption); (case k2 => wtm_at "g_ex"))
  | ((with_reducible refine' ext_thr ?k1 ?k2 ?k3); (case k2 => assumption); (case k1 => wtm_at "g_nn"); (case k3 => wtm_at "g_ex"))
  | ((with_reducible refine' extp_put ?k1); (case k1 => wtm_at "g_ex"))
  | ((with_reducible refine' extp_up ?k1 ?k2); (case k1 => wtm_at "g_nn"); (case k2 => wtm_at "g_ex"))
  | ((with_reducible refine' extp_putn ?k1 ?k2); (case k1 => wtm_at "g_nn"); (case k2 => wtm_at "g_ex"))
  | ((with_reducible refine' extp_via ?k1 ?k2); (case k1 => assumption); (case k2 => wtm_at "g_ex"))
  | ((with_reducible refine' extp_viae ?k1 ?k2); (case k1 => assumption); (case k2 => wtm_at "g_ex"))
  | ((with_reducible refine' extp_thr ?k1 ?k2 ?k3); (case k2 => assumption); (case k1 => wtm_at "g_nn"); (case k3 => wtm_at "g_ex"))
  | fail)
local macro_rules | `(tactic| wtm_at "g_thw") => `(tactic| first
  | (with_reducible assumption) | ((with_reducible refine' Thw.lst ?k1); (case k1 => wtm_at "g_hp")) | ((with_reducible refine' Thw.ins ?k1); (case k1 => wtm_at "g_hp"))
  | fail)
local macro_rules | `(tactic| wtm_at "g_sc") => `(tactic| first
  | (with_reducible assumption) | ((with_reducible refine' scr_new' ?k1 ?k2); (case k1 => wtm_at "g_nn"); (case k2 => wtm_at "g_sc")) | ((with_reducible refine' scr_put' ?k1 ?k2); (case k1 => wtm_at "g_thw"); (case k2 => wtm_at "g_sc"))
  | ((with_reducible refine' scr_ext ?k1 ?k2); (case k1 => assumption); (case k2 => wtm_at "g_sc")) | ((with_reducible refine' scr_extp ?k1 ?k2 ?k3); (case k1 => assumption); (case k2 => wtm_at "g_thw"); (case k3 => wtm_at "g_sc")) | ((with_reducible refine' scr_extn ?k1 ?k2 ?k3); (case k1 => assumption); (case k2 => wtm_at "g_nn"); (case k3 => wtm_at "g_sc"))
  | fail)
local macro_rules | `(tactic| wtm_at "g_sq") => `(tactic| first
  | (with_reducible assumption) | ((with_reducible refine' SqL.of ?k1); (case k1 => wtm_at "g_hp")) | ((with_reducible refine' Scr.sq ?k1); (case k1 => wtm_at "g_sc")) | ((with_reducible refine' sq_new' ?k1 ?k2); (case k1 => wtm_at "g_nn"); (case k2 => wtm_at "g_sq")) | ((with_reducible refine' sq_put' ?k1 ?k2); (case k1 => wtm_at "g_ne"); (case k2 => wtm_at "g_sq"))
  | ((with_reducible refine' sq_ext ?k1 ?k2); (case k1 => assumption); (case k2 => wtm_at "g_sq"))
  | fail)
local macro_rules | `(tactic| wtm_at "g_sqt") => `(tactic| first
  | (with_reducible assumption) | ((with_reducible refine' SqT.of' ?k1); (case k1 => wtm_at "g_hp")) | ((with_reducible refine' sqt_ext ?k1 ?k2); (case k1 => assumption); (case k2 => wtm_at "g_sqt"))
  | fail)
local macro_rules | `(tactic| wtm_at "g_st") => `(tactic| first
  | (with_reducible first
      | refine w_seq ?_ | refine w_asg ?_ | refine w_nm ?_ | refine w_next ?_ | refine w_if ?_ | refine w_ret ?_ | refine w_retN ?_ | refine w_drop ?_
      | refine w_var rfl ?_ | refine w_c ?_ | refine w_op ?_ | refine w_I0 ?_
      | refine w_eqI ?_ | refine w_neI ?_ | refine w_eqB ?_ | refine w_neB ?_ | refine w_eqS ?_ | refine w_neS ?_ | refine w_isN0 ?_ | refine w_isNi ?_ | refine w_isNr ?_ | refine w_isNb ?_ | refine w_isNs ?_ | refine w_notN0 ?_ | refine w_notNi ?_ | refine w_notNr ?_ | refine w_notNb ?_ | refine w_notNs ?_ | refine w_isN ?_ | refine w_notN ?_ | refine w_isB ?_ | refine w_notB ?_
      | refine w_un ?_ | refine w_U ?_ | refine w_chain ?_ | refine w_k ?_ | refine w_test ?_ | refine w_tB ?_ | refine w_tru ?_ | refine w_not ?_ | refine w_and ?_ | refine w_or ?_
      | refine w_andV ?_ | refine w_orV ?_ | refine w_notV ?_ | refine w_ife ?_ | refine w_nil ?_ | refine w_cons ?_ | refine w_tup ?_ | refine w_lst ?_ | refine w_small rfl ?_
      | refine w_call ?_ | refine w_mk ?_ | refine w_mt ?_ | refine w_cb ?_ | refine w_min2 ?_ | refine w_max2 ?_ | refine w_abs ?_ | refine w_int ?_
      | refine w_fld0 ?_ | refine w_bm ?_ | refine w_bm0 ?_ | refine w_sub ?_ | refine w_sfld ?_ | refine w_sfa ?_ | refine w_radd ?_ | refine w_rsub ?_ | refine w_ip ?_ | refine w_rs ?_ | refine w_pr ?_
      | refine w_lcR1 ?_ | refine w_lcR2 ?_ | refine w_lcL ?_ | refine w_lcT ?_ | refine w_sl ?_ | refine w_nopart ?_ | refine w_part ?_ | refine w_pint ?_
      | refine w_forR1 ?_ | refine w_forR2 ?_ | refine w_forL ?_ | refine w_forT ?_ | refine w_aug rfl ?_ | refine w_par ?_ | refine w_brk ?_ | refine w_cont ?_
      | refine w_isi_ii ?_ | refine w_isi_ib ?_ | refine w_isi_bi ?_ | refine w_isi_bb ?_ | refine w_isi_ss ?_ | refine w_isi_is ?_ | refine w_isi_il ?_ | refine w_isi_it ?_ | refine w_isi_sl ?_ | refine w_isi_st ?_ | refine w_isi_nl ?_ | refine w_isi_nt ?_
      | refine if_T ?_ | refine if_F ?_ | refine if_nT ?_ | refine if_nF ?_)
  | ((with_reducible refine' w_lenL ?k1 ?_); (case k1 => wtm_at "g_sq"))
  | ((with_reducible refine' w_lenT ?k1 ?_); (case k1 => wtm_at "g_sqt"))
  | ((with_reducible refine' w_isi_ll ?k1 ?_); (case k1 => wtm_at "g_hp"))
  | ((with_reducible refine' w_isi_tt ?k1 ?_); (case k1 => wtm_at "g_hp"))
  | ((with_reducible refine' w_isi_lt ?k1 ?_); (case k1 => wtm_at "g_hp"))
  | ((with_reducible refine' w_isi_tl ?k1 ?_); (case k1 => wtm_at "g_hp"))
  | wtm_at "g_get"
  | wtm_at "g_mt"
  | wtm_at "g_set"
  | wtm_at "g_set2"
  | wtm_at "g_call"
  | fail)
local macro_rules | `(tactic| wtm_at "g_go") => `(tactic| repeat wtm_at "g_st")
local macro_rules | `(tactic| wtm_at "g_ifo") => `(tactic| first
  | (refine if_nno rfl ?_) | (refine if_yes rfl ?_)
  | (refine if_no (by omega) ?_)
  | (refine if_yes (by omega) ?_)
  | (refine if_nno (by omega) ?_)
  | (refine if_nyes (by omega) ?_)
  | (refine if_nno (decide_eq_false (by omega)).symm ?_)
  | (refine if_nno (decide_eq_true (by omega)).symm ?_)
  | fail)
local macro_rules | `(tactic| wtm_at "g_goo") => `(tactic| repeat (first | wtm_at "g_st" | wtm_at "g_ifo"))
section
variable {K : PySem.W.Frag} {mg : Str → Option Value} {base : Heap}
theorem pure_law_halves (T : TX K mg base) (vs : List V) (H : Hp) (Q : VK) (E : XK) (h : sp_law_halves K vs H Q E) : t_law_halves K E { nx := fun _ H' => Q .non H', rt := Q } (start N_law_halves vs) H := by
  obtain ⟨p, dx, b, l, rfl, hp, o, q⟩ := h
  obtain ⟨h0, h1, h2, h3, h4⟩ := id o
  unfold t_law_halves
  wtm_at "g_go"
  refine ⟨p, dx, b, l, rfl, hp, o, fun h5 => ?_, fun h5 H1 t q1 d1 q2 d2 e ht hq1 hq2 => ?_⟩
  · wtm_at "g_goo"
    exact q _ Ext.rfl'
  · wtm_at "g_goo"
    rename_i H2 e2
    have et : ∀ H', Ext H2 H' → H' t = some (.tup [.ref q1, .ref q2]) := fun H' e' => by wtm_at "g_hp"
    refine loop1 (n := 2) (fun i σ H' => ∃ v3, σ = [some (.ref p), some (.ref t), some (.int (sn (l + 1))), v3] ∧ Ext H2 H') rfl (by decide) ⟨_, rfl, Ext.rfl'⟩ ?_ ?_
    · rintro i σ H3 hi ⟨v3, rfl, e3⟩
      have hx : ∃ (x dz : Addr), atI [V.ref q1, V.ref q2] (i : Int) = some (.ref x) ∧ H3 x = some (oP K dz (b + i * sn (l + 1)) (l + 1)) := by
        have hi2 : i = 0 ∨ i = 1 := by omega
        rcases hi2 with rfl | rfl
        · refine ⟨q1, d1, rfl, ?_⟩
          have e0 : b + ((0 : Nat) : Int) * sn (l + 1) = b := by simp
          rw [e0]
          wtm_at "g_hp"
        · refine ⟨q2, d2, rfl, ?_⟩
          have e0 : b + ((1 : Nat) : Int) * sn (l + 1) = b + sn (l + 1) := by simp
          rw [e0]
          wtm_at "g_hp"
      obtain ⟨x, dz, hx1, hx2⟩ := hx
      wtm_at "g_go"
      refine w_ixT (xs := [V.ref q1, V.ref q2]) (by wtm_at "g_sqt") hx1 ?_
      wtm_at "g_go"
      refine w_isi_own hx2 (insB_ok (T.b.ex_ 0)) (.own _) (of_decide_eq_true (T.b.ex_ 1)) ?_
      wtm_at "g_go"
      refine w_ixT (xs := [V.ref q1, V.ref q2]) (by wtm_at "g_sqt") hx1 ?_
      wtm_at "g_go"
      refine w_I (.inl ⟨by omega, by omega⟩) ?_
      wtm_at "g_go"
      intro t2 ht2
      wtm_at "g_go"
      refine w_neT' [b + i * sn (l + 1), l + 1] [b + i * sn (l + 1), l + 1] (by wtm_at "g_sqt") (by wtm_at "g_sqt") ?_
      rw [decide_eq_true rfl]
      wtm_at "g_go"
      exact ⟨_, rfl, by wtm_at "g_ex"⟩
    · rintro σ H3 ⟨v3, rfl, e3⟩
      wtm_at "g_go"
      exact q _ (by wtm_at "g_ex")
end
end K72

namespace K72
open PySem PySem.Spec PyProof.Rows L2 G
local macro_rules | `(tactic| wtm_at "g_get") => `(tactic| first
  | ((with_reducible refine' w_fld ?k1 (cl_Prefix (by assumption)) (na_Prefix_base (by assumption)) lk_Prefix_base ?_); (case k1 => wtm_at "g_hp"))
  | ((with_reducible refine' w_fld ?k1 (cl_Prefix (by assumption)) (na_Prefix_length (by assumption)) lk_Prefix_length ?_); (case k1 => wtm_at "g_hp"))
  | fail)
local macro_rules | `(tactic| wtm_at "g_set") => `(tactic| first
  | ((with_reducible refine' w_sput ?k1 (cl_Prefix (by assumption)) (na_Prefix_base (by assumption)) pt_Prefix_base rfl ?_); (case k1 => wtm_at "g_hp"))
  | ((with_reducible refine' w_sput ?k1 (cl_Prefix (by assumption)) (na_Prefix_base (by assumption)) pn_Prefix_base rfl ?_); (case k1 => wtm_at "g_hp"))
  | ((with_reducible refine' w_sput ?k1 (cl_Prefix (by assumption)) (na_Prefix_length (by assumption)) pt_Prefix_length rfl ?_); (case k1 => wtm_at "g_hp"))
  | ((with_reducible refine' w_sput ?k1 (cl_Prefix (by assumption)) (na_Prefix_length (by assumption)) pn_Prefix_length rfl ?_); (case k1 => wtm_at "g_hp"))
  | fail)
local macro_rules | `(tactic| wtm_at "g_set2") => `(tactic| first
  | ((with_reducible refine' w_sput2 ?k1 pt_Prefix_base rfl ?_); (case k1 => wtm_at "g_hp"))
  | ((with_reducible refine' w_sput2 ?k1 pt_Prefix_length rfl ?_); (case k1 => wtm_at "g_hp"))
  | fail)
local macro_rules | `(tactic| wtm_at "g_mt") => `(tactic| first
  | ((with_reducible refine' w_mt1 ?k1 ln_Prefix___eq__ ?_); (case k1 => wtm_at "g_hp"))
  | ((with_reducible refine' w_mt1 ?k1 ln_Prefix_pair ?_); (case k1 => wtm_at "g_hp"))
  | ((with_reducible refine' w_mt1 ?k1 ln_Prefix_span ?_); (case k1 => wtm_at "g_hp"))
  | ((with_reducible refine' w_mt1 ?k1 ln_Prefix_covers ?_); (case k1 => wtm_at "g_hp"))
  | ((with_reducible refine' w_mt1 ?k1 ln_Prefix_contains ?_); (case k1 => wtm_at "g_hp"))
  | ((with_reducible refine' w_mt1 ?k1 ln_Prefix_halves ?_); (case k1 => wtm_at "g_hp"))
  | fail)
local macro_rules | `(tactic| wtm_at "g_call") => `(tactic| first
  | ((with_reducible refine' c_digit ?k1 ?k2 ?k3 ?_); (case k1 => wtm_at "g_hp"); (case k2 => omega); (case k3 => omega); intro _ _ _ _)
  | ((with_reducible refine' c_start ?_); intro _ _ _)
  | ((with_reducible refine' c_isint ?_))
  | ((with_reducible refine' c_cell ?k1 ?k2 ?_); (case k1 => wtm_at "g_sq"); (case k2 => omega); intro _)
  | ((with_reducible refine' c_span_of ?k1 ?k2 ?_); (case k1 => omega); (case k2 => omega))
  | ((with_reducible refine' c_bit_of ?k1 ?k2 ?_); (case k1 => omega); (case k2 => omega))
  | ((with_reducible refine' c_law_span ?k1 ?k2 ?_); (case k1 => omega); (case k2 => omega); intro _ _)
  | ((with_reducible refine' c_pair ?k1 ?_); (case k1 => wtm_at "g_hp"); intro _ _)
  | ((with_reducible refine' c_span ?k1 ?k2 ?_); (case k1 => wtm_at "g_hp"); (case k2 => omega))
  | ((with_reducible refine' c_covers ?k1 ?k2 ?_); (case k1 => wtm_at "g_hp"); (case k2 => omega))
  | ((with_reducible refine' c_contains ?k1 ?k2 ?k3 ?_); (case k1 => wtm_at "g_hp"); (case k2 => wtm_at "g_hp"); (case k3 => omega))
  | ((with_reducible refine' c_law_bits ?_); intro _ _ _ _)
  | ((with_reducible refine' c_law_may ?_); intro _ _)
  | ((with_reducible refine' c_law_shares ?k1 ?_); (case k1 => omega); intro _ _)
  | ((with_reducible refine' c_prefix_of ?k1 ?_); (case k1 => omega); intro _ _ _ _ _)
  | ((with_reducible refine' c_law_base ?k1 ?_); (case k1 => wtm_at "g_hp"); intro _ _ _ _ _)
  | ((with_reducible refine' c_law_halves ?k1 ?k2 ?_); (case k1 => wtm_at "g_hp"); (case k2 => assumption); intro _ _)
  | ((with_reducible refine' c_law_one ?k1 ?k2 ?_); (case k1 => wtm_at "g_hp"); (case k2 => assumption); intro _ _))
local macro_rules | `(tactic| wtm_at "g_ne") => `(tactic| first
  | (with_reducible assumption) | (with_reducible exact Ne.symm (by assumption)) | (with_reducible exact ne_of_none (by assumption) (by assumption)) | (with_reducible exact (ne_of_none (by assumption) (by assumption)).symm)
  | fail)
local macro_rules | `(tactic| wtm_at "g_hp") => `(tactic| first
  | (with_reducible assumption) | (with_reducible exact upd_same) | ((with_reducible refine' up_nn ?k1 ?k2); (case k1 => with_reducible assumption); (case k2 => wtm_at "g_hp")) | ((with_reducible refine' up_k' ?k1 ?k2); (case k1 => wtm_at "g_ne"); (case k2 => wtm_at "g_hp"))
  | ((with_reducible refine' up_ko ?k1 ?k2 ?k3); (case k1 => wtm_at "g_hp"); (case k2 => wtm_at "g_hp"); (case k3 => (intro z; cases z)))
  | ((with_reducible refine' ext_get ?k1 ?k2); (case k1 => assumption); (case k2 => wtm_at "g_hp"))
  | ((with_reducible refine' extp_get ?k1 ?k2 ?k3); (case k1 => assumption); (case k2 => wtm_at "g_ne"); (case k3 => wtm_at "g_hp"))
  | fail)
local macro_rules | `(tactic| wtm_at "g_nn") => `(tactic| first
  | (with_reducible assumption) | ((with_reducible refine' none_up ?k1 ?k2); (case k1 => wtm_at "g_ne"); (case k2 => wtm_at "g_nn")) | ((with_reducible refine' none_dn ?k1); (case k1 => with_reducible assumption))
  | fail)
local macro_rules | `(tactic| wtm_at "g_ex") => `(tactic| first
  | (with_reducible assumption) | (with_reducible exact Ext.rfl') | (with_reducible exact ExtP.rfl')
  | ((with_reducible refine' ext_up ?k1 ?k2); (case k1 => wtm_at "g_nn"); (case k2 => wtm_at "g_ex"))
  | ((with_reducible refine' ext_put ?k1 ?k2); (case k1 => wtm_at "g_nn"); (case k2 => wtm_at "g_ex"))
  | ((with_reducible refine' ext_via ?k1 ?k2); (case k1 => assumption); (case k2 => wtm_at "g_ex"))
  | ((with_reducible refine' ext_thr ?k1 ?k2 ?k3); (case k2 => assumption); (case k1 => wtm_at "g_nn"); (case k3 => wtm_at "g_ex"))
  | ((with_reducible refine' extp_put ?k1); (case k1 => wtm_at "g_ex"))
  | ((with_reducible refine' extp_up ?k1 ?k2); (case k1 => wtm_at "g_nn"); (case k2 => wtm_at "g_ex"))
  | ((with_reducible refine' extp_putn ?k1 ?k2); (case k1 => wtm_at "g_nn"); (case k2 => wtm_at "g_ex"))
  | ((with_reducible refine' extp_via ?k1 ?k2); (case k1 => assumption); (case k2 => wtm_at "g_ex"))
  | ((with_reducible refine' extp_viae ?k1 ?k2); (case k1 => assumption); (case k2 => wtm_at "g_ex"))
  | ((with_reducible refine' extp_thr ?k1 ?k2 ?k3); (case k2 => assumption); (case k1 => wtm_at "g_nn"); (case k3 => wtm_at "g_ex"))
  | fail)
local macro_rules | `(tactic| wtm_at "g_thw") => `(tactic| first
  | (with_reducible assumption) | ((with_reducible refine' Thw.lst ?k1); (case k1 => wtm_at "g_hp")) | ((with_reducible refine' Thw.ins ?k1); (case k1 => wtm_at "g_hp"))
  | fail)
local macro_rules | `(tactic| wtm_at "g_sc") => `(tactic| first
  | (with_reducible assumption) | ((with_reducible refine' scr_new' ?k1 ?k2); (case k1 => wtm_at "g_nn"); (case k2 => wtm_at "g_sc")) | ((with_reducible refine' scr_put' ?k1 ?k2); (case k1 => wtm_at "g_thw"); (case k2 => wtm_at "g_sc"))
  | ((with_reducible refine' scr_ext ?k1 ?k2); (case k1 => assumption); (case k2 => wtm_at "g_sc")) | ((with_reducible refine' scr_extp ?k1 ?k2 ?k3); (case k1 => assumption); (case k2 => wtm_at "g_thw"); (case k3 => wtm_at "g_sc")) | ((with_reducible refine' scr_extn ?k1 ?k2 ?k3); (case k1 => assumption); (case k2 => wtm_at "g_nn"); (case k3 => wtm_at "g_sc"))
  | fail)
local macro_rules | `(tactic| wtm_at "g_sq") => `(tactic| first
  | (with_reducible assumption) | ((with_reducible refine' SqL.of ?k1); (case k1 => wtm_at "g_hp")) | ((with_reducible refine' Scr.sq ?k1); (case k1 => wtm_at "g_sc")) | ((with_reducible refine' sq_new' ?k1 ?k2); (case k1 => wtm_at "g_nn"); (case k2 => wtm_at "g_sq")) | ((with_reducible refine' sq_put' ?k1 ?k2); (case k1 => wtm_at "g_ne"); (case k2 => wtm_at "g_sq"))
  | ((with_reducible refine' sq_ext ?k1 ?k2); (case k1 => assumption); (case k2 => wtm_at "g_sq"))
  | fail)
local macro_rules | `(tactic| wtm_at "g_sqt") => `(tactic| first
  | (with_reducible assumption) | ((with_reducible refine' SqT.of' ?k1); (case k1 => wtm_at "g_hp")) | ((with_reducible refine' sqt_ext ?k1 ?k2); (case k1 => assumption); (case k2 => wtm_at "g_sqt"))
  | fail)
local macro_rules | `(tactic| wtm_at "g_st") => `(tactic| first
  | (with_reducible first
      | refine w_seq ?_ | refine w_asg ?_ | refine w_nm ?_ | refine w_next ?_ | refine w_if ?_ | refine w_ret ?_ | refine w_retN ?_ | refine w_drop ?_
      | refine w_var rfl ?_ | refine w_c ?_ | refine w_op ?_ | refine w_I0 ?_
      | refine w_eqI ?_ | refine w_neI ?_ | refine w_eqB ?_ | refine w_neB ?_ | refine w_eqS ?_ | refine w_neS ?_ | refine w_isN0 ?_ | refine w_isNi ?_ | refine w_isNr ?_ | refine w_isNb ?_ | refine w_isNs ?_ | refine w_notN0 ?_ | refine w_notNi ?_ | refine w_notNr ?_ | refine w_notNb ?_ | refine w_notNs ?_ | refine w_isN ?_ | refine w_notN ?_ | refine w_isB ?_ | refine w_notB ?_
      | refine w_un ?_ | refine w_U ?_ | refine w_chain ?_ | refine w_k ?_ | refine w_test ?_ | refine w_tB ?_ | refine w_tru ?_ | refine w_not ?_ | refine w_and ?_ | refine w_or ?_
      | refine w_andV ?_ | refine w_orV ?_ | refine w_notV ?_ | refine w_ife ?_ | refine w_nil ?_ | refine w_cons ?_ | refine w_tup ?_ | refine w_lst ?_ | refine w_small rfl ?_
      | refine w_call ?_ | refine w_mk ?_ | refine w_mt ?_ | refine w_cb ?_ | refine w_min2 ?_ | refine w_max2 ?_ | refine w_abs ?_ | refine w_int ?_
      | refine w_fld0 ?_ | refine w_bm ?_ | refine w_bm0 ?_ | refine w_sub ?_ | refine w_sfld ?_ | refine w_sfa ?_ | refine w_radd ?_ | refine w_rsub ?_ | refine w_ip ?_ | refine w_rs ?_ | refine w_pr ?_
      | refine w_lcR1 ?_ | refine w_lcR2 ?_ | refine w_lcL ?_ | refine w_lcT ?_ | refine w_sl ?_ | refine w_nopart ?_ | refine w_part ?_ | refine w_pint ?_
      | refine w_forR1 ?_ | refine w_forR2 ?_ | refine w_forL ?_ | refine w_forT ?_ | refine w_aug rfl ?_ | refine w_par ?_ | refine w_brk ?_ | refine w_cont ?_
      | refine w_isi_ii ?_ | refine w_isi_ib ?_ | refine w_isi_bi ?_ | refine w_isi_bb ?_ | refine w_isi_ss ?_ | refine w_isi_is ?_ | refine w_isi_il ?_ | refine w_isi_it ?_ | refine w_isi_sl ?_ | refine w_isi_st ?_ | refine w_isi_nl ?_ | refine w_isi_nt ?_
      | refine if_T ?_ | refine if_F ?_ | refine if_nT ?_ | refine if_nF ?_)
  | ((with_reducible refine' w_lenL ?k1 ?_); (case k1 => wtm_at "g_sq"))
  | ((with_reducible refine' w_lenT ?k1 ?_); (case k1 => wtm_at "g_sqt"))
  | ((with_reducible refine' w_isi_ll ?k1 ?_); (case k1 => wtm_at "g_hp"))
  | ((with_reducible refine' w_isi_tt ?k1 ?_); (case k1 => wtm_at "g_hp"))
  | ((with_reducible refine' w_isi_lt ?k1 ?_); (case k1 => wtm_at "g_hp"))
  | ((with_reducible refine' w_isi_tl ?k1 ?_); (case k1 => wtm_at "g_hp"))
  | wtm_at "g_get"
  | wtm_at "g_mt"
  | wtm_at "g_set"
  | wtm_at "g_set2"
  | wtm_at "g_call"
  | fail)
local macro_rules | `(tactic| wtm_at "g_go") => `(tactic| repeat wtm_at "g_st")
local macro_rules | `(tactic| wtm_at "g_ifo") => `(tactic| first
  | (refine if_nno rfl ?_) | (refine if_yes rfl ?_)
  | (refine if_no (by omega) ?_)
  | (refine if_yes (by omega) ?_)
  | (refine if_nno (by omega) ?_)
  | (refine if_nyes (by omega) ?_)
  | (refine if_nno (decide_eq_false (by omega)).symm ?_)
  | (refine if_nno (decide_eq_true (by omega)).symm ?_)
  | fail)
local macro_rules | `(tactic| wtm_at "g_goo") => `(tactic| repeat (first | wtm_at "g_st" | wtm_at "g_ifo"))
section
variable {K : PySem.W.Frag} {mg : Str → Option Value} {base : Heap}
theorem pure_law_one (T : TX K mg base) (vs : List V) (H : Hp) (Q : VK) (E : XK) (h : sp_law_one K vs H Q E) : t_law_one K E { nx := fun _ H' => Q .non H', rt := Q } (start N_law_one vs) H := by
  obtain ⟨p, dx, b, l, rfl, hp, o, q⟩ := h
  obtain ⟨h0, h1, h2, h3, h4⟩ := id o
  unfold t_law_one
  wtm_at "g_goo"
  intro t2 ht2
  wtm_at "g_go"
  refine w_neT' [b, l] [b, l] (by wtm_at "g_sqt") (by wtm_at "g_sqt") ?_
  rw [decide_eq_true rfl]
  wtm_at "g_goo"
  exact q _ (by wtm_at "g_ex")
end
end K72

namespace K72
open PySem PySem.Spec PyProof.Rows L2 G
local macro_rules | `(tactic| wtm_at "g_get") => `(tactic| first
  | ((with_reducible refine' w_fld ?k1 (cl_Prefix (by assumption)) (na_Prefix_base (by assumption)) lk_Prefix_base ?_); (case k1 => wtm_at "g_hp"))
  | ((with_reducible refine' w_fld ?k1 (cl_Prefix (by assumption)) (na_Prefix_length (by assumption)) lk_Prefix_length ?_); (case k1 => wtm_at "g_hp"))
  | fail)
local macro_rules | `(tactic| wtm_at "g_set") => `(tactic| first
  | ((with_reducible refine' w_sput ?k1 (cl_Prefix (by assumption)) (na_Prefix_base (by assumption)) pt_Prefix_base rfl ?_); (case k1 => wtm_at "g_hp"))
  | ((with_reducible refine' w_sput ?k1 (cl_Prefix (by assumption)) (na_Prefix_base (by assumption)) pn_Prefix_base rfl ?_); (case k1 => wtm_at "g_hp"))
  | ((with_reducible refine' w_sput ?k1 (cl_Prefix (by assumption)) (na_Prefix_length (by assumption)) pt_Prefix_length rfl ?_); (case k1 => wtm_at "g_hp"))
  | ((with_reducible refine' w_sput ?k1 (cl_Prefix (by assumption)) (na_Prefix_length (by assumption)) pn_Prefix_length rfl ?_); (case k1 => wtm_at "g_hp"))
  | fail)
local macro_rules | `(tactic| wtm_at "g_set2") => `(tactic| first
  | ((with_reducible refine' w_sput2 ?k1 pt_Prefix_base rfl ?_); (case k1 => wtm_at "g_hp"))
  | ((with_reducible refine' w_sput2 ?k1 pt_Prefix_length rfl ?_); (case k1 => wtm_at "g_hp"))
  | fail)
local macro_rules | `(tactic| wtm_at "g_mt") => `(tactic| first
  | ((with_reducible refine' w_mt1 ?k1 ln_Prefix___eq__ ?_); (case k1 => wtm_at "g_hp"))
  | ((with_reducible refine' w_mt1 ?k1 ln_Prefix_pair ?_); (case k1 => wtm_at "g_hp"))
  | ((with_reducible refine' w_mt1 ?k1 ln_Prefix_span ?_); (case k1 => wtm_at "g_hp"))
  | ((with_reducible refine' w_mt1 ?k1 ln_Prefix_covers ?_); (case k1 => wtm_at "g_hp"))
  | ((with_reducible refine' w_mt1 ?k1 ln_Prefix_contains ?_); (case k1 => wtm_at "g_hp"))
  | ((with_reducible refine' w_mt1 ?k1 ln_Prefix_halves ?_); (case k1 => wtm_at "g_hp"))
  | fail)
local macro_rules | `(tactic| wtm_at "g_call") => `(tactic| first
  | ((with_reducible refine' c_digit ?k1 ?k2 ?k3 ?_); (case k1 => wtm_at "g_hp"); (case k2 => omega); (case k3 => omega); intro _ _ _ _)
  | ((with_reducible refine' c_start ?_); intro _ _ _)
  | ((with_reducible refine' c_isint ?_))
  | ((with_reducible refine' c_cell ?k1 ?k2 ?_); (case k1 => wtm_at "g_sq"); (case k2 => omega); intro _)
  | ((with_reducible refine' c_span_of ?k1 ?k2 ?_); (case k1 => omega); (case k2 => omega))
  | ((with_reducible refine' c_bit_of ?k1 ?k2 ?_); (case k1 => omega); (case k2 => omega))
  | ((with_reducible refine' c_law_span ?k1 ?k2 ?_); (case k1 => omega); (case k2 => omega); intro _ _)
  | ((with_reducible refine' c_pair ?k1 ?_); (case k1 => wtm_at "g_hp"); intro _ _)
  | ((with_reducible refine' c_span ?k1 ?k2 ?_); (case k1 => wtm_at "g_hp"); (case k2 => omega))
  | ((with_reducible refine' c_covers ?k1 ?k2 ?_); (case k1 => wtm_at "g_hp"); (case k2 => omega))
  | ((with_reducible refine' c_contains ?k1 ?k2 ?k3 ?_); (case k1 => wtm_at "g_hp"); (case k2 => wtm_at "g_hp"); (case k3 => omega))
  | ((with_reducible refine' c_law_bits ?_); intro _ _ _ _)
  | ((with_reducible refine' c_law_may ?_); intro _ _)
  | ((with_reducible refine' c_law_shares ?k1 ?_); (case k1 => omega); intro _ _)
  | ((with_reducible refine' c_prefix_of ?k1 ?_); (case k1 => omega); intro _ _ _ _ _)
  | ((with_reducible refine' c_law_base ?k1 ?_); (case k1 => wtm_at "g_hp"); intro _ _ _ _ _)
  | ((with_reducible refine' c_law_halves ?k1 ?k2 ?_); (case k1 => wtm_at "g_hp"); (case k2 => assumption); intro _ _)
  | ((with_reducible refine' c_law_one ?k1 ?k2 ?_); (case k1 => wtm_at "g_hp"); (case k2 => assumption); intro _ _))
local macro_rules | `(tactic| wtm_at "g_ne") => `(tactic| first
  | (with_reducible assumption) | (with_reducible exact Ne.symm (by assumption)) | (with_reducible exact ne_of_none (by assumption) (by assumption)) | (with_reducible exact (ne_of_none (by assumption) (by assumption)).symm)
  | fail)
local macro_rules | `(tactic| wtm_at "g_hp") => `(tactic| first
  | (with_reducible assumption) | (with_reducible exact upd_same) | ((with_reducible refine' up_nn ?k1 ?k2); (case k1 => with_reducible assumption); (case k2 => wtm_at "g_hp")) | ((with_reducible refine' up_k' ?k1 ?k2); (case k1 => wtm_at "g_ne"); (case k2 => wtm_at "g_hp"))
  | ((with_reducible refine' up_ko ?k1 ?k2 ?k3); (case k1 => wtm_at "g_hp"); (case k2 => wtm_at "g_hp"); (case k3 => (intro z; cases z)))
  | ((with_reducible refine' ext_get ?k1 ?k2); (case k1 => assumption); (case k2 => wtm_at "g_hp"))
  | ((with_reducible refine' extp_get ?k1 ?k2 ?k3); (case k1 => assumption); (case k2 => wtm_at "g_ne"); (case k3 => wtm_at "g_hp"))
  | fail)
local macro_rules | `(tactic| wtm_at "g_nn") => `(tactic| first
  | (with_reducible assumption) | ((with_reducible refine' none_up ?k1 ?k2); (case k1 => wtm_at "g_ne"); (case k2 => wtm_at "g_nn")) | ((with_reducible refine' none_dn ?k1); (case k1 => with_reducible assumption))
  | fail)
local macro_rules | `(tactic| wtm_at "g_ex") => `(tactic| first
  | (with_reducible assumption) | (with_reducible exact Ext.rfl') | (with_reducible exact ExtP.rfl')
  | ((with_reducible refine' ext_up ?k1 ?k2); (case k1 => wtm_at "g_nn"); (case k2 => wtm_at "g_ex"))
  | ((with_reducible refine' ext_put ?k1 ?k2); (case k1 => wtm_at "g_nn"); (case k2 => wtm_at "g_ex"))
  | ((with_reducible refine' ext_via ?k1 ?k2); (case k1 => assumption); (case k2 => wtm_at "g_ex"))
  | ((with_reducible refine' ext_thr ?k1 ?k2 ?k3); (case k2 => assumption); (case k1 => wtm_at "g_nn"); (case k3 => wtm_at "g_ex"))
  | ((with_reducible refine' extp_put ?k1); (case k1 => wtm_at "g_ex"))
  | ((with_reducible refine' extp_up ?k1 ?k2); (case k1 => wtm_at "g_nn"); (case k2 => wtm_at "g_ex"))
  | ((with_reducible refine' extp_putn ?k1 ?k2); (case k1 => wtm_at "g_nn"); (case k2 => wtm_at "g_ex"))
  | ((with_reducible refine' extp_via ?k1 ?k2); (case k1 => assumption); (case k2 => wtm_at "g_ex"))
  | ((with_reducible refine' extp_viae ?k1 ?k2); (case k1 => assumption); (case k2 => wtm_at "g_ex"))
  | ((with_reducible refine' extp_thr ?k1 ?k2 ?k3); (case k2 => assumption); (case k1 => wtm_at "g_nn"); (case k3 => wtm_at "g_ex"))
  | fail)
local macro_rules | `(tactic| wtm_at "g_thw") => `(tactic| first
  | (with_reducible assumption) | ((with_reducible refine' Thw.lst ?k1); (case k1 => wtm_at "g_hp")) | ((with_reducible refine' Thw.ins ?k1); (case k1 => wtm_at "g_hp"))
  | fail)
local macro_rules | `(tactic| wtm_at "g_sc") => `(tactic| first
  | (with_reducible assumption) | ((with_reducible refine' scr_new' ?k1 ?k2); (case k1 => wtm_at "g_nn"); (case k2 => wtm_at "g_sc")) | ((with_reducible refine' scr_put' ?k1 ?k2); (case k1 => wtm_at "g_thw"); (case k2 => wtm_at "g_sc"))
  | ((with_reducible refine' scr_ext ?k1 ?k2); (case k1 => assumption); (case k2 => wtm_at "g_sc")) | ((with_reducible refine' scr_extp ?k1 ?k2 ?k3); (case k1 => assumption); (case k2 => wtm_at "g_thw"); (case k3 => wtm_at "g_sc")) | ((with_reducible refine' scr_extn ?k1 ?k2 ?k3); (case k1 => assumption); (case k2 => wtm_at "g_nn"); (case k3 => wtm_at "g_sc"))
  | fail)
local macro_rules | `(tactic| wtm_at "g_sq") => `(tactic| first
  | (with_reducible assumption) | ((with_reducible refine' SqL.of ?k1); (case k1 => wtm_at "g_hp")) | ((with_reducible refine' Scr.sq ?k1); (case k1 => wtm_at "g_sc")) | ((with_reducible refine' sq_new' ?k1 ?k2); (case k1 => wtm_at "g_nn"); (case k2 => wtm_at "g_sq")) | ((with_reducible refine' sq_put' ?k1 ?k2); (case k1 => wtm_at "g_ne"); (case k2 => wtm_at "g_sq"))
  | ((with_reducible refine' sq_ext ?k1 ?k2); (case k1 => assumption); (case k2 => wtm_at "g_sq"))
  | fail)
local macro_rules | `(tactic| wtm_at "g_sqt") => `(tactic| first
  | (with_reducible assumption) | ((with_reducible refine' SqT.of' ?k1); (case k1 => wtm_at "g_hp")) | ((with_reducible refine' sqt_ext ?k1 ?k2); (case k1 => assumption); (case k2 => wtm_at "g_sqt"))
  | fail)
local macro_rules | `(tactic| wtm_at "g_st") => `(tactic| first
  | (with_reducible first
      | refine w_seq ?_ | refine w_asg ?_ | refine w_nm ?_ | refine w_next ?_ | refine w_if ?_ | refine w_ret ?_ | refine w_retN ?_ | refine w_drop ?_
      | refine w_var rfl ?_ | refine w_c ?_ | refine w_op ?_ | refine w_I0 ?_
      | refine w_eqI ?_ | refine w_neI ?_ | refine w_eqB ?_ | refine w_neB ?_ | refine w_eqS ?_ | refine w_neS ?_ | refine w_isN0 ?_ | refine w_isNi ?_ | refine w_isNr ?_ | refine w_isNb ?_ | refine w_isNs ?_ | refine w_notN0 ?_ | refine w_notNi ?_ | refine w_notNr ?_ | refine w_notNb ?_ | refine w_notNs ?_ | refine w_isN ?_ | refine w_notN ?_ | refine w_isB ?_ | refine w_notB ?_
      | refine w_un ?_ | refine w_U ?_ | refine w_chain ?_ | refine w_k ?_ | refine w_test ?_ | refine w_tB ?_ | refine w_tru ?_ | refine w_not ?_ | refine w_and ?_ | refine w_or ?_
      | refine w_andV ?_ | refine w_orV ?_ | refine w_notV ?_ | refine w_ife ?_ | refine w_nil ?_ | refine w_cons ?_ | refine w_tup ?_ | refine w_lst ?_ | refine w_small rfl ?_
      | refine w_call ?_ | refine w_mk ?_ | refine w_mt ?_ | refine w_cb ?_ | refine w_min2 ?_ | refine w_max2 ?_ | refine w_abs ?_ | refine w_int ?_
      | refine w_fld0 ?_ | refine w_bm ?_ | refine w_bm0 ?_ | refine w_sub ?_ | refine w_sfld ?_ | refine w_sfa ?_ | refine w_radd ?_ | refine w_rsub ?_ | refine w_ip ?_ | refine w_rs ?_ | refine w_pr ?_
      | refine w_lcR1 ?_ | refine w_lcR2 ?_ | refine w_lcL ?_ | refine w_lcT ?_ | refine w_sl ?_ | refine w_nopart ?_ | refine w_part ?_ | refine w_pint ?_
      | refine w_forR1 ?_ | refine w_forR2 ?_ | refine w_forL ?_ | refine w_forT ?_ | refine w_aug rfl ?_ | refine w_par ?_ | refine w_brk ?_ | refine w_cont ?_
      | refine w_isi_ii ?_ | refine w_isi_ib ?_ | refine w_isi_bi ?_ | refine w_isi_bb ?_ | refine w_isi_ss ?_ | refine w_isi_is ?_ | refine w_isi_il ?_ | refine w_isi_it ?_ | refine w_isi_sl ?_ | refine w_isi_st ?_ | refine w_isi_nl ?_ | refine w_isi_nt ?_
      | refine if_T ?_ | refine if_F ?_ | refine if_nT ?_ | refine if_nF ?_)
  | ((with_reducible refine' w_lenL ?k1 ?_); (case k1 => wtm_at "g_sq"))
  | ((with_reducible refine' w_lenT ?k1 ?_); (case k1 => wtm_at "g_sqt"))
  | ((with_reducible refine' w_isi_ll ?k1 ?_); (case k1 => wtm_at "g_hp"))
  | ((with_reducible refine' w_isi_tt ?k1 ?_); (case k1 => wtm_at "g_hp"))
  | ((with_reducible refine' w_isi_lt ?k1 ?_); (case k1 => wtm_at "g_hp"))
  | ((with_reducible refine' w_isi_tl ?k1 ?_); (case k1 => wtm_at "g_hp"))
  | wtm_at "g_get"
  | wtm_at "g_mt"
  | wtm_at "g_set"
  | wtm_at "g_set2"
  | wtm_at "g_call"
  | fail)
local macro_rules | `(tactic| wtm_at "g_go") => `(tactic| repeat wtm_at "g_st")
local macro_rules | `(tactic| wtm_at "g_ifo") => `(tactic| first
  | (refine if_nno rfl ?_) | (refine if_yes rfl ?_)
  | (refine if_no (by omega) ?_)
  | (refine if_yes (by omega) ?_)
  | (refine if_nno (by omega) ?_)
  | (refine if_nyes (by omega) ?_)
  | (refine if_nno (decide_eq_false (by omega)).symm ?_)
  | (refine if_nno (decide_eq_true (by omega)).symm ?_)
  | fail)
local macro_rules | `(tactic| wtm_at "g_goo") => `(tactic| repeat (first | wtm_at "g_st" | wtm_at "g_ifo"))
section
variable {K : PySem.W.Frag} {mg : Str → Option Value} {base : Heap}
theorem c_eq {H : Hp} {Q : VK} {p q dx dy : Addr} {b l c m : Int} (h : H p = some (oP K dx b l)) (h2 : H q = some (oP K dy c m)) (k : Q (.bl (decide (b = c ∧ l = m))) H) : rOwn K (cP K) (sp_Prefix__eq K) (.ref p) (.ref q) H Q :=
  w_own h (tyR_ins h2) nf_same ⟨p, dx, b, l, q, rfl, h, .inl ⟨dy, c, m, h2, ⟨_, rfl, k⟩⟩⟩
theorem c_eqt {H : Hp} {Q : VK} {p q dx : Addr} {b l : Int} {xs : List V} (T : TX K mg base) (h : H p = some (oP K dx b l)) (h2 : H q = some (.tup xs)) (k : Q (.bl false) H) : rOwn K (cP K) (sp_Prefix__eq K) (.ref p) (.ref q) H Q :=
  w_own h (tyR_tup h2) (T.b.ex_ 3) ⟨p, dx, b, l, q, rfl, h, .inr ⟨xs, h2, ⟨_, rfl, k⟩⟩⟩
theorem pure_law_addresses (T : TX K mg base) (vs : List V) (H : Hp) (Q : VK) (E : XK) (h : sp_law_addresses K vs H Q E) : t_law_addresses K E { nx := fun _ H' => Q .non H', rt := Q } (start N_law_addresses vs) H := by
  obtain ⟨s, n, p, dx, b, l, y, dy, c, m, rfl, hs, hp, hy, o, o2, q⟩ := h
  obtain ⟨h0, h1, h2, h3, h4⟩ := id o
  obtain ⟨g0, g1, g2, g3, g4⟩ := id o2
  unfold t_law_addresses
  wtm_at "g_go"
  intro t1 ht1
  wtm_at "g_go"
  rename_i d n' d0 d1
  intro t2 ht2
  have nst : s ≠ t1 := ne_of_none hs ht1
  have nt : t1 ≠ t2 := fun e => by
    subst e
    exact absurd (up_none ht2).2 (by rw [upd_same]; exact fun z => nomatch z)
  refine w_cat (xs := [V.int b, V.int (b + sn l - 1), V.int (b + sn l), V.int (b - 1)]) (zs := [V.int c, V.int (c + sn m - 1), V.int d]) (by wtm_at "g_hp") (by wtm_at "g_hp") (small_le rfl) fun t3 ht3 => ?_
  wtm_at "g_go"
  refine lcLF (xs := [V.int b, V.int (b + sn l - 1), V.int (b + sn l), V.int (b - 1)] ++ [V.int c, V.int (c + sn m - 1), V.int d]) (fun i => decide (0 ≤ ([b, b + sn l - 1, b + sn l, b - 1, c, c + sn m - 1, d] : List Int).getD i 0 ∧ ([b, b + sn l - 1, b + sn l, b - 1, c, c + sn m - 1, d] : List Int).getD i 0 ≤ 65535))
    (fun i => V.int (([b, b + sn l - 1, b + sn l, b - 1, c, c + sn m - 1, d] : List Int).getD i 0)) (by wtm_at "g_sq") (by show (7 : Nat) < _; decide) (fun i x D H1 hx hD e hA => ?_) (fun D H1 hD e hA => ?_)
  · have hx2 : x = V.int (([b, b + sn l - 1, b + sn l, b - 1, c, c + sn m - 1, d] : List Int).getD i 0) ∧ i < 7 := by
      have hi : i < 7 := (List.getElem?_eq_some_iff.mp hx).1
      refine ⟨?_, hi⟩
      have h7 : i = 0 ∨ i = 1 ∨ i = 2 ∨ i = 3 ∨ i = 4 ∨ i = 5 ∨ i = 6 := by omega
      rcases h7 with rfl | rfl | rfl | rfl | rfl | rfl | rfl <;> (cases hx; rfl)
    obtain ⟨rfl, hi⟩ := hx2
    wtm_at "g_go"
    refine if_d (fun h5 => ?_) (fun h5 => ?_)
    · wtm_at "g_go"
      refine if_d (fun h6 => ?_) (fun h6 => ?_)
      · wtm_at "g_go"
        exact lc_onef (by wtm_at "g_hp") (by wtm_at "g_ex") hD (by omega) (decide_eq_true ⟨h5, h6⟩) rfl
      · exact lc_nonef (by wtm_at "g_hp") (by wtm_at "g_ex") (decide_eq_false fun z => h6 z.2)
    · wtm_at "g_go"
      exact lc_nonef (by wtm_at "g_hp") (by wtm_at "g_ex") (decide_eq_false fun z => h5 z.1)
  · refine q H1 D (((List.range 7).filter fun i => decide (0 ≤ ([b, b + sn l - 1, b + sn l, b - 1, c, c + sn m - 1, d] : List Int).getD i 0 ∧ ([b, b + sn l - 1, b + sn l, b - 1, c, c + sn m - 1, d] : List Int).getD i 0 ≤ 65535)).map fun i => ([b, b + sn l - 1, b + sn l, b - 1, c, c + sn m - 1, d] : List Int).getD i 0) n' ?_ ?_ ?_ ?_ ?_
    · wtm_at "g_ex"
    · wtm_at "g_hp"
    · rw [hA, List.map_map]
      rfl
    · intro x hx
      obtain ⟨i, hi, rfl⟩ := List.mem_map.mp hx
      exact of_decide_eq_true (List.mem_filter.mp hi).2
    · intro z
      subst z
      obtain ⟨_, z⟩ := up_none hD
      obtain ⟨_, z⟩ := up_none z
      rw [upd_same] at z
      cases z
end
end K72

namespace K72
open PySem PySem.Spec PyProof.Rows L2 G
local macro_rules | `(tactic| wtm_at "g_get") => `(tactic| first
  | ((with_reducible refine' w_fld ?k1 (cl_Prefix (by assumption)) (na_Prefix_base (by assumption)) lk_Prefix_base ?_); (case k1 => wtm_at "g_hp"))
  | ((with_reducible refine' w_fld ?k1 (cl_Prefix (by assumption)) (na_Prefix_length (by assumption)) lk_Prefix_length ?_); (case k1 => wtm_at "g_hp"))
  | fail)
local macro_rules | `(tactic| wtm_at "g_set") => `(tactic| first
  | ((with_reducible refine' w_sput ?k1 (cl_Prefix (by assumption)) (na_Prefix_base (by assumption)) pt_Prefix_base rfl ?_); (case k1 => wtm_at "g_hp"))
  | ((with_reducible refine' w_sput ?k1 (cl_Prefix (by assumption)) (na_Prefix_base (by assumption)) pn_Prefix_base rfl ?_); (case k1 => wtm_at "g_hp"))
  | ((with_reducible refine' w_sput ?k1 (cl_Prefix (by assumption)) (na_Prefix_length (by assumption)) pt_Prefix_length rfl ?_); (case k1 => wtm_at "g_hp"))
  | ((with_reducible refine' w_sput ?k1 (cl_Prefix (by assumption)) (na_Prefix_length (by assumption)) pn_Prefix_length rfl ?_); (case k1 => wtm_at "g_hp"))
  | fail)
local macro_rules | `(tactic| wtm_at "g_set2") => `(tactic| first
  | ((with_reducible refine' w_sput2 ?k1 pt_Prefix_base rfl ?_); (case k1 => wtm_at "g_hp"))
  | ((with_reducible refine' w_sput2 ?k1 pt_Prefix_length rfl ?_); (case k1 => wtm_at "g_hp"))
  | fail)
local macro_rules | `(tactic| wtm_at "g_mt") => `(tactic| first
  | ((with_reducible refine' w_mt1 ?k1 ln_Prefix___eq__ ?_); (case k1 => wtm_at "g_hp"))
  | ((with_reducible refine' w_mt1 ?k1 ln_Prefix_pair ?_); (case k1 => wtm_at "g_hp"))
  | ((with_reducible refine' w_mt1 ?k1 ln_Prefix_span ?_); (case k1 => wtm_at "g_hp"))
  | ((with_reducible refine' w_mt1 ?k1 ln_Prefix_covers ?_); (case k1 => wtm_at "g_hp"))
  | ((with_reducible refine' w_mt1 ?k1 ln_Prefix_contains ?_); (case k1 => wtm_at "g_hp"))
  | ((with_reducible refine' w_mt1 ?k1 ln_Prefix_halves ?_); (case k1 => wtm_at "g_hp"))
  | fail)
local macro_rules | `(tactic| wtm_at "g_call") => `(tactic| first
  | ((with_reducible refine' c_digit ?k1 ?k2 ?k3 ?_); (case k1 => wtm_at "g_hp"); (case k2 => omega); (case k3 => omega); intro _ _ _ _)
  | ((with_reducible refine' c_start ?_); intro _ _ _)
  | ((with_reducible refine' c_isint ?_))
  | ((with_reducible refine' c_cell ?k1 ?k2 ?_); (case k1 => wtm_at "g_sq"); (case k2 => omega); intro _)
  | ((with_reducible refine' c_span_of ?k1 ?k2 ?_); (case k1 => omega); (case k2 => omega))
  | ((with_reducible refine' c_bit_of ?k1 ?k2 ?_); (case k1 => omega); (case k2 => omega))
  | ((with_reducible refine' c_law_span ?k1 ?k2 ?_); (case k1 => omega); (case k2 => omega); intro _ _)
  | ((with_reducible refine' c_pair ?k1 ?_); (case k1 => wtm_at "g_hp"); intro _ _)
  | ((with_reducible refine' c_span ?k1 ?k2 ?_); (case k1 => wtm_at "g_hp"); (case k2 => omega))
  | ((with_reducible refine' c_covers ?k1 ?k2 ?_); (case k1 => wtm_at "g_hp"); (case k2 => omega))
  | ((with_reducible refine' c_contains ?k1 ?k2 ?k3 ?_); (case k1 => wtm_at "g_hp"); (case k2 => wtm_at "g_hp"); (case k3 => omega))
  | ((with_reducible refine' c_law_bits ?_); intro _ _ _ _)
  | ((with_reducible refine' c_law_may ?_); intro _ _)
  | ((with_reducible refine' c_law_shares ?k1 ?_); (case k1 => omega); intro _ _)
  | ((with_reducible refine' c_prefix_of ?k1 ?_); (case k1 => omega); intro _ _ _ _ _)
  | ((with_reducible refine' c_law_base ?k1 ?_); (case k1 => wtm_at "g_hp"); intro _ _ _ _ _)
  | ((with_reducible refine' c_law_halves ?k1 ?k2 ?_); (case k1 => wtm_at "g_hp"); (case k2 => assumption); intro _ _)
  | ((with_reducible refine' c_law_one ?k1 ?k2 ?_); (case k1 => wtm_at "g_hp"); (case k2 => assumption); intro _ _))
local macro_rules | `(tactic| wtm_at "g_ne") => `(tactic| first
  | (with_reducible assumption) | (with_reducible exact Ne.symm (by assumption)) | (with_reducible exact ne_of_none (by assumption) (by assumption)) | (with_reducible exact (ne_of_none (by assumption) (by assumption)).symm)
  | fail)
local macro_rules | `(tactic| wtm_at "g_hp") => `(tactic| first
  | (with_reducible assumption) | (with_reducible exact upd_same) | ((with_reducible refine' up_nn ?k1 ?k2); (case k1 => with_reducible assumption); (case k2 => wtm_at "g_hp")) | ((with_reducible refine' up_k' ?k1 ?k2); (case k1 => wtm_at "g_ne"); (case k2 => wtm_at "g_hp"))
  | ((with_reducible refine' up_ko ?k1 ?k2 ?k3); (case k1 => wtm_at "g_hp"); (case k2 => wtm_at "g_hp"); (case k3 => (intro z; cases z)))
  | ((with_reducible refine' ext_get ?k1 ?k2); (case k1 => assumption); (case k2 => wtm_at "g_hp"))
  | ((with_reducible refine' extp_get ?k1 ?k2 ?k3); (case k1 => assumption); (case k2 => wtm_at "g_ne"); (case k3 => wtm_at "g_hp"))
  | fail)
local macro_rules | `(tactic| wtm_at "g_nn") => `(tactic| first
  | (with_reducible assumption) | ((with_reducible refine' none_up ?k1 ?k2); (case k1 => wtm_at "g_ne"); (case k2 => wtm_at "g_nn")) | ((with_reducible refine' none_dn ?k1); (case k1 => with_reducible assumption))
  | fail)
local macro_rules | `(tactic| wtm_at "g_ex") => `(tactic| first
  | (with_reducible assumption) | (with_reducible exact Ext.rfl') | (with_reducible exact ExtP.rfl')
  | ((with_reducible refine' ext_up ?k1 ?k2); (case k1 => wtm_at "g_nn"); (case k2 => wtm_at "g_ex"))
  | ((with_reducible refine' ext_put ?k1 ?k2); (case k1 => wtm_at "g_nn"); (case k2 => wtm_at "g_ex"))
  | ((with_reducible refine' ext_via ?k1 ?k2); (case k1 => assumption); (case k2 => wtm_at "g_ex"))
  | ((with_reducible refine' ext_thr ?k1 ?k2 ?k3); (case k2 => assumption); (case k1 => wtm_at "g_nn"); (case k3 => wtm_at "g_ex"))
  | ((with_reducible refine' extp_put ?k1); (case k1 => wtm_at "g_ex"))
  | ((with_reducible refine' extp_up ?k1 ?k2); (case k1 => wtm_at "g_nn"); (case k2 => wtm_at "g_ex"))
  | ((with_reducible refine' extp_putn ?k1 ?k2); (case k1 => wtm_at "g_nn"); (case k2 => wtm_at "g_ex"))
  | ((with_reducible refine' extp_via ?k1 ?k2); (case k1 => assumption); (case k2 => wtm_at "g_ex"))
  | ((with_reducible refine' extp_viae ?k1 ?k2); (case k1 => assumption); (case k2 => wtm_at "g_ex"))
  | ((with_reducible refine' extp_thr ?k1 ?k2 ?k3); (case k2 => assumption); (case k1 => wtm_at "g_nn"); (case k3 => wtm_at "g_ex"))
  | fail)
local macro_rules | `(tactic| wtm_at "g_thw") => `(tactic| first
  | (with_reducible assumption) | ((with_reducible refine' Thw.lst ?k1); (case k1 => wtm_at "g_hp")) | ((with_reducible refine' Thw.ins ?k1); (case k1 => wtm_at "g_hp"))
  | fail)
local macro_rules | `(tactic| wtm_at "g_sc") => `(tactic| first
  | (with_reducible assumption) | ((with_reducible refine' scr_new' ?k1 ?k2); (case k1 => wtm_at "g_nn"); (case k2 => wtm_at "g_sc")) | ((with_reducible refine' scr_put' ?k1 ?k2); (case k1 => wtm_at "g_thw"); (case k2 => wtm_at "g_sc"))
  | ((with_reducible refine' scr_ext ?k1 ?k2); (case k1 => assumption); (case k2 => wtm_at "g_sc")) | ((with_reducible refine' scr_extp ?k1 ?k2 ?k3); (case k1 => assumption); (case k2 => wtm_at "g_thw"); (case k3 => wtm_at "g_sc")) | ((with_reducible refine' scr_extn ?k1 ?k2 ?k3); (case k1 => assumption); (case k2 => wtm_at "g_nn"); (case k3 => wtm_at "g_sc"))
  | fail)
local macro_rules | `(tactic| wtm_at "g_sq") => `(tactic| first
  | (with_reducible assumption) | ((with_reducible refine' SqL.of ?k1); (case k1 => wtm_at "g_hp")) | ((with_reducible refine' Scr.sq ?k1); (case k1 => wtm_at "g_sc")) | ((with_reducible refine' sq_new' ?k1 ?k2); (case k1 => wtm_at "g_nn"); (case k2 => wtm_at "g_sq")) | ((with_reducible refine' sq_put' ?k1 ?k2); (case k1 => wtm_at "g_ne"); (case k2 => wtm_at "g_sq"))
  | ((with_reducible refine' sq_ext ?k1 ?k2); (case k1 => assumption); (case k2 => wtm_at "g_sq"))
  | fail)
local macro_rules | `(tactic| wtm_at "g_sqt") => `(tactic| first
  | (with_reducible assumption) | ((with_reducible refine' SqT.of' ?k1); (case k1 => wtm_at "g_hp")) | ((with_reducible refine' sqt_ext ?k1 ?k2); (case k1 => assumption); (case k2 => wtm_at "g_sqt"))
  | fail)
local macro_rules | `(tactic| wtm_at "g_st") => `(tactic| first
  | (with_reducible first
      | refine w_seq ?_ | refine w_asg ?_ | refine w_nm ?_ | refine w_next ?_ | refine w_if ?_ | refine w_ret ?_ | refine w_retN ?_ | refine w_drop ?_
      | refine w_var rfl ?_ | refine w_c ?_ | refine w_op ?_ | refine w_I0 ?_
      | refine w_eqI ?_ | refine w_neI ?_ | refine w_eqB ?_ | refine w_neB ?_ | refine w_eqS ?_ | refine w_neS ?_ | refine w_isN0 ?_ | refine w_isNi ?_ | refine w_isNr ?_ | refine w_isNb ?_ | refine w_isNs ?_ | refine w_notN0 ?_ | refine w_notNi ?_ | refine w_notNr ?_ | refine w_notNb ?_ | refine w_notNs ?_ | refine w_isN ?_ | refine w_notN ?_ | refine w_isB ?_ | refine w_notB ?_
      | refine w_un ?_ | refine w_U ?_ | refine w_chain ?_ | refine w_k ?_ | refine w_test ?_ | refine w_tB ?_ | refine w_tru ?_ | refine w_not ?_ | refine w_and ?_ | refine w_or ?_
      | refine w_andV ?_ | refine w_orV ?_ | refine w_notV ?_ | refine w_ife ?_ | refine w_nil ?_ | refine w_cons ?_ | refine w_tup ?_ | refine w_lst ?_ | refine w_small rfl ?_
      | refine w_call ?_ | refine w_mk ?_ | refine w_mt ?_ | refine w_cb ?_ | refine w_min2 ?_ | refine w_max2 ?_ | refine w_abs ?_ | refine w_int ?_
      | refine w_fld0 ?_ | refine w_bm ?_ | refine w_bm0 ?_ | refine w_sub ?_ | refine w_sfld ?_ | refine w_sfa ?_ | refine w_radd ?_ | refine w_rsub ?_ | refine w_ip ?_ | refine w_rs ?_ | refine w_pr ?_
      | refine w_lcR1 ?_ | refine w_lcR2 ?_ | refine w_lcL ?_ | refine w_lcT ?_ | refine w_sl ?_ | refine w_nopart ?_ | refine w_part ?_ | refine w_pint ?_
      | refine w_forR1 ?_ | refine w_forR2 ?_ | refine w_forL ?_ | refine w_forT ?_ | refine w_aug rfl ?_ | refine w_par ?_ | refine w_brk ?_ | refine w_cont ?_
      | refine w_isi_ii ?_ | refine w_isi_ib ?_ | refine w_isi_bi ?_ | refine w_isi_bb ?_ | refine w_isi_ss ?_ | refine w_isi_is ?_ | refine w_isi_il ?_ | refine w_isi_it ?_ | refine w_isi_sl ?_ | refine w_isi_st ?_ | refine w_isi_nl ?_ | refine w_isi_nt ?_
      | refine if_T ?_ | refine if_F ?_ | refine if_nT ?_ | refine if_nF ?_)
  | ((with_reducible refine' w_lenL ?k1 ?_); (case k1 => wtm_at "g_sq"))
  | ((with_reducible refine' w_lenT ?k1 ?_); (case k1 => wtm_at "g_sqt"))
  | ((with_reducible refine' w_isi_ll ?k1 ?_); (case k1 => wtm_at "g_hp"))
  | ((with_reducible refine' w_isi_tt ?k1 ?_); (case k1 => wtm_at "g_hp"))
  | ((with_reducible refine' w_isi_lt ?k1 ?_); (case k1 => wtm_at "g_hp"))
  | ((with_reducible refine' w_isi_tl ?k1 ?_); (case k1 => wtm_at "g_hp"))
  | wtm_at "g_get"
  | wtm_at "g_mt"
  | wtm_at "g_set"
  | wtm_at "g_set2"
  | wtm_at "g_call"
  | fail)
local macro_rules | `(tactic| wtm_at "g_go") => `(tactic| repeat wtm_at "g_st")
local macro_rules | `(tactic| wtm_at "g_ifo") => `(tactic| first
  | (refine if_nno rfl ?_) | (refine if_yes rfl ?_)
  | (refine if_no (by omega) ?_)
  | (refine if_yes (by omega) ?_)
  | (refine if_nno (by omega) ?_)
  | (refine if_nyes (by omega) ?_)
  | (refine if_nno (decide_eq_false (by omega)).symm ?_)
  | (refine if_nno (decide_eq_true (by omega)).symm ?_)
  | fail)
local macro_rules | `(tactic| wtm_at "g_goo") => `(tactic| repeat (first | wtm_at "g_st" | wtm_at "g_ifo"))
section
variable {K : PySem.W.Frag} {mg : Str → Option Value} {base : Heap}
theorem pure_law_two (T : TX K mg base) (vs : List V) (H : Hp) (Q : VK) (E : XK) (h : sp_law_two K vs H Q E) : t_law_two K E { nx := fun _ H' => Q .non H', rt := Q } (start N_law_two vs) H := by
  obtain ⟨s, n, p, dx, b, l, y, dy, c, m, rfl, hs, hp, hy, o, o2, q⟩ := h
  obtain ⟨h0, h1, h2, h3, h4⟩ := id o
  obtain ⟨g0, g1, g2, g3, g4⟩ := id o2
  have nps : p ≠ s := ne_of' hp hs (fun z => nomatch z)
  have nys : y ≠ s := ne_of' hy hs (fun z => nomatch z)
  unfold t_law_two
  wtm_at "g_go"
  refine ⟨s, n, p, dx, b, l, y, dy, c, m, rfl, hs, hp, hy, o, o2, fun H1 t as n1 e1 hs1 ht1 has nts => ?_⟩
  refine loopL (xs := as.map V.int) (fun i σ H' => ∃ v3 v4 v5 v6, σ = [some (.ref s), some (.ref p), some (.ref y), v3, v4, v5, v6] ∧ Ext H1 H') (SqL.of ht1) ⟨_, _, _, _, rfl, Ext.rfl'⟩ (fun i σ H' _ ⟨_, _, _, _, _, e⟩ => (SqL.of ht1).ext e) ?_ ?_
  · rintro i x σ H2 hx ⟨v3, v4, v5, v6, rfl, e2⟩
    obtain ⟨a, ha, rfl⟩ : ∃ a, as[i]? = some a ∧ x = V.int a := by
      rw [List.getElem?_map] at hx
      cases hz : as[i]? with
      | none => rw [hz] at hx; cases hx
      | some a => rw [hz] at hx; cases hx; exact ⟨a, rfl, rfl⟩
    obtain ⟨a0, a1⟩ := has a (List.mem_of_getElem? ha)
    have nr := near_iff (a := a) o a0 (by omega)
    wtm_at "g_go"
    rw [shares_iff o a0 (by omega), decide_eq_true rfl]
    wtm_at "g_go"
    rename_i H3 e3
    refine lcR1 (n := 16) (fun k => V.int (a / sn ((k : Int) + 1) % 2)) rfl (by decide) (fun i D H4 hi hD e4 hA => ?_) (fun D H4 hD e4 hA => ?_)
    · wtm_at "g_go"
      exact lc_one (by wtm_at "g_hp") (by wtm_at "g_ex") hD (by omega) rfl
    wtm_at "g_go"
    rename_i H5 t5 e5 ht5
    refine w_neL' (bits a) (bits a) (by wtm_at "g_sq") (by wtm_at "g_sq") ?_ accM_ints rfl
    rw [decide_eq_true rfl]
    wtm_at "g_go"
    rw [decide_eq_true nr.2]
    wtm_at "g_go"
    rw [decide_eq_true rfl]
    wtm_at "g_go"
    rename_i H6 t6 d6 e6 ht6
    refine c_eq ht6 (by wtm_at "g_hp") ?_
    wtm_at "g_go"
    have e7 : decide (a - a % sn l = b ∧ l = l) = decide (b ≤ a ∧ a < b + sn l) := decide_eq_decide.mpr ⟨fun z => nr.1.mp z.1, fun z => ⟨nr.1.mpr z, rfl⟩⟩
    rw [e7, decide_eq_true rfl]
    wtm_at "g_go"
    exact ⟨_, _, _, _, rfl, by wtm_at "g_ex"⟩
  · rintro σ H2 ⟨v3, v4, v5, v6, rfl, e2⟩
    refine w_cut (fun σ' H' => σ' = [some (.ref s), some (.ref p), some (.ref y), v3, v4, v5, some (V.bl (decide (l ≤ m ∧ b ≤ c ∧ c < b + sn l)))] ∧ Ext H2 H') ?_ ?_
    · wtm_at "g_go"
      refine if_d (fun h5 => ?_) (fun h5 => ?_)
      · wtm_at "g_go"
        rename_i H3 e3
        refine ⟨?_, e3⟩
        rw [shares_iff o (by omega) (by omega)]
        have e6 : decide (l ≤ m ∧ b ≤ c ∧ c < b + sn l) = decide (b ≤ c ∧ c < b + sn l) := decide_eq_decide.mpr ⟨fun z => z.2, fun z => ⟨h5, z⟩⟩
        rw [e6]
        rfl
      · refine ⟨?_, Ext.rfl'⟩
        rw [decide_eq_false (p := l ≤ m ∧ b ≤ c ∧ c < b + sn l) fun z => h5 z.1]
        rfl
    rintro σ' H3 ⟨rfl, e3⟩
    wtm_at "g_go"
    rw [decide_eq_true rfl]
    wtm_at "g_go"
    refine w_cut (fun σ' H' => σ' = [some (.ref s), some (.ref p), some (.ref y), v3, v4, v5, some (V.bl (decide (l ≤ m ∧ b ≤ c ∧ c < b + sn l)))] ∧ Ext H2 H') ?_ ?_
    · wtm_at "g_go"
      refine c_eq (by wtm_at "g_hp") (by wtm_at "g_hp") ?_
      wtm_at "g_go"
      refine if_d (fun h5 => ?_) (fun h5 => ?_)
      · wtm_at "g_go"
        have e6 : decide (b = c ∧ l = m) = decide (l = m) := decide_eq_decide.mpr (by omega)
        rw [e6, decide_eq_true rfl]
        wtm_at "g_go"
        exact ⟨rfl, e3⟩
      · rw [decide_eq_false (p := b = c ∧ l = m) fun z => h5 z.1]
        wtm_at "g_go"
        rw [decide_eq_true rfl]
        wtm_at "g_go"
        exact ⟨rfl, e3⟩
    rintro σ' H4 ⟨rfl, e4⟩
    wtm_at "g_go"
    refine c_eqt T (by wtm_at "g_hp") upd_same ?_
    wtm_at "g_go"
    exact q _ n1 (by wtm_at "g_ex") (by wtm_at "g_hp")
end
end K72

namespace K72
open PySem PySem.Spec PyProof.Rows L2 G
local macro_rules | `(tactic| wtm_at "g_get") => `(tactic| first
  | ((with_reducible refine' w_fld ?k1 (cl_Prefix (by assumption)) (na_Prefix_base (by assumption)) lk_Prefix_base ?_); (case k1 => wtm_at "g_hp"))
  | ((with_reducible refine' w_fld ?k1 (cl_Prefix (by assumption)) (na_Prefix_length (by assumption)) lk_Prefix_length ?_); (case k1 => wtm_at "g_hp"))
  | fail)
local macro_rules | `(tactic| wtm_at "g_set") => `(tactic| first
  | ((with_reducible refine' w_sput ?k1 (cl_Prefix (by assumption)) (na_Prefix_base (by assumption)) pt_Prefix_base rfl ?_); (case k1 => wtm_at "g_hp"))
  | ((with_reducible refine' w_sput ?k1 (cl_Prefix (by assumption)) (na_Prefix_base (by assumption)) pn_Prefix_base rfl ?_); (case k1 => wtm_at "g_hp"))
  | ((with_reducible refine' w_sput ?k1 (cl_Prefix (by assumption)) (na_Prefix_length (by assumption)) pt_Prefix_length rfl ?_); (case k1 => wtm_at "g_hp"))
  | ((with_reducible refine' w_sput ?k1 (cl_Prefix (by assumption)) (na_Prefix_length (by assumption)) pn_Prefix_length rfl ?_); (case k1 => wtm_at "g_hp"))
  | fail)
local macro_rules | `(tactic| wtm_at "g_set2") => `(tactic| first
  | ((with_reducible refine' w_sput2 ?k1 pt_Prefix_base rfl ?_); (case k1 => wtm_at "g_hp"))
  | ((with_reducible refine' w_sput2 ?k1 pt_Prefix_length rfl ?_); (case k1 => wtm_at "g_hp"))
  | fail)
local macro_rules | `(tactic| wtm_at "g_mt") => `(tactic| first
  | ((with_reducible refine' w_mt1 ?k1 ln_Prefix___eq__ ?_); (case k1 => wtm_at "g_hp"))
  | ((with_reducible refine' w_mt1 ?k1 ln_Prefix_pair ?_); (case k1 => wtm_at "g_hp"))
  | ((with_reducible refine' w_mt1 ?k1 ln_Prefix_span ?_); (case k1 => wtm_at "g_hp"))
  | ((with_reducible refine' w_mt1 ?k1 ln_Prefix_covers ?_); (case k1 => wtm_at "g_hp"))
  | ((with_reducible refine' w_mt1 ?k1 ln_Prefix_contains ?_); (case k1 => wtm_at "g_hp"))
  | ((with_reducible refine' w_mt1 ?k1 ln_Prefix_halves ?_); (case k1 => wtm_at "g_hp"))
  | fail)
local macro_rules | `(tactic| wtm_at "g_call") => `(tactic| first
  | ((with_reducible refine' c_digit ?k1 ?k2 ?k3 ?_); (case k1 => wtm_at "g_hp"); (case k2 => omega); (case k3 => omega); intro _ _ _ _)
  | ((with_reducible refine' c_start ?_); intro _ _ _)
  | ((with_reducible refine' c_isint ?_))
  | ((with_reducible refine' c_cell ?k1 ?k2 ?_); (case k1 => wtm_at "g_sq"); (case k2 => omega); intro _)
  | ((with_reducible refine' c_span_of ?k1 ?k2 ?_); (case k1 => omega); (case k2 => omega))
  | ((with_reducible refine' c_bit_of ?k1 ?k2 ?_); (case k1 => omega); (case k2 => omega))
  | ((with_reducible refine' c_law_span ?k1 ?k2 ?_); (case k1 => omega); (case k2 => omega); intro _ _)
  | ((with_reducible refine' c_pair ?k1 ?_); (case k1 => wtm_at "g_hp"); intro _ _)
  | ((with_reducible refine' c_span ?k1 ?k2 ?_); (case k1 => wtm_at "g_hp"); (case k2 => omega))
  | ((with_reducible refine' c_covers ?k1 ?k2 ?_); (case k1 => wtm_at "g_hp"); (case k2 => omega))
  | ((with_reducible refine' c_contains ?k1 ?k2 ?k3 ?_); (case k1 => wtm_at "g_hp"); (case k2 => wtm_at "g_hp"); (case k3 => omega))
  | ((with_reducible refine' c_law_bits ?_); intro _ _ _ _)
  | ((with_reducible refine' c_law_may ?_); intro _ _)
  | ((with_reducible refine' c_law_shares ?k1 ?_); (case k1 => omega); intro _ _)
  | ((with_reducible refine' c_prefix_of ?k1 ?_); (case k1 => omega); intro _ _ _ _ _)
  | ((with_reducible refine' c_law_base ?k1 ?_); (case k1 => wtm_at "g_hp"); intro _ _ _ _ _)
  | ((with_reducible refine' c_law_halves ?k1 ?k2 ?_); (case k1 => wtm_at "g_hp"); (case k2 => assumption); intro _ _)
  | ((with_reducible refine' c_law_one ?k1 ?k2 ?_); (case k1 => wtm_at "g_hp"); (case k2 => assumption); intro _ _))
local macro_rules | `(tactic| wtm_at "g_ne") => `(tactic| first
  | (with_reducible assumption) | (with_reducible exact Ne.symm (by assumption)) | (with_reducible exact ne_of_none (by assumption) (by assumption)) | (with_reducible exact (ne_of_none (by assumption) (by assumption)).symm)
  | fail)
local macro_rules | `(tactic| wtm_at "g_hp") => `(tactic| first
  | (with_reducible assumption) | (with_reducible exact upd_same) | ((with_reducible refine' up_nn ?k1 ?k2); (case k1 => with_reducible assumption); (case k2 => wtm_at "g_hp")) | ((with_reducible refine' up_k' ?k1 ?k2); (case k1 => wtm_at "g_ne"); (case k2 => wtm_at "g_hp"))
  | ((with_reducible refine' up_ko ?k1 ?k2 ?k3); (case k1 => wtm_at "g_hp"); (case k2 => wtm_at "g_hp"); (case k3 => (intro z; cases z)))
  | ((with_reducible refine' ext_get ?k1 ?k2); (case k1 => assumption); (case k2 => wtm_at "g_hp"))
  | ((with_reducible refine' extp_get ?k1 ?k2 ?k3); (case k1 => assumption); (case k2 => wtm_at "g_ne"); (case k3 => wtm_at "g_hp"))
  | fail)
local macro_rules | `(tactic| wtm_at "g_nn") => `(tactic| first
  | (with_reducible assumption) | ((with_reducible refine' none_up ?k1 ?k2); (case k1 => wtm_at "g_ne"); (case k2 => wtm_at "g_nn")) | ((with_reducible refine' none_dn ?k1); (case k1 => with_reducible assumption))
  | fail)
local macro_rules | `(tactic| wtm_at "g_ex") => `(tactic| first
  | (with_reducible assumption) | (with_reducible exact Ext.rfl') | (with_reducible exact ExtP.rfl')
  | ((with_reducible refine' ext_up ?k1 ?k2); (case k1 => wtm_at "g_nn"); (case k2 => wtm_at "g_ex"))
  | ((with_reducible refine' ext_put ?k1 ?k2); (case k1 => wtm_at "g_nn"); (case k2 => wtm_at "g_ex"))
  | ((with_reducible refine' ext_via ?k1 ?k2); (case k1 => assumption); (case k2 => wtm_at "g_ex"))
  | ((with_reducible refine' ext_thr ?k1 ?k2 ?k3); (case k2 => assumption); (case k1 => wtm_at "g_nn"); (case k3 => wtm_at "g_ex"))
  | ((with_reducible refine' extp_put ?k1); (case k1 => wtm_at "g_ex"))
  | ((with_reducible refine' extp_up ?k1 ?k2); (case k1 => wtm_at "g_nn"); (case k2 => wtm_at "g_ex"))
  | ((with_reducible refine' extp_putn ?k1 ?k2); (case k1 => wtm_at "g_nn"); (case k2 => wtm_at "g_ex"))
  | ((with_reducible refine' extp_via ?k1 ?k2); (case k1 => assumption); (case k2 => wtm_at "g_ex"))
  | ((with_reducible refine' extp_viae ?k1 ?k2); (case k1 => assumption); (case k2 => wtm_at "g_ex"))
  | ((with_reducible refine' extp_thr ?k1 ?k2 ?k3); (case k2 => assumption); (case k1 => wtm_at "g_nn"); (case k3 => wtm_at "g_ex"))
  | fail)
local macro_rules | `(tactic| wtm_at "g_thw") => `(tactic| first
  | (with_reducible assumption) | ((with_reducible refine' Thw.lst ?k1); (case k1 => wtm_at "g_hp")) | ((with_reducible refine' Thw.ins ?k1); (case k1 => wtm_at "g_hp"))
  | fail)
local macro_rules | `(tactic| wtm_at "g_sc") => `(tactic| first
  | (with_reducible assumption) | ((with_reducible refine' scr_new' ?k1 ?k2); (case k1 => wtm_at "g_nn"); (case k2 => wtm_at "g_sc")) | ((with_reducible refine' scr_put' ?k1 ?k2); (case k1 => wtm_at "g_thw"); (case k2 => wtm_at "g_sc"))
  | ((with_reducible refine' scr_ext ?k1 ?k2); (case k1 => assumption); (case k2 => wtm_at "g_sc")) | ((with_reducible refine' scr_extp ?k1 ?k2 ?k3); (case k1 => assumption); (case k2 => wtm_at "g_thw"); (case k3 => wtm_at "g_sc")) | ((with_reducible refine' scr_extn ?k1 ?k2 ?k3); (case k1 => assumption); (case k2 => wtm_at "g_nn"); (case k3 => wtm_at "g_sc"))
  | fail)
local macro_rules | `(tactic| wtm_at "g_sq") => `(tactic| first
  | (with_reducible assumption) | ((with_reducible refine' SqL.of ?k1); (case k1 => wtm_at "g_hp")) | ((with_reducible refine' Scr.sq ?k1); (case k1 => wtm_at "g_sc")) | ((with_reducible refine' sq_new' ?k1 ?k2); (case k1 => wtm_at "g_nn"); (case k2 => wtm_at "g_sq")) | ((with_reducible refine' sq_put' ?k1 ?k2); (case k1 => wtm_at "g_ne"); (case k2 => wtm_at "g_sq"))
  | ((with_reducible refine' sq_ext ?k1 ?k2); (case k1 => assumption); (case k2 => wtm_at "g_sq"))
  | fail)
local macro_rules | `(tactic| wtm_at "g_sqt") => `(tactic| first
  | (with_reducible assumption) | ((with_reducible refine' SqT.of' ?k1); (case k1 => wtm_at "g_hp")) | ((with_reducible refine' sqt_ext ?k1 ?k2); (case k1 => assumption); (case k2 => wtm_at "g_sqt"))
  | fail)
local macro_rules | `(tactic| wtm_at "g_st") => `(tactic| first
  | (with_reducible first
      | refine w_seq ?_ | refine w_asg ?_ | refine w_nm ?_ | refine w_next ?_ | refine w_if ?_ | refine w_ret ?_ | refine w_retN ?_ | refine w_drop ?_
      | refine w_var rfl ?_ | refine w_c ?_ | refine w_op ?_ | refine w_I0 ?_
      | refine w_eqI ?_ | refine w_neI ?_ | refine w_eqB ?_ | refine w_neB ?_ | refine w_eqS ?_ | refine w_neS ?_ | refine w_isN0 ?_ | refine w_isNi ?_ | refine w_isNr ?_ | refine w_isNb ?_ | refine w_isNs ?_ | refine w_notN0 ?_ | refine w_notNi ?_ | refine w_notNr ?_ | refine w_notNb ?_ | refine w_notNs ?_ | refine w_isN ?_ | refine w_notN ?_ | refine w_isB ?_ | refine w_notB ?_
      | refine w_un ?_ | refine w_U ?_ | refine w_chain ?_ | refine w_k ?_ | refine w_test ?_ | refine w_tB ?_ | refine w_tru ?_ | refine w_not ?_ | refine w_and ?_ | refine w_or ?_
      | refine w_andV ?_ | refine w_orV ?_ | refine w_notV ?_ | refine w_ife ?_ | refine w_nil ?_ | refine w_cons ?_ | refine w_tup ?_ | refine w_lst ?_ | refine w_small rfl ?_
      | refine w_call ?_ | refine w_mk ?_ | refine w_mt ?_ | refine w_cb ?_ | refine w_min2 ?_ | refine w_max2 ?_ | refine w_abs ?_ | refine w_int ?_
      | refine w_fld0 ?_ | refine w_bm ?_ | refine w_bm0 ?_ | refine w_sub ?_ | refine w_sfld ?_ | refine w_sfa ?_ | refine w_radd ?_ | refine w_rsub ?_ | refine w_ip ?_ | refine w_rs ?_ | refine w_pr ?_
      | refine w_lcR1 ?_ | refine w_lcR2 ?_ | refine w_lcL ?_ | refine w_lcT ?_ | refine w_sl ?_ | refine w_nopart ?_ | refine w_part ?_ | refine w_pint ?_
      | refine w_forR1 ?_ | refine w_forR2 ?_ | refine w_forL ?_ | refine w_forT ?_ | refine w_aug rfl ?_ | refine w_par ?_ | refine w_brk ?_ | refine w_cont ?_
      | refine w_isi_ii ?_ | refine w_isi_ib ?_ | refine w_isi_bi ?_ | refine w_isi_bb ?_ | refine w_isi_ss ?_ | refine w_isi_is ?_ | refine w_isi_il ?_ | refine w_isi_it ?_ | refine w_isi_sl ?_ | refine w_isi_st ?_ | refine w_isi_nl ?_ | refine w_isi_nt ?_
      | refine if_T ?_ | refine if_F ?_ | refine if_nT ?_ | refine if_nF ?_)
  | ((with_reducible refine' w_lenL ?k1 ?_); (case k1 => wtm_at "g_sq"))
  | ((with_reducible refine' w_lenT ?k1 ?_); (case k1 => wtm_at "g_sqt"))
  | ((with_reducible refine' w_isi_ll ?k1 ?_); (case k1 => wtm_at "g_hp"))
  | ((with_reducible refine' w_isi_tt ?k1 ?_); (case k1 => wtm_at "g_hp"))
  | ((with_reducible refine' w_isi_lt ?k1 ?_); (case k1 => wtm_at "g_hp"))
  | ((with_reducible refine' w_isi_tl ?k1 ?_); (case k1 => wtm_at "g_hp"))
  | wtm_at "g_get"
  | wtm_at "g_mt"
  | wtm_at "g_set"
  | wtm_at "g_set2"
  | wtm_at "g_call"
  | fail)
local macro_rules | `(tactic| wtm_at "g_go") => `(tactic| repeat wtm_at "g_st")
local macro_rules | `(tactic| wtm_at "g_ifo") => `(tactic| first
  | (refine if_nno rfl ?_) | (refine if_yes rfl ?_)
  | (refine if_no (by omega) ?_)
  | (refine if_yes (by omega) ?_)
  | (refine if_nno (by omega) ?_)
  | (refine if_nyes (by omega) ?_)
  | (refine if_nno (decide_eq_false (by omega)).symm ?_)
  | (refine if_nno (decide_eq_true (by omega)).symm ?_)
  | fail)
local macro_rules | `(tactic| wtm_at "g_goo") => `(tactic| repeat (first | wtm_at "g_st" | wtm_at "g_ifo"))
section
variable {K : PySem.W.Frag} {mg : Str → Option Value} {base : Heap}
/-- the addresses hold prefixes -/
def Alls (K : PySem.W.Frag) (H : Hp) (rs : List Addr) : Prop := ∀ r ∈ rs, ∃ dx b l, H r = some (oP K dx b l) ∧ Ok b l
theorem Alls.ext {H H' : Hp} {rs : List Addr} (h : Alls K H rs) (e : Ext H H') : Alls K H' rs := fun r hr => let ⟨dx, b, l, h1, o⟩ := h r hr; ⟨dx, b, l, e _ _ h1, o⟩
theorem Alls.extp {H H' : Hp} {rs : List Addr} {s : Addr} {n : Int} (h : Alls K H rs) (e : ExtP s H H') (hs : H s = some (.lst [.int n])) : Alls K H' rs := fun r hr => let ⟨dx, b, l, h1, o⟩ := h r hr; ⟨dx, b, l, e _ _ (ne_of' h1 hs fun z => nomatch z) h1, o⟩
theorem Alls.put {H : Hp} {rs : List Addr} {s : Addr} {xs ys : List V} (h : Alls K H rs) (hs : H s = some (.lst xs)) : Alls K (upd H s (.lst ys)) rs := fun r hr => let ⟨dx, b, l, h1, o⟩ := h r hr; ⟨dx, b, l, up_k h1 (ne_of' h1 hs fun z => nomatch z), o⟩
theorem Alls.snoc {H : Hp} {rs : List Addr} {q dx : Addr} {b l : Int} (h : Alls K H rs) (h1 : H q = some (oP K dx b l)) (o : Ok b l) : Alls K H (rs ++ [q]) := fun r hr => by
  rcases List.mem_append.mp hr with h2 | h2
  · exact h r h2
  · rw [List.mem_singleton.mp h2]
    exact ⟨dx, b, l, h1, o⟩
theorem pure_law_pair (T : TX K mg base) (vs : List V) (H : Hp) (Q : VK) (E : XK) (h : sp_law_pair K vs H Q E) : t_law_pair K E { nx := fun _ H' => Q .non H', rt := Q } (start N_law_pair vs) H := by
  obtain ⟨s, n, rfl, hs, q⟩ := h
  unfold t_law_pair
  wtm_at "g_go"
  intro mp hmp
  have nms : s ≠ mp := ne_of_none hs hmp
  wtm_at "g_go"
  refine loop1 (n := 2) (fun i σ H' => ∃ (v2 v3 v4 v5 v6 : Option V) (rs : List Addr) (n' : Int), σ = [some (.ref s), some (.ref mp), v2, v3, v4, v5, v6] ∧ ExtP s H H' ∧ H' s = some (.lst [.int n']) ∧ H' mp = some (.lst (rs.map V.ref)) ∧ Alls K H' rs ∧ rs.length ≤ i) rfl (by decide)
    ⟨_, _, _, _, _, [], n, rfl, by wtm_at "g_ex", by wtm_at "g_hp", upd_same, (fun r hr => by cases hr), Nat.le_refl _⟩ ?_ ?_
  · rintro i σ H1 hi ⟨v2, v3, v4, v5, v6, rs, n1, rfl, e1, hs1, hm1, hA, hl⟩
    wtm_at "g_go"
    rename_i d n2 d0 d1 b H2 n3 e2 hs2
    have hm2 : H2 mp = some (.lst (rs.map V.ref)) := by wtm_at "g_hp"
    have hA2 : Alls K H2 rs := (hA.put hs1).extp e2 upd_same
    have e3 : ExtP s H H2 := by wtm_at "g_ex"
    refine ⟨b, d - 1, rfl, fun o H3 t x dx e4 ht hx => ?_, fun o H3 t e4 ht => ?_⟩
    · wtm_at "g_go"
      refine w_ixT (xs := [.bl true, .ref x]) (SqT.of' ht) rfl ?_
      wtm_at "g_go"
      rename_i H4 e5
      rw [decide_eq_true o]
      wtm_at "g_go"
      refine if_nno rfl ?_
      wtm_at "g_go"
      refine w_ixT (xs := [.bl true, .ref x]) (by wtm_at "g_sqt") rfl ?_
      wtm_at "g_go"
      refine w_ixT (xs := [.bl true, .ref x]) (by wtm_at "g_sqt") rfl ?_
      wtm_at "g_go"
      rename_i H5 e6
      have hm5 : H5 mp = some (.lst (rs.map V.ref)) := by wtm_at "g_hp"
      have hs5 : H5 s = some (.lst [.int n3]) := by wtm_at "g_hp"
      have hx5 : H5 x = some (oP K dx b (d - 1)) := by wtm_at "g_hp"
      have hA5 : Alls K H5 rs := ((hA2.ext e4).ext e5).ext e6
      refine ty_list hm5 ?_
      wtm_at "g_go"
      refine w_ixT (xs := [.bl true, .ref x]) (by wtm_at "g_sqt") rfl ?_
      wtm_at "g_go"
      refine w_app hm5 (by rw [List.length_map]; exact Nat.lt_of_le_of_lt hl (Nat.lt_trans hi (by decide))) ?_
      wtm_at "g_go"
      refine ⟨_, _, _, _, _, rs ++ [x], n3, rfl, ?_, by wtm_at "g_hp", ?_, (hA5.put hm5).snoc (dx := dx) (b := b) (l := d - 1) (by wtm_at "g_hp") o, by rw [List.length_append, List.length_singleton]; omega⟩
      · wtm_at "g_ex"
      · rw [upd_same, List.map_append]
        rfl
    · wtm_at "g_go"
      refine w_ixT (xs := [.bl false, .non]) (SqT.of' ht) rfl ?_
      wtm_at "g_go"
      rename_i H4 e5
      rw [decide_eq_false o]
      wtm_at "g_go"
      refine if_nno rfl ?_
      wtm_at "g_go"
      refine w_ixT (xs := [.bl false, .non]) (by wtm_at "g_sqt") rfl ?_
      wtm_at "g_go"
      refine ⟨_, _, _, _, _, rs, n3, rfl, by wtm_at "g_ex", by wtm_at "g_hp", by wtm_at "g_hp", (hA2.ext e4).ext e5, by omega⟩
  · rintro σ H1 ⟨v2, v3, v4, v5, v6, rs, n1, rfl, e1, hs1, hm1, hA, hl⟩
    wtm_at "g_go"
    rw [List.length_map]
    refine if_d (fun h2 => ?_) (fun h2 => ?_)
    · wtm_at "g_go"
      exact q _ e1
    match rs, hm1, hA, hl, h2 with
    | [r0, r1], hm1, hA, hl, h2 =>
      obtain ⟨dx, b, l, hr0, o⟩ := hA r0 (by simp)
      obtain ⟨dy, c, m, hr1, o2⟩ := hA r1 (by simp)
      obtain ⟨h0, h1, h2, h3, h4⟩ := id o
      have hm1' : H1 mp = some (.lst [V.ref r0, V.ref r1]) := hm1
      have nrs : r0 ≠ s := ne_of' hr0 hs1 (fun z => nomatch z)
      have nrs1 : r1 ≠ s := ne_of' hr1 hs1 (fun z => nomatch z)
      wtm_at "g_go"
      refine w_ixL (xs := [.ref r0, .ref r1]) (SqL.of hm1) rfl ?_
      wtm_at "g_go"
      rename_i d n2 d0 d1 H2 y dz e2 hy
      have o3 : Ok (b - b % sn d) d := of_ok d0 (by omega) h2 h3
      refine w_ixL (xs := [.ref r0, .ref r1]) (by wtm_at "g_sq") rfl ?_
      wtm_at "g_go"
      refine w_ixL (xs := [.ref r0, .ref r1]) (by wtm_at "g_sq") rfl ?_
      wtm_at "g_go"
      refine ⟨s, n2, r0, dx, b, l, r1, dy, c, m, rfl, by wtm_at "g_hp", by wtm_at "g_hp", by wtm_at "g_hp", o, o2, fun H3 n3 e3 hs3 => ?_⟩
      have hy3 : H3 y = some (oP K dz (b - b % sn d) d) := extp_get e3 (ne_of' (H := H2) (b := s) (u := .lst [.int n2]) hy (by wtm_at "g_hp") (fun z => nomatch z)) hy
      wtm_at "g_go"
      refine w_ixL (xs := [.ref r0, .ref r1]) (by wtm_at "g_sq") rfl ?_
      wtm_at "g_go"
      refine ⟨s, n3, y, dz, _, d, r0, dx, b, l, rfl, hs3, hy3, by wtm_at "g_hp", o3, o, fun H4 n4 e4 hs4 => ?_⟩
      have hy4 : H4 y = some (oP K dz (b - b % sn d) d) := extp_get e4 (ne_of' hy3 hs3 (fun z => nomatch z)) hy3
      wtm_at "g_go"
      refine w_ixL (xs := [.ref r0, .ref r1]) (by wtm_at "g_sq") rfl ?_
      wtm_at "g_go"
      refine ⟨s, n4, r0, dx, b, l, y, dz, _, d, rfl, hs4, by wtm_at "g_hp", hy4, o, o3, fun H5 n5 e5 hs5 => ?_⟩
      exact q _ (by wtm_at "g_ex")
    | [], _, _, _, h2 => exact absurd h2 (by simp)
    | [_], _, _, _, h2 => exact absurd h2 (by simp)
    | _ :: _ :: _ :: _, _, _, hl, _ => simp at hl
theorem pure_law (T : TX K mg base) (vs : List V) (H : Hp) (Q : VK) (E : XK) (h : sp_law K vs H Q E) : t_law K E { nx := fun _ H' => Q .non H', rt := Q } (start N_law vs) H := by
  obtain ⟨a, ns, rfl, hS, q⟩ := h
  unfold t_law
  wtm_at "g_go"
  obtain ⟨n, hn, hn2⟩ : ∃ n : Nat, (if 1 + (((ns.map V.int).length : Nat) : Int) < 30 then 1 + (((ns.map V.int).length : Nat) : Int) else 30) = (n : Int) ∧ n ≤ 30 := ⟨(if 1 + (((ns.map V.int).length : Nat) : Int) < 30 then 1 + (((ns.map V.int).length : Nat) : Int) else 30).toNat, by split <;> omega, by split <;> omega⟩
  refine loop1 (n := n) (fun i σ H' => ∃ v1, σ = [some (.ref a), v1] ∧ Scr K H' a (ns.map V.int)) hn (by omega) ⟨_, rfl, hS⟩ ?_ ?_
  · rintro i σ H1 hi ⟨v1, rfl, hS1⟩
    wtm_at "g_go"
    rename_i n1 n2 st hst
    refine ⟨st, n2, rfl, upd_same, fun H2 e2 => ?_⟩
    wtm_at "g_go"
    refine ⟨_, rfl, ?_⟩
    wtm_at "g_sc"
  · rintro σ H1 ⟨v1, rfl, hS1⟩
    wtm_at "g_go"
    exact q _
end
end K72

namespace K72
open PySem PySem.Spec PyProof.Rows L2 G
section
variable {P : Program} {w : World} {K : PySem.W.Frag} {mg : Str → Option Value} {base : Heap}

theorem len_span_of {K : PySem.W.Frag} : ∀ vs H Q E, sp_span_of K vs H Q E → vs.length = (P_span_of : List Str).length := by
  intro vs H Q E h
  repeat first | (obtain ⟨rfl, _⟩ := h; rfl) | obtain ⟨_, h⟩ := h
theorem has_span_of (T : TX K mg base) : Has P w K mg base 1 "span_of" P_span_of (sp_span_of K) :=
  mk_has (T.glo 14) (T.says.def_ 0) sc_span_of (fun _ _ _ _ _ _ us hl => match us, hl with | [_], _ => rfl) len_span_of
    fun cdv A outer s H vs Q E hr h => ⟨t_span_of K E, d_span_of T  hr, pure_span_of T vs H Q E h⟩

theorem len_bit_of {K : PySem.W.Frag} : ∀ vs H Q E, sp_bit_of K vs H Q E → vs.length = (P_bit_of : List Str).length := by
  intro vs H Q E h
  repeat first | (obtain ⟨rfl, _⟩ := h; rfl) | obtain ⟨_, h⟩ := h
theorem has_bit_of (T : TX K mg base) : Has P w K mg base 2 "bit_of" P_bit_of (sp_bit_of K) :=
  mk_has (T.glo 15) (T.says.def_ 1) sc_bit_of (fun _ _ _ _ _ _ us hl => match us, hl with | [_, _], _ => rfl) len_bit_of
    fun cdv A outer s H vs Q E hr h => ⟨t_bit_of K E, d_bit_of T (has_span_of T) hr, pure_bit_of T vs H Q E h⟩

theorem len_Prefix_init {K : PySem.W.Frag} : ∀ vs H Q E, sp_Prefix_init K vs H Q E → vs.length = (P_Prefix_init : List Str).length := by
  intro vs H Q E h
  repeat first | (obtain ⟨rfl, _⟩ := h; rfl) | obtain ⟨_, h⟩ := h
theorem has_Prefix_init (T : TX K mg base) : HasI P w K mg base 2 "Prefix" P_Prefix_init (sp_Prefix_init K) :=
  mk_hasI (T.glo 6) (T.mkr 16) (T.says.def_ 2) sc_Prefix_init (fun _ _ _ _ _ _ us hl => match us, hl with | [_, _, _], _ => rfl) len_Prefix_init
    fun cdv A outer s H vs Q E hr h => ⟨t_Prefix_init K E, d_Prefix_init T (has_span_of T) hr, pure_Prefix_init T vs H Q E h⟩

theorem len_Prefix__eq {K : PySem.W.Frag} : ∀ vs H Q E, sp_Prefix__eq K vs H Q E → vs.length = (P_Prefix__eq : List Str).length := by
  intro vs H Q E h
  repeat first | (obtain ⟨rfl, _⟩ := h; rfl) | obtain ⟨_, h⟩ := h
theorem has_Prefix__eq (T : TX K mg base) : HasM P w K mg base 1 "Prefix" "__eq__" P_Prefix__eq (sp_Prefix__eq K) :=
  mk_hasM (T.cls 17) (T.meth 18) (T.says.def_ 3) sc_Prefix__eq (fun _ _ _ _ _ _ us hl => match us, hl with | [_, _], _ => rfl) len_Prefix__eq
    fun cdv A outer s H vs Q E hr h => ⟨t_Prefix__eq K E, d_Prefix__eq T  hr, pure_Prefix__eq T vs H Q E h⟩

theorem len_Prefix_pair {K : PySem.W.Frag} : ∀ vs H Q E, sp_Prefix_pair K vs H Q E → vs.length = (P_Prefix_pair : List Str).length := by
  intro vs H Q E h
  repeat first | (obtain ⟨rfl, _⟩ := h; rfl) | obtain ⟨_, h⟩ := h
theorem has_Prefix_pair (T : TX K mg base) : HasM P w K mg base 1 "Prefix" "pair" P_Prefix_pair (sp_Prefix_pair K) :=
  mk_hasM (T.cls 17) (T.meth 19) (T.says.def_ 4) sc_Prefix_pair (fun _ _ _ _ _ _ us hl => match us, hl with | [_], _ => rfl) len_Prefix_pair
    fun cdv A outer s H vs Q E hr h => ⟨t_Prefix_pair K E, d_Prefix_pair T  hr, pure_Prefix_pair T vs H Q E h⟩

theorem len_Prefix_span {K : PySem.W.Frag} : ∀ vs H Q E, sp_Prefix_span K vs H Q E → vs.length = (P_Prefix_span : List Str).length := by
  intro vs H Q E h
  repeat first | (obtain ⟨rfl, _⟩ := h; rfl) | obtain ⟨_, h⟩ := h
theorem has_Prefix_span (T : TX K mg base) : HasM P w K mg base 2 "Prefix" "span" P_Prefix_span (sp_Prefix_span K) :=
  mk_hasM (T.cls 17) (T.meth 20) (T.says.def_ 5) sc_Prefix_span (fun _ _ _ _ _ _ us hl => match us, hl with | [_], _ => rfl) len_Prefix_span
    fun cdv A outer s H vs Q E hr h => ⟨t_Prefix_span K E, d_Prefix_span T (has_span_of T) hr, pure_Prefix_span T vs H Q E h⟩

theorem len_Prefix_covers {K : PySem.W.Frag} : ∀ vs H Q E, sp_Prefix_covers K vs H Q E → vs.length = (P_Prefix_covers : List Str).length := by
  intro vs H Q E h
  repeat first | (obtain ⟨rfl, _⟩ := h; rfl) | obtain ⟨_, h⟩ := h
theorem has_Prefix_covers (T : TX K mg base) : HasM P w K mg base 3 "Prefix" "covers" P_Prefix_covers (sp_Prefix_covers K) :=
  mk_hasM (T.cls 17) (T.meth 21) (T.says.def_ 6) sc_Prefix_covers (fun _ _ _ _ _ _ us hl => match us, hl with | [_, _], _ => rfl) len_Prefix_covers
    fun cdv A outer s H vs Q E hr h => ⟨t_Prefix_covers K E, d_Prefix_covers T (has_Prefix_span T) hr, pure_Prefix_covers T vs H Q E h⟩

theorem len_Prefix_contains {K : PySem.W.Frag} : ∀ vs H Q E, sp_Prefix_contains K vs H Q E → vs.length = (P_Prefix_contains : List Str).length := by
  intro vs H Q E h
  repeat first | (obtain ⟨rfl, _⟩ := h; rfl) | obtain ⟨_, h⟩ := h
theorem has_Prefix_contains (T : TX K mg base) : HasM P w K mg base 4 "Prefix" "contains" P_Prefix_contains (sp_Prefix_contains K) :=
  mk_hasM (T.cls 17) (T.meth 22) (T.says.def_ 7) sc_Prefix_contains (fun _ _ _ _ _ _ us hl => match us, hl with | [_, _], _ => rfl) len_Prefix_contains
    fun cdv A outer s H vs Q E hr h => ⟨t_Prefix_contains K E, d_Prefix_contains T (has_Prefix_covers T) hr, pure_Prefix_contains T vs H Q E h⟩

theorem len_Prefix_halves {K : PySem.W.Frag} : ∀ vs H Q E, sp_Prefix_halves K vs H Q E → vs.length = (P_Prefix_halves : List Str).length := by
  intro vs H Q E h
  repeat first | (obtain ⟨rfl, _⟩ := h; rfl) | obtain ⟨_, h⟩ := h
theorem has_Prefix_halves (T : TX K mg base) : HasM P w K mg base 4 "Prefix" "halves" P_Prefix_halves (sp_Prefix_halves K) :=
  mk_hasM (T.cls 17) (T.meth 23) (T.says.def_ 8) sc_Prefix_halves (fun _ _ _ _ _ _ us hl => match us, hl with | [_], _ => rfl) len_Prefix_halves
    fun cdv A outer s H vs Q E hr h => ⟨t_Prefix_halves K E, d_Prefix_halves T (has_span_of T) (has_Prefix_init T) hr, pure_Prefix_halves T vs H Q E h⟩

theorem len_prefix_of {K : PySem.W.Frag} : ∀ vs H Q E, sp_prefix_of K vs H Q E → vs.length = (P_prefix_of : List Str).length := by
  intro vs H Q E h
  repeat first | (obtain ⟨rfl, _⟩ := h; rfl) | obtain ⟨_, h⟩ := h
theorem has_prefix_of (T : TX K mg base) : Has P w K mg base 4 "prefix_of" P_prefix_of (sp_prefix_of K) :=
  mk_has (T.glo 24) (T.says.def_ 9) sc_prefix_of (fun _ _ _ _ _ _ us hl => match us, hl with | [_, _], _ => rfl) len_prefix_of
    fun cdv A outer s H vs Q E hr h => ⟨t_prefix_of K E, d_prefix_of T (has_Prefix_init T) (has_span_of T) hr, pure_prefix_of T vs H Q E h⟩

theorem len_law_span {K : PySem.W.Frag} : ∀ vs H Q E, sp_law_span K vs H Q E → vs.length = (P_law_span : List Str).length := by
  intro vs H Q E h
  repeat first | (obtain ⟨rfl, _⟩ := h; rfl) | obtain ⟨_, h⟩ := h
theorem has_law_span (T : TX K mg base) : Has P w K mg base 1 "_law_span" P_law_span (sp_law_span K) :=
  mk_has (T.glo 25) (T.says.def_ 10) sc_law_span (fun _ _ _ _ _ _ us hl => match us, hl with | [_], _ => rfl) len_law_span
    fun cdv A outer s H vs Q E hr h => ⟨t_law_span K E, d_law_span T  hr, pure_law_span T vs H Q E h⟩

theorem len_law_cell {K : PySem.W.Frag} : ∀ vs H Q E, sp_law_cell K vs H Q E → vs.length = (P_law_cell : List Str).length := by
  intro vs H Q E h
  repeat first | (obtain ⟨rfl, _⟩ := h; rfl) | obtain ⟨_, h⟩ := h
theorem has_law_cell (T : TX K mg base) : Has P w K mg base 1 "_law_cell" P_law_cell (sp_law_cell K) :=
  mk_has (T.glo 26) (T.says.def_ 11) sc_law_cell (fun _ _ _ _ _ _ us hl => match us, hl with | [_, _], _ => rfl) len_law_cell
    fun cdv A outer s H vs Q E hr h => ⟨t_law_cell K E, d_law_cell T  hr, pure_law_cell T vs H Q E h⟩

theorem len_law_start {K : PySem.W.Frag} : ∀ vs H Q E, sp_law_start K vs H Q E → vs.length = (P_law_start : List Str).length := by
  intro vs H Q E h
  repeat first | (obtain ⟨rfl, _⟩ := h; rfl) | obtain ⟨_, h⟩ := h
theorem has_law_start (T : TX K mg base) : Has P w K mg base 1 "_law_start" P_law_start (sp_law_start K) :=
  mk_has (T.glo 27) (T.says.def_ 12) sc_law_start (fun _ _ _ _ _ _ us hl => match us, hl with | [_, _], _ => rfl) len_law_start
    fun cdv A outer s H vs Q E hr h => ⟨t_law_start K E, d_law_start T  hr, pure_law_start T vs H Q E h⟩

theorem len_law_digit {K : PySem.W.Frag} : ∀ vs H Q E, sp_law_digit K vs H Q E → vs.length = (P_law_digit : List Str).length := by
  intro vs H Q E h
  repeat first | (obtain ⟨rfl, _⟩ := h; rfl) | obtain ⟨_, h⟩ := h
theorem has_law_digit (T : TX K mg base) : Has P w K mg base 1 "_law_digit" P_law_digit (sp_law_digit K) :=
  mk_has (T.glo 28) (T.says.def_ 13) sc_law_digit (fun _ _ _ _ _ _ us hl => match us, hl with | [_, _], _ => rfl) len_law_digit
    fun cdv A outer s H vs Q E hr h => ⟨t_law_digit K E, d_law_digit T  hr, pure_law_digit T vs H Q E h⟩

theorem len_law_is_integer {K : PySem.W.Frag} : ∀ vs H Q E, sp_law_is_integer K vs H Q E → vs.length = (P_law_is_integer : List Str).length := by
  intro vs H Q E h
  repeat first | (obtain ⟨rfl, _⟩ := h; rfl) | obtain ⟨_, h⟩ := h
theorem has_law_is_integer (T : TX K mg base) : Has P w K mg base 1 "_law_is_integer" P_law_is_integer (sp_law_is_integer K) :=
  mk_has (T.glo 29) (T.says.def_ 14) sc_law_is_integer (fun _ _ _ _ _ _ us hl => match us, hl with | [_], _ => rfl) len_law_is_integer
    fun cdv A outer s H vs Q E hr h => ⟨t_law_is_integer K E, d_law_is_integer T  hr, pure_law_is_integer T vs H Q E h⟩

theorem len_law_bits {K : PySem.W.Frag} : ∀ vs H Q E, sp_law_bits K vs H Q E → vs.length = (P_law_bits : List Str).length := by
  intro vs H Q E h
  repeat first | (obtain ⟨rfl, _⟩ := h; rfl) | obtain ⟨_, h⟩ := h
theorem has_law_bits (T : TX K mg base) : Has P w K mg base 2 "_law_bits" P_law_bits (sp_law_bits K) :=
  mk_has (T.glo 30) (T.says.def_ 15) sc_law_bits (fun _ _ _ _ _ _ us hl => match us, hl with | [_], _ => rfl) len_law_bits
    fun cdv A outer s H vs Q E hr h => ⟨t_law_bits K E, d_law_bits T (has_law_span T) hr, pure_law_bits T vs H Q E h⟩

theorem len_law_may {K : PySem.W.Frag} : ∀ vs H Q E, sp_law_may K vs H Q E → vs.length = (P_law_may : List Str).length := by
  intro vs H Q E h
  repeat first | (obtain ⟨rfl, _⟩ := h; rfl) | obtain ⟨_, h⟩ := h
theorem has_law_may (T : TX K mg base) : Has P w K mg base 3 "_law_may" P_law_may (sp_law_may K) :=
  mk_has (T.glo 31) (T.says.def_ 16) sc_law_may (fun _ _ _ _ _ _ us hl => match us, hl with | [_, _], _ => rfl) len_law_may
    fun cdv A outer s H vs Q E hr h => ⟨t_law_may K E, d_law_may T (has_law_bits T) hr, pure_law_may T vs H Q E h⟩

theorem len_law_made {K : PySem.W.Frag} : ∀ vs H Q E, sp_law_made K vs H Q E → vs.length = (P_law_made : List Str).length := by
  intro vs H Q E h
  repeat first | (obtain ⟨rfl, _⟩ := h; rfl) | obtain ⟨_, h⟩ := h
theorem has_law_made (T : TX K mg base) : Has P w K mg base 4 "_law_made" P_law_made (sp_law_made K) :=
  mk_has (T.glo 32) (T.says.def_ 17) sc_law_made (fun _ _ _ _ _ _ us hl => match us, hl with | [_, _], _ => rfl) len_law_made
    fun cdv A outer s H vs Q E hr h => ⟨t_law_made K E, d_law_made T (has_Prefix_init T) hr, pure_law_made T vs H Q E h⟩

theorem len_law_base {K : PySem.W.Frag} : ∀ vs H Q E, sp_law_base K vs H Q E → vs.length = (P_law_base : List Str).length := by
  intro vs H Q E h
  repeat first | (obtain ⟨rfl, _⟩ := h; rfl) | obtain ⟨_, h⟩ := h
theorem has_law_base (T : TX K mg base) : Has P w K mg base 2 "_law_base" P_law_base (sp_law_base K) :=
  mk_has (T.glo 33) (T.says.def_ 18) sc_law_base (fun _ _ _ _ _ _ us hl => match us, hl with | [_, _], _ => rfl) len_law_base
    fun cdv A outer s H vs Q E hr h => ⟨t_law_base K E, d_law_base T (has_law_digit T) (has_law_span T) hr, pure_law_base T vs H Q E h⟩

theorem len_law_shares {K : PySem.W.Frag} : ∀ vs H Q E, sp_law_shares K vs H Q E → vs.length = (P_law_shares : List Str).length := by
  intro vs H Q E h
  repeat first | (obtain ⟨rfl, _⟩ := h; rfl) | obtain ⟨_, h⟩ := h
theorem has_law_shares (T : TX K mg base) : Has P w K mg base 3 "_law_shares" P_law_shares (sp_law_shares K) :=
  mk_has (T.glo 34) (T.says.def_ 19) sc_law_shares (fun _ _ _ _ _ _ us hl => match us, hl with | [_, _, _], _ => rfl) len_law_shares
    fun cdv A outer s H vs Q E hr h => ⟨t_law_shares K E, d_law_shares T (has_law_bits T) hr, pure_law_shares T vs H Q E h⟩

theorem len_law_halves {K : PySem.W.Frag} : ∀ vs H Q E, sp_law_halves K vs H Q E → vs.length = (P_law_halves : List Str).length := by
  intro vs H Q E h
  repeat first | (obtain ⟨rfl, _⟩ := h; rfl) | obtain ⟨_, h⟩ := h
theorem has_law_halves (T : TX K mg base) : Has P w K mg base 5 "_law_halves" P_law_halves (sp_law_halves K) :=
  mk_has (T.glo 35) (T.says.def_ 20) sc_law_halves (fun _ _ _ _ _ _ us hl => match us, hl with | [_], _ => rfl) len_law_halves
    fun cdv A outer s H vs Q E hr h => ⟨t_law_halves K E, d_law_halves T (has_Prefix_halves T) (has_law_span T) (has_Prefix_pair T) hr, pure_law_halves T vs H Q E h⟩

theorem len_law_one {K : PySem.W.Frag} : ∀ vs H Q E, sp_law_one K vs H Q E → vs.length = (P_law_one : List Str).length := by
  intro vs H Q E h
  repeat first | (obtain ⟨rfl, _⟩ := h; rfl) | obtain ⟨_, h⟩ := h
theorem has_law_one (T : TX K mg base) : Has P w K mg base 6 "_law_one" P_law_one (sp_law_one K) :=
  mk_has (T.glo 36) (T.says.def_ 21) sc_law_one (fun _ _ _ _ _ _ us hl => match us, hl with | [_, _, _], _ => rfl) len_law_one
    fun cdv A outer s H vs Q E hr h => ⟨t_law_one K E, d_law_one T (has_law_is_integer T) (has_Prefix_pair T) (has_Prefix_span T) (has_law_span T) (has_span_of T) (has_law_halves T) hr, pure_law_one T vs H Q E h⟩

theorem len_law_addresses {K : PySem.W.Frag} : ∀ vs H Q E, sp_law_addresses K vs H Q E → vs.length = (P_law_addresses : List Str).length := by
  intro vs H Q E h
  repeat first | (obtain ⟨rfl, _⟩ := h; rfl) | obtain ⟨_, h⟩ := h
theorem has_law_addresses (T : TX K mg base) : Has P w K mg base 3 "_law_addresses" P_law_addresses (sp_law_addresses K) :=
  mk_has (T.glo 37) (T.says.def_ 22) sc_law_addresses (fun _ _ _ _ _ _ us hl => match us, hl with | [_, _, _], _ => rfl) len_law_addresses
    fun cdv A outer s H vs Q E hr h => ⟨t_law_addresses K E, d_law_addresses T (has_Prefix_span T) (has_law_digit T) hr, pure_law_addresses T vs H Q E h⟩

theorem len_law_two {K : PySem.W.Frag} : ∀ vs H Q E, sp_law_two K vs H Q E → vs.length = (P_law_two : List Str).length := by
  intro vs H Q E h
  repeat first | (obtain ⟨rfl, _⟩ := h; rfl) | obtain ⟨_, h⟩ := h
theorem has_law_two (T : TX K mg base) : Has P w K mg base 5 "_law_two" P_law_two (sp_law_two K) :=
  mk_has (T.glo 38) (T.says.def_ 23) sc_law_two (fun _ _ _ _ _ _ us hl => match us, hl with | [_, _, _], _ => rfl) len_law_two
    fun cdv A outer s H vs Q E hr h => ⟨t_law_two K E, d_law_two T (has_law_addresses T) (has_Prefix_covers T) (has_law_shares T) (has_bit_of T) (has_law_bits T) (has_prefix_of T) (has_Prefix__eq T) (has_Prefix_contains T) (has_Prefix_pair T) hr, pure_law_two T vs H Q E h⟩

theorem len_law_pair {K : PySem.W.Frag} : ∀ vs H Q E, sp_law_pair K vs H Q E → vs.length = (P_law_pair : List Str).length := by
  intro vs H Q E h
  repeat first | (obtain ⟨rfl, _⟩ := h; rfl) | obtain ⟨_, h⟩ := h
theorem has_law_pair (T : TX K mg base) : Has P w K mg base 7 "_law_pair" P_law_pair (sp_law_pair K) :=
  mk_has (T.glo 39) (T.says.def_ 24) sc_law_pair (fun _ _ _ _ _ _ us hl => match us, hl with | [_], _ => rfl) len_law_pair
    fun cdv A outer s H vs Q E hr h => ⟨t_law_pair K E, d_law_pair T (has_law_digit T) (has_law_base T) (has_law_made T) (has_law_may T) (has_law_one T) (has_prefix_of T) (has_law_two T) hr, pure_law_pair T vs H Q E h⟩

theorem len_law {K : PySem.W.Frag} : ∀ vs H Q E, sp_law K vs H Q E → vs.length = (P_law : List Str).length := by
  intro vs H Q E h
  repeat first | (obtain ⟨rfl, _⟩ := h; rfl) | obtain ⟨_, h⟩ := h
theorem has_law (T : TX K mg base) : Has P w K mg base 8 "law" P_law (sp_law K) :=
  mk_has (T.glo 40) (T.says.def_ 25) sc_law (fun _ _ _ _ _ _ us hl => match us, hl with | [_], _ => rfl) len_law
    fun cdv A outer s H vs Q E hr h => ⟨t_law K E, d_law T (has_law_pair T) (has_law_start T) (has_law_cell T) hr, pure_law T vs H Q E h⟩

theorem ok_law (T : TX K mg base) {fd : FuncData} (F : FunD K "law" "law" (defArgs s_law) (defBody s_law) (defScope s_law) [] [] (He.ga K "law") fd) : FnOk P w K mg base (L2.CX P w) 8 (He.ga K "law") fd P_law (sp_law K) :=
  FunD.ok (CX := L2.CX P w) F sc_law len_law fun cdv A outer s H vs Q E hr h => ⟨t_law K E, d_law T (has_law_pair T) (has_law_start T) (has_law_cell T) hr, pure_law T vs H Q E h⟩

end

abbrev R : PySem.W.OpenRow := PySem.W.OpenLaw.row PySem.Challenge.rw_throughway_k72_prefixes
abbrev hk : PySem.W.Hook := hookB 5 fa fn pr ex
def ob (s : PySem.W.SharedT) : AlB := obsBG 5 fa fn pr ex (HandSHeadRun.getT s)
theorem ob_eq (s : PySem.W.SharedT) : ob s = hk.obs s.abs := obsBG_eq (HandSHeadRun.getT_eq s)
def names : List PySem.Str := (["ThroughwayError", "InvalidPrefix", "span_of", "bit_of", "Prefix", "prefix_of", "_law_span", "_law_cell", "_law_start", "_law_digit", "_law_is_integer", "_law_bits", "_law_may", "_law_made", "_law_base", "_law_shares", "_law_halves", "_law_one", "_law_addresses", "_law_two", "_law_pair", "BITS", "ADDRESSES", "SPANS"] : List PySem.Str)
theorem run (w : World) : HandSHeadRun.RunEq R (PySem.W.view R.prog [27]) hk ob 4000 names w := by
  intro os
  kernel_rfl
end K72

open PySem PySem.W PySem.Calls PyProof.Rows
theorem PySem.Challenge.cw_throughway_k72_prefixes_holds : PySem.Challenge.rw_throughway_k72_prefixes.Holds := by
  w_on; o_law
  refine HandSHeadRun.head_any (r := OpenLaw.row PySem.Challenge.rw_throughway_k72_prefixes) (q := view (OpenLaw.row PySem.Challenge.rw_throughway_k72_prefixes).prog [27]) (H := K72.hk) (ob := K72.ob) (M := 4000) (loose := K72.names) (d := HandSHeadRun.topDef (OpenLaw.row PySem.Challenge.rw_throughway_k72_prefixes).prog 27) (kwd := []) K72.ob_eq
    (by kernel_rfl) (fun s => by kernel_rfl) K72.run (by kernel_rfl) (by kernel_rfl) (by kernel_rfl) (by rfl) (by first | assumption | decide +kernel) (by decide +kernel) ⟨rfl, rfl, rfl, rfl, rfl, by decide +kernel⟩ ?hw ?hc
  case hw => w_witness2
  case hc =>
    refine G.walk_ofEB (l := PySem.Challenge.rw_throughway_k72_prefixes) (n := 63) (k := 8) (x := "script") (CX := fun w => L2.CX (PySem.Challenge.rw_throughway_k72_prefixes).prog w) rfl (by decide) (by kernel_rfl) ⟨rfl, by decide, by decide⟩ ?F ?X
    case X =>
      intro w H s e s' z
      obtain ⟨_, _, _, _, _, _, _, _, _, _, _, _, z⟩ := z
      exact z.elim
    case F =>
      intro w mg fa h Y G hmg0
      obtain ⟨K, KX, c⟩ := Y
      have hmg : mg ("law" : PySem.Str) = some (.ref fa) := by
        have e : (HandSHeadRun.topDef (OpenLaw.row PySem.Challenge.rw_throughway_k72_prefixes).prog 27).name = ("law" : PySem.Str) := by kernel_rfl
        rw [← e]
        exact hmg0
      obtain ⟨fd, FD⟩ := He.SaysD.def_ c.d 25 (d := K72.D_law) rfl
      have b := L2.FunD.bindsA (ps := ["script"]) FD fun _ _ _ _ _ _ us hl => match us, hl with | [_], _ => rfl
      have eg : fa = He.ga K "law" := by
        have e := hmg.symm.trans (He.glo_ok KX G (He.SaysD.fact c.d 40 (f := .glo "law") rfl))
        cases e
        rfl
      subst eg
      exact ⟨K, fd, K72.sp_law K, KX, fun s v => b s [v] rfl, fun H a ns hl hb hO hS => K72.law_start hl hb hO hS, fun base kin hns => K72.ok_law ⟨⟨kin, hns, c.d⟩, c⟩ FD⟩
