import PyProof.Rows.All
import Wide.All
import OpenK.AllK
import Wide.FinOn
import HandS.ForMost
import HandS.ForExc
import HandS.Wide
import HandS.Steps
import HandS.Evl
import HandS.Defaults
import HandS.IsInst
import HandS.Head0
import HandS.Head1
import HandS.Head2
import HandS.HeadEnd
import HandS.EndBits
import HandS.HeadHook1
import HandS.HeadHook2
import HandS.Property
import HandS.OwnEq
import HandS.ExcIs
import HandS.DeepEq
import HandS.HeadHook4
import HandS.TupLe
import HandS.Walk
import KE.KIndexOf
import HandS.Strs
import HandS.Dict
import PySem.Challenge.RW_throughway_k35_frames
set_option Elab.async false
set_option linter.all false
set_option maxRecDepth 100000
set_option maxHeartbeats 4000000
/-! My own words over the hand layer: a def of the module, a method, a class, by names (Has, HasM, HasI); their calls; readings step by step. -/
namespace G
open PySem PySem.Spec PyProof.Rows L2

/-! ### a call that may let an exception out, at the slots -/
section
variable {X : Cx} {k : Nat} {f C : Addr} {fd : FuncData} {ps : List Str} {sp : Sp} {E : L2.St → XK} {x m : Str} {p pos apos : Pos} {e o : Expr} {es : List Expr} {ta : TE} {t : TA}
abbrev XC (X : Cx) : CXT := L2.CX X.prog X.w
/-- nothing is let out -/
theorem passZ (σ : L2.St) : PassesAt (XC X) X σ E0 := fun _ _ _ _ _ _ c => by
  obtain ⟨_, _, _, _, _, _, _, _, _, _, _, _, z⟩ := c
  exact z.elim
theorem pe_callS0 (F : FnOk X.prog X.w X.K X.mg X.base (XC X) k f fd ps sp) (hr : Room k X.A) (hg : Gl X x) (hm : X.mg x = some (.ref f)) (hk : PySem.W.keepIn X.K (.ref f) = true) (hb : Binds X.K fd ps []) (hx : ∀ σ, PassesAt (XC X) X σ (E σ))
    (hdb : (x == ("__debug__" : Str)) = false := by decide) : PE X (.Call (.Name x p) [] [] pos) (tCallS sp E tNil) := by
  refine ⟨fun pz s σ H Q I h => ?_⟩
  refine wpAny_Call_Name_kw ?_
  refine ld_glob I hg hm ?_ hdb
  exact PySem.W.callWith_K0 I.kIn hk (run_fnS (us := []) F hr hb (hx σ) I .nil h)
/-- o.m(..) -/
def tMt (C : Addr) (m : Str) (sp : Sp) (E : L2.St → XK) (ta : TE) (t : TA) : TE := fun σ H Q => ta σ H fun x H1 => ∃ a dx fs, x = .ref a ∧ H1 a = some (.ins C dx fs) ∧ fs.lookup m = none ∧
  t σ H1 fun vs H2 => sp (x :: vs) H2 Q (E σ)
theorem pe_mt {pl : Sem Bool} (he : PE X o ta) (c : Cls X.K C) (hm : Meth X.K C m f) (F : FnOk X.prog X.w X.K X.mg X.base (XC X) k f fd ps sp) (hr : Room k X.A) (hb : Binds X.K fd ps []) (hx : ∀ σ, PassesAt (XC X) X σ (E σ)) (ha : PA X (e :: es) t)
    (hst : starEach (e :: es) X.env = (false, eval e X.env) :: starEach es X.env := by rfl) (hpl : (backTo pos (starEach es X.env)).any (·.1) = false := by rfl)
    (ht : eval (.Call (.Attribute o m apos) (e :: es) [] pos) X.env = (do
      let ov ← eval o X.env
      standAt apos.atName
      let (f, first) ← holding [ov] (getMethod ov m pl)
      callWith pos f first (backTo pos (starEach (e :: es) X.env)) (backToKw pos (keywordEach [] X.env))) := by rfl) :
    PE X (.Call (.Attribute o m apos) (e :: es) [] pos) (tMt C m sp E ta t) := by
  refine ⟨fun pz s σ H Q I h => ?_⟩
  refine PySem.W.methodCall_KW (pl := pl) (thn (he.run pz s σ H _ I h) fun u z1 ⟨x, H1, J1, rq, a, dx, fs, ex, ea, l, q⟩ => ?_) ht
  subst ex
  obtain rfl : u = Value.ref a := rq
  refine getmeth_ok J1 ea c hm l ?_
  refine PySem.W.callWith_K (first := [.ref a]) (h₀ := X.base) I.ok.mod.kin hm.kp (thn (ha.run pos pz z1 σ H1 _ J1 q) fun us s2 ⟨vs, H2, J2, r, qb⟩ => ⟨J2.kIn, ?_⟩) hst hpl
  exact run_fnS (us := .ref a :: us) (vs := .ref a :: vs) F hr hb (hx σ) J2 (.cons rfl r) qb
theorem pe_mt0 {pl : Sem Bool} (he : PE X o ta) (c : Cls X.K C) (hm : Meth X.K C m f) (F : FnOk X.prog X.w X.K X.mg X.base (XC X) k f fd ps sp) (hr : Room k X.A) (hb : Binds X.K fd ps []) (hx : ∀ σ, PassesAt (XC X) X σ (E σ))
    (ht : eval (.Call (.Attribute o m apos) [] [] pos) X.env = (do
      let ov ← eval o X.env
      standAt apos.atName
      let (f, first) ← holding [ov] (getMethod ov m pl)
      callWith pos f first (backTo pos (starEach [] X.env)) (backToKw pos (keywordEach [] X.env))) := by rfl) :
    PE X (.Call (.Attribute o m apos) [] [] pos) (tMt C m sp E ta tNil) := by
  refine ⟨fun pz s σ H Q I h => ?_⟩
  refine PySem.W.methodCall_KW (pl := pl) (thn (he.run pz s σ H _ I h) fun u z1 ⟨x, H1, J1, rq, a, dx, fs, ex, ea, l, q⟩ => ?_) ht
  subst ex
  obtain rfl : u = Value.ref a := rq
  refine getmeth_ok J1 ea c hm l ?_
  exact PySem.W.callWith_K0 (first := [.ref a]) J1.kIn hm.kp (run_fnS (us := [.ref a]) (vs := [.ref a]) F hr hb (hx σ) J1 (.cons rfl .nil) q)
/-- C(..) -/
def tMk (C : Addr) (sp : Sp) (E : L2.St → XK) (t : TA) : TE := fun σ H Q => t σ H fun vs H1 => ∀ x dx, H1 x = none → H1 dx = none → dx ≠ x →
  sp (.ref x :: vs) (upd (upd H1 dx (.own x)) x (.ins C dx [])) (fun v H2 => v = .non ∧ Q (.ref x) H2) (E σ)
theorem run_mk {pz : List (Addr × Obj)} {σ : L2.St} {H : Hp} {s : Shared} {Q : VK} {us : List Value} {vs : List V} (M : Mk X.K C f) (F : FnOk X.prog X.w X.K X.mg X.base (XC X) k f fd ps sp) (hr : Room (k + 1) X.A) (hb : Binds X.K fd ps [])
    (hx : PassesAt (XC X) X σ (E σ)) (I : Inv X pz σ H s) (r : Vals vs us)
    (h : ∀ x dx, H x = none → H dx = none → dx ≠ x → sp (.ref x :: vs) (upd (upd H dx (.own x)) x (.ins C dx [])) (fun v H2 => v = .non ∧ Q (.ref x) H2) (E σ)) :
    wpAny (model X.prog X.w) X.A (call (.ref C) us) (EP X pz σ Q) X.xe s := by
  have hqa := h (s.heap.objs.size + 1) s.heap.objs.size (I.hok.fresh (Nat.le_succ _)) (I.hok.fresh (Nat.le_refl _)) (Nat.ne_of_lt (Nat.lt_succ_self _))
  have J2 := Inv.made (C := C) I
  have rr2 : Vals (V.ref (s.heap.objs.size + 1) :: vs) (Value.ref (s.heap.objs.size + 1) :: us) := .cons rfl r
  have hl : (Value.ref (s.heap.objs.size + 1) :: us).length = ps.length := by
    have e := rr2.length
    rw [F.len _ _ _ _ hqa] at e
    exact e.symm
  have b := hb _ (Value.ref (s.heap.objs.size + 1) :: us) J2.kIn (by rw [List.append_nil]; exact hl)
  rw [List.append_nil] at b
  refine wpAny_call (make_map (f := f) I.kIn M.makes M.init (beq_iff_eq.mp M.fn) (codeAny_mono (F.run _ X.stack _ _ ⟨Value.ref (s.heap.objs.size + 1) :: us, []⟩ (Value.ref (s.heap.objs.size + 1) :: us) _ _ (E σ) (hr.make C us [])
    (J2.env0.make C us []) b rr2 hqa) fun r s' hqb => ?_))
  cases r with
  | error e => exact hx pz _ _ e s' J2 hqb
  | ok fl =>
    cases fl with
    | ret u =>
      obtain ⟨v, H', J3, rv, ev, qc⟩ := J2.after hqb
      subst ev
      exact ⟨rv, ⟨V.ref (s.heap.objs.size + 1), H', J3, rfl, qc⟩⟩
    | next => exact False.elim hqb
    | brk => exact False.elim hqb
    | cont => exact False.elim hqb
theorem pe_mk (M : Mk X.K C f) (F : FnOk X.prog X.w X.K X.mg X.base (XC X) k f fd ps sp) (hr : Room (k + 1) X.A) (hg : Gl X x) (hm : X.mg x = some (.ref C)) (hb : Binds X.K fd ps []) (hx : ∀ σ, PassesAt (XC X) X σ (E σ))
    (ha : PA X (e :: es) t) (hdb : (x == ("__debug__" : Str)) = false := by decide) (he : starEach (e :: es) X.env = (false, eval e X.env) :: starEach es X.env := by rfl) (hpl : (backTo pos (starEach es X.env)).any (·.1) = false := by rfl) :
    PE X (.Call (.Name x p) (e :: es) [] pos) (tMk C sp E t) := by
  refine ⟨fun pz s σ H Q I h => ?_⟩
  refine wpAny_Call_Name_kw ?_
  refine ld_glob I hg hm ?_ hdb
  refine PySem.W.callWith_K (h₀ := X.base) I.ok.mod.kin M.kp (thn (ha.run pos pz s σ H _ I h) fun us z1 ⟨vs, H1, J1, r, q⟩ => ⟨J1.kIn, ?_⟩) he hpl
  exact run_mk M F hr hb (hx σ) J1 r q
theorem pe_mk0 (M : Mk X.K C f) (F : FnOk X.prog X.w X.K X.mg X.base (XC X) k f fd ps sp) (hr : Room (k + 1) X.A) (hg : Gl X x) (hm : X.mg x = some (.ref C)) (hb : Binds X.K fd ps []) (hx : ∀ σ, PassesAt (XC X) X σ (E σ))
    (hdb : (x == ("__debug__" : Str)) = false := by decide) : PE X (.Call (.Name x p) [] [] pos) (tMk C sp E tNil) := by
  refine ⟨fun pz s σ H Q I h => ?_⟩
  refine wpAny_Call_Name_kw ?_
  refine ld_glob I hg hm ?_ hdb
  exact PySem.W.callWith_K0 I.kIn M.kp (run_mk (us := []) M F hr hb (hx σ) I .nil h)
end

/-! ### by names -/
section
variable (P : Program) (w : World) (K : PySem.W.Frag) (mg : Str → Option Value) (base : Heap)
/-- a def of the module -/
structure Has (k : Nat) (x : Str) (ps : List Str) (sp : Sp) : Prop where
  gl : mg x = some (.ref (He.ga K x))
  kp : PySem.W.keepIn K (.ref (He.ga K x)) = true
  ex : ∃ fd, FnOk P w K mg base (L2.CX P w) k (He.ga K x) fd ps sp ∧ Binds K fd ps []
/-- a method -/
structure HasM (k : Nat) (c m : Str) (ps : List Str) (sp : Sp) : Prop where
  cl : Cls K (He.ga K c)
  me : Meth K (He.ga K c) m (He.ma K (He.ga K c) m)
  ex : ∃ fd, FnOk P w K mg base (L2.CX P w) k (He.ma K (He.ga K c) m) fd ps sp ∧ Binds K fd ps []
/-- a class that is made by its __init__ -/
structure HasI (k : Nat) (c : Str) (ps : List Str) (sp : Sp) : Prop where
  gl : mg c = some (.ref (He.ga K c))
  mkr : Mk K (He.ga K c) (He.ma K (He.ga K c) "__init__")
  ex : ∃ fd, FnOk P w K mg base (L2.CX P w) k (He.ma K (He.ga K c) "__init__") fd ps sp ∧ Binds K fd ps []
end
section
variable {P : Program} {w : World} {K : PySem.W.Frag} {mg : Str → Option Value} {base : Heap}
theorem Has.mono {j k : Nat} {x : Str} {ps : List Str} {sp : Sp} (h : Has P w K mg base j x ps sp) (l : j ≤ k) : Has P w K mg base k x ps sp :=
  ⟨h.gl, h.kp, let ⟨fd, F, b⟩ := h.ex; ⟨fd, F.mono l, b⟩⟩
theorem HasM.mono {j k : Nat} {c m : Str} {ps : List Str} {sp : Sp} (h : HasM P w K mg base j c m ps sp) (l : j ≤ k) : HasM P w K mg base k c m ps sp :=
  ⟨h.cl, h.me, let ⟨fd, F, b⟩ := h.ex; ⟨fd, F.mono l, b⟩⟩
theorem HasI.mono {j k : Nat} {c : Str} {ps : List Str} {sp : Sp} (h : HasI P w K mg base j c ps sp) (l : j ≤ k) : HasI P w K mg base k c ps sp :=
  ⟨h.gl, h.mkr, let ⟨fd, F, b⟩ := h.ex; ⟨fd, F.mono l, b⟩⟩
end
section
variable {X : Cx} {k : Nat} {ps : List Str} {sp : Sp} {E : L2.St → XK} {x c m : Str} {p pos apos : Pos} {e o : Expr} {es : List Expr} {ta : TE} {t : TA}
theorem pe_h (h : Has X.prog X.w X.K X.mg X.base k x ps sp) (hr : Room k X.A) (hg : Gl X x) (hx : ∀ σ, PassesAt (XC X) X σ (E σ)) (ha : PA X (e :: es) t) (hdb : (x == ("__debug__" : Str)) = false := by decide)
    (he : starEach (e :: es) X.env = (false, eval e X.env) :: starEach es X.env := by rfl) (hpl : (backTo pos (starEach es X.env)).any (·.1) = false := by rfl) : PE X (.Call (.Name x p) (e :: es) [] pos) (tCallS sp E t) := by
  obtain ⟨fd, F, b⟩ := h.ex
  exact pe_callS F hr hg h.gl h.kp b hx ha hdb he hpl
theorem pe_h0 (h : Has X.prog X.w X.K X.mg X.base k x ps sp) (hr : Room k X.A) (hg : Gl X x) (hx : ∀ σ, PassesAt (XC X) X σ (E σ)) (hdb : (x == ("__debug__" : Str)) = false := by decide) : PE X (.Call (.Name x p) [] [] pos) (tCallS sp E tNil) := by
  obtain ⟨fd, F, b⟩ := h.ex
  exact pe_callS0 F hr hg h.gl h.kp b hx hdb
theorem pe_i (h : HasI X.prog X.w X.K X.mg X.base k c ps sp) (hr : Room (k + 1) X.A) (hg : Gl X c) (hx : ∀ σ, PassesAt (XC X) X σ (E σ)) (ha : PA X (e :: es) t) (hdb : (c == ("__debug__" : Str)) = false := by decide)
    (he : starEach (e :: es) X.env = (false, eval e X.env) :: starEach es X.env := by rfl) (hpl : (backTo pos (starEach es X.env)).any (·.1) = false := by rfl) : PE X (.Call (.Name c p) (e :: es) [] pos) (tMk (He.ga X.K c) sp E t) := by
  obtain ⟨fd, F, b⟩ := h.ex
  exact pe_mk h.mkr F hr hg h.gl b hx ha hdb he hpl
theorem pe_i0 (h : HasI X.prog X.w X.K X.mg X.base k c ps sp) (hr : Room (k + 1) X.A) (hg : Gl X c) (hx : ∀ σ, PassesAt (XC X) X σ (E σ)) (hdb : (c == ("__debug__" : Str)) = false := by decide) : PE X (.Call (.Name c p) [] [] pos) (tMk (He.ga X.K c) sp E tNil) := by
  obtain ⟨fd, F, b⟩ := h.ex
  exact pe_mk0 h.mkr F hr hg h.gl b hx hdb
theorem pe_m {pl : Sem Bool} (he : PE X o ta) (h : HasM X.prog X.w X.K X.mg X.base k c m ps sp) (hr : Room k X.A) (hx : ∀ σ, PassesAt (XC X) X σ (E σ)) (ha : PA X (e :: es) t)
    (hst : starEach (e :: es) X.env = (false, eval e X.env) :: starEach es X.env := by rfl) (hpl : (backTo pos (starEach es X.env)).any (·.1) = false := by rfl)
    (ht : eval (.Call (.Attribute o m apos) (e :: es) [] pos) X.env = (do
      let ov ← eval o X.env
      standAt apos.atName
      let (f, first) ← holding [ov] (getMethod ov m pl)
      callWith pos f first (backTo pos (starEach (e :: es) X.env)) (backToKw pos (keywordEach [] X.env))) := by rfl) :
    PE X (.Call (.Attribute o m apos) (e :: es) [] pos) (tMt (He.ga X.K c) m sp E ta t) := by
  obtain ⟨fd, F, b⟩ := h.ex
  exact pe_mt he h.cl h.me F hr b hx ha hst hpl ht
theorem pe_m0 {pl : Sem Bool} (he : PE X o ta) (h : HasM X.prog X.w X.K X.mg X.base k c m ps sp) (hr : Room k X.A) (hx : ∀ σ, PassesAt (XC X) X σ (E σ))
    (ht : eval (.Call (.Attribute o m apos) [] [] pos) X.env = (do
      let ov ← eval o X.env
      standAt apos.atName
      let (f, first) ← holding [ov] (getMethod ov m pl)
      callWith pos f first (backTo pos (starEach [] X.env)) (backToKw pos (keywordEach [] X.env))) := by rfl) :
    PE X (.Call (.Attribute o m apos) [] [] pos) (tMt (He.ga X.K c) m sp E ta tNil) := by
  obtain ⟨fd, F, b⟩ := h.ex
  exact pe_mt0 he h.cl h.me F hr b hx ht
/-- raise X('..'), X without an __init__ -/
def tRs (C : Addr) (W : WX) : TS := fun _ σ H => W (.ref C) none σ H
/-- what the class of an own exception must have -/
structure HasX (K : PySem.W.Frag) (mg : Str → Option Value) (c : Str) : Prop where
  gl : mg c = some (.ref (He.ga K c))
  ex : PySem.W.excIn K (He.ga K c) He.veBase "ValueError.__new__" = true
  kp : PySem.W.keepIn K (.ref (He.ga K c)) = true
  sb : PySem.W.subIn K (.ref (He.ga K c)) (.type "BaseException") = some true
  ty : PySem.W.typeIn K (.ref (He.ga K c)) = some (.type "type")
theorem ps_rs {W : WX} {msg : Str} {j : Nat} {p2 pos2 : Pos} (hc : X.calm = true) (tk : Takes X W) (h : HasX X.K X.mg c) (hg : Gl X c) (hdb : (c == ("__debug__" : Str)) = false := by decide) :
    PS X (.Raise (some (.Call (.Name c p) [.Constant (.str msg) j p2] [] pos)) none pos2) (tRs (He.ga X.K c) W) :=
  ps_raise hc tk (pmk_own PySem.F.excBase_ValueError h.ex h.gl h.kp (raises_own h.sb h.ty) hg hdb)
end

/-! ### a def of the text keeps its promise -/
section
variable {P : Program} {w : World} {K : PySem.W.Frag} {mg : Str → Option Value} {base : Heap}
/-- what the body's term and its reading are to give -/
abbrev Body (P : Program) (w : World) (K : PySem.W.Frag) (mg : Str → Option Value) (base : Heap) (k : Nat) (N : List Str) (qual : Str) (scope : Scope) (f : Addr) (body : List Stmt) (sp : Sp) : Prop :=
  ∀ (cdv : Value) (A : Around) (outer : List Env) (s : Shared) (H : Hp) (vs : List V) (Q : VK) (E : XK), Room k (A.deeper (envOfC qual scope s.heap.objs.size f cdv)) → sp vs H Q E →
      ∃ t, PSs (cxOf (L2.CX P w) P w K mg base N qual scope f cdv A outer s H E) body t ∧ t { nx := fun _ H' => Q .non H', rt := Q } (start N vs) H
theorem mk_has {k : Nat} {x qual : Str} {params : Arguments} {body : List Stmt} {scope : Scope} {N ps : List Str} {sp : Sp} (gl : mg x = some (.ref (He.ga K x)))
    (F : ∃ fd, FunD K x qual params body scope [] [] (He.fAd K (x, none)) fd) (S : FnScope N ps scope)
    (hb : ∀ (kV doc pm : Value) (an : Option Addr) (cdv ct : Value) (us : List Value), us.length = ps.length → bindArgs (PySem.W.fnOf x qual params body scope .none kV doc pm an cdv ct) ⟨us, []⟩ = pure (ps.zip us))
    (len : ∀ vs H Q E, sp vs H Q E → vs.length = ps.length) (hbody : Body P w K mg base k N qual scope (He.ga K x) body sp) : Has P w K mg base (k + 1) x ps sp := by
  obtain ⟨fd, F⟩ := F
  exact ⟨gl, F.kp, fd, FunD.ok (CX := L2.CX P w) F S len hbody, F.bindsN hb⟩
theorem mk_hasM {k : Nat} {c m qual : Str} {params : Arguments} {body : List Stmt} {scope : Scope} {N ps : List Str} {sp : Sp} (cl : Cls K (He.ga K c)) (me : Meth K (He.ga K c) m (He.ma K (He.ga K c) m))
    (F : ∃ fd, FunD K m qual params body scope [] [] (He.fAd K (c, some m)) fd) (S : FnScope N ps scope)
    (hb : ∀ (kV doc pm : Value) (an : Option Addr) (cdv ct : Value) (us : List Value), us.length = ps.length → bindArgs (PySem.W.fnOf m qual params body scope .none kV doc pm an cdv ct) ⟨us, []⟩ = pure (ps.zip us))
    (len : ∀ vs H Q E, sp vs H Q E → vs.length = ps.length) (hbody : Body P w K mg base k N qual scope (He.ma K (He.ga K c) m) body sp) : HasM P w K mg base (k + 1) c m ps sp := by
  obtain ⟨fd, F⟩ := F
  exact ⟨cl, me, fd, FunD.ok (CX := L2.CX P w) F S len hbody, F.bindsN hb⟩
theorem mk_hasI {k : Nat} {c qual : Str} {params : Arguments} {body : List Stmt} {scope : Scope} {N ps : List Str} {sp : Sp} (gl : mg c = some (.ref (He.ga K c))) (mk : Mk K (He.ga K c) (He.ma K (He.ga K c) "__init__"))
    (F : ∃ fd, FunD K "__init__" qual params body scope [] [] (He.fAd K (c, some "__init__")) fd) (S : FnScope N ps scope)
    (hb : ∀ (kV doc pm : Value) (an : Option Addr) (cdv ct : Value) (us : List Value), us.length = ps.length → bindArgs (PySem.W.fnOf "__init__" qual params body scope .none kV doc pm an cdv ct) ⟨us, []⟩ = pure (ps.zip us))
    (len : ∀ vs H Q E, sp vs H Q E → vs.length = ps.length) (hbody : Body P w K mg base k N qual scope (He.ma K (He.ga K c) "__init__") body sp) : HasI P w K mg base (k + 1) c ps sp := by
  obtain ⟨fd, F⟩ := F
  exact ⟨gl, mk, fd, FunD.ok (CX := L2.CX P w) F S len hbody, F.bindsN hb⟩
/-- the head's facts -/
structure Tx (fa : List He.Fa) (fn : List He.DefD) (K : PySem.W.Frag) (mg : Str → Option Value) (base : Heap) : Prop where
  kin : K.In base
  ns : base.Ns mainGlobals mg
  says : He.SaysD fa fn K
variable {fa : List He.Fa} {fn : List He.DefD}
theorem Tx.glo (T : Tx fa fn K mg base) {x : Str} (i : Nat) (h : fa[i]? = some (.glo x) := by rfl) : mg x = some (.ref (He.ga K x)) := He.glo_ok T.kin T.ns (T.says.fact i h)
theorem Tx.free (T : Tx fa fn K mg base) {x : Str} (i : Nat) (h : fa[i]? = some (.free x) := by rfl) : mg x = none := He.free_ok T.kin T.ns (T.says.fact i h)
theorem Tx.cls (T : Tx fa fn K mg base) {x : Str} (i : Nat) (h : fa[i]? = some (.cls x) := by rfl) : Cls K (He.ga K x) := He.cls_ok (T.says.fact i h)
theorem Tx.noat (T : Tx fa fn K mg base) {x f : Str} (i : Nat) (h : fa[i]? = some (.noat x f) := by rfl) : NoAttr K (He.ga K x) f := He.noat_ok (T.says.fact i h)
theorem Tx.meth (T : Tx fa fn K mg base) {x m : Str} (i : Nat) (h : fa[i]? = some (.meth x m) := by rfl) : Meth K (He.ga K x) m (He.ma K (He.ga K x) m) := He.meth_ok (T.says.fact i h)
theorem Tx.mkr (T : Tx fa fn K mg base) {x : Str} (i : Nat) (h : fa[i]? = some (.mkr x) := by rfl) : Mk K (He.ga K x) (He.ma K (He.ga K x) "__init__") := He.mkr_ok (T.says.fact i h)
theorem Tx.exm (T : Tx fa fn K mg base) {x y : Str} {b : Bool} (i : Nat) (h : fa[i]? = some (.exm x y b) := by rfl) : PySem.W.exmOne K (.ref (He.ga K x)) (.ref (He.ga K y)) = some b := He.exm_ok (T.says.fact i h)
theorem Tx.exc (T : Tx fa fn K mg base) {x : Str} (i j : Nat) (h : fa[i]? = some (.exc x) := by rfl) (h2 : fa[j]? = some (.glo x) := by rfl) : HasX K mg x :=
  let ⟨a, b, c, d⟩ := He.exc_ok (T.says.fact i h)
  ⟨T.glo j h2, a, b, c, d⟩
end

/-! ### the end, with the script's bits told -/
theorem walk_ofEB {l : PySem.W.OpenLaw} {n k : Nat} {q : Program} {loose : List Str} {XP : (Str → Option Value) → Heap → Prop} {YP : World → Heap → Prop} {d : DefRec} {CX : World → CXT} {x : Str}
    (hn : l.most = some n) (hn2 : n ≤ sizeLine) (hdf : d.params.defaults = []) (hr : Room k callerA)
    (F : ∀ (w : World) (mg : Str → Option Value) (fa : Addr) (h : Heap), YP w h → h.Ns mainGlobals mg → mg d.name = some (.ref fa) →
      ∃ (K : PySem.W.Frag) (fd : FuncData) (sp : Sp), K.In h ∧ (∀ (s : Shared) (u : Value), BindsTo s fd ⟨[u], []⟩ [(x, u)]) ∧
        (∀ (H : Hp) (a : Addr) (ns : List Int), ns.length ≤ n → (∀ z ∈ ns, Builtin.Int.intBits z ≤ 1048576) → Only H → SqL K H a (ns.map V.int) → sp [.ref a] H (fun v _ => v = .bl true) fun _ _ _ => False) ∧
        ∀ base : Heap, K.In base → base.Ns mainGlobals mg → FnOk l.prog w K mg base (CX w) k fa fd [x] sp)
    (hCX : ∀ (w : World) (H : Hp) (s : Shared) (e : Value) (s' : Shared), CX w [] H s (fun _ _ _ => False) e s' → False) :
    PySem.W.WalkO q loose XP YP l.row.toRowW d [] (fun f vs => PySem.call f vs) := by
  refine Att.attach_callB hn hdf fun w sA sB mg mb fa o pm cd doc a vs ns G Y ho hd hcd hmg hobj hints hlen hbits hg => ?_
  obtain ⟨K, fd, sp, kx, bd, sh, FF⟩ := F w mg fa _ Y G.T.g hmg
  exact law_call kx G.T.g G.T.b G.T.builtins G.T.nolimit hg hobj hints (Nat.le_trans hlen hn2) hr FF bd (fun H hO hS => sh H a ns hlen hbits hO hS) fun H e s' => hCX w H sB e s'
end G

/-! readings, step by step -/
namespace G
open PySem PySem.Spec PyProof.Rows L2
/-! ### names of the rules' relations -/
abbrev wB (E : XK) : WX := fun cls d _ H => E cls d H
abbrev gAdd : R2 := rI0 fun i j => .int (i + j)
abbrev gMinus : R2 := rI0 fun i j => .int (i - j)
abbrev gMul : R2 := rI CMul fun i j => .int (i * j)
abbrev gMulW : R2 := rI CMulW fun i j => .int (i * j)
abbrev gDiv : R2 := rI CDiv fun i j => .int (i / j)
abbrev gDivW : R2 := rI CDivW fun i j => .int (i / j)
abbrev gMod : R2 := rI (fun _ j => 0 < j) fun i j => .int (i % j)
abbrev gPow : R2 := rI CPow fun i j => .int (i ^ j.toNat)
abbrev gShl : R2 := rI CPow fun i j => .int (i * 2 ^ j.toNat)
abbrev gShr : R2 := rI (fun _ j => 0 ≤ j) fun i j => .int (i / 2 ^ j.toNat)
abbrev gAnd : R2 := rI0 fun i j => .int (Builtin.bitAnd i j)
abbrev gOr : R2 := rI0 fun i j => .int (Builtin.bitOr i j)
abbrev gXor : R2 := rI0 fun i j => .int (Builtin.bitXor i j)
abbrev gLt : R2 := rI0 fun i j => .bl (decide (i < j))
abbrev gLte : R2 := rI0 fun i j => .bl (decide (i ≤ j))
abbrev gGt : R2 := rI0 fun i j => .bl (decide (j < i))
abbrev gGte : R2 := rI0 fun i j => .bl (decide (j ≤ i))
abbrev gLe : R2 := gLte
abbrev gGe : R2 := gGte
abbrev gNeg : V → Hp → VK → Prop := rU fun i => .int (-i)
abbrev gCatS : R2 := fun x y H Q => ∃ i j, x = .str i ∧ y = .str j ∧ i.length + j.length ≤ sizeLine ∧ Q (.str (i ++ j)) H
abbrev gInS : R2 := rInS
abbrev gNotInS : R2 := rNotInS
abbrev gLen (K : PySem.W.Frag) : List V → Hp → VK → Prop := fun xs H Q => ∃ x n, xs = [x] ∧ LenV K x H n ∧ Q (.int (n : Nat)) H
abbrev gMin2 : List V → Hp → VK → Prop := fun xs H Q => ∃ i j, xs = [.int i, .int j] ∧ Q (.int (if j < i then j else i)) H
abbrev gMax2 : List V → Hp → VK → Prop := fun xs H Q => ∃ i j, xs = [.int i, .int j] ∧ Q (.int (if j > i then j else i)) H
abbrev gAbs : List V → Hp → VK → Prop := fun xs H Q => ∃ i, xs = [.int i] ∧ Q (.int (if i < 0 then -i else i)) H
abbrev gInt1 : List V → Hp → VK → Prop := fun xs H Q => (∃ i, xs = [.int i] ∧ Q (.int i) H) ∨ ∃ k, xs = [.bl k] ∧ Q (.int (if k then 1 else 0)) H
abbrev gBool1 : List V → Hp → VK → Prop := fun xs H Q => (∃ i, xs = [.int i] ∧ Q (.bl (i != 0)) H) ∨ ∃ k, xs = [.bl k] ∧ Q (.bl k) H
abbrev gStr1 : List V → Hp → VK → Prop := fun xs H Q => ∃ i, xs = [.int i] ∧ i.natAbs.log2 < 1920 ∧ Q (.str (toString i)) H
abbrev gListOf (K : PySem.W.Frag) : List V → Hp → VK → Prop := fun xs H Q => ∃ p ys, xs = [.ref p] ∧ (SqL K H p ys ∨ SqT K H p ys) ∧ ∀ l, H l = none → Q (.ref l) (upd H l (.lst ys))
abbrev gTupOf (K : PySem.W.Frag) : List V → Hp → VK → Prop := fun xs H Q => ∃ p ys, xs = [.ref p] ∧ ((SqL K H p ys ∧ ∀ l, H l = none → Q (.ref l) (upd H l (.tup ys))) ∨ (SqT K H p ys ∧ Q (.ref p) H))
section
variable {X : Cx} {x : Str} {pos : Pos}
theorem pe_gint {i : Int} (hg : Gl X x) (hm : ∃ t, X.mg x = some (.int i t)) (hd : (x == ("__debug__" : Str)) = false := by decide) : PE X (.Name x pos) (tC (.int i)) := by
  obtain ⟨t, hm⟩ := hm
  exact pe_glob hg hm ⟨t, rfl⟩ hd
theorem pe_gstr {z : Str} (hg : Gl X x) (hm : ∃ t, X.mg x = some (.str z t)) (hd : (x == ("__debug__" : Str)) = false := by decide) : PE X (.Name x pos) (tC (.str z)) := by
  obtain ⟨t, hm⟩ := hm
  exact pe_glob hg hm ⟨t, rfl⟩ hd
theorem pe_gref {a : Addr} (hg : Gl X x) (hm : X.mg x = some (.ref a)) (hd : (x == ("__debug__" : Str)) = false := by decide) : PE X (.Name x pos) (tC (.ref a)) := pe_glob hg hm rfl hd
end
section
variable {K : PySem.W.Frag} {mg : Str → Option Value} {base : Heap} {fa : List He.Fa} {fn : List He.DefD}
theorem Tx.int (T : Tx fa fn K mg base) {x : Str} {n : Int} (i : Nat) (h : fa[i]? = some (.int x n) := by rfl) : ∃ t, mg x = some (.int n t) := He.int_ok T.kin T.ns (T.says.fact i h)
theorem Tx.str (T : Tx fa fn K mg base) {x z : Str} (i : Nat) (h : fa[i]? = some (.str x z) := by rfl) : ∃ t, mg x = some (.str z t) := He.str_ok T.kin T.ns (T.says.fact i h)
end

/-! ### steps -/
section
variable {K : PySem.W.Frag} {σ : L2.St} {H : Hp} {Q : VK} {v x y : V} {i j : Int} {n : Nat} {ta tb tc te : TE} {r r' : R2} {g : Int → Int → V} {C : Int → Int → Prop} {tA : TA}
theorem w_var (h : σ[n]? = some (some v)) (q : Q v H) : tVar n σ H Q := ⟨v, h, q⟩
theorem w_c (q : Q v H) : tC v σ H Q := q
theorem w_op (h : ta σ H fun x H1 => tb σ H1 fun y H2 => r x y H2 Q) : tOp r ta tb σ H Q := h
theorem w_I0 (q : Q (g i j) H) : rI0 g (.int i) (.int j) H Q := ⟨i, j, rfl, rfl, q⟩
theorem w_I (c : C i j) (q : Q (g i j) H) : rI C g (.int i) (.int j) H Q := ⟨i, j, rfl, rfl, c, q⟩
theorem w_eqI (q : Q (.bl (decide (i = j))) H) : rEq (.int i) (.int j) H Q := ⟨rfl, by
  have e : decide (V.int i = V.int j) = decide (i = j) := by simp
  show Q (.bl (decide (V.int i = V.int j))) H
  rw [e]; exact q⟩
theorem w_neI (q : Q (.bl (!decide (i = j))) H) : rNe (.int i) (.int j) H Q := ⟨rfl, by
  have e : decide (V.int i = V.int j) = decide (i = j) := by simp
  show Q (.bl (!decide (V.int i = V.int j))) H
  rw [e]; exact q⟩
theorem w_eqB {a b : Bool} (q : Q (.bl (decide (a = b))) H) : rEq (.bl a) (.bl b) H Q := ⟨rfl, by
  have e : decide (V.bl a = V.bl b) = decide (a = b) := by simp
  show Q (.bl (decide (V.bl a = V.bl b))) H
  rw [e]; exact q⟩
theorem w_neB {a b : Bool} (q : Q (.bl (!decide (a = b))) H) : rNe (.bl a) (.bl b) H Q := ⟨rfl, by
  have e : decide (V.bl a = V.bl b) = decide (a = b) := by simp
  show Q (.bl (!decide (V.bl a = V.bl b))) H
  rw [e]; exact q⟩
theorem w_eqS {a b : Str} (q : Q (.bl (decide (a = b))) H) : rEq (.str a) (.str b) H Q := ⟨rfl, by
  have e : decide (V.str a = V.str b) = decide (a = b) := by simp
  show Q (.bl (decide (V.str a = V.str b))) H
  rw [e]; exact q⟩
theorem w_neS {a b : Str} (q : Q (.bl (!decide (a = b))) H) : rNe (.str a) (.str b) H Q := ⟨rfl, by
  have e : decide (V.str a = V.str b) = decide (a = b) := by simp
  show Q (.bl (!decide (V.str a = V.str b))) H
  rw [e]; exact q⟩
theorem w_isN (q : Q (.bl (decide (x = .non))) H) : rIsN x .non H Q := ⟨rfl, q⟩
theorem w_notN (q : Q (.bl (!decide (x = .non))) H) : rNotN x .non H Q := ⟨rfl, q⟩
theorem w_un {rr : V → Hp → VK → Prop} (h : ta σ H fun x H1 => rr x H1 Q) : tUn rr ta σ H Q := h
theorem w_U {f : Int → V} (q : Q (f i) H) : rU f (.int i) H Q := ⟨i, rfl, q⟩
theorem w_chain (h : ta σ H fun x H1 => tb σ H1 fun y H2 => r x y H2 fun z H3 => ∃ k, z = .bl k ∧ (if k = true then tc σ H3 fun w' H4 => r' y w' H4 Q else Q (.bl false) H3)) : tChain r r' ta tb tc σ H Q := h
theorem w_k {b : Bool} {P : Bool → Prop} (h : P b) : ∃ k, V.bl b = .bl k ∧ P k := ⟨b, rfl, h⟩
theorem w_test {Q : Bool → Hp → Prop} (h : te σ H fun x H' => ∃ k, x = .bl k ∧ Q k H') : tTest te σ H Q := h
theorem w_tB {Q : Bool → Hp → Prop} (h : te σ H fun x H' => ∃ k, x = .bl k ∧ Q k H') : tB te σ H Q := h
theorem w_tru {Q : Bool → Hp → Prop} (h : te σ H fun x H' => ∃ k, TruV K x H' k ∧ Q k H') : tTru K te σ H Q := h
theorem w_not {Q : Bool → Hp → Prop} {t : TT} (h : t σ H fun c H1 => Q (!c) H1) : tNot t σ H Q := h
theorem w_and {Q : Bool → Hp → Prop} {t u : TT} (h : t σ H fun c H1 => if c = true then u σ H1 Q else Q false H1) : tAnd t u σ H Q := h
theorem w_or {Q : Bool → Hp → Prop} {t u : TT} (h : t σ H fun c H1 => if c = true then Q true H1 else u σ H1 Q) : tOr t u σ H Q := h
theorem w_andV (h : ta σ H fun x H1 => ∃ c, x = .bl c ∧ if c = true then tb σ H1 Q else Q (.bl false) H1) : tAndV ta tb σ H Q := h
theorem w_orV (h : ta σ H fun x H1 => ∃ c, x = .bl c ∧ if c = true then Q (.bl true) H1 else tb σ H1 Q) : tOrV ta tb σ H Q := h
theorem w_notV (h : ta σ H fun x H1 => ∃ c, x = .bl c ∧ Q (.bl (!c)) H1) : tNotV ta σ H Q := h
theorem w_ife {t : TT} (h : t σ H fun c H1 => if c = true then ta σ H1 Q else tb σ H1 Q) : tIf t ta tb σ H Q := h
theorem w_nil {Q : List V → Hp → Prop} (q : Q [] H) : tNil σ H Q := q
theorem w_cons {Q : List V → Hp → Prop} (h : te σ H fun x H1 => tA σ H1 fun xs H2 => Q (x :: xs) H2) : tCons te tA σ H Q := h
theorem w_tup (h : tA σ H fun xs H1 => xs.length ≤ sizeLine ∧ ∀ p, H1 p = none → Q (.ref p) (upd H1 p (.tup xs))) : tTup tA σ H Q := h
theorem w_lst (h : tA σ H fun xs H1 => xs.length ≤ sizeLine ∧ ∀ p, H1 p = none → Q (.ref p) (upd H1 p (.lst xs))) : tLst tA σ H Q := h
theorem w_small {xs : List V} {P : Prop} (hl : Nat.ble xs.length 1000 = true) (h : P) : xs.length ≤ sizeLine ∧ P := ⟨Nat.le_trans (Nat.le_of_ble_eq_true hl) (by decide), h⟩
theorem w_call {sp : Sp} {E : L2.St → XK} (h : tA σ H fun vs H1 => sp vs H1 Q (E σ)) : tCallS sp E tA σ H Q := h
theorem w_mk {Cc : Addr} {sp : Sp} {E : L2.St → XK} (h : tA σ H fun vs H1 => ∀ x dx, H1 x = none → H1 dx = none → dx ≠ x → sp (.ref x :: vs) (upd (upd H1 dx (.own x)) x (.ins Cc dx [])) (fun v H2 => v = .non ∧ Q (.ref x) H2) (E σ)) : tMk Cc sp E tA σ H Q := h
theorem w_mt {Cc : Addr} {m : Str} {sp : Sp} {E : L2.St → XK} (h : ta σ H fun x H1 => ∃ a dx fs, x = .ref a ∧ H1 a = some (.ins Cc dx fs) ∧ fs.lookup m = none ∧ tA σ H1 fun vs H2 => sp (x :: vs) H2 Q (E σ)) : tMt Cc m sp E ta tA σ H Q := h
theorem w_cb {rr : List V → Hp → VK → Prop} (h : tA σ H fun vs H1 => rr vs H1 Q) : tCB rr tA σ H Q := h
theorem w_min2 (q : Q (.int (if j < i then j else i)) H) : gMin2 [.int i, .int j] H Q := ⟨i, j, rfl, q⟩
theorem w_max2 (q : Q (.int (if j > i then j else i)) H) : gMax2 [.int i, .int j] H Q := ⟨i, j, rfl, q⟩
theorem w_abs (q : Q (.int (if i < 0 then -i else i)) H) : gAbs [.int i] H Q := ⟨i, rfl, q⟩
theorem w_int (q : Q (.int i) H) : gInt1 [.int i] H Q := .inl ⟨i, rfl, q⟩
theorem w_lenL {p : Addr} {xs : List V} (h : SqL K H p xs) (q : Q (.int (xs.length : Int)) H) : gLen K [.ref p] H Q := ⟨_, xs.length, rfl, .inl ⟨xs, h, rfl⟩, q⟩
theorem w_lenT {p : Addr} {xs : List V} (h : SqT K H p xs) (q : Q (.int (xs.length : Int)) H) : gLen K [.ref p] H Q := ⟨_, xs.length, rfl, .inr ⟨xs, h, rfl⟩, q⟩
theorem w_lenS {z : Str} (h : z.length ≤ sizeLine) (q : Q (.int (z.length : Int)) H) : gLen K [.str z] H Q := ⟨_, z.length, rfl, ⟨h, rfl⟩, q⟩
theorem w_listL {p : Addr} {xs : List V} (h : SqL K H p xs) (q : ∀ l, H l = none → Q (.ref l) (upd H l (.lst xs))) : gListOf K [.ref p] H Q := ⟨p, xs, rfl, .inl h, q⟩
theorem w_listT {p : Addr} {xs : List V} (h : SqT K H p xs) (q : ∀ l, H l = none → Q (.ref l) (upd H l (.lst xs))) : gListOf K [.ref p] H Q := ⟨p, xs, rfl, .inr h, q⟩
theorem w_ixL {p : Addr} {xs : List V} (h : SqL K H p xs) (ha : atI xs i = some v) (q : Q v H) : rIxL K (.ref p) (.int i) H Q := ⟨p, xs, i, v, rfl, rfl, h, ha, q⟩
theorem w_ixT {p : Addr} {xs : List V} (h : SqT K H p xs) (ha : atI xs i = some v) (q : Q v H) : rIxT K (.ref p) (.int i) H Q := ⟨p, xs, i, v, rfl, rfl, h, ha, q⟩
theorem w_fld {f : Str} {a Cc dx : Addr} {fs : List (Str × V)} {P : Addr → Addr → Addr → List (Str × V) → V → Prop} (h : H a = some (.ins Cc dx fs)) (c : Cls K Cc) (na : NoAttr K Cc f) (l : fs.lookup f = some v) (q : P a Cc dx fs v) :
    ∃ a' C' dx' fs' v', V.ref a = .ref a' ∧ H a' = some (.ins C' dx' fs') ∧ Cls K C' ∧ NoAttr K C' f ∧ fs'.lookup f = some v' ∧ P a' C' dx' fs' v' := ⟨a, Cc, dx, fs, v, rfl, h, c, na, l, q⟩
theorem w_mt1 {m : Str} {a Cc dx : Addr} {fs : List (Str × V)} {P : Addr → Prop} (h : H a = some (.ins Cc dx fs)) (l : fs.lookup m = none) (q : P a) :
    ∃ a' dx' fs', V.ref a = .ref a' ∧ H a' = some (.ins Cc dx' fs') ∧ fs'.lookup m = none ∧ P a' := ⟨a, dx, fs, rfl, h, l, q⟩
theorem w_fld0 {f : Str} (h : ta σ H fun x H1 => ∃ a C dx fs v, x = .ref a ∧ H1 a = some (.ins C dx fs) ∧ Cls K C ∧ NoAttr K C f ∧ fs.lookup f = some v ∧ Q v H1) : tFld K ta f σ H Q := h
theorem w_bm {T : String} {rr : V → List V → Hp → VK → Prop} (h : ta σ H fun x H1 => tyV K T x H1 ∧ tA σ H1 fun xs H2 => rr x xs H2 Q) : tBM K T rr ta tA σ H Q := h
theorem w_bm0 {T : String} {rr : V → List V → Hp → VK → Prop} (h : ta σ H fun x H1 => tyV K T x H1 ∧ rr x [] H1 Q) : tBM0 K T rr ta σ H Q := h
theorem w_app {l : Addr} {xs : List V} (h : H l = some (.lst xs)) (hz : xs.length < sizeLine) (q : Q .non (upd H l (.lst (xs ++ [v])))) : rAppend (.ref l) [v] H Q := ⟨l, xs, v, rfl, rfl, h, hz, q⟩
theorem ty_list {l : Addr} {xs : List V} {P : Prop} (h : H l = some (.lst xs)) (q : P) : tyV K "list" (.ref l) H ∧ P := ⟨.inl ⟨rfl, xs, .inl (.inl h)⟩, q⟩
end
section
variable {K : PySem.W.Frag} {σ : L2.St} {H : Hp} {D : Ends} {v x y : V} {n : Nat} {ta tb te : TE} {t u : TS} {tt : TT}
theorem w_seq (h : t { D with nx := u D } σ H) : tSeq t u D σ H := h
theorem w_next (h : D.nx σ H) : tNext D σ H := h
theorem w_brk (h : D.bk σ H) : tBreak D σ H := h
theorem w_cont (h : D.ct σ H) : tCont D σ H := h
theorem w_drop (h : te σ H fun _ H1 => D.nx σ H1) : tDrop te D σ H := h
theorem w_ret (h : te σ H D.rt) : tRet te D σ H := h
theorem w_retN (h : D.rt .non H) : tRetN D σ H := h
theorem w_if (h : tt σ H fun b H1 => if b = true then t D σ H1 else u D σ H1) : tIfS tt t u D σ H := h
theorem w_asg {g : TG} (h : te σ H fun x H1 => g x σ H1 D.nx) : tAsg te g D σ H := h
theorem w_nm {Q : L2.St → Hp → Prop} (h : Q (σ.set n (some v)) H) : gName n v σ H Q := h
theorem w_sub {to ti : TE} {ts : TSet} {Q : L2.St → Hp → Prop} (h : to σ H fun o H1 => ti σ H1 fun i H2 => ts o i v H2 fun H3 => Q σ H3) : gSub to ti ts v σ H Q := h
theorem w_setL {l : Addr} {xs : List V} {k : Int} {j : Nat} {Q : Hp → Prop} (h : H l = some (.lst xs)) (hj : ixN xs.length k = some j) (q : Q (upd H l (.lst (xs.set j v)))) : rSetL (.ref l) (.int k) v H Q := ⟨l, xs, k, j, rfl, rfl, h, hj, q⟩
theorem w_sfld {f : Str} (h : tb σ H fun y H1 => ta σ H1 fun x H2 => ∃ a C dx fs, x = .ref a ∧ H2 a = some (.ins C dx fs) ∧ Cls K C ∧ NoAttr K C f ∧ fs.length < 1000 ∧ D.nx σ (upd H2 a (.ins C dx (putF f y fs)))) : sFld K ta tb f D σ H := h
theorem w_sput {f : Str} {a C dx : Addr} {fs fs' : List (Str × V)} (h : H a = some (.ins C dx fs)) (c : Cls K C) (na : NoAttr K C f) (e : putF f y fs = fs') (l : Nat.blt fs.length 1000 = true) (q : D.nx σ (upd H a (.ins C dx fs'))) :
    ∃ a' C' dx' fs0, V.ref a = .ref a' ∧ H a' = some (.ins C' dx' fs0) ∧ Cls K C' ∧ NoAttr K C' f ∧ fs0.length < 1000 ∧ D.nx σ (upd H a' (.ins C' dx' (putF f y fs0))) := ⟨a, C, dx, fs, rfl, h, c, na, Nat.le_of_ble_eq_true l, by rw [e]; exact q⟩
theorem w_sfa {f : Str} {rd : V → V → Hp → VK → Prop} (h : ta σ H fun x H1 => ∃ a C dx fs v, x = .ref a ∧ H1 a = some (.ins C dx fs) ∧ Cls K C ∧ NoAttr K C f ∧ fs.lookup f = some v ∧
  tb σ H1 fun y H2 => rd v y H2 fun z H3 => ∃ dx' fs', H3 a = some (.ins C dx' fs') ∧ fs'.length < 1000 ∧ D.nx σ (upd H3 a (.ins C dx' (putF f z fs')))) : sFldAug K ta tb rd f D σ H := h
theorem w_sput2 {f : Str} {a C dx : Addr} {fs fs' : List (Str × V)} (h : H a = some (.ins C dx fs)) (e : putF f y fs = fs') (l : Nat.blt fs.length 1000 = true) (q : D.nx σ (upd H a (.ins C dx fs'))) :
    ∃ dx' fs0, H a = some (.ins C dx' fs0) ∧ fs0.length < 1000 ∧ D.nx σ (upd H a (.ins C dx' (putF f y fs0))) := ⟨dx, fs, h, Nat.le_of_ble_eq_true l, by rw [e]; exact q⟩
theorem w_radd {i j : Int} {Q : VK} (q : Q (.int (i + j)) H) : L2.rAdd (.int i) (.int j) H Q := ⟨i, j, rfl, rfl, q⟩
theorem w_rsub {i j : Int} {Q : VK} (q : Q (.int (i - j)) H) : L2.rSub (.int i) (.int j) H Q := ⟨i, j, rfl, rfl, q⟩
theorem w_aug {te : TE} {ti : TIp} (hx : σ[n]? = some (some x)) (h : te σ H fun y H1 => ti x y H1 fun z H2 => D.nx (σ.set n (some z)) H2) : tAug n te ti D σ H := ⟨x, hx, h⟩
theorem w_ip {f : Int → Int → Int} {i j : Int} {Q : VK} (q : Q (.int (f i j)) H) : ipI f (.int i) (.int j) H Q := ⟨i, j, rfl, rfl, q⟩
theorem w_rs {C : Addr} {W : WX} (h : W (.ref C) none σ H) : tRs C W D σ H := h
theorem w_par {i j : Nat} {tA : TA} (h : tA σ H fun vs H1 => ∃ v w, vs = [v, w] ∧ D.nx ((σ.set i (some v)).set j (some w)) H1) : tPar i j tA D σ H := h
/-! ### ifs -/
theorem if_d {p : Prop} [Decidable p] {A B : Prop} (h1 : p → A) (h2 : ¬ p → B) : if decide p = true then A else B := by
  by_cases h : p
  · rw [decide_eq_true h]; exact h1 h
  · rw [decide_eq_false h]; exact h2 h
theorem if_nd {p : Prop} [Decidable p] {A B : Prop} (h1 : ¬ p → A) (h2 : p → B) : if (!decide p) = true then A else B := by
  by_cases h : p
  · rw [decide_eq_true h]; exact h2 h
  · rw [decide_eq_false h]; exact h1 h
theorem if_T {A B : Prop} (h : A) : if true = true then A else B := h
theorem if_F {A B : Prop} (h : B) : if false = true then A else B := h
theorem if_nT {A B : Prop} (h : B) : if (!true) = true then A else B := h
theorem if_nF {A B : Prop} (h : A) : if (!false) = true then A else B := h
theorem if_b {b : Bool} {A B : Prop} (h1 : b = true → A) (h2 : b = false → B) : if b = true then A else B := by
  cases b
  · exact h2 rfl
  · exact h1 rfl
end
/-! ### loops -/
section
variable {K : PySem.W.Frag} {g : TG} {tb : TS} {D : Ends} {σ : L2.St} {H : Hp} {tA : TA} {tl : TE}
def LoopL (K : PySem.W.Frag) (a : Addr) (g : TG) (tb : TS) (D : Ends) (σ : L2.St) (H : Hp) : Prop := (∃ xs, SqL K H a xs) ∧ ∃ W : Nat → Nat → L2.St → Hp → Prop, (∃ m, W 0 m σ H) ∧ ∀ i m σ H, W i m σ H →
  ((Itl K a).stop i H ∧ D.nx σ H) ∨ ((Itl K a).go i H ∧ ∃ N : L2.St → Hp → Prop, (∀ σ' H', N σ' H' → ∃ m', m' < m ∧ W (i + 1) m' σ' H') ∧ ∀ x H', (Itl K a).yld i H x H' → g x σ H' fun σ2 H2 => tb { D with nx := N, ct := N, bk := D.nx } σ2 H2)
def LoopT (K : PySem.W.Frag) (a : Addr) (g : TG) (tb : TS) (D : Ends) (σ : L2.St) (H : Hp) : Prop := (∃ xs, SqT K H a xs) ∧ ∃ W : Nat → Nat → L2.St → Hp → Prop, (∃ m, W 0 m σ H) ∧ ∀ i m σ H, W i m σ H →
  ((Itt K a).stop i H ∧ D.nx σ H) ∨ ((Itt K a).go i H ∧ ∃ N : L2.St → Hp → Prop, (∀ σ' H', N σ' H' → ∃ m', m' < m ∧ W (i + 1) m' σ' H') ∧ ∀ x H', (Itt K a).yld i H x H' → g x σ H' fun σ2 H2 => tb { D with nx := N, ct := N, bk := D.nx } σ2 H2)
/-- the same words by names -/
def rLoop1 (g : TG) (tb : TS) (D : Ends) (σ : L2.St) (vs : List V) (H1 : Hp) : Prop := ∃ j : Int, vs = [.int j] ∧ -(2 ^ 62) ≤ j ∧ j < 2 ^ 62 ∧ ∃ W : Nat → Nat → L2.St → Hp → Prop, (∃ m, W 0 m σ H1) ∧ ∀ i m σ H, W i m σ H →
  ((Itr 0 j.toNat).stop i H ∧ D.nx σ H) ∨ ((Itr 0 j.toNat).go i H ∧ ∃ N : L2.St → Hp → Prop, (∀ σ' H', N σ' H' → ∃ m', m' < m ∧ W (i + 1) m' σ' H') ∧ ∀ x H', (Itr 0 j.toNat).yld i H x H' → g x σ H' fun σ2 H2 => tb { D with nx := N, ct := N, bk := D.nx } σ2 H2)
def rLoop2 (g : TG) (tb : TS) (D : Ends) (σ : L2.St) (vs : List V) (H1 : Hp) : Prop := ∃ i j : Int, vs = [.int i, .int j] ∧ (-(2 ^ 62) ≤ i ∧ i < 2 ^ 62 ∧ -(2 ^ 62) ≤ j ∧ j < 2 ^ 62) ∧ ∃ W : Nat → Nat → L2.St → Hp → Prop, (∃ m, W 0 m σ H1) ∧ ∀ k m σ H, W k m σ H →
  ((Itr i (j - i).toNat).stop k H ∧ D.nx σ H) ∨ ((Itr i (j - i).toNat).go k H ∧ ∃ N : L2.St → Hp → Prop, (∀ σ' H', N σ' H' → ∃ m', m' < m ∧ W (k + 1) m' σ' H') ∧ ∀ x H', (Itr i (j - i).toNat).yld k H x H' → g x σ H' fun σ2 H2 => tb { D with nx := N, ct := N, bk := D.nx } σ2 H2)
def rLoopL (K : PySem.W.Frag) (g : TG) (tb : TS) (D : Ends) (σ : L2.St) (x : V) (H1 : Hp) : Prop := ∃ a, x = .ref a ∧ LoopL K a g tb D σ H1
def rLoopT (K : PySem.W.Frag) (g : TG) (tb : TS) (D : Ends) (σ : L2.St) (x : V) (H1 : Hp) : Prop := ∃ a, x = .ref a ∧ LoopT K a g tb D σ H1
theorem w_forR1 (h : tA σ H fun vs H1 => rLoop1 g tb D σ vs H1) : tFor (iRng1 tA) g tb D σ H := h
theorem w_forR2 (h : tA σ H fun vs H1 => rLoop2 g tb D σ vs H1) : tFor (iRng2 tA) g tb D σ H := h
theorem w_forL (h : tl σ H fun x H1 => rLoopL K g tb D σ x H1) : tFor (iList K tl) g tb D σ H := h
theorem w_forT (h : tl σ H fun x H1 => rLoopT K g tb D σ x H1) : tFor (iTup K tl) g tb D σ H := h
/-- for i in range(n), n a Nat -/
theorem loop1 {n : Nat} (Pv : Nat → L2.St → Hp → Prop) {j : Int} (hj : j = (n : Int)) (hn : n < 4000000000) (h0 : Pv 0 σ H)
    (hs : ∀ i σ H, i < n → Pv i σ H → g (.int (i : Int)) σ H fun σ2 H2 => tb { D with nx := Pv (i + 1), ct := Pv (i + 1), bk := D.nx } σ2 H2) (hd : ∀ σ H, Pv n σ H → D.nx σ H) : rLoop1 g tb D σ [.int j] H := by
  subst hj
  refine ⟨(n : Int), rfl, by omega, by omega, for_range (lo := 0) (n := (n : Int).toNat) Pv h0 (fun i σ H hi p => ?_) (fun σ H p => hd σ H ?_)⟩
  · have e : (0 : Int) + (i : Int) = (i : Int) := Int.zero_add _
    rw [e]
    exact hs i σ H (by omega) p
  · have e : (n : Int).toNat = n := Int.toNat_natCast n
    rw [e] at p
    exact p
theorem loop2 {lo hi : Int} (Pv : Nat → L2.St → Hp → Prop) (hn : -4000000000 < lo ∧ lo < 4000000000 ∧ -4000000000 < hi ∧ hi < 4000000000) (h0 : Pv 0 σ H)
    (hs : ∀ (i : Nat) σ H, lo + i < hi → Pv i σ H → g (.int (lo + i)) σ H fun σ2 H2 => tb { D with nx := Pv (i + 1), ct := Pv (i + 1), bk := D.nx } σ2 H2) (hd : ∀ σ H, Pv (hi - lo).toNat σ H → D.nx σ H) : rLoop2 g tb D σ [.int lo, .int hi] H := by
  refine ⟨lo, hi, rfl, ⟨by omega, by omega, by omega, by omega⟩, for_range (lo := lo) (n := (hi - lo).toNat) Pv h0 (fun i σ H hi' p => hs i σ H (by omega) p) (fun σ H p => hd σ H p)⟩
theorem loopL {a : Addr} {xs : List V} (Pv : Nat → L2.St → Hp → Prop) (hx : SqL K H a xs) (h0 : Pv 0 σ H) (hl : ∀ i σ H, i ≤ xs.length → Pv i σ H → SqL K H a xs)
    (hs : ∀ i x σ H, xs[i]? = some x → Pv i σ H → g x σ H fun σ2 H2 => tb { D with nx := Pv (i + 1), ct := Pv (i + 1), bk := D.nx } σ2 H2) (hd : ∀ σ H, Pv xs.length σ H → D.nx σ H) : rLoopL K g tb D σ (.ref a) H := ⟨a, rfl, ⟨_, hx⟩, for_list Pv h0 hl hs hd⟩
theorem loopT {a : Addr} {xs : List V} (Pv : Nat → L2.St → Hp → Prop) (hx : SqT K H a xs) (h0 : Pv 0 σ H) (hl : ∀ i σ H, i ≤ xs.length → Pv i σ H → SqT K H a xs)
    (hs : ∀ i x σ H, xs[i]? = some x → Pv i σ H → g x σ H fun σ2 H2 => tb { D with nx := Pv (i + 1), ct := Pv (i + 1), bk := D.nx } σ2 H2) (hd : ∀ σ H, Pv xs.length σ H → D.nx σ H) : rLoopT K g tb D σ (.ref a) H := ⟨a, rfl, ⟨_, hx⟩, for_tup Pv h0 hl hs hd⟩
end
/-! ### heaps -/
theorem up_k {H : Hp} {a b : Addr} {o u : HO} (h : H b = some u) (n : b ≠ a) : upd H a o b = some u := (upd_ne n).trans h
theorem up_n {H : Hp} {a b : Addr} {o u : HO} (h : H b = some u) (n : H a = none) : upd H a o b = some u := up_k h (ne_of_none h n)
theorem same_new {H : Hp} {a : Addr} {o : HO} (n : H a = none) : Same H (upd H a o) := fun _ _ e => up_n e n
theorem same_trans_new {H H1 : Hp} {a : Addr} {o : HO} (s : Same H H1) (n : H1 a = none) : Same H (upd H1 a o) := fun b u e => up_n (s b u e) n
theorem seqL_new {K : PySem.W.Frag} {H : Hp} {a b : Addr} {o : HO} {xs : List V} (h : SqL K H b xs) (n : H a = none) : SqL K (upd H a o) b xs := (same_new n).seq h
theorem seqL_put {K : PySem.W.Frag} {H : Hp} {a b : Addr} {o : HO} {xs : List V} (h : SqL K H b xs) (n : a ≠ b) : SqL K (upd H a o) b xs := by
  rcases h with (h | ⟨u, h⟩) | h
  · exact .inl (.inl (up_k h n.symm))
  · exact .inl (.inr ⟨u, up_k h n.symm⟩)
  · exact .inr h
end G
namespace G
open PySem PySem.Spec PyProof.Rows L2
/-! ### the script, which nobody writes -/
/-- a list that stands still: frozen, or of the written part -/
def Scr (K : PySem.W.Frag) (H : Hp) (a : Addr) (xs : List V) : Prop := (∃ o, H a = some (.frz o (.lst xs))) ∨
    ∃ (o : Obj) (its : Array Value) (n : Nat), K.lookup a = some o ∧ o.cls = .type "list" ∧ o.dict = none ∧ o.data = .seq its n ∧ its.size ≤ sizeLine ∧ Vals xs its.toList
section
variable {K : PySem.W.Frag} {H H' : Hp} {a q : Addr} {xs : List V} {o : HO}
theorem Scr.sq (h : Scr K H a xs) : SqL K H a xs := by
  rcases h with ⟨o, h⟩ | h
  · exact .inl (.inr ⟨o, h⟩)
  · exact .inr h
theorem Scr.same (h : Scr K H a xs) (s : Same H H') : Scr K H' a xs := by
  rcases h with ⟨o, h⟩ | h
  · exact .inl ⟨o, s _ _ h⟩
  · exact .inr h
theorem Scr.of (hO : Only H) (h : SqL K H a xs) : Scr K H a xs := by
  rcases h with (h | ⟨o, h⟩) | h
  · rcases hO a with e | ⟨o, ys, e⟩
    · rw [e] at h; cases h
    · rw [e] at h; cases h
  · exact .inl ⟨o, h⟩
  · exact .inr h
theorem Scr.new (h : Scr K H a xs) (n : H q = none) : Scr K (upd H q o) a xs := h.same (same_new n)
/-- not frozen -/
def Thw (H : Hp) (q : Addr) : Prop := ∀ o u, H q ≠ some (.frz o u)
theorem Thw.lst {xs : List V} (h : H q = some (.lst xs)) : Thw H q := fun _ _ e => by rw [h] at e; cases e
theorem Thw.ins {C dx : Addr} {fs : List (Str × V)} (h : H q = some (.ins C dx fs)) : Thw H q := fun _ _ e => by rw [h] at e; cases e
theorem Scr.put (h : Scr K H a xs) (n : Thw H q) : Scr K (upd H q o) a xs := by
  rcases h with ⟨u, h⟩ | h
  · refine .inl ⟨u, up_k h ?_⟩
    intro e
    subst e
    exact n _ _ h
  · exact .inr h
/-- written objects are not frozen: what was frozen stays so -/
def FrzIn (H H' : Hp) : Prop := ∀ b o u, H b = some (.frz o u) → H' b = some (.frz o u)
theorem Scr.frz (h : Scr K H a xs) (s : FrzIn H H') : Scr K H' a xs := by
  rcases h with ⟨o, h⟩ | h
  · exact .inl ⟨o, s _ _ _ h⟩
  · exact .inr h
end
theorem up_none {H : Hp} {a b : Addr} {o : HO} (h : upd H a o b = none) : b ≠ a ∧ H b = none := by
  by_cases e : b = a
  · subst e; rw [upd_same] at h; cases h
  · rw [upd_ne e] at h; exact ⟨e, h⟩
theorem none_up {H : Hp} {a b : Addr} {o : HO} (n : b ≠ a) (h : H b = none) : upd H a o b = none := (upd_ne n).trans h
theorem if_yes {p : Prop} [Decidable p] {A B : Prop} (h : p) (q : A) : if decide p = true then A else B := by rw [decide_eq_true h]; exact q
theorem if_no {p : Prop} [Decidable p] {A B : Prop} (h : ¬ p) (q : B) : if decide p = true then A else B := by rw [decide_eq_false h]; exact q
theorem if_nyes {p : Prop} [Decidable p] {A B : Prop} (h : ¬ p) (q : A) : if (!decide p) = true then A else B := by rw [decide_eq_false h]; exact q
theorem if_nno {p : Prop} [Decidable p] {A B : Prop} (h : p) (q : B) : if (!decide p) = true then A else B := by rw [decide_eq_true h]; exact q
end G

namespace G
open PySem PySem.Spec PyProof.Rows L2
theorem w_cut {t u : TS} {D : Ends} {σ : L2.St} {H : Hp} (Mid : L2.St → Hp → Prop) (h : t { D with nx := Mid } σ H) (k : ∀ σ' H', Mid σ' H' → u D σ' H') : Evl.tCut t u D σ H := ⟨Mid, h, k⟩
theorem ixN_of {n j : Nat} {k : Int} (e : k = (j : Int)) (h : j < n) : ixN n k = some j := by
  subst e
  unfold ixN
  rw [if_pos (by omega), if_pos (by omega)]; simp
end G

namespace G
open PySem PySem.Spec PyProof.Rows L2
/-! the same, the cheap question first -/
section
variable {K : PySem.W.Frag} {H : Hp} {a b q : Addr} {o u : HO} {xs : List V}
theorem up_k' (n : b ≠ a) (h : H b = some u) : upd H a o b = some u := up_k h n
theorem scr_new' (n : H q = none) (h : Scr K H a xs) : Scr K (upd H q o) a xs := h.new n
theorem scr_put' (n : Thw H q) (h : Scr K H a xs) : Scr K (upd H q o) a xs := h.put n
theorem sq_new' (n : H a = none) (h : SqL K H b xs) : SqL K (upd H a o) b xs := seqL_new h n
theorem sq_put' (n : a ≠ b) (h : SqL K H b xs) : SqL K (upd H a o) b xs := seqL_put h n
end
end G

namespace G
open PySem PySem.Spec PyProof.Rows L2
section
variable {H : Hp} {Q : VK} {i : Int} {a : Addr} {b : Bool} {z : Str}
theorem w_isN0 (q : Q (.bl true) H) : rIsN .non .non H Q := ⟨rfl, q⟩
theorem w_isNi (q : Q (.bl false) H) : rIsN (.int i) .non H Q := ⟨rfl, q⟩
theorem w_isNr (q : Q (.bl false) H) : rIsN (.ref a) .non H Q := ⟨rfl, q⟩
theorem w_isNb (q : Q (.bl false) H) : rIsN (.bl b) .non H Q := ⟨rfl, q⟩
theorem w_isNs (q : Q (.bl false) H) : rIsN (.str z) .non H Q := ⟨rfl, q⟩
theorem w_notN0 (q : Q (.bl false) H) : rNotN .non .non H Q := ⟨rfl, q⟩
theorem w_notNi (q : Q (.bl true) H) : rNotN (.int i) .non H Q := ⟨rfl, q⟩
theorem w_notNr (q : Q (.bl true) H) : rNotN (.ref a) .non H Q := ⟨rfl, q⟩
theorem w_notNb (q : Q (.bl true) H) : rNotN (.bl b) .non H Q := ⟨rfl, q⟩
theorem w_notNs (q : Q (.bl true) H) : rNotN (.str z) .non H Q := ⟨rfl, q⟩
end
end G

/-! properties, own ==, isinstance, further facts of the head -/
namespace G
open PySem PySem.Spec PyProof.Rows L2

/-! ### the Hook with getters and any Bool facts -/
/-- where a property's getter stands -/
def prA (K : PySem.W.Frag) (C f : Str) : Addr := match PySem.W.recIn K (He.ma K (He.ga K C) f) "property" with
  | some (.ref g :: _) => g
  | _ => 0
structure Pr where
  cls : Str
  fld : Str
  d : He.DefD
def fnWA (K : PySem.W.Frag) (a : Addr) : He.FnW := match K.lookup a with
  | some ⟨_, _, .func fd, _⟩ => some (fd.name, fd.qualname, fd.params, fd.body, fd.scope, fd.globals, fd.closure, fd.builtins)
  | _ => none
def okA (K : PySem.W.Frag) (a : Addr) (d : He.DefD) : Bool := PySem.W.keepIn K (.ref a) && (match K.lookup a with
  | some ⟨_, _, .func fd, _⟩ => PySem.W.codeIn K fd.code d.qual && (He.dflB K fd.defaults (d.dvs K) && He.kwdB K fd.kwdefaults (d.kws K))
  | _ => false)
theorem funD_A {K : PySem.W.Frag} {d : He.DefD} {a : Addr} (e : fnWA K a = d.val) (c : okA K a d = true) : ∃ fd, FunD K d.name d.qual d.params d.body d.scope (d.dvs K) (d.kws K) a fd := by
  obtain ⟨kp, c2⟩ := He.ba c
  unfold fnWA at e
  cases q : K.lookup a with
  | none =>
    rw [q] at c2
    cases c2
  | some o =>
    obtain ⟨oc, od, dt, osl⟩ := o
    rw [q] at c2 e
    cases dt with
    | func fd =>
      obtain ⟨n1, n2, n3, n4, n5, n6, n7, n8, n9, n10, n11, n12, n13, n14, n15⟩ := fd
      have e2 : (some (n1, n2, n3, n4, n5, n6, n7, n15) : He.FnW) = some (d.name, d.qual, d.params, .stmts d.body, d.scope, mainGlobals, [], builtinsNs) := e
      simp only [Option.some.injEq, Prod.mk.injEq] at e2
      obtain ⟨h1, h2, h3, h4, h5, h6, h7, h8⟩ := e2
      subst h1 h2 h3 h4 h5 h6 h7 h8
      have c3 : (PySem.W.codeIn K n13 d.qual && (He.dflB K n8 (d.dvs K) && He.kwdB K n9 (d.kws K))) = true := c2
      obtain ⟨k1, k2⟩ := He.ba c3
      obtain ⟨k3, k4⟩ := He.ba k2
      exact ⟨_, ⟨oc, od, n8, n9, n10, n11, n12, n13, n14, osl, rfl, q, k1, He.dflB_ok k3, He.kwdB_ok k4⟩, kp⟩
    | _ => cases c2
def Pr.ok (K : PySem.W.Frag) (p : Pr) : Bool :=
  He.eqO (PySem.W.findIn K (.ref (He.ga K p.cls)) p.fld) (some (some (.ref (He.ma K (He.ga K p.cls) p.fld)))) &&
  (He.eqO (PySem.W.specialIn K (.ref (He.ma K (He.ga K p.cls) p.fld)) "__get__") (some (some (.builtin "property.__get__"))) &&
  (decide (PySem.W.takesIn K (.ref (He.ma K (He.ga K p.cls) p.fld)) = some true) &&
  ((match PySem.W.recIn K (He.ma K (He.ga K p.cls) p.fld) "property" with
    | some (.ref _ :: _) => true
    | _ => false) && okA K (prA K p.cls p.fld) p.d)))
theorem Pr.prop {K : PySem.W.Frag} {p : Pr} (h : p.ok K = true) : PropOf K (He.ga K p.cls) p.fld (He.ma K (He.ga K p.cls) p.fld) (prA K p.cls p.fld) ∧ okA K (prA K p.cls p.fld) p.d = true := by
  obtain ⟨h1, h⟩ := He.ba h
  obtain ⟨h2, h⟩ := He.ba h
  obtain ⟨h3, h⟩ := He.ba h
  obtain ⟨h4, h5⟩ := He.ba h
  refine ⟨⟨He.eqO_ok h1, He.eqO_ok h2, of_decide_eq_true h3, ?_⟩, h5⟩
  unfold prA
  split at h4
  · rename_i g rest q
    rw [q]
    exact ⟨rest, rfl⟩
  · cases h4

abbrev AlB : Type := (He.AlD × List He.FnW) × Bool
abbrev Ex : Type := PySem.W.Frag → Bool
def obsB (fa : List He.Fa) (fn : List He.DefD) (pr : List Pr) (ex : List Ex) (K : PySem.W.Frag) : AlB := ((He.obsD fa fn K, pr.map fun p => fnWA K (prA K p.cls p.fld)), (pr.all fun p => p.ok K) && ex.all fun f => f K)
def valB (fn : List He.DefD) (pr : List Pr) : AlB := ((He.valD fn, pr.map fun p => p.d.val), true)
def SaysB (fa : List He.Fa) (fn : List He.DefD) (pr : List Pr) (ex : List Ex) (K : PySem.W.Frag) : Prop := obsB fa fn pr ex K = valB fn pr
def obsBG (n : Nat) (fa : List He.Fa) (fn : List He.DefD) (pr : List Pr) (ex : List Ex) (g : Addr → Option Obj) : AlB := obsB fa fn pr ex (He.frG g (He.asD g n))
def hookB (n : Nat) (fa : List He.Fa) (fn : List He.DefD) (pr : List Pr) (ex : List Ex) : PySem.W.Hook where
  α := AlB
  obs := fun s => obsBG n fa fn pr ex s.heap.get?
  val := fun _ => valB fn pr
  says := fun _ h => ∃ K : PySem.W.Frag, K.In h ∧ SaysB fa fn pr ex K
  of := fun _ _ e => ⟨_, He.frG_in, e⟩
  keeps := fun _ _ _ ⟨K, hK, c⟩ k => ⟨K, PySem.W.Frag.In.keeps hK k, c⟩
theorem obsBG_eq {n : Nat} {fa : List He.Fa} {fn : List He.DefD} {pr : List Pr} {ex : List Ex} {g : Addr → Option Obj} {s : Shared} (h : ∀ a, g a = s.heap.get? a) : obsBG n fa fn pr ex g = (hookB n fa fn pr ex).obs s := by
  have e : g = s.heap.get? := funext h
  rw [e] <;> rfl
section
variable {fa : List He.Fa} {fn : List He.DefD} {pr : List Pr} {ex : List Ex} {K : PySem.W.Frag}
theorem SaysB.d (c : SaysB fa fn pr ex K) : He.SaysD fa fn K := congrArg (fun z : AlB => z.1.1) c
theorem SaysB.ex_ (c : SaysB fa fn pr ex K) (i : Nat) {f : Ex} (h : ex[i]? = some f := by rfl) : f K = true := by
  have c1 := (He.ba (show ((pr.all fun p => p.ok K) && ex.all fun f => f K) = true from congrArg (fun z : AlB => z.2) c)).2
  exact List.all_eq_true.mp c1 f (List.mem_of_getElem? h)
theorem SaysB.pr_ (c : SaysB fa fn pr ex K) (i : Nat) {p : Pr} (h : pr[i]? = some p := by rfl) :
    PropOf K (He.ga K p.cls) p.fld (He.ma K (He.ga K p.cls) p.fld) (prA K p.cls p.fld) ∧ ∃ fd, FunD K p.d.name p.d.qual p.d.params p.d.body p.d.scope (p.d.dvs K) (p.d.kws K) (prA K p.cls p.fld) fd := by
  have c1 := (He.ba (show ((pr.all fun p => p.ok K) && ex.all fun f => f K) = true from congrArg (fun z : AlB => z.2) c)).1
  obtain ⟨a, b⟩ := Pr.prop (List.all_eq_true.mp c1 p (List.mem_of_getElem? h))
  have e : pr.map (fun p => fnWA K (prA K p.cls p.fld)) = pr.map fun p => p.d.val := congrArg (fun z : AlB => z.1.2) c
  have e2 : (pr.map fun p => fnWA K (prA K p.cls p.fld))[i]? = (pr.map fun p => p.d.val)[i]? := by rw [e]
  rw [List.getElem?_map, List.getElem?_map, h] at e2
  exact ⟨a, funD_A (Option.some.inj e2) b⟩
end
/-- the head's facts, with getters and Bools -/
structure TxB (fa : List He.Fa) (fn : List He.DefD) (pr : List Pr) (ex : List Ex) (K : PySem.W.Frag) (mg : Str → Option Value) (base : Heap) : Prop extends Tx fa fn K mg base where
  b : SaysB fa fn pr ex K

/-! ### properties -/
section
variable (P : Program) (w : World) (K : PySem.W.Frag) (mg : Str → Option Value) (base : Heap)
structure HasP (k : Nat) (c f : Str) (ps : List Str) (sp : Sp) : Prop where
  cl : Cls K (He.ga K c)
  pr : PropOf K (He.ga K c) f (He.ma K (He.ga K c) f) (prA K c f)
  ex : ∃ fd, FnOk P w K mg base (L2.CX P w) k (prA K c f) fd ps sp ∧ Binds K fd ps []
end
theorem HasP.mono {P : Program} {w : World} {K : PySem.W.Frag} {mg : Str → Option Value} {base : Heap} {j k : Nat} {c f : Str} {ps : List Str} {sp : Sp} (h : HasP P w K mg base j c f ps sp) (l : j ≤ k) : HasP P w K mg base k c f ps sp :=
  ⟨h.cl, h.pr, let ⟨fd, F, b⟩ := h.ex; ⟨fd, F.mono l, b⟩⟩
/-- e.f -/
def tPr (C : Addr) (sp : Sp) (ta : TE) : TE := fun σ H Q => ta σ H fun x H1 => ∃ a dx fs, x = .ref a ∧ H1 a = some (.ins C dx fs) ∧ sp [.ref a] H1 Q E0
section
variable {X : Cx} {k : Nat} {C p g a dx : Addr} {fs : List (Str × V)} {c f : Str} {fd : FuncData} {ps : List Str} {sp : Sp} {E : L2.St → XK} {e : Expr} {pos : Pos} {ta : TE}
theorem getprop_okS {pins : List (Addr × Obj)} {σ : L2.St} {H : Hp} {s : Shared} {Q : VK} {b : Bool} (I : Inv X pins σ H s) (ea : H a = some (.ins C dx fs)) (c : Cls X.K C) (hp : PropOf X.K C f p g)
    (F : FnOk X.prog X.w X.K X.mg X.base (XC X) k g fd ps sp) (hr : Room (k + 1) X.A) (hb : Binds X.K fd ps []) (h : sp [.ref a] H Q E0) :
    wpAny (model X.prog X.w) X.A (getAttr (.ref a) f b) (EP X pins σ Q) X.xe s := by
  obtain ⟨mA, O, _, _, _, _⟩ := ins_get I.hok ea
  obtain ⟨od, J, _⟩ := O.look
  obtain ⟨rest, hrec⟩ := hp.rec_
  have I1 := I.tok (s.toks + 1)
  have hl : ([Value.ref a] ++ ([] : List Value)).length = ps.length := by
    rw [← F.len _ _ _ _ h]
    rfl
  have hc : (PySem.W.clsIn X.K C).isSome = true := by
    obtain ⟨cd, hc, _⟩ := PySem.W.any_some c.hd
    rw [hc]
    rfl
  refine PySem.W.get_bind I.kIn J (PySem.W.plainGet_of (c.get f)).1 (PySem.W.findObj_data hc hp.at_ hp.get hp.tak) (PySem.W.plainGet_of (c.get f)).2 (wpAny_call (PySem.W.prop_get (s := { s with toks := s.toks + 1 }) I.kIn hrec ?_))
  refine codeAny_mono (F.run X.A.in1 X.stack { s with toks := s.toks + 1 } H ⟨[.ref a], []⟩ [.ref a] [.ref a] Q E0 hr.in1 I1.env0.in1 (hb _ [.ref a] I1.kIn hl) (.cons rfl .nil) h) fun r s' hq => ?_
  cases r with
  | error er =>
    obtain ⟨_, _, _, _, _, _, _, _, _, _, _, _, z⟩ := hq
    exact z.elim
  | ok fl =>
    cases fl with
    | ret u =>
      obtain ⟨v, H', I3, rv, q3⟩ := I1.after hq
      show wpAny _ _ (handedOut u) _ _ _
      rw [PySem.W.handedOut_of (handed_of rv)]
      exact wpAny_pure ⟨v, H', I3, rv, q3⟩
    | next => exact False.elim hq
    | brk => exact False.elim hq
    | cont => exact False.elim hq
theorem pe_pr (he : PE X e ta) (h : HasP X.prog X.w X.K X.mg X.base k c f ps sp) (hr : Room (k + 1) X.A)
    (hab : attributeBase e f X.env (eval e X.env) = eval e X.env := by rfl) : PE X (.Attribute e f pos) (tPr (He.ga X.K c) sp ta) := by
  obtain ⟨fd, F, b⟩ := h.ex
  refine ⟨fun pins s σ H Q I hh => ?_⟩
  refine attr_of hab (thn (he.run pins s σ H _ I hh) fun u s1 ⟨x, H1, I1, rx, a, dx, fs, ex, ea, q⟩ => ?_)
  subst ex
  obtain rfl : u = Value.ref a := rx
  exact getprop_okS I1 ea h.cl h.pr F hr b q
end
theorem mk_hasP {P : Program} {w : World} {K : PySem.W.Frag} {mg : Str → Option Value} {base : Heap} {k : Nat} {c m name qual : Str} {params : Arguments} {body : List Stmt} {scope : Scope} {N ps : List Str} {sp : Sp} (cl : Cls K (He.ga K c))
    (F : PropOf K (He.ga K c) m (He.ma K (He.ga K c) m) (prA K c m) ∧ ∃ fd, FunD K name qual params body scope [] [] (prA K c m) fd) (S : FnScope N ps scope)
    (hb : ∀ (kV doc pm : Value) (an : Option Addr) (cdv ct : Value) (us : List Value), us.length = ps.length → bindArgs (PySem.W.fnOf name qual params body scope .none kV doc pm an cdv ct) ⟨us, []⟩ = pure (ps.zip us))
    (len : ∀ vs H Q E, sp vs H Q E → vs.length = ps.length) (hbody : Body P w K mg base k N qual scope (prA K c m) body sp) : HasP P w K mg base (k + 1) c m ps sp := by
  obtain ⟨pr, fd, F⟩ := F
  exact ⟨cl, pr, fd, FunD.ok (CX := L2.CX P w) F S len hbody, F.bindsN hb⟩
section
variable {K : PySem.W.Frag} {σ : L2.St} {H : Hp} {Q : VK} {ta : TE}
theorem w_pr {C : Addr} {sp : Sp} (h : ta σ H fun x H1 => ∃ a dx fs, x = .ref a ∧ H1 a = some (.ins C dx fs) ∧ sp [.ref a] H1 Q E0) : tPr C sp ta σ H Q := h
theorem w_pr1 {a C dx : Addr} {fs : List (Str × V)} {P : Addr → Prop} (h : H a = some (.ins C dx fs)) (q : P a) : ∃ a' dx' fs', V.ref a = .ref a' ∧ H a' = some (.ins C dx' fs') ∧ P a' := ⟨a, dx, fs, rfl, h, q⟩
end

/-! ### own == -/
/-- what the right side of == may be: its type -/
def tyR (K : PySem.W.Frag) (H : Hp) (y : V) (t : Value) : Prop := (∃ C dx fs b, y = .ref b ∧ H b = some (.ins C dx fs) ∧ t = .ref C) ∨ ((∃ i, y = .int i) ∧ t = .type "int") ∨ (y = .non ∧ t = .type "NoneType") ∨ ((∃ x, y = .str x) ∧ t = .type "str") ∨
  ((∃ b, y = .bl b) ∧ t = .type "bool") ∨ (∃ a xs, y = .ref a ∧ H a = some (.lst xs) ∧ t = .type "list") ∨ (∃ a xs, y = .ref a ∧ H a = some (.tup xs) ∧ t = .type "tuple")
def rOwn (K : PySem.W.Frag) (C : Addr) (sp : Sp) : R2 := fun x y H Q => ∃ a dx fs t, x = .ref a ∧ H a = some (.ins C dx fs) ∧ tyR K H y t ∧ PySem.W.notFirst K C t = true ∧ sp [.ref a, y] H (fun v H' => ∃ b, v = .bl b ∧ Q (.bl b) H') E0
section
variable {X : Cx} {k : Nat} {c : Str} {ps : List Str} {sp : Sp}
theorem op_own (h : HasM X.prog X.w X.K X.mg X.base k c "__eq__" ps sp) (hr : Room k X.A) : OpR X (compareOp .Eq) (rOwn X.K (He.ga X.K c) sp) := by
  intro pins s σ H x y v u Q I rx ry hq
  obtain ⟨fd, F, hb⟩ := h.ex
  obtain ⟨a, dx, fs, t, ex, ea, ty, nf, q⟩ := hq
  subst ex
  obtain rfl : v = Value.ref a := rx
  obtain ⟨mA, J, _⟩ := ins_get I.hok ea
  obtain ⟨od, J, _⟩ := J.look
  obtain ⟨m, hF⟩ := I.fr
  have L : PySem.W.Looks (model X.prog X.w) s.heap (typeOf u) t := by
    rcases ty with ⟨C', dy, gs, b, rfl, eb, rfl⟩ | ⟨⟨i, rfl⟩, rfl⟩ | ⟨rfl, rfl⟩ | ⟨⟨i, rfl⟩, rfl⟩ | ⟨⟨i, rfl⟩, rfl⟩ | ⟨b, xs, rfl, eb, rfl⟩ | ⟨b, xs, rfl, eb, rfl⟩
    · obtain rfl : u = Value.ref b := ry
      obtain ⟨mB, J', _⟩ := ins_get I.hok eb
      obtain ⟨od', J', _⟩ := J'.look
      exact J'.type
    · obtain ⟨t, rfl⟩ := (show ∃ t, u = Value.int i t from ry)
      exact .now
    · obtain rfl := (show u = Value.none from ry)
      exact .now
    · obtain ⟨t, rfl⟩ := (show ∃ t, u = Value.str i t from ry)
      exact .now
    · obtain rfl := (show u = Value.bool i from ry)
      exact .now
    · obtain rfl : u = Value.ref b := ry
      obtain ⟨_, _, n, _, h1⟩ := (show ObjOk X.prog X.w H s.heap b (.lst xs) from I.hok b _ eb)
      exact (PySem.W.Looks.ld (part := none) h1).andThen .now
    · obtain rfl : u = Value.ref b := ry
      obtain ⟨_, _, _, o, h1, h2, _⟩ := (show ObjOk X.prog X.w H s.heap b (.tup xs) from I.hok b _ eb)
      refine (PySem.W.Looks.ld (part := none) h1).andThen ?_
      rw [h2]
      exact .now
  show wpAny (model X.prog X.w) X.A (richCompare .Eq (.ref a) u) (EP X pins σ Q) X.xe s
  refine PySem.W.cmp_K (op := .Eq) hr.units0 hF I.ok.mod.kin J L nf h.me.at_ h.me.fn ?_
  have hl := F.len _ _ _ _ q
  have r2 : Vals [V.ref a, y] [Value.ref a, u] := .cons rfl (.cons ry .nil)
  refine wpAny_call (codeAny_mono (F.run X.A X.stack s H ⟨[.ref a, u], []⟩ [.ref a, u] [.ref a, y] _ E0 hr I.env0 (by
    have := hb s [.ref a, u] I.kIn (by simpa using hl)
    simpa using this) r2 q) fun r s' hq => ?_)
  cases r with
  | error e => exact passZ σ pins H s e s' I hq
  | ok fl =>
    cases fl with
    | ret w =>
      obtain ⟨z, H', I', rz, b, ez, ex⟩ := I.after hq
      subst ez
      obtain rfl : w = Value.bool b := rz
      exact ⟨.bl b, H', I', rfl, ex⟩
    | next => exact False.elim hq
    | brk => exact False.elim hq
    | cont => exact False.elim hq
end
section
variable {K : PySem.W.Frag} {H : Hp} {Q : VK} {y : V} {sp : Sp}
theorem w_own {C a dx : Addr} {fs : List (Str × V)} {t : Value} (h : H a = some (.ins C dx fs)) (ty : tyR K H y t) (nf : PySem.W.notFirst K C t = true) (q : sp [.ref a, y] H (fun v H' => ∃ b, v = .bl b ∧ Q (.bl b) H') E0) : rOwn K C sp (.ref a) y H Q :=
  ⟨a, dx, fs, t, rfl, h, ty, nf, q⟩
theorem tyR_ins {b C dx : Addr} {fs : List (Str × V)} (h : H b = some (.ins C dx fs)) : tyR K H (.ref b) (.ref C) := .inl ⟨C, dx, fs, b, rfl, h, rfl⟩
theorem tyR_lst {b : Addr} {xs : List V} (h : H b = some (.lst xs)) : tyR K H (.ref b) (.type "list") := .inr (.inr (.inr (.inr (.inr (.inl ⟨b, xs, rfl, h, rfl⟩)))))
theorem tyR_tup {b : Addr} {xs : List V} (h : H b = some (.tup xs)) : tyR K H (.ref b) (.type "tuple") := .inr (.inr (.inr (.inr (.inr (.inr ⟨b, xs, rfl, h, rfl⟩)))))
theorem nf_same {C : Addr} : PySem.W.notFirst K C (.ref C) = true := by
  unfold PySem.W.notFirst
  have e : ((Value.ref C) == (Value.ref C)) = true := beq_self_eq_true _
  rw [e]
  rfl
end

/-! ### isinstance -/
/-- what an own class has for isinstance of its instances -/
structure InsC (K : PySem.W.Frag) (C : Addr) : Prop where
  cl : Cls K C
  ha : PySem.W.findIn K (.ref C) "__class__" = some (some (.builtin "object.__class__"))
  hn : PySem.W.specialIn K (.builtin "object.__class__") "__get__" = some (some (.builtin "getset_descriptor.__get__"))
  ht : PySem.W.takesIn K (.builtin "object.__class__") = some true
  hm : PySem.W.mroIn K C (.type "object") = some true
def insB (c : Str) : Ex := fun K => He.Fa.ok K (.cls c) && (He.eqO (PySem.W.findIn K (.ref (He.ga K c)) "__class__") (some (some (.builtin "object.__class__"))) &&
  (He.eqO (PySem.W.specialIn K (.builtin "object.__class__") "__get__") (some (some (.builtin "getset_descriptor.__get__"))) &&
  (decide (PySem.W.takesIn K (.builtin "object.__class__") = some true) && decide (PySem.W.mroIn K (He.ga K c) (.type "object") = some true))))
theorem insB_ok {K : PySem.W.Frag} {c : Str} (h : insB c K = true) : InsC K (He.ga K c) := by
  obtain ⟨h0, h⟩ := He.ba h
  obtain ⟨h1, h⟩ := He.ba h
  obtain ⟨h2, h⟩ := He.ba h
  obtain ⟨h3, h4⟩ := He.ba h
  exact ⟨He.cls_ok h0, He.eqO_ok h1, He.eqO_ok h2, of_decide_eq_true h3, of_decide_eq_true h4⟩
/-- isinstance of a built-in type's values and an own class; of an own class's instances and a class -/
def kitTB (t : String) (c : Str) (b : Bool) : Ex := fun K => decide (PySem.W.kitOne K (.type t) (.ref (He.ga K c)) = some b)
def kitOB (c d : Str) (b : Bool) : Ex := fun K => decide (PySem.W.kitOne K (.ref (He.ga K c)) (.ref (He.ga K d)) = some b)
def kitUB (c : Str) (t : String) (b : Bool) : Ex := fun K => decide (PySem.W.kitOne K (.ref (He.ga K c)) (.type t) = some b)
def nfB (c : Str) (t : String) : Ex := fun K => PySem.W.notFirst K (He.ga K c) (.type t)
def nfOB (c d : Str) : Ex := fun K => PySem.W.notFirst K (He.ga K c) (.ref (He.ga K d))
def tupX (x : Str) (vs : List He.Dv) : Ex := fun K => He.tupB K x vs
def lstX (x : Str) (vs : List He.Dv) : Ex := fun K => He.lstB K x vs
def excCB (c : Str) : Ex := fun K => He.eqO (PySem.W.findIn K (.ref (He.ga K c)) "__getattribute__") (some (some (.builtin "BaseException.__getattribute__"))) &&
  (He.eqO (PySem.W.findIn K (.ref (He.ga K c)) "__getattr__") (some none) && (decide (PySem.W.subIn K (.ref (He.ga K c)) (.type "BaseException") = some true) && (PySem.W.hasDictIn K (He.ga K c) &&
  (He.eqO (PySem.W.findIn K (.ref (He.ga K c)) "__class__") (some (some (.builtin "object.__class__"))) && (He.eqO (PySem.W.specialIn K (.builtin "object.__class__") "__get__") (some (some (.builtin "getset_descriptor.__get__"))) &&
  (decide (PySem.W.takesIn K (.builtin "object.__class__") = some true) && decide (PySem.W.mroIn K (He.ga K c) (.type "object") = some true)))))))
theorem excCB_ok {K : PySem.W.Frag} {c : Str} (h : excCB c K = true) : ExcC K (He.ga K c) := by
  obtain ⟨h1, h⟩ := He.ba h
  obtain ⟨h2, h⟩ := He.ba h
  obtain ⟨h3, h⟩ := He.ba h
  obtain ⟨h4, h⟩ := He.ba h
  obtain ⟨h5, h⟩ := He.ba h
  obtain ⟨h6, h⟩ := He.ba h
  obtain ⟨h7, h8⟩ := He.ba h
  exact ⟨He.eqO_ok h1, He.eqO_ok h2, of_decide_eq_true h3, h4, He.eqO_ok h5, He.eqO_ok h6, of_decide_eq_true h7, of_decide_eq_true h8⟩
/-- isinstance(e, c) in a suite -/
def rIsX (K : PySem.W.Frag) (a : Addr) (clX : Value) (dX : Option Addr) : List V → Hp → VK → Prop := fun xs H Q => ∃ (D : Addr) (c : V) (cv : Value) (b : Bool), clX = .ref D ∧ dX = none ∧ ExcC K D ∧ xs = [.ref a, c] ∧ ClsV c cv ∧ PySem.W.kitOne K (.ref D) cv = some b ∧ Q (.bl b) H
theorem call_isX {X : Cx} {a : Addr} {clX : Value} {dX : Option Addr} {oe : Obj} {pn : List (Addr × Obj)} (hz : Zc clX dX oe) (hf : ∃ vs, oe.data = .fields vs) : CallR (X.suite a ((a, oe) :: pn)) (.builtin "isinstance") (rIsX X.K a clX dX) := by
  intro pins s σ H xs us Q I r h
  obtain ⟨D, c, cv, b, e1, e2, C, ex, hc, k, q⟩ := h
  subst e1 e2
  exact call_isE C hz hf pins s σ H xs us Q I r ⟨c, cv, b, ex, fun u ru => hc.eq ru, k, q⟩
section
variable {K : PySem.W.Frag} {σ : L2.St} {H : Hp} {Q : VK}
theorem w_isX {a D : Addr} {c : V} {cv : Value} {b : Bool} (C : ExcC K D) (hc : ClsV c cv) (k : PySem.W.kitOne K (.ref D) cv = some b) (q : Q (.bl b) H) : rIsX K a (.ref D) none [.ref a, c] H Q := ⟨D, c, cv, b, rfl, rfl, C, rfl, hc, k, q⟩
theorem w_isi {x c : V} {t u : Value} {b : Bool} (k : ClsV c u) (ty : TyX K H x t) (e : PySem.W.kitOne K t u = some b) (q : Q (.bl b) H) : rIsi K [x, c] H Q := ⟨x, c, t, u, b, rfl, k, ty, e, q⟩
theorem w_isi_ii {i : Int} (q : Q (.bl true) H) : rIsi K [.int i, .ty "int"] H Q := w_isi (.ty _) (.base (.int _)) (kit_ty (by decide +kernel)) q
theorem w_isi_ib {i : Int} (q : Q (.bl false) H) : rIsi K [.int i, .ty "bool"] H Q := w_isi (.ty _) (.base (.int _)) (kit_ty (by decide +kernel)) q
theorem w_isi_is {i : Int} (q : Q (.bl false) H) : rIsi K [.int i, .ty "str"] H Q := w_isi (.ty _) (.base (.int _)) (kit_ty (by decide +kernel)) q
theorem w_isi_il {i : Int} (q : Q (.bl false) H) : rIsi K [.int i, .ty "list"] H Q := w_isi (.ty _) (.base (.int _)) (kit_ty (by decide +kernel)) q
theorem w_isi_it {i : Int} (q : Q (.bl false) H) : rIsi K [.int i, .ty "tuple"] H Q := w_isi (.ty _) (.base (.int _)) (kit_ty (by decide +kernel)) q
theorem w_isi_bi {i : Bool} (q : Q (.bl true) H) : rIsi K [.bl i, .ty "int"] H Q := w_isi (.ty _) (.base (.bl _)) (kit_ty (by decide +kernel)) q
theorem w_isi_bb {i : Bool} (q : Q (.bl true) H) : rIsi K [.bl i, .ty "bool"] H Q := w_isi (.ty _) (.base (.bl _)) (kit_ty (by decide +kernel)) q
theorem w_isi_ss {i : Str} (q : Q (.bl true) H) : rIsi K [.str i, .ty "str"] H Q := w_isi (.ty _) (.base (.str _)) (kit_ty (by decide +kernel)) q
theorem w_isi_sl {i : Str} (q : Q (.bl false) H) : rIsi K [.str i, .ty "list"] H Q := w_isi (.ty _) (.base (.str _)) (kit_ty (by decide +kernel)) q
theorem w_isi_st {i : Str} (q : Q (.bl false) H) : rIsi K [.str i, .ty "tuple"] H Q := w_isi (.ty _) (.base (.str _)) (kit_ty (by decide +kernel)) q
theorem w_isi_nl (q : Q (.bl false) H) : rIsi K [.non, .ty "list"] H Q := w_isi (.ty _) (.base .non) (kit_ty (by decide +kernel)) q
theorem w_isi_nt (q : Q (.bl false) H) : rIsi K [.non, .ty "tuple"] H Q := w_isi (.ty _) (.base .non) (kit_ty (by decide +kernel)) q
theorem w_isi_ll {a : Addr} {xs : List V} (h : H a = some (.lst xs)) (q : Q (.bl true) H) : rIsi K [.ref a, .ty "list"] H Q := w_isi (.ty _) (.base (.lst h)) (kit_ty (by decide +kernel)) q
theorem w_isi_lt {a : Addr} {xs : List V} (h : H a = some (.lst xs)) (q : Q (.bl false) H) : rIsi K [.ref a, .ty "tuple"] H Q := w_isi (.ty _) (.base (.lst h)) (kit_ty (by decide +kernel)) q
theorem w_isi_li {a : Addr} {xs : List V} (h : H a = some (.lst xs)) (q : Q (.bl false) H) : rIsi K [.ref a, .ty "int"] H Q := w_isi (.ty _) (.base (.lst h)) (kit_ty (by decide +kernel)) q
theorem w_isi_tt {a : Addr} {xs : List V} (h : H a = some (.tup xs)) (q : Q (.bl true) H) : rIsi K [.ref a, .ty "tuple"] H Q := w_isi (.ty _) (.base (.tup h)) (kit_ty (by decide +kernel)) q
theorem w_isi_tl {a : Addr} {xs : List V} (h : H a = some (.tup xs)) (q : Q (.bl false) H) : rIsi K [.ref a, .ty "list"] H Q := w_isi (.ty _) (.base (.tup h)) (kit_ty (by decide +kernel)) q
theorem w_isi_own {a C dx : Addr} {fs : List (Str × V)} {c : V} {u : Value} {b : Bool} (h : H a = some (.ins C dx fs)) (i : InsC K C) (k : ClsV c u) (e : PySem.W.kitOne K (.ref C) u = some b) (q : Q (.bl b) H) : rIsi K [.ref a, c] H Q :=
  w_isi k (.base (.ins h i.cl i.ha i.hn i.ht i.hm)) e q
end
end G

/-! == of lists and tuples, by data -/
namespace G
open PySem PySem.Spec PyProof.Rows L2
abbrev rIsB : R2 := fun x y H Q => ∃ a b, x = .bl a ∧ y = .bl b ∧ Q (.bl (decide (a = b))) H
abbrev rNotB : R2 := fun x y H Q => ∃ a b, x = .bl a ∧ y = .bl b ∧ Q (.bl (!decide (a = b))) H
section
variable {K : PySem.W.Frag} {H : Hp} {Q : VK} {x y : V} {d e : PyData} {xs ys : List Int} {a b : Addr}
theorem w_isB {p q : Bool} (h : Q (.bl (decide (p = q))) H) : rIsB (.bl p) (.bl q) H Q := ⟨p, q, rfl, rfl, h⟩
theorem w_notB {p q : Bool} (h : Q (.bl (!decide (p = q))) H) : rNotB (.bl p) (.bl q) H Q := ⟨p, q, rfl, rfl, h⟩
theorem dp_ints : ∀ xs : List Int, DpAll K H (xs.map V.int) (xs.map PyData.int)
  | [] => .nil
  | x :: xs => .cons (.int x) (dp_ints xs)
theorem eqv_ints : ∀ xs ys : List Int, PyData.eqvAll (xs.map PyData.int) (ys.map PyData.int) = decide (xs = ys)
  | [], [] => by simp [PyData.eqvAll]
  | [], y :: ys => by simp [PyData.eqvAll]
  | x :: xs, [] => by simp [PyData.eqvAll]
  | x :: xs, y :: ys => by
    have h := eqv_ints xs ys
    show (PyData.eqv (.int x) (.int y) && PyData.eqvAll (xs.map PyData.int) (ys.map PyData.int)) = _
    rw [h]
    unfold PyData.eqv
    by_cases h1 : x = y <;> by_cases h2 : xs = ys <;> simp [h1, h2]
theorem lay_ints : ∀ xs : List Int, PyData.canLayAll0 (xs.map PyData.int) = true
  | [] => rfl
  | x :: xs => by
    show (PyData.canLay0 (.int x) && PyData.canLayAll0 (xs.map PyData.int)) = true
    rw [lay_ints xs]
    rfl
theorem depth_ints : ∀ xs : List Int, PyData.depthAll (xs.map PyData.int) = 0
  | [] => by simp [PyData.depthAll]
  | x :: xs => by
    have h := depth_ints xs
    simp only [List.map_cons, PyData.depthAll, PyData.depth, h]
    rfl
theorem shaped_li : SeqAt.shaped (.list (xs.map PyData.int)) = true := by
  unfold SeqAt.shaped
  have h := lay_ints xs
  have h2 := depth_ints xs
  simp [PyData.canLay0, PyData.depth, h, h2]
theorem shaped_ti : SeqAt.shaped (.tuple (xs.map PyData.int)) = true := by
  unfold SeqAt.shaped
  have h := lay_ints xs
  have h2 := depth_ints xs
  simp [PyData.canLay0, PyData.depth, h, h2]
theorem w_eqLI (h1 : SqL K H a (xs.map V.int)) (h2 : SqL K H b (ys.map V.int)) (q : Q (.bl (decide (xs = ys))) H) : rEqD K (.ref a) (.ref b) H Q :=
  ⟨_, _, .lst h1 (dp_ints xs), .lst h2 (dp_ints ys), shaped_li, shaped_li, by
    show Q (.bl (PyData.eqvAll _ _)) H
    rw [eqv_ints]; exact q⟩
theorem w_neLI (h1 : SqL K H a (xs.map V.int)) (h2 : SqL K H b (ys.map V.int)) (q : Q (.bl (!decide (xs = ys))) H) : rNeD K (.ref a) (.ref b) H Q :=
  ⟨_, _, .lst h1 (dp_ints xs), .lst h2 (dp_ints ys), shaped_li, shaped_li, by
    show Q (.bl (!PyData.eqvAll _ _)) H
    rw [eqv_ints]; exact q⟩
theorem w_eqTI (h1 : SqT K H a (xs.map V.int)) (h2 : SqT K H b (ys.map V.int)) (q : Q (.bl (decide (xs = ys))) H) : rEqD K (.ref a) (.ref b) H Q :=
  ⟨_, _, .tup h1 (dp_ints xs), .tup h2 (dp_ints ys), shaped_ti, shaped_ti, by
    show Q (.bl (PyData.eqvAll _ _)) H
    rw [eqv_ints]; exact q⟩
theorem w_neTI (h1 : SqT K H a (xs.map V.int)) (h2 : SqT K H b (ys.map V.int)) (q : Q (.bl (!decide (xs = ys))) H) : rNeD K (.ref a) (.ref b) H Q :=
  ⟨_, _, .tup h1 (dp_ints xs), .tup h2 (dp_ints ys), shaped_ti, shaped_ti, by
    show Q (.bl (!PyData.eqvAll _ _)) H
    rw [eqv_ints]; exact q⟩
theorem w_eqL' {vs ws : List V} (xs ys : List Int) (h1 : SqL K H a vs) (h2 : SqL K H b ws) (q : Q (.bl (decide (xs = ys))) H) (e1 : vs = xs.map V.int := by rfl) (e2 : ws = ys.map V.int := by rfl) : rEqD K (.ref a) (.ref b) H Q := by
  subst e1 e2
  exact w_eqLI h1 h2 q
theorem w_neL' {vs ws : List V} (xs ys : List Int) (h1 : SqL K H a vs) (h2 : SqL K H b ws) (q : Q (.bl (!decide (xs = ys))) H) (e1 : vs = xs.map V.int := by rfl) (e2 : ws = ys.map V.int := by rfl) : rNeD K (.ref a) (.ref b) H Q := by
  subst e1 e2
  exact w_neLI h1 h2 q
theorem w_eqT' {vs ws : List V} (xs ys : List Int) (h1 : SqT K H a vs) (h2 : SqT K H b ws) (q : Q (.bl (decide (xs = ys))) H) (e1 : vs = xs.map V.int := by rfl) (e2 : ws = ys.map V.int := by rfl) : rEqD K (.ref a) (.ref b) H Q := by
  subst e1 e2
  exact w_eqTI h1 h2 q
theorem w_neT' {vs ws : List V} (xs ys : List Int) (h1 : SqT K H a vs) (h2 : SqT K H b ws) (q : Q (.bl (!decide (xs = ys))) H) (e1 : vs = xs.map V.int := by rfl) (e2 : ws = ys.map V.int := by rfl) : rNeD K (.ref a) (.ref b) H Q := by
  subst e1 e2
  exact w_neTI h1 h2 q
/-! by data -/
theorem w_eqD (h1 : Dp K H x d) (h2 : Dp K H y e) (s1 : SeqAt.shaped d = true) (s2 : SeqAt.shaped e = true) (q : Q (.bl (PyData.eqv d e)) H) : rEqD K x y H Q := ⟨d, e, h1, h2, s1, s2, q⟩
theorem w_neD (h1 : Dp K H x d) (h2 : Dp K H y e) (s1 : SeqAt.shaped d = true) (s2 : SeqAt.shaped e = true) (q : Q (.bl (!PyData.eqv d e)) H) : rNeD K x y H Q := ⟨d, e, h1, h2, s1, s2, q⟩
mutual
theorem eqv_refl : ∀ d : PyData, d.canLay0 = true → PyData.eqv d d = true
  | .none, _ => by simp [PyData.eqv]
  | .bool b, _ => by simp [PyData.eqv]
  | .int i, _ => by simp [PyData.eqv]
  | .str s, _ => by simp [PyData.eqv]
  | .list xs, h => by
    have := eqvAll_refl xs (by simpa [PyData.canLay0] using h)
    simpa [PyData.eqv] using this
  | .tuple xs, h => by
    have := eqvAll_refl xs (by simpa [PyData.canLay0] using h)
    simpa [PyData.eqv] using this
  | .dict _, h => by simp [PyData.canLay0] at h
theorem eqvAll_refl : ∀ ds : List PyData, PyData.canLayAll0 ds = true → PyData.eqvAll ds ds = true
  | [], _ => by simp [PyData.eqvAll]
  | d :: ds, h => by
    have h1 : PyData.canLay0 d = true ∧ PyData.canLayAll0 ds = true := by simpa [PyData.canLayAll0] using h
    have := eqv_refl d h1.1
    have := eqvAll_refl ds h1.2
    simp [PyData.eqvAll, *]
end
theorem eqv_self {d : PyData} (h : SeqAt.shaped d = true) : PyData.eqv d d = true := eqv_refl d (SeqAt.canLay_of_shaped h)
end
end G

/-! heaps that grow; the drawn cells, as any numbers -/
namespace G
open PySem PySem.Spec PyProof.Rows L2
/-- grown, but for p -/
def ExtP (p : Addr) (H H' : Hp) : Prop := ∀ a o, a ≠ p → H a = some o → H' a = some o
section
variable {K : PySem.W.Frag} {H H1 H' : Hp} {a b p q : Addr} {o u o' : HO} {xs : List V}
theorem ext_get (e : Ext H H') (h : H b = some u) : H' b = some u := e _ _ h
theorem extp_get (e : ExtP p H H') (n : b ≠ p) (h : H b = some u) : H' b = some u := e _ _ n h
theorem ext_toP (e : Ext H H') : ExtP p H H' := fun a o _ h => e a o h
theorem ExtP.rfl' : ExtP p H H := fun _ _ _ h => h
theorem ExtP.trans (e : ExtP p H H1) (f : ExtP p H1 H') : ExtP p H H' := fun a o n h => f a o n (e a o n h)
theorem ext_via (f : Ext H1 H') (e : Ext H H1) : Ext H H' := e.trans f
theorem extp_via (f : ExtP p H1 H') (e : ExtP p H H1) : ExtP p H H' := e.trans f
theorem extp_viae (f : Ext H1 H') (e : ExtP p H H1) : ExtP p H H' := e.trans (ext_toP f)
theorem ext_up (n : H1 a = none) (e : Ext H H1) : Ext H (upd H1 a o) := fun b u h => up_n (e b u h) n
theorem extp_up (n : H1 a = none) (e : ExtP p H H1) : ExtP p H (upd H1 a o) := fun b u hb h => up_n (e b u hb h) n
theorem extp_put (e : ExtP p H H1) : ExtP p H (upd H1 p o) := fun b u hb h => up_k (e b u hb h) hb
/-- an object that was made since is written -/
theorem ext_put (n : H a = none) (e : Ext H H1) : Ext H (upd H1 a o) := fun b u h => up_k (e b u h) (ne_of_none h n)
theorem extp_putn (n : H a = none) (e : ExtP p H H1) : ExtP p H (upd H1 a o) := fun b u hb h => up_k (e b u hb h) (ne_of_none h n)
theorem ext_of_extp (n : H p = none) (e : ExtP p H H') : Ext H H' := fun a o h => e a o (ne_of_none h n) h
theorem extp_of_extp (n : H q = none) (e : ExtP q H H') : ExtP p H H' := ext_toP (ext_of_extp n e)
theorem ext_thr (n : H p = none) (f : ExtP p H1 H') (e : Ext H H1) : Ext H H' := fun a o h => f a o (ne_of_none h n) (e a o h)
theorem extp_thr (n : H q = none) (f : ExtP q H1 H') (e : ExtP p H H1) : ExtP p H H' := fun a o hp h => f a o (ne_of_none h n) (e a o hp h)
theorem Scr.ext (h : Scr K H a xs) (e : Ext H H') : Scr K H' a xs := h.same e
theorem scr_ext (e : Ext H H') (h : Scr K H a xs) : Scr K H' a xs := h.same e
theorem scr_extp (e : ExtP p H H') (n : Thw H p) (h : Scr K H a xs) : Scr K H' a xs := h.frz fun b o u hb => e b _ (fun z => by subst z; exact n o u hb) hb
theorem scr_extn (e : ExtP p H H') (n : H p = none) (h : Scr K H a xs) : Scr K H' a xs := h.frz fun b o u hb => e b _ (ne_of_none hb n) hb
theorem sq_ext (e : Ext H H') (h : SqL K H a xs) : SqL K H' a xs := h.ext e
theorem sqt_ext (e : Ext H H') (h : SqT K H a xs) : SqT K H' a xs := h.ext e
theorem SqT.of' (h : H a = some (.tup xs)) : SqT K H a xs := .inl (.inl h)
theorem ne_of' (h1 : H a = some o) (h2 : H b = some u) (n : o ≠ u) : a ≠ b := fun e => by
  subst e
  rw [h1] at h2
  cases h2
  exact n rfl
theorem up_nn (n : H a = none) (h : H b = some u) : upd H a o b = some u := up_n h n
theorem none_dn (h : upd H a o b = none) : H b = none := (up_none h).2
theorem up_ko (h : H b = some u) (h2 : H a = some o') (n : u ≠ o') : upd H a o b = some u := up_k h (ne_of' h h2 n)
end
/-! ### promises -/
def gsCell (K : PySem.W.Frag) : Sp := fun vs H Q _ => ∃ (a : Addr) (ns : List Int) (k : Int), vs = [.ref a, .int k] ∧ SqL K H a (ns.map V.int) ∧ 0 ≤ k ∧ ∀ n, Q (.int n) H
def gsStart (K : PySem.W.Frag) : Sp := fun vs H Q _ => ∃ (c k : Int), vs = [.int c, .int k] ∧ ∀ n p, H p = none → Q (.ref p) (upd H p (.lst [.int n]))
def gsDigit (K : PySem.W.Frag) : Sp := fun vs H Q _ => ∃ (p : Addr) (n m : Int), vs = [.ref p, .int m] ∧ H p = some (.lst [.int n]) ∧ 0 < m ∧ m < 1099511627776 ∧
  ∀ d n', 0 ≤ d → d < m → Q (.int d) (upd H p (.lst [.int n']))
/-- a bool or not, by isinstance: an integer -/
def gsIsInt (K : PySem.W.Frag) : Sp := fun vs H Q _ => ∃ (x : V), vs = [x] ∧ ((∃ i, x = .int i ∧ Q (.bl true) H) ∨ (∃ b, x = .bl b ∧ Q (.bl false) H))
section
variable {K : PySem.W.Frag} {H : Hp} {Q : VK} {E : XK} {a p : Addr} {k m n c : Int} {ns : List Int}
theorem c_cell (hS : SqL K H a (ns.map V.int)) (h0 : 0 ≤ k) (q : ∀ n, Q (.int n) H) : gsCell K [.ref a, .int k] H Q E := ⟨a, ns, k, rfl, hS, h0, q⟩
theorem c_start (q : ∀ n p, H p = none → Q (.ref p) (upd H p (.lst [.int n]))) : gsStart K [.int c, .int k] H Q E := ⟨c, k, rfl, q⟩
theorem c_digit (h : H p = some (.lst [.int n])) (h0 : 0 < m) (h1 : m < 1099511627776) (q : ∀ d n', 0 ≤ d → d < m → Q (.int d) (upd H p (.lst [.int n']))) : gsDigit K [.ref p, .int m] H Q E := ⟨p, n, m, rfl, h, h0, h1, q⟩
theorem c_isint (q : Q (.bl true) H) : gsIsInt K [.int n] H Q E := ⟨_, rfl, .inl ⟨n, rfl, q⟩⟩
end
theorem pr_pow (i : Nat) (h : i < 4) : (618970019642690137449562111 : Int) ^ i < 618970019642690137449562111 ^ 3 + 1 ∧ (0 : Int) < 618970019642690137449562111 ^ i := by
  have : i = 0 ∨ i = 1 ∨ i = 2 ∨ i = 3 := by omega
  rcases this with rfl | rfl | rfl | rfl <;> decide +kernel
theorem num_step {n m q : Int} (h0 : 0 ≤ n) (h1 : n < q) (h2 : 0 ≤ m) (h3 : m < 618970019642690137449562111) : 0 ≤ n * 618970019642690137449562111 + m ∧ n * 618970019642690137449562111 + m < q * 618970019642690137449562111 := by omega
theorem small_w {x : Int} (h0 : 0 ≤ x) (h : x < 618970019642690137449562111 ^ 3 + 1) : x.natAbs < 2 ^ 300 := by
  have e : (618970019642690137449562111 : Int) ^ 3 + 1 < ((2 ^ 300 : Nat) : Int) := by decide +kernel
  have e2 : x < ((2 ^ 300 : Nat) : Int) := Int.lt_trans h e
  omega
theorem ints_at {gs : List Int} {j : Nat} {z : Int} (h : gs[j]? = some z) {k : Int} (e : k = (j : Int)) : atI (gs.map V.int) k = some (V.int z) := at_of e (by rw [List.getElem?_map, h]; rfl)
theorem digit_div {m : Int} (h0 : 0 < m) (h1 : m < 1099511627776) : ∀ i : Int, CDivW i m := fun i => wide_div (b := 40) h0 (by omega) (by decide) (by decide)
/-! ### slices of lists of integers -/
theorem sum_app (xs ys : List Int) : (xs ++ ys).sum = xs.sum + ys.sum := by
  induction xs with
  | nil => simp
  | cons a r ih => rw [List.cons_append, List.sum_cons, List.sum_cons, ih]; omega
end G

/-! comprehensions whose turns only make objects; slices; indexing -/
namespace G
open PySem PySem.Spec PyProof.Rows L2
section
variable {K : PySem.W.Frag} {σ : L2.St} {H : Hp} {Q : VK} {g : TG} {tt : TT} {te : TE} {vs : List Nat} {tA : TA} {tl : TE}
def rLc (J : It) (g : TG) (tt : TT) (te : TE) (vs : List Nat) (σ : L2.St) (H1 : Hp) (Q : VK) : Prop := ∀ D, H1 D = none → ∃ W : Nat → Nat → Hp → Prop, (∃ m, W 0 m (upd H1 D (.lst []))) ∧ ∀ i m H, W i m H →
  (J.stop i H ∧ Q (.ref D) H) ∨ (J.go i H ∧ ∃ Nx : Hp → Prop, (∀ H', Nx H' → ∃ m', m' < m ∧ W (i + 1) m' H') ∧ ∀ x H', J.yld i H x H' → g x (wipe σ vs) H' fun σ2 H2 => wipe σ2 vs = wipe σ vs ∧ tt σ2 H2 fun b H3 =>
    if b = true then te σ2 H3 fun y H4 => ∃ acc, H4 D = some (.lst acc) ∧ acc.length < sizeLine ∧ Nx (upd H4 D (.lst (acc ++ [y]))) else Nx H3)
def rLcR1 (g : TG) (tt : TT) (te : TE) (ws : List Nat) (σ : L2.St) (Q : VK) (vs : List V) (H1 : Hp) : Prop := ∃ j : Int, vs = [.int j] ∧ -(2 ^ 62) ≤ j ∧ j < 2 ^ 62 ∧ rLc (Itr 0 j.toNat) g tt te ws σ H1 Q
def rLcR2 (g : TG) (tt : TT) (te : TE) (ws : List Nat) (σ : L2.St) (Q : VK) (vs : List V) (H1 : Hp) : Prop := ∃ i j : Int, vs = [.int i, .int j] ∧ (-(2 ^ 62) ≤ i ∧ i < 2 ^ 62 ∧ -(2 ^ 62) ≤ j ∧ j < 2 ^ 62) ∧ rLc (Itr i (j - i).toNat) g tt te ws σ H1 Q
def rLcL (K : PySem.W.Frag) (g : TG) (tt : TT) (te : TE) (ws : List Nat) (σ : L2.St) (Q : VK) (x : V) (H1 : Hp) : Prop := ∃ a, x = .ref a ∧ (∃ xs, SqL K H1 a xs) ∧ rLc (Itl K a) g tt te ws σ H1 Q
def rLcT (K : PySem.W.Frag) (g : TG) (tt : TT) (te : TE) (ws : List Nat) (σ : L2.St) (Q : VK) (x : V) (H1 : Hp) : Prop := ∃ a, x = .ref a ∧ (∃ xs, SqT K H1 a xs) ∧ rLc (Itt K a) g tt te ws σ H1 Q
theorem w_lcR1 (h : tA σ H fun ws H1 => rLcR1 g tt te vs σ Q ws H1) : tLc (iRng1 tA) g tt te vs σ H Q := h
theorem w_lcR2 (h : tA σ H fun ws H1 => rLcR2 g tt te vs σ Q ws H1) : tLc (iRng2 tA) g tt te vs σ H Q := h
theorem w_lcL (h : tl σ H fun x H1 => rLcL K g tt te vs σ Q x H1) : tLc (iList K tl) g tt te vs σ H Q := h
theorem w_lcT (h : tl σ H fun x H1 => rLcT K g tt te vs σ Q x H1) : tLc (iTup K tl) g tt te vs σ H Q := h
theorem wipe1 {v : Nat} {x : Option V} : wipe ((wipe σ [v]).set v x) [v] = wipe σ [v] := by
  show ((σ.set v none).set v x).set v none = σ.set v none
  rw [List.set_set, List.set_set]
def LcAdd (D : Addr) (Pv : Nat → Hp → Prop) (i : Nat) (y : V) (H4 : Hp) : Prop := ∃ acc, H4 D = some (.lst acc) ∧ acc.length < sizeLine ∧ Pv (i + 1) (upd H4 D (.lst (acc ++ [y])))
/-- grown only, the list so far at D -/
def PvE (H : Hp) (D : Addr) (A : Nat → List V) (i : Nat) (H' : Hp) : Prop := Ext H H' ∧ H' D = some (.lst (A i))
theorem lc_add {D : Addr} {A : Nat → List V} {i : Nat} {y : V} {H4 : Hp} (h : H4 D = some (.lst (A i))) (e : Ext H H4) (n : H D = none) (ha : A (i + 1) = A i ++ [y]) (hl : (A i).length < sizeLine) : LcAdd D (PvE H D A) i y H4 :=
  ⟨A i, h, hl, ext_put n e, by rw [upd_same, ha]⟩
theorem lc_skip {D : Addr} {A : Nat → List V} {i : Nat} {H3 : Hp} (h : H3 D = some (.lst (A i))) (e : Ext H H3) (ha : A (i + 1) = A i) : PvE H D A (i + 1) H3 := ⟨e, by rw [ha]; exact h⟩
/-- over any walk, growth only: A i the list so far -/
theorem lcE {J : It} {n : Nat} {G : Hp → Prop} {Y : Nat → Hp → V → Hp → Prop} (w : Walk J n G Y) (A : Nat → List V) (h0 : A 0 = []) (hG : ∀ H', Ext H H' → G H')
    (hs : ∀ i x D H1 H2, i < n → H D = none → Ext H H1 → H1 D = some (.lst (A i)) → Y i H1 x H2 → g x (wipe σ vs) H2 fun σ2 H2 => wipe σ2 vs = wipe σ vs ∧ tt σ2 H2 fun b H3 =>
      if b = true then te σ2 H3 fun y H4 => LcAdd D (PvE H D A) i y H4 else PvE H D A (i + 1) H3)
    (hd : ∀ D H1, H D = none → Ext H H1 → H1 D = some (.lst (A n)) → Q (.ref D) H1) : rLc J g tt te vs σ H Q := fun D hD =>
  lc_it w (PvE H D A) ⟨ext_up hD Ext.rfl', by rw [upd_same, h0]⟩ (fun i H' _ h => hG H' h.1) (fun i x H1 H2 hi h y => hs i x D H1 H2 hi hD h.1 h.2 y) fun H1 h => hd D H1 hD h.1 h.2
abbrev accM (fV : Nat → V) : Nat → List V := fun i => (List.range i).map fV
abbrev accF (p : Nat → Bool) (fV : Nat → V) : Nat → List V := fun i => ((List.range i).filter p).map fV
theorem accM_succ {fV : Nat → V} {i : Nat} : accM fV (i + 1) = accM fV i ++ [fV i] := by
  unfold accM
  rw [List.range_succ, List.map_append]
  rfl
theorem accM_len {fV : Nat → V} {i : Nat} : (accM fV i).length = i := by unfold accM; simp
theorem accF_yes {p : Nat → Bool} {fV : Nat → V} {i : Nat} (h : p i = true) : accF p fV (i + 1) = accF p fV i ++ [fV i] := by
  unfold accF
  rw [List.range_succ, List.filter_append, List.map_append]
  simp [h]
theorem accF_no {p : Nat → Bool} {fV : Nat → V} {i : Nat} (h : p i = false) : accF p fV (i + 1) = accF p fV i := by
  unfold accF
  rw [List.range_succ, List.filter_append, List.map_append]
  simp [h]
theorem accF_len {p : Nat → Bool} {fV : Nat → V} {i : Nat} : (accF p fV i).length ≤ i := by
  unfold accF
  rw [List.length_map]
  exact Nat.le_trans (List.length_filter_le _ _) (by simp)
theorem lc_one {D : Addr} {fV : Nat → V} {i : Nat} {y : V} {H4 : Hp} (h : H4 D = some (.lst (accM fV i))) (e : Ext H H4) (n : H D = none) (hi : i < 16000000) (ha : y = fV i) : LcAdd D (PvE H D (accM fV)) i y H4 :=
  lc_add h e n (by rw [accM_succ, ha]) (by rw [accM_len]; exact Nat.lt_trans hi (by decide))
theorem lc_onef {D : Addr} {p : Nat → Bool} {fV : Nat → V} {i : Nat} {y : V} {H4 : Hp} (h : H4 D = some (.lst (accF p fV i))) (e : Ext H H4) (n : H D = none) (hi : i < 16000000) (hp : p i = true) (ha : y = fV i) : LcAdd D (PvE H D (accF p fV)) i y H4 :=
  lc_add h e n (by rw [accF_yes hp, ha]) (Nat.lt_of_le_of_lt accF_len (Nat.lt_trans hi (by decide)))
theorem lc_nonef {D : Addr} {p : Nat → Bool} {fV : Nat → V} {i : Nat} {H3 : Hp} (h : H3 D = some (.lst (accF p fV i))) (e : Ext H H3) (hp : p i = false) : PvE H D (accF p fV) (i + 1) H3 :=
  lc_skip h e (accF_no hp)
/-! the usual ones: one name -/
variable {v : Nat} {j lo hi : Int}
theorem lcR1 {n : Nat} (fV : Nat → V) (hj : j = (n : Int)) (hn : n < 16000000) (hs : ∀ (i : Nat) D H1, i < n → H D = none → Ext H H1 → H1 D = some (.lst (accM fV i)) → te ((σ.set v none).set v (some (.int (i : Int)))) H1 fun y H4 => LcAdd D (PvE H D (accM fV)) i y H4)
    (hd : ∀ D H1, H D = none → Ext H H1 → H1 D = some (.lst (accM fV n)) → Q (.ref D) H1) : rLcR1 (gName v) tYes te [v] σ Q [.int j] H := by
  subst hj
  refine ⟨(n : Int), rfl, by omega, by omega, lcE walk_range (accM fV) rfl (fun _ _ => trivial) ?_ (by rw [Int.toNat_natCast]; exact hd)⟩
  rintro i x D H1 H2 hi hD e hA ⟨rfl, rfl⟩
  refine ⟨wipe1, ?_⟩
  show te ((σ.set v none).set v (some (.int (0 + (i : Int))))) H2 _
  rw [Int.zero_add]
  exact hs i D H2 (by omega) hD e hA
theorem lcR2 (fV : Nat → V) (hn : -4000000000 < lo ∧ lo < 4000000000 ∧ -4000000000 < hi ∧ hi < 4000000000) (hn2 : hi - lo < 16000000) (hs : ∀ (i : Nat) D H1, lo + i < hi → H D = none → Ext H H1 → H1 D = some (.lst (accM fV i)) → te ((σ.set v none).set v (some (.int (lo + (i : Int))))) H1 fun y H4 => LcAdd D (PvE H D (accM fV)) i y H4)
    (hd : ∀ D H1, H D = none → Ext H H1 → H1 D = some (.lst (accM fV (hi - lo).toNat)) → Q (.ref D) H1) : rLcR2 (gName v) tYes te [v] σ Q [.int lo, .int hi] H := by
  refine ⟨lo, hi, rfl, ⟨by omega, by omega, by omega, by omega⟩, lcE walk_range (accM fV) rfl (fun _ _ => trivial) ?_ hd⟩
  rintro i x D H1 H2 hi hD e hA ⟨rfl, rfl⟩
  exact ⟨wipe1, hs i D H2 (by omega) hD e hA⟩
theorem lcL {a : Addr} {xs : List V} (fV : Nat → V) (hx : SqL K H a xs) (hn : xs.length < 16000000) (hs : ∀ (i : Nat) x D H1, xs[i]? = some x → H D = none → Ext H H1 → H1 D = some (.lst (accM fV i)) → te ((σ.set v none).set v (some x)) H1 fun y H4 => LcAdd D (PvE H D (accM fV)) i y H4)
    (hd : ∀ D H1, H D = none → Ext H H1 → H1 D = some (.lst (accM fV xs.length)) → Q (.ref D) H1) : rLcL K (gName v) tYes te [v] σ Q (.ref a) H := by
  refine ⟨a, rfl, ⟨_, hx⟩, lcE walk_list (accM fV) rfl (fun _ e => hx.ext e) ?_ hd⟩
  rintro i x D H1 H2 hi hD e hA ⟨rfl, hxi⟩
  exact ⟨wipe1, hs i x D H2 hxi hD e hA⟩
theorem lcLF {a : Addr} {xs : List V} (p : Nat → Bool) (fV : Nat → V) (hx : SqL K H a xs) (hn : xs.length < 16000000) (hs : ∀ (i : Nat) x D H1, xs[i]? = some x → H D = none → Ext H H1 → H1 D = some (.lst (accF p fV i)) →
      tt ((σ.set v none).set v (some x)) H1 fun b H3 => if b = true then te ((σ.set v none).set v (some x)) H3 fun y H4 => LcAdd D (PvE H D (accF p fV)) i y H4 else PvE H D (accF p fV) (i + 1) H3)
    (hd : ∀ D H1, H D = none → Ext H H1 → H1 D = some (.lst (accF p fV xs.length)) → Q (.ref D) H1) : rLcL K (gName v) tt te [v] σ Q (.ref a) H := by
  refine ⟨a, rfl, ⟨_, hx⟩, lcE walk_list (accF p fV) rfl (fun _ e => hx.ext e) ?_ hd⟩
  rintro i x D H1 H2 hi hD e hA ⟨rfl, hxi⟩
  exact ⟨wipe1, hs i x D H2 hxi hD e hA⟩
theorem lcT {a : Addr} {xs : List V} (fV : Nat → V) (hx : SqT K H a xs) (hn : xs.length < 16000000) (hs : ∀ (i : Nat) x D H1, xs[i]? = some x → H D = none → Ext H H1 → H1 D = some (.lst (accM fV i)) → te ((σ.set v none).set v (some x)) H1 fun y H4 => LcAdd D (PvE H D (accM fV)) i y H4)
    (hd : ∀ D H1, H D = none → Ext H H1 → H1 D = some (.lst (accM fV xs.length)) → Q (.ref D) H1) : rLcT K (gName v) tYes te [v] σ Q (.ref a) H := by
  refine ⟨a, rfl, ⟨_, hx⟩, lcE walk_tup (accM fV) rfl (fun _ e => hx.ext e) ?_ hd⟩
  rintro i x D H1 H2 hi hD e hA ⟨rfl, hxi⟩
  exact ⟨wipe1, hs i x D H2 hxi hD e hA⟩
end
/-! ### slices -/
section
variable {K : PySem.W.Frag} {σ : L2.St} {H : Hp} {Q : VK} {te : TE} {tl th : TO} {r : V → Option Int → Option Int → Hp → VK → Prop} {a : Addr} {xs : List V} {l h : Option Int} {i j : Int} {Qo : Option Int → Hp → Prop} {t : TE}
theorem w_sl (h : te σ H fun x H1 => tl σ H1 fun l H2 => th σ H2 fun u H3 => r x l u H3 Q) : tSl r te tl th σ H Q := h
theorem w_nopart (q : Qo none H) : tNoPart σ H Qo := q
theorem w_part (q : t σ H fun x H1 => ∃ i, x = .int i ∧ Qo (some i) H1) : tPart t σ H Qo := q
theorem w_pint {P : Int → Prop} (q : P i) : ∃ k, V.int i = .int k ∧ P k := ⟨i, rfl, q⟩
theorem w_slL (hx : SqL K H a xs) (q : ∀ p, H p = none → Q (.ref p) (upd H p (.lst (cutV xs l h)))) : rSlL K (.ref a) l h H Q := ⟨a, xs, rfl, hx, q⟩
theorem cut_from {xs : List V} (h0 : 0 ≤ i) : cutV xs (some i) none = xs.drop i.toNat := by
  obtain ⟨n, rfl⟩ := Int.eq_ofNat_of_zero_le h0
  unfold cutV
  rw [HT.sIx_nat, HT.sIx_none, Int.toNat_natCast]
  by_cases hn : n ≤ xs.length
  · rw [Nat.min_eq_left hn, List.take_of_length_le]
    rw [List.length_drop]
    omega
  · rw [Nat.min_eq_right (by omega), List.drop_eq_nil_of_le (Nat.le_refl _), List.drop_eq_nil_of_le (by omega)]
    simp
theorem cut_to {xs : List V} (h0 : 0 ≤ i) : cutV xs none (some i) = xs.take i.toNat := by
  obtain ⟨n, rfl⟩ := Int.eq_ofNat_of_zero_le h0
  unfold cutV
  rw [HT.sIx_nat, HT.sIx_none, Int.toNat_natCast, List.drop_zero, Nat.sub_zero]
  by_cases hn : n ≤ xs.length
  · rw [Nat.min_eq_left hn]
  · rw [Nat.min_eq_right (by omega), List.take_of_length_le (Nat.le_refl _), List.take_of_length_le (by omega)]
theorem cut_mid {xs : List V} (h0 : 0 ≤ i) (h1 : i ≤ j) : cutV xs (some i) (some j) = (xs.drop i.toNat).take (j - i).toNat := by
  obtain ⟨n, rfl⟩ := Int.eq_ofNat_of_zero_le h0
  obtain ⟨m, rfl⟩ := Int.eq_ofNat_of_zero_le (Int.le_trans h0 h1)
  unfold cutV
  rw [HT.sIx_nat, HT.sIx_nat, Int.toNat_natCast]
  have e : ((m : Int) - (n : Int)).toNat = m - n := by omega
  rw [e]
  by_cases hn : n ≤ xs.length
  · rw [Nat.min_eq_left hn]
    by_cases hm : m ≤ xs.length
    · rw [Nat.min_eq_left hm]
    · rw [Nat.min_eq_right (by omega), List.take_of_length_le (by rw [List.length_drop]; omega), List.take_of_length_le (by rw [List.length_drop]; omega)]
  · rw [Nat.min_eq_right (by omega : xs.length ≤ n), List.drop_eq_nil_of_le (Nat.le_refl _), List.drop_eq_nil_of_le (by omega)]
    simp
theorem w_slLfrom (hx : SqL K H a xs) (h0 : 0 ≤ i) (q : ∀ p, H p = none → Q (.ref p) (upd H p (.lst (xs.drop i.toNat)))) : rSlL K (.ref a) (some i) none H Q := w_slL hx fun p hp => by rw [cut_from h0]; exact q p hp
theorem w_slLto (hx : SqL K H a xs) (h0 : 0 ≤ i) (q : ∀ p, H p = none → Q (.ref p) (upd H p (.lst (xs.take i.toNat)))) : rSlL K (.ref a) none (some i) H Q := w_slL hx fun p hp => by rw [cut_to h0]; exact q p hp
theorem w_slLmid (hx : SqL K H a xs) (h0 : 0 ≤ i) (h1 : i ≤ j) (q : ∀ p, H p = none → Q (.ref p) (upd H p (.lst ((xs.drop i.toNat).take (j - i).toNat)))) : rSlL K (.ref a) (some i) (some j) H Q := w_slL hx fun p hp => by rw [cut_mid h0 h1]; exact q p hp
/-! ### more of lists -/
theorem small_le {n : Nat} (h : Nat.ble n 1000 = true) : n ≤ sizeLine := Nat.le_trans (Nat.le_of_ble_eq_true h) (by decide)
theorem w_cat {l b : Addr} {xs zs : List V} (h1 : H l = some (.lst xs)) (h2 : H b = some (.lst zs)) (hz : xs.length + zs.length ≤ sizeLine) (q : ∀ p, H p = none → Q (.ref p) (upd H p (.lst (xs ++ zs)))) : rCat (.ref l) (.ref b) H Q := ⟨l, b, xs, zs, rfl, rfl, h1, h2, hz, q⟩
end
end G

/-! grown, but for some -/
namespace G
open PySem PySem.Spec PyProof.Rows L2
structure ExtS (S : List Addr) (H H' : Hp) : Prop where
  get : ∀ a o, a ∉ S → H a = some o → H' a = some o
  dom : ∀ a, H' a = none → H a = none
/-- each of S' is one of S, or not there in H -/
def SubN (S' S : List Addr) (H : Hp) : Prop := ∀ x ∈ S', x ∈ S ∨ H x = none
section
variable {K : PySem.W.Frag} {H H1 H' : Hp} {a b p q x y : Addr} {o u o' : HO} {xs : List V} {S S' : List Addr}
theorem ext_none (e : Ext H H') (h : H' x = none) : H x = none := by
  cases hx : H x with
  | none => rfl
  | some u => rw [e x u hx] at h; cases h
theorem upd_none (h : upd H a o x = none) : H x = none := (up_none h).2
theorem ExtS.rfl' : ExtS S H H := ⟨fun _ _ _ h => h, fun _ h => h⟩
theorem exts_ext (e : Ext H H') : ExtS S H H' := ⟨fun a o _ h => e a o h, fun a h => ext_none e h⟩
theorem exts_of_p (e : ExtP p H H') (d : H' p = some o) : ExtS [p] H H' := ⟨fun a o n h => e a o (fun z => n (by rw [z]; exact List.mem_singleton.mpr rfl)) h, fun a h => by
  cases hx : H a with
  | none => rfl
  | some u =>
    by_cases z : a = p
    · subst z; rw [d] at h; cases h
    · rw [e a u z hx] at h; cases h⟩
theorem exts_nil (e : ExtS [] H H') : Ext H H' := fun a o h => e.get a o (fun z => nomatch z) h
theorem extp_of_s (e : ExtS [p] H H') : ExtP p H H' := fun a o n h => e.get a o (fun z => n (List.mem_singleton.mp z)) h
theorem exts_mono {S2 : List Addr} (e : ExtS S H H') (h : ∀ x ∈ S, x ∈ S2) : ExtS S2 H H' := ⟨fun a o n => e.get a o fun z => n (h a z), e.dom⟩
theorem SubN.nil : SubN [] S H := fun _ z => nomatch z
theorem SubN.inn (h : x ∈ S) (s : SubN S' S H) : SubN (x :: S') S H := fun y hy => by
  rcases List.mem_cons.mp hy with rfl | hy
  · exact .inl h
  · exact s y hy
theorem SubN.new (h : H x = none) (s : SubN S' S H) : SubN (x :: S') S H := fun y hy => by
  rcases List.mem_cons.mp hy with rfl | hy
  · exact .inr h
  · exact s y hy
theorem SubN.all (h : ∀ x ∈ S', H x = none) : SubN S' S H := fun y hy => .inr (h y hy)
theorem SubN.app {S1 S2 : List Addr} (h : SubN S1 S H) (h2 : SubN S2 S H) : SubN (S1 ++ S2) S H := fun y hy => (List.mem_append.mp hy).elim (h y) (h2 y)
theorem exts_thr (f : ExtS S' H1 H') (n : SubN S' S H) (e : ExtS S H H1) : ExtS S H H' := ⟨fun a o ha h => f.get a o (fun z => (n a z).elim ha (fun z => by rw [z] at h; cases h)) (e.get a o ha h), fun a h => e.dom a (f.dom a h)⟩
theorem exts_thrE (f : Ext H1 H') (e : ExtS S H H1) : ExtS S H H' := ⟨fun a o ha h => f a o (e.get a o ha h), fun a h => e.dom a (ext_none f h)⟩
theorem exts_thrP (f : ExtP p H1 H') (d : H' p = some o) (n : SubN [p] S H) (e : ExtS S H H1) : ExtS S H H' := exts_thr (exts_of_p f d) n e
theorem exts_up (n : H1 a = none) (e : ExtS S H H1) : ExtS S H (upd H1 a o) := ⟨fun b u hb h => up_n (e.get b u hb h) n, fun b h => e.dom b (upd_none h)⟩
theorem exts_put (n : SubN [a] S H) (e : ExtS S H H1) : ExtS S H (upd H1 a o) := ⟨fun b u hb h => up_k (e.get b u hb h) (fun z => (n b (by rw [z]; exact List.mem_singleton.mpr rfl)).elim hb (fun z => by rw [z] at h; cases h)), fun b h => e.dom b (upd_none h)⟩
theorem ni_nil : x ∉ ([] : List Addr) := fun z => nomatch z
theorem ni_cons (n : x ≠ y) (m : x ∉ S) : x ∉ y :: S := fun z => (List.mem_cons.mp z).elim n m
theorem ni_app {S2 : List Addr} (n : x ∉ S) (m : x ∉ S2) : x ∉ S ++ S2 := fun z => (List.mem_append.mp z).elim n m
theorem ni_new (h : H x = some u) (n : ∀ y ∈ S, H y = none) : x ∉ S := fun z => by
  rw [n x z] at h
  cases h
theorem exts_get (e : ExtS S H H') (n : x ∉ S) (h : H x = some u) : H' x = some u := e.get _ _ n h
theorem exts_none (e : ExtS S H H') (h : H' x = none) : H x = none := e.dom x h
theorem mem_hd : x ∈ x :: S := List.mem_cons_self
theorem mem_tl (h : x ∈ S) : x ∈ y :: S := List.mem_cons_of_mem _ h
theorem scr_exts (e : ExtS S H H') (n : ∀ y ∈ S, Thw H y) (h : Scr K H a xs) : Scr K H' a xs := h.frz fun b o u hb => e.get b _ (fun z => n b z o u hb) hb
theorem all_nil {P : Addr → Prop} : ∀ y ∈ ([] : List Addr), P y := fun _ z => nomatch z
theorem all_cons {P : Addr → Prop} (h : P x) (t : ∀ y ∈ S, P y) : ∀ y ∈ x :: S, P y := fun y hy => by
  rcases List.mem_cons.mp hy with rfl | hy
  · exact h
  · exact t y hy
theorem thw_none (h : H x = none) : Thw H x := fun o u z => by rw [h] at z; cases z
theorem sq_exts (e : ExtS S H H') (n : a ∉ S) (h : H a = some (.lst xs)) : SqL K H' a xs := SqL.of (e.get _ _ n h)
end
end G

/-! rows of lists of integers; more steps -/
namespace G
open PySem PySem.Spec PyProof.Rows L2
/-- the lists at these addresses -/
def Rows (H : Hp) (as : List Addr) (ms : List (List Int)) : Prop := as.length = ms.length ∧ ∀ (i : Nat) (a : Addr) (m : List Int), as[i]? = some a → ms[i]? = some m → H a = some (.lst (m.map V.int))
section
variable {K : PySem.W.Frag} {H H1 H' : Hp} {a b p q x y : Addr} {o u o' : HO} {xs zs : List V} {S S' as bs : List Addr} {ms : List (List Int)} {m : List Int} {Q : VK} {σ : L2.St} {i j k : Int}
theorem Rows.nil : Rows H [] [] := ⟨rfl, fun i a m h => by simp at h⟩
theorem Rows.at (h : Rows H as ms) {i : Nat} (hi : i < ms.length) : ∃ (a : Addr) (m : List Int), as[i]? = some a ∧ ms[i]? = some m ∧ H a = some (.lst (m.map V.int)) := by
  have h2 : i < as.length := by rw [h.1]; exact hi
  exact ⟨as[i], ms[i], List.getElem?_eq_getElem h2, List.getElem?_eq_getElem hi, h.2 i _ _ (List.getElem?_eq_getElem h2) (List.getElem?_eq_getElem hi)⟩
theorem Rows.mem (h : Rows H as ms) (ha : a ∈ as) : ∃ m : List Int, H a = some (.lst (m.map V.int)) := by
  obtain ⟨i, hi, e⟩ := List.mem_iff_getElem.mp ha
  obtain ⟨a', m, h1, h2, h3⟩ := h.at (i := i) (by rw [← h.1]; exact hi)
  rw [List.getElem?_eq_getElem hi, e] at h1
  cases h1
  exact ⟨m, h3⟩
theorem Rows.ext (h : Rows H as ms) (e : Ext H H') : Rows H' as ms := ⟨h.1, fun i a m h1 h2 => e _ _ (h.2 i a m h1 h2)⟩
theorem Rows.exts (h : Rows H as ms) (e : ExtS S H H') (n : ∀ a ∈ as, a ∉ S) : Rows H' as ms := ⟨h.1, fun i a m h1 h2 => e.get _ _ (n a (List.mem_of_getElem? h1)) (h.2 i a m h1 h2)⟩
theorem Rows.snoc (h : Rows H as ms) (h1 : H a = Option.some (.lst (m.map V.int))) : Rows H (as ++ [a]) (ms ++ [m]) := by
  refine ⟨by rw [List.length_append, List.length_append, h.1]; rfl, fun i b m' hb hm => ?_⟩
  by_cases hi : i < as.length
  · rw [List.getElem?_append_left hi] at hb
    rw [List.getElem?_append_left (by rw [← h.1]; exact hi)] at hm
    exact h.2 i b m' hb hm
  · rw [List.getElem?_append_right (by omega)] at hb
    rw [List.getElem?_append_right (by rw [← h.1]; omega), ← h.1] at hm
    have e : i - as.length = 0 := by
      have := (List.getElem?_eq_some_iff.mp hb).1
      simp at this
      omega
    rw [e] at hb hm
    cases hb
    cases hm
    exact h1
theorem Rows.new (h : Rows H as ms) (n : H x = none) : Rows (upd H x o) as ms := h.ext (ext_up n Ext.rfl')
theorem Rows.put (h : Rows H as ms) (n : x ∉ as) : Rows (upd H x o) as ms := ⟨h.1, fun i a m h1 h2 => up_k (h.2 i a m h1 h2) fun z => n (by rw [← z]; exact List.mem_of_getElem? h1)⟩
theorem Rows.no (h : Rows H as ms) (n : H x = none) : x ∉ as := fun z => by
  obtain ⟨m, e⟩ := h.mem z
  rw [n] at e
  cases e
theorem Rows.noi (h : Rows H as ms) {C dx : Addr} {fs : List (Str × V)} (n : H x = some (.ins C dx fs)) : x ∉ as := fun z => by
  obtain ⟨m, e⟩ := h.mem z
  rw [n] at e
  cases e
theorem nodup_snoc (h : as.Nodup) (n : x ∉ as) : (as ++ [x]).Nodup := List.nodup_append.mpr ⟨h, by simp, fun a ha b hb => by
  rw [List.mem_singleton.mp hb]
  intro z
  rw [z] at ha
  exact n ha⟩
theorem mem_snoc {P : Addr → Prop} (h : ∀ a ∈ as, P a) (n : P x) : ∀ a ∈ as ++ [x], P a := fun a ha => (List.mem_append.mp ha).elim (h a) fun z => by
  rw [List.mem_singleton.mp z]
  exact n
theorem ni_snoc (h : y ∉ as) (n : y ≠ x) : y ∉ as ++ [x] := fun z => (List.mem_append.mp z).elim h fun z => n (List.mem_singleton.mp z)
theorem Rows.take (h : Rows H as ms) (n : Nat) : Rows H (as.take n) (ms.take n) := ⟨by rw [List.length_take, List.length_take, h.1], fun i a m h1 h2 => by
  rw [List.getElem?_take] at h1 h2
  by_cases hi : i < n
  · rw [if_pos hi] at h1 h2
    exact h.2 i a m h1 h2
  · rw [if_neg hi] at h1
    cases h1⟩
theorem Rows.drop (h : Rows H as ms) (n : Nat) : Rows H (as.drop n) (ms.drop n) := ⟨by rw [List.length_drop, List.length_drop, h.1], fun i a m h1 h2 => by
  rw [List.getElem?_drop] at h1 h2
  exact h.2 _ a m h1 h2⟩
theorem w_sum {ns : List Int} {a : Addr} (h : SqL K H a (ns.map V.int)) (q : Q (.int ns.sum) H) : rSum K [.ref a] H Q := ⟨a, ns, rfl, h, q⟩
theorem w_extend {l b : Addr} (h1 : H l = some (.lst xs)) (h2 : H b = some (.lst zs)) (hz : xs.length + zs.length ≤ sizeLine) (q : Q .non (upd H l (.lst (xs ++ zs)))) : rExtend (.ref l) [.ref b] H Q := ⟨l, b, xs, zs, rfl, rfl, h1, h2, hz, q⟩
theorem w_rep {l : Addr} (h1 : H l = some (.lst xs)) (h0 : 0 ≤ k) (hk : k < 4611686018427387904) (hz : xs.length * k.toNat ≤ sizeLine) (q : ∀ p, H p = none → Q (.ref p) (upd H p (.lst (List.replicate k.toNat xs).flatten))) : rRep (.ref l) (.int k) H Q :=
  ⟨l, k, xs, rfl, rfl, h1, by omega, by omega, hz, q⟩
theorem w_intb {c : Bool} (q : Q (.int (if c then 1 else 0)) H) : gInt1 [.bl c] H Q := .inr ⟨c, rfl, q⟩
theorem w_tryas {tb : WX → TS} {c : Value} {n : Nat} {ts : Addr → Value → Option Addr → TS} {Wout : WX} {D : Ends} (h : tb (wAs K c n ts Wout D) D σ H) : (fun D σ H => (fun W1 : WX => tb W1) (wAs K c n ts Wout D) D σ H) D σ H := h
/-- while, the test's reading told by a fact of monotony -/
theorem w_while {c : TT} {tb : TS} {D : Ends} (Pv : L2.St → Hp → Prop) (μ : L2.St → Hp → Nat) (h0 : Pv σ H)
    (hs : ∀ σ H, Pv σ H → c σ H fun b H1 => if b = true then tb { D with nx := fun σ' H' => Pv σ' H' ∧ μ σ' H' < μ σ H, ct := fun σ' H' => Pv σ' H' ∧ μ σ' H' < μ σ H, bk := D.nx } σ H1 else D.nx σ H1)
    (mono : ∀ σ H Q Q', (∀ b H1, Q b H1 → Q' b H1) → c σ H Q → c σ H Q') : tWhile c tb D σ H := while_by Pv μ h0 hs mono
end
theorem small16 {n : Nat} (h : n ≤ 16000000) : n ≤ sizeLine := Nat.le_trans h (by decide)
theorem small16l {n : Nat} (h : n < 16000000) : n < sizeLine := Nat.lt_of_lt_of_le h (by decide)
theorem map_inj_int {xs ys : List Int} (h : xs.map V.int = ys.map V.int) : xs = ys := by
  induction xs generalizing ys with
  | nil => cases ys with
    | nil => rfl
    | cons y ys => simp at h
  | cons x xs ih => cases ys with
    | nil => simp at h
    | cons y ys =>
      simp only [List.map_cons, List.cons.injEq, V.int.injEq] at h
      rw [h.1, ih h.2]
theorem atI_int {L : List Int} {a : Nat} (h : a < L.length) {k : Int} (e : k = (a : Int)) : atI (L.map V.int) k = some (V.int (L.getD a 0)) := at_of e (by
  rw [List.getElem?_map, List.getElem?_eq_getElem h, List.getD_eq_getElem?_getD, List.getElem?_eq_getElem h]
  rfl)
theorem atI_ref {L : List Addr} {a : Nat} {r : Addr} (h : L[a]? = some r) {k : Int} (e : k = (a : Int)) : atI (L.map V.ref) k = some (V.ref r) := at_of e (by rw [List.getElem?_map, h]; rfl)
end G

/-! tuples of texts, dict displays, comprehensions with any word -/
namespace G
open PySem PySem.Spec PyProof.Rows L2
/-- t.index(x), t of texts, x there -/
def rTIdxS (K : PySem.W.Frag) : V → List V → Hp → VK → Prop := fun x xs H Q => ∃ (a : Addr) (ys : List Str) (k : Str), x = .ref a ∧ xs = [.str k] ∧ SqT K H a (ys.map V.str) ∧ k ∈ ys ∧ Q (.int (ys.idxOf k : Nat)) H
theorem mt_tindexS {X : Cx} : MtR X "tuple.index" (rTIdxS X.K) := by
  intro pins s σ H x xs v us Q I rx rxs h
  obtain ⟨a, ys, k, rfl, rfl, hs, hk, q⟩ := h
  cases rx
  cases rxs with
  | cons ry rt =>
    cases rt
    obtain ⟨t, rfl⟩ := ry
    obtain ⟨its, rv, e, z⟩ := I.tuple hs
    exact SeqAt.tuple_index_strs e (strsAre_of rv) hk ⟨.int (ys.idxOf k : Nat), H, I.tok _, ⟨_, rfl⟩, q⟩
def tyTB (x : Str) : Ex := fun K => match K.lookup (He.ga K x) with
  | some o => (match o.cls with | .type n => decide (n = "tuple") | _ => false) && o.dict.isNone
  | none => false
theorem tyTB_ok {K : PySem.W.Frag} {x : Str} (h : tyTB x K = true) (H : Hp) : tyV K "tuple" (.ref (He.ga K x)) H := by
  unfold tyTB at h
  cases q : K.lookup (He.ga K x) with
  | none => rw [q] at h; cases h
  | some o =>
    rw [q] at h
    obtain ⟨oc, od, dt, sl⟩ := o
    obtain ⟨h1, h2⟩ := He.ba h
    refine .inr (.inl ⟨rfl, _, q, ?_, ?_⟩)
    · cases oc with
      | type n => exact congrArg Value.type (of_decide_eq_true h1)
      | _ => cases h1
    · cases od with
      | none => rfl
      | some d => cases h2
section
variable {K : PySem.W.Frag} {σ : L2.St} {H : Hp} {Q : VK} {x y v : V} {a : Addr} {k : Str} {ys : List Str} {kvs : List (Key × V)}
theorem ty_tupX {x : Str} {P : Prop} (h : tyTB x K = true) (q : P) : tyV K "tuple" (.ref (He.ga K x)) H ∧ P := ⟨tyTB_ok h H, q⟩
theorem w_tidxS (h : SqT K H a (ys.map V.str)) (hk : k ∈ ys) (q : Q (.int (ys.idxOf k : Nat)) H) : rTIdxS K (.ref a) [.str k] H Q := ⟨a, ys, k, rfl, rfl, h, hk, q⟩
/-! dicts -/
abbrev gDGet := tDGet
theorem w_dget {td ty : TE} (h : td σ H fun x H1 => ty σ H1 fun y H2 => ∃ a v, x = .ref a ∧ DGet H2 a y (some v) ∧ Q v H2) : tDGet td ty σ H Q := h
theorem w_dgetS (h : H a = some (.dK kvs)) (e : valV kvs (.inr k : Key) = some v) (q : Q v H) : ∃ a' v', V.ref a = .ref a' ∧ DGet H a' (.str k) (some v') ∧ Q v' H := ⟨a, v, rfl, e ▸ DGet.k (k := .inr k) h, q⟩
theorem w_dgetI {i : Int} (h : H a = some (.dK kvs)) (e : valV kvs (.inl i : Key) = some v) (q : Q v H) : ∃ a' v', V.ref a = .ref a' ∧ DGet H a' (.int i) (some v') ∧ Q v' H := ⟨a, v, rfl, e ▸ DGet.k (k := .inl i) h, q⟩
theorem w_disp {trs : List (TE × TE)} (h : ∀ p, H p = none → tPairs trs σ (upd H p (.dK [])) fun ps H2 => H2 p = some (.dK []) ∧ ∃ kvs : List (Key × V), ps = kvs.map (fun kv => (kV kv.1, kv.2)) ∧ kvs.length ≤ 15 ∧ Q (.ref p) (upd H2 p (.dK (mergeK [] kvs)))) : tDisp trs σ H Q := h
theorem w_prs {tk tv : TE} {r : List (TE × TE)} {Q : List (V × V) → Hp → Prop} (h : tk σ H fun x H1 => tv σ H1 fun y H2 => tPairs r σ H2 fun ps H3 => Q ((x, y) :: ps) H3) : tPairs ((tk, tv) :: r) σ H Q := h
theorem w_prn {Q : List (V × V) → Hp → Prop} (h : Q [] H) : tPairs [] σ H Q := h
/-! in -/
theorem w_inT {xs : List V} (h : SqT K H a xs) (fx : flatV x = true) (fs : xs.all flatV = true) (q : Q (.bl (inV x xs)) H) : rIn K false x (.ref a) H Q := ⟨a, xs, rfl, .inr h, fx, fs, q⟩
theorem w_inL {xs : List V} (h : SqL K H a xs) (fx : flatV x = true) (fs : xs.all flatV = true) (q : Q (.bl (inV x xs)) H) : rIn K false x (.ref a) H Q := ⟨a, xs, rfl, .inl h, fx, fs, q⟩
theorem w_ninT {xs : List V} (h : SqT K H a xs) (fx : flatV x = true) (fs : xs.all flatV = true) (q : Q (.bl (!inV x xs)) H) : rIn K true x (.ref a) H Q := ⟨a, xs, rfl, .inr h, fx, fs, q⟩
theorem w_ninL {xs : List V} (h : SqL K H a xs) (fx : flatV x = true) (fs : xs.all flatV = true) (q : Q (.bl (!inV x xs)) H) : rIn K true x (.ref a) H Q := ⟨a, xs, rfl, .inl h, fx, fs, q⟩
/-! tuple(list), list of a tuple -/
theorem w_tupL {xs : List V} (h : SqL K H a xs) (q : ∀ l, H l = none → Q (.ref l) (upd H l (.tup xs))) : gTupOf K [.ref a] H Q := ⟨a, xs, rfl, .inl ⟨h, q⟩⟩
end
/-! ### comprehensions, any word -/
section
variable {K : PySem.W.Frag} {σ : L2.St} {H : Hp} {Q : VK} {g : TG} {tt : TT} {te : TE} {vs : List Nat} {tA : TA} {tl : TE} {v : Nat} {j lo hi : Int}
theorem w_yes {Q : Bool → Hp → Prop} (h : Q true H) : tYes σ H Q := h
theorem lc_addG {D : Addr} {Pv : Addr → Nat → Hp → Prop} {i : Nat} {y : V} {H4 : Hp} {A : List V} (h : H4 D = some (.lst A)) (hl : A.length < sizeLine) (q : Pv D (i + 1) (upd H4 D (.lst (A ++ [y])))) : LcAdd D (Pv D) i y H4 := ⟨A, h, hl, q⟩
theorem lcG {J : It} {n : Nat} {G : Hp → Prop} {Y : Nat → Hp → V → Hp → Prop} (w : Walk J n G Y) (Pv : Addr → Nat → Hp → Prop) (h0 : ∀ D, H D = none → Pv D 0 (upd H D (.lst []))) (hG : ∀ D i H', Pv D i H' → G H')
    (hs : ∀ i x D H1 H2, i < n → H D = none → Pv D i H1 → Y i H1 x H2 → g x (wipe σ vs) H2 fun σ2 H2 => wipe σ2 vs = wipe σ vs ∧ tt σ2 H2 fun b H3 =>
      if b = true then te σ2 H3 fun y H4 => LcAdd D (Pv D) i y H4 else Pv D (i + 1) H3)
    (hd : ∀ D H1, H D = none → Pv D n H1 → Q (.ref D) H1) : rLc J g tt te vs σ H Q := fun D hD =>
  lc_it w (Pv D) (h0 D hD) (fun i H' _ h => hG D i H' h) (fun i x H1 H2 hi h y => hs i x D H1 H2 hi hD h y) fun H1 h => hd D H1 hD h
theorem lcR1G {n : Nat} (Pv : Addr → Nat → Hp → Prop) (hj : j = (n : Int)) (hn : n < 16000000) (h0 : ∀ D, H D = none → Pv D 0 (upd H D (.lst [])))
    (hs : ∀ (i : Nat) D H1, i < n → H D = none → Pv D i H1 → te ((σ.set v none).set v (some (.int (i : Int)))) H1 fun y H4 => LcAdd D (Pv D) i y H4)
    (hd : ∀ D H1, H D = none → Pv D n H1 → Q (.ref D) H1) : rLcR1 (gName v) tYes te [v] σ Q [.int j] H := by
  subst hj
  refine ⟨(n : Int), rfl, by omega, by omega, lcG walk_range Pv h0 (fun _ _ _ _ => trivial) ?_ (by rw [Int.toNat_natCast]; exact hd)⟩
  rintro i x D H1 H2 hi hD hP ⟨rfl, rfl⟩
  refine ⟨wipe1, ?_⟩
  show te ((σ.set v none).set v (some (.int (0 + (i : Int))))) H2 _
  rw [Int.zero_add]
  exact hs i D H2 (by omega) hD hP
/-- drawn numbers: [digit(state, m) for k in range(n)] -/
theorem lcDraw {s : Addr} {n0 m : Int} {n : Nat} (hj : j = (n : Int)) (hn : n < 16000000) (hs : H s = some (.lst [.int n0])) (h0 : 0 < m)
    (hb : ∀ (i : Nat) D H1 n1, i < n → H D = none → ExtP s H H1 → H1 s = some (.lst [.int n1]) → s ≠ D → te ((σ.set v none).set v (some (.int (i : Int)))) H1 fun y H4 => ∃ d n2, y = .int d ∧ 0 ≤ d ∧ d < m ∧ H4 = upd H1 s (.lst [.int n2]))
    (mono : ∀ (σ : L2.St) H (Q Q' : VK), (∀ y H1, Q y H1 → Q' y H1) → te σ H Q → te σ H Q')
    (hd : ∀ D H1 (ds : List Int) n1, H D = none → ExtP s H H1 → H1 s = some (.lst [.int n1]) → ds.length = n → (∀ d ∈ ds, 0 ≤ d ∧ d < m) → H1 D = some (.lst (ds.map V.int)) → Q (.ref D) H1) : rLcR1 (gName v) tYes te [v] σ Q [.int j] H := by
  refine lcR1G (fun D i H' => ExtP s H H' ∧ (∃ n1, H' s = some (.lst [.int n1])) ∧ ∃ ds : List Int, ds.length = i ∧ (∀ d ∈ ds, 0 ≤ d ∧ d < m) ∧ H' D = some (.lst (ds.map V.int))) hj hn (fun D hD => ⟨extp_up hD ExtP.rfl', ⟨n0, up_n hs hD⟩, [], rfl, (fun d hd => by cases hd), upd_same⟩) ?_ ?_
  · rintro i D H1 hi hD ⟨e, ⟨n1, hs1⟩, ds, hl, hds, hA⟩
    have nsD : s ≠ D := ne_of_none hs hD
    refine mono _ _ _ _ ?_ (hb i D H1 n1 hi hD e hs1 nsD)
    rintro y H4 ⟨d, n2, rfl, d0, d1, rfl⟩
    refine lc_addG (Pv := fun D i H' => ExtP s H H' ∧ (∃ n1, H' s = some (.lst [.int n1])) ∧ ∃ ds : List Int, ds.length = i ∧ (∀ d ∈ ds, 0 ≤ d ∧ d < m) ∧ H' D = some (.lst (ds.map V.int))) (A := ds.map V.int) (up_k hA nsD.symm) (by rw [List.length_map]; exact small16l (by omega)) ⟨extp_putn hD (extp_put e), ⟨n2, up_k upd_same nsD⟩, ds ++ [d], by rw [List.length_append, hl]; rfl, ?_, by rw [upd_same, List.map_append]; rfl⟩
    intro z hz
    rcases List.mem_append.mp hz with hz | hz
    · exact hds z hz
    · rw [List.mem_singleton.mp hz]
      exact ⟨d0, d1⟩
  · rintro D H1 hD ⟨e, ⟨n1, hs1⟩, ds, hl, hds, hA⟩
    exact hd D H1 ds n1 hD e hs1 hl hds hA
end
end G

namespace K35
open PySem PySem.Spec PyProof.Rows L2 G

def top (i : Nat) : Stmt := PySem.Challenge.pw_throughway_k35_frames.main.body.getD i (.Pass ⟨0, 0, 0, 0⟩)

abbrev s_two_octets : Stmt := top 6
abbrev N_two_octets : List Str := ["number"]
abbrev P_two_octets : List Str := ["number"]

theorem sc_two_octets : FnScope N_two_octets P_two_octets (defScope s_two_octets) := ⟨rfl, rfl, rfl, by decide +kernel, rfl, by decide +kernel, by decide +kernel⟩

abbrev D_two_octets : He.DefD := ⟨("two_octets", none), "two_octets", "two_octets", defArgs s_two_octets, defBody s_two_octets, defScope s_two_octets, [], []⟩

abbrev s_write_frame : Stmt := top 7
abbrev N_write_frame : List Str := ["frame", "octets"]
abbrev P_write_frame : List Str := ["frame"]

theorem sc_write_frame : FnScope N_write_frame P_write_frame (defScope s_write_frame) := ⟨rfl, rfl, rfl, by decide +kernel, rfl, by decide +kernel, by decide +kernel⟩

abbrev D_write_frame : He.DefD := ⟨("write_frame", none), "write_frame", "write_frame", defArgs s_write_frame, defBody s_write_frame, defScope s_write_frame, [], []⟩

abbrev s_first_frame : Stmt := top 8
abbrev N_first_frame : List Str := ["octets", "word", "channel", "number"]
abbrev P_first_frame : List Str := ["octets"]

theorem sc_first_frame : FnScope N_first_frame P_first_frame (defScope s_first_frame) := ⟨rfl, rfl, rfl, by decide +kernel, rfl, by decide +kernel, by decide +kernel⟩

abbrev D_first_frame : He.DefD := ⟨("first_frame", none), "first_frame", "first_frame", defArgs s_first_frame, defBody s_first_frame, defScope s_first_frame, [], []⟩

abbrev s_law_cell : Stmt := top 10
abbrev N_law_cell : List Str := ["script", "k"]
abbrev P_law_cell : List Str := ["script", "k"]

theorem sc_law_cell : FnScope N_law_cell P_law_cell (defScope s_law_cell) := ⟨rfl, rfl, rfl, by decide +kernel, rfl, by decide +kernel, by decide +kernel⟩

abbrev D_law_cell : He.DefD := ⟨("_law_cell", none), "_law_cell", "_law_cell", defArgs s_law_cell, defBody s_law_cell, defScope s_law_cell, [], []⟩

abbrev s_law_is_integer : Stmt := top 11
abbrev N_law_is_integer : List Str := ["told"]
abbrev P_law_is_integer : List Str := ["told"]

theorem sc_law_is_integer : FnScope N_law_is_integer P_law_is_integer (defScope s_law_is_integer) := ⟨rfl, rfl, rfl, by decide +kernel, rfl, by decide +kernel, by decide +kernel⟩

abbrev D_law_is_integer : He.DefD := ⟨("_law_is_integer", none), "_law_is_integer", "_law_is_integer", defArgs s_law_is_integer, defBody s_law_is_integer, defScope s_law_is_integer, [], []⟩

abbrev s_law_start : Stmt := top 12
abbrev N_law_start : List Str := ["cell", "k", "prime", "mixed", "number", "turn"]
abbrev P_law_start : List Str := ["cell", "k"]

theorem sc_law_start : FnScope N_law_start P_law_start (defScope s_law_start) := ⟨rfl, rfl, rfl, by decide +kernel, rfl, by decide +kernel, by decide +kernel⟩

abbrev D_law_start : He.DefD := ⟨("_law_start", none), "_law_start", "_law_start", defArgs s_law_start, defBody s_law_start, defScope s_law_start, [], []⟩

abbrev s_law_digit : Stmt := top 13
abbrev N_law_digit : List Str := ["state", "many", "digit"]
abbrev P_law_digit : List Str := ["state", "many"]

theorem sc_law_digit : FnScope N_law_digit P_law_digit (defScope s_law_digit) := ⟨rfl, rfl, rfl, by decide +kernel, rfl, by decide +kernel, by decide +kernel⟩

abbrev D_law_digit : He.DefD := ⟨("_law_digit", none), "_law_digit", "_law_digit", defArgs s_law_digit, defBody s_law_digit, defScope s_law_digit, [], []⟩

abbrev s_law_frame : Stmt := top 14
abbrev N_law_frame : List Str := ["state", "many", "word", "channel", "size", "base", "k"]
abbrev P_law_frame : List Str := ["state", "many"]

theorem sc_law_frame : FnScope N_law_frame P_law_frame (defScope s_law_frame) := ⟨rfl, rfl, rfl, by decide +kernel, rfl, by decide +kernel, by decide +kernel⟩

abbrev D_law_frame : He.DefD := ⟨("_law_frame", none), "_law_frame", "_law_frame", defArgs s_law_frame, defBody s_law_frame, defScope s_law_frame, [], []⟩

abbrev s_law_octets : Stmt := top 15
abbrev N_law_octets : List Str := ["frame", "kind", "octets"]
abbrev P_law_octets : List Str := ["frame"]

theorem sc_law_octets : FnScope N_law_octets P_law_octets (defScope s_law_octets) := ⟨rfl, rfl, rfl, by decide +kernel, rfl, by decide +kernel, by decide +kernel⟩

abbrev D_law_octets : He.DefD := ⟨("_law_octets", none), "_law_octets", "_law_octets", defArgs s_law_octets, defBody s_law_octets, defScope s_law_octets, [], []⟩

abbrev s_law_copy : Stmt := top 16
abbrev N_law_copy : List Str := ["frame", "item"]
abbrev P_law_copy : List Str := ["frame"]

theorem sc_law_copy : FnScope N_law_copy P_law_copy (defScope s_law_copy) := ⟨rfl, rfl, rfl, by decide +kernel, rfl, by decide +kernel, by decide +kernel⟩

abbrev D_law_copy : He.DefD := ⟨("_law_copy", none), "_law_copy", "_law_copy", defArgs s_law_copy, defBody s_law_copy, defScope s_law_copy, [], []⟩

abbrev s_law_same_octets : Stmt := top 17
abbrev N_law_same_octets : List Str := ["told", "due", "k"]
abbrev P_law_same_octets : List Str := ["told", "due"]

theorem sc_law_same_octets : FnScope N_law_same_octets P_law_same_octets (defScope s_law_same_octets) := ⟨rfl, rfl, rfl, by decide +kernel, rfl, by decide +kernel, by decide +kernel⟩

abbrev D_law_same_octets : He.DefD := ⟨("_law_same_octets", none), "_law_same_octets", "_law_same_octets", defArgs s_law_same_octets, defBody s_law_same_octets, defScope s_law_same_octets, [], []⟩

abbrev s_law_read : Stmt := top 18
abbrev N_law_read : List Str := ["octets", "given", "told", "e"]
abbrev P_law_read : List Str := ["octets"]

theorem sc_law_read : FnScope N_law_read P_law_read (defScope s_law_read) := ⟨rfl, rfl, rfl, by decide +kernel, rfl, by decide +kernel, by decide +kernel⟩

abbrev D_law_read : He.DefD := ⟨("_law_read", none), "_law_read", "_law_read", defArgs s_law_read, defBody s_law_read, defScope s_law_read, [], []⟩

abbrev s_law_same : Stmt := top 19
abbrev N_law_same : List Str := ["told", "frame", "size"]
abbrev P_law_same : List Str := ["told", "frame", "size"]

theorem sc_law_same : FnScope N_law_same P_law_same (defScope s_law_same) := ⟨rfl, rfl, rfl, by decide +kernel, rfl, by decide +kernel, by decide +kernel⟩

abbrev D_law_same : He.DefD := ⟨("_law_same", none), "_law_same", "_law_same", defArgs s_law_same, defBody s_law_same, defScope s_law_same, [], []⟩

abbrev s_law_holds : Stmt := top 20
abbrev N_law_holds : List Str := ["frame", "state", "due", "given", "behind", "k", "bad"]
abbrev P_law_holds : List Str := ["frame", "state"]

theorem sc_law_holds : FnScope N_law_holds P_law_holds (defScope s_law_holds) := ⟨rfl, rfl, rfl, by decide +kernel, rfl, by decide +kernel, by decide +kernel⟩

abbrev D_law_holds : He.DefD := ⟨("_law_holds", none), "_law_holds", "_law_holds", defArgs s_law_holds, defBody s_law_holds, defScope s_law_holds, [], []⟩

abbrev s_law : Stmt := top 21
abbrev N_law : List Str := ["script", "many", "k", "state"]
abbrev P_law : List Str := ["script"]

theorem sc_law : FnScope N_law P_law (defScope s_law) := ⟨rfl, rfl, rfl, by decide +kernel, rfl, by decide +kernel, by decide +kernel⟩

abbrev D_law : He.DefD := ⟨("law", none), "law", "law", defArgs s_law, defBody s_law, defScope s_law, [], []⟩

abbrev fn : List He.DefD := [D_two_octets, D_write_frame, D_first_frame, D_law_cell, D_law_is_integer, D_law_start, D_law_digit, D_law_frame, D_law_octets, D_law_copy, D_law_same_octets, D_law_read, D_law_same, D_law_holds, D_law]

abbrev fa : List He.Fa := [.exm "InvalidFrame" "InvalidFrame" true, .glo "WORDS", .free "len", .free "list", .exc "InvalidFrame", .glo "InvalidFrame", .free "int", .free "isinstance", .free "bool", .free "range", .free "tuple", .glo "ThroughwayError", .glo "InvalidAmount", .free "min", .free "max", .glo "two_octets", .glo "write_frame", .glo "first_frame", .glo "_law_cell", .glo "_law_is_integer", .glo "_law_start", .glo "_law_digit", .glo "_law_frame", .glo "_law_octets", .glo "_law_copy", .glo "_law_same_octets", .glo "_law_read", .glo "_law_same", .glo "_law_holds", .glo "law"]

abbrev pr : List Pr := []
abbrev ex : List Ex := [(tyTB "WORDS"), (excCB "InvalidFrame"), (kitOB "InvalidFrame" "ThroughwayError" true), (kitOB "InvalidFrame" "InvalidAmount" false), (tupX "WORDS" [.str "open", .str "octets", .str "permit", .str "end", .str "reset"])]
abbrev TX (K : PySem.W.Frag) (mg : Str → Option Value) (base : Heap) : Prop := TxB fa fn pr ex K mg base

abbrev v_WORDS : List V := [.str "open", .str "octets", .str "permit", .str "end", .str "reset"]
theorem kx_WORDS {K : PySem.W.Frag} {mg : Str → Option Value} {base : Heap} (T : TX K mg base) (H : Hp) : SqT K H (He.ga K "WORDS") v_WORDS := He.tupB_ok (x := "WORDS") (vs := [.str "open", .str "octets", .str "permit", .str "end", .str "reset"]) (T.b.ex_ 4) H

section
variable {K : PySem.W.Frag} {mg : Str → Option Value} {base : Heap}

end
end K35

namespace K35
open PySem PySem.Spec PyProof.Rows L2 G
abbrev eF (K : PySem.W.Frag) : Value := .ref (He.ga K "InvalidFrame")
def WS : List Str := ["open", "octets", "permit", "end", "reset"]
inductive Fr where
  | a (w : Str) (c : Int)
  | b (w : Str) (c n : Int)
  | o (c : Int) (xs : List Int)
def Fr.Ok : Fr → Prop
  | .a w c => (w = "open" ∨ w = "end") ∧ 0 ≤ c ∧ c < 65536
  | .b w c n => (w = "permit" ∨ w = "reset") ∧ 0 ≤ c ∧ c < 65536 ∧ 0 ≤ n ∧ n < 65536
  | .o c xs => 0 ≤ c ∧ c < 65536 ∧ xs.length ≤ 1000 ∧ ∀ x ∈ xs, 0 ≤ x
def kd (w : Str) : Int := (WS.idxOf w : Nat) + 1
def Fr.code : Fr → List Int
  | .a w c => [kd w, c / 256, c % 256]
  | .b w c n => [kd w, c / 256, c % 256, n / 256, n % 256]
  | .o c xs => [2, c / 256, c % 256, (xs.length : Int) / 256, (xs.length : Int) % 256] ++ xs
/-- the frame at p, its list at l -/
def FrAt (H : Hp) (p l : Addr) : Fr → Prop
  | .a w c => H p = some (.tup [.str w, .int c])
  | .b w c n => H p = some (.tup [.str w, .int c, .int n])
  | .o c xs => H p = some (.tup [.str "octets", .int c, .ref l]) ∧ H l = some (.lst (xs.map V.int))
inductive RdR where
  | none
  | bad
  | ok (f : Fr) (n : Int)
def rdF (L : List Int) : RdR :=
  if L.length < 3 then .none else if ¬ (1 ≤ L.getD 0 0 ∧ L.getD 0 0 ≤ 5) then .bad else
  if WS.getD (L.getD 0 0 - 1).toNat "" = "open" ∨ WS.getD (L.getD 0 0 - 1).toNat "" = "end" then .ok (.a (WS.getD (L.getD 0 0 - 1).toNat "") (L.getD 1 0 * 256 + L.getD 2 0)) 3 else
  if L.length < 5 then .none else if WS.getD (L.getD 0 0 - 1).toNat "" ≠ "octets" then .ok (.b (WS.getD (L.getD 0 0 - 1).toNat "") (L.getD 1 0 * 256 + L.getD 2 0) (L.getD 3 0 * 256 + L.getD 4 0)) 5 else
  if (L.length : Int) < 5 + (L.getD 3 0 * 256 + L.getD 4 0) then .none else .ok (.o (L.getD 1 0 * 256 + L.getD 2 0) ((L.drop 5).take (L.getD 3 0 * 256 + L.getD 4 0).toNat)) (5 + (L.getD 3 0 * 256 + L.getD 4 0))
abbrev sp_law_cell := gsCell
abbrev sp_law_start := gsStart
abbrev sp_law_digit := gsDigit
abbrev sp_law_is_integer := gsIsInt
def sp_two_octets (K : PySem.W.Frag) : Sp := fun vs H Q _ => ∃ n : Int, vs = [.int n] ∧ ∀ p, H p = none → Q (.ref p) (upd H p (.lst [.int (n / 256), .int (n % 256)]))
def sp_write_frame (K : PySem.W.Frag) : Sp := fun vs H Q _ => ∃ (p l : Addr) (f : Fr), vs = [.ref p] ∧ FrAt H p l f ∧ f.Ok ∧ ∀ t H', H t = none → Ext H H' → H' t = some (.lst (f.code.map V.int)) → Q (.ref t) H'
def sp_law_octets (K : PySem.W.Frag) : Sp := sp_write_frame K
def sp_first_frame (K : PySem.W.Frag) : Sp := fun vs H Q E => ∃ (a : Addr) (L : List Int), vs = [.ref a] ∧ H a = some (.lst (L.map V.int)) ∧ (∀ x ∈ L, 0 ≤ x) ∧
  (rdF L = .none → ∀ H', Ext H H' → Q .non H') ∧ (rdF L = .bad → E (eF K) none H) ∧ (∀ f n, rdF L = .ok f n → ∀ H' t p l, Ext H H' → H' t = some (.tup [.ref p, .int n]) → FrAt H' p l f → Q (.ref t) H')
def sp_law_frame (K : PySem.W.Frag) : Sp := fun vs H Q _ => ∃ (s : Addr) (n m : Int), vs = [.ref s, .int m] ∧ H s = some (.lst [.int n]) ∧ 0 < m ∧ m < 1000 ∧
  ∀ f p l H' n', ExtP s H H' → H' s = some (.lst [.int n']) → FrAt H' p l f → f.Ok → l ≠ s → Q (.ref p) H'
def sp_law_copy (K : PySem.W.Frag) : Sp := fun vs H Q _ => ∃ (p l : Addr) (f : Fr), vs = [.ref p] ∧ FrAt H p l f ∧ f.Ok ∧ ∀ q m H', Ext H H' → FrAt H' q m f → H m = none → Q (.ref q) H'
def sp_law_same_octets (K : PySem.W.Frag) : Sp := fun vs H Q _ => ∃ (a b : Addr) (xs : List Int), vs = [.ref a, .ref b] ∧ H a = some (.lst (xs.map V.int)) ∧ H b = some (.lst (xs.map V.int)) ∧ xs.length ≤ 100000 ∧ Q (.bl true) H
def sp_law_read (K : PySem.W.Frag) : Sp := fun vs H Q _ => ∃ (a : Addr) (L : List Int), vs = [.ref a] ∧ H a = some (.lst (L.map V.int)) ∧ (∀ x ∈ L, 0 ≤ x) ∧
  (rdF L = .none → ∀ H', Ext H H' → Q .non H') ∧ (rdF L = .bad → ∀ H', Ext H H' → Q (.str "invalid") H') ∧ (∀ f n, rdF L = .ok f n → ∀ H' t p l, Ext H H' → H' t = some (.tup [.ref p, .int n]) → FrAt H' p l f → Q (.ref t) H')
def sp_law_same (K : PySem.W.Frag) : Sp := fun vs H Q _ => ∃ (t p l q m : Addr) (f : Fr) (n : Int), vs = [.ref t, .ref p, .int n] ∧ H t = some (.tup [.ref q, .int n]) ∧ FrAt H q m f ∧ FrAt H p l f ∧ f.Ok ∧ Q (.bl true) H
def sp_law_holds (K : PySem.W.Frag) : Sp := fun vs H Q _ => ∃ (p l s : Addr) (f : Fr) (n : Int), vs = [.ref p, .ref s] ∧ FrAt H p l f ∧ f.Ok ∧ l ≠ s ∧ H s = some (.lst [.int n]) ∧ ∀ H', ExtP s H H' → Q (.bl true) H'
def sp_law (K : PySem.W.Frag) : Sp := fun vs H Q _ => ∃ (a : Addr) (ns : List Int), vs = [.ref a] ∧ Scr K H a (ns.map V.int) ∧ ∀ H', Q (.bl true) H'
theorem law_start {K : PySem.W.Frag} {H : Hp} {a : Addr} {ns : List Int} {E : XK} (hl : ns.length ≤ 63) (hb : ∀ z ∈ ns, Builtin.Int.intBits z ≤ 1048576) (hO : Only H) (hS : SqL K H a (ns.map V.int)) :
    sp_law K [.ref a] H (fun v _ => v = .bl true) E := ⟨a, ns, rfl, .of hO hS, fun _ => rfl⟩
section
variable {K : PySem.W.Frag} {H : Hp} {Q : VK} {E : XK} {n : Int}
theorem c_two (k : ∀ p, H p = none → Q (.ref p) (upd H p (.lst [.int (n / 256), .int (n % 256)]))) : sp_two_octets K [.int n] H Q E := ⟨n, rfl, k⟩
end
end K35
namespace K35
open PySem PySem.Spec PyProof.Rows L2 G
/-! plain mathematics -/
theorem FrAt.ext {H H' : Hp} {p l : Addr} {f : Fr} (h : FrAt H p l f) (e : Ext H H') : FrAt H' p l f := by
  cases f with
  | a w c => exact e _ _ h
  | b w c n => exact e _ _ h
  | o c xs => exact ⟨e _ _ h.1, e _ _ h.2⟩
theorem FrAt.extp {H H' : Hp} {p l s : Addr} {f : Fr} {n : Int} (h : FrAt H p l f) (e : ExtP s H H') (hs : H s = some (.lst [.int n])) (nl : l ≠ s) : FrAt H' p l f := by
  cases f with
  | a w c => exact e _ _ (ne_of' h hs fun z => nomatch z) h
  | b w c n => exact e _ _ (ne_of' h hs fun z => nomatch z) h
  | o c xs => exact ⟨e _ _ (ne_of' h.1 hs fun z => nomatch z) h.1, e _ _ nl h.2⟩
def Fr.d : Fr → PyData
  | .a w c => .tuple [.str w, .int c]
  | .b w c n => .tuple [.str w, .int c, .int n]
  | .o c xs => .tuple [.str "octets", .int c, .list (xs.map PyData.int)]
theorem FrAt.dp {K : PySem.W.Frag} {H : Hp} {p l : Addr} {f : Fr} (h : FrAt H p l f) : Dp K H (.ref p) f.d := by
  cases f with
  | a w c => exact .tup (SqT.of' h) (.cons (.str _) (.cons (.int _) .nil))
  | b w c n => exact .tup (SqT.of' h) (.cons (.str _) (.cons (.int _) (.cons (.int _) .nil)))
  | o c xs => exact .tup (SqT.of' h.1) (.cons (.str _) (.cons (.int _) (.cons (.lst (SqL.of h.2) (dp_ints xs)) .nil)))
theorem ok_str : PyData.strOk "open" = true ∧ PyData.strOk "end" = true ∧ PyData.strOk "permit" = true ∧ PyData.strOk "reset" = true ∧ PyData.strOk "octets" = true := by decide +kernel
theorem d_shaped {f : Fr} (o : f.Ok) : SeqAt.shaped f.d = true := by
  cases f with
  | a w c =>
    unfold SeqAt.shaped Fr.d
    rcases o.1 with rfl | rfl <;> simp [PyData.canLay0, PyData.canLayAll0, PyData.depth, PyData.depthAll, ok_str]
  | b w c n =>
    unfold SeqAt.shaped Fr.d
    rcases o.1 with rfl | rfl <;> simp [PyData.canLay0, PyData.canLayAll0, PyData.depth, PyData.depthAll, ok_str]
  | o c xs =>
    have h := lay_ints xs
    have h2 := depth_ints xs
    unfold SeqAt.shaped Fr.d
    simp only [PyData.canLay0, PyData.canLayAll0, PyData.depth, PyData.depthAll, h, h2]
    decide +kernel
theorem kd_vals : kd "open" = 1 ∧ kd "octets" = 2 ∧ kd "permit" = 3 ∧ kd "end" = 4 ∧ kd "reset" = 5 := by decide +kernel
theorem ws_vals : WS.getD 0 "" = "open" ∧ WS.getD 1 "" = "octets" ∧ WS.getD 2 "" = "permit" ∧ WS.getD 3 "" = "end" ∧ WS.getD 4 "" = "reset" := by decide +kernel
theorem ne_ws : ("octets" : Str) ≠ "open" ∧ ("octets" : Str) ≠ "end" ∧ ("permit" : Str) ≠ "open" ∧ ("permit" : Str) ≠ "end" ∧ ("permit" : Str) ≠ "octets" ∧ ("reset" : Str) ≠ "open" ∧ ("reset" : Str) ≠ "end" ∧ ("reset" : Str) ≠ "octets" := by decide +kernel
theorem code_nn {f : Fr} (o : f.Ok) : ∀ x ∈ f.code, 0 ≤ x := by
  have k := kd_vals
  cases f with
  | a w c =>
    obtain ⟨hw, h0, h1⟩ := o
    intro x hx
    simp only [Fr.code, List.mem_cons, List.not_mem_nil, or_false] at hx
    rcases hw with rfl | rfl <;> rcases hx with rfl | rfl | rfl <;> omega
  | b w c n =>
    obtain ⟨hw, h0, h1, h2, h3⟩ := o
    intro x hx
    simp only [Fr.code, List.mem_cons, List.not_mem_nil, or_false] at hx
    rcases hw with rfl | rfl <;> rcases hx with rfl | rfl | rfl | rfl | rfl <;> omega
  | o c xs =>
    obtain ⟨h0, h1, h2, h3⟩ := o
    intro x hx
    simp only [Fr.code, List.mem_append, List.mem_cons, List.not_mem_nil, or_false] at hx
    rcases hx with (rfl | rfl | rfl | rfl | rfl) | hx
    · omega
    · omega
    · omega
    · omega
    · omega
    · exact h3 x hx
/-- the whole code, and more behind it -/
theorem rd_code {f : Fr} (o : f.Ok) (R : List Int) : rdF (f.code ++ R) = .ok f (f.code.length : Int) := by
  obtain ⟨k1, k2, k3, k4, k5⟩ := kd_vals
  obtain ⟨w1, w2, w3, w4, w5⟩ := ws_vals
  obtain ⟨n1, n2, n3, n4, n5, n6, n7, n8⟩ := ne_ws
  cases f with
  | a w c =>
    obtain ⟨hw, h0, h1⟩ := o
    have ec : c / 256 * 256 + c % 256 = c := by omega
    have key : ∀ k : Int, 1 ≤ k → k ≤ 5 → WS.getD (k - 1).toNat "" = w → rdF ([k, c / 256, c % 256] ++ R) = .ok (.a w c) 3 := by
      intro k h2 h3 hk
      show rdF (k :: c / 256 :: c % 256 :: R) = _
      unfold rdF
      simp only [List.length_cons, List.getD_cons_zero, List.getD_cons_succ]
      rw [if_neg (by omega), if_neg (by omega), hk, if_pos hw, ec]
    rcases hw with rfl | rfl
    · have := key (kd "open") (by omega) (by omega) (by rw [k1]; exact w1)
      exact this
    · have := key (kd "end") (by omega) (by omega) (by rw [k4]; exact w4)
      exact this
  | b w c n =>
    obtain ⟨hw, h0, h1, h2, h3⟩ := o
    have ec : c / 256 * 256 + c % 256 = c := by omega
    have en : n / 256 * 256 + n % 256 = n := by omega
    have key : ∀ k : Int, 1 ≤ k → k ≤ 5 → WS.getD (k - 1).toNat "" = w → rdF ([k, c / 256, c % 256, n / 256, n % 256] ++ R) = .ok (.b w c n) 5 := by
      intro k h2 h3 hk
      show rdF (k :: c / 256 :: c % 256 :: n / 256 :: n % 256 :: R) = _
      unfold rdF
      simp only [List.length_cons, List.getD_cons_zero, List.getD_cons_succ]
      rw [if_neg (by omega), if_neg (by omega), hk, if_neg (by rcases hw with rfl | rfl <;> simp [n3, n4, n6, n7]), if_neg (by omega), if_pos (by rcases hw with rfl | rfl <;> simp [n5, n8]), ec, en]
    rcases hw with rfl | rfl
    · have := key (kd "permit") (by omega) (by omega) (by rw [k3]; exact w3)
      exact this
    · have := key (kd "reset") (by omega) (by omega) (by rw [k5]; exact w5)
      exact this
  | o c xs =>
    obtain ⟨h0, h1, h2, h3⟩ := o
    have ec : c / 256 * 256 + c % 256 = c := by omega
    have en : (xs.length : Int) / 256 * 256 + (xs.length : Int) % 256 = (xs.length : Int) := by omega
    show rdF (2 :: c / 256 :: c % 256 :: (xs.length : Int) / 256 :: (xs.length : Int) % 256 :: (xs ++ R)) = _
    have hk : WS.getD ((2 : Int) - 1).toNat "" = "octets" := w2
    unfold rdF
    simp only [List.length_cons, List.getD_cons_zero, List.getD_cons_succ]
    rw [if_neg (by omega), if_neg (by omega), hk, if_neg (by simp [n1, n2]), if_neg (by omega), if_neg (by simp), en, ec, if_neg (by rw [List.length_append]; omega)]
    have e5 : (2 :: c / 256 :: c % 256 :: (xs.length : Int) / 256 :: (xs.length : Int) % 256 :: (xs ++ R)).drop 5 = xs ++ R := rfl
    rw [e5, Int.toNat_natCast, List.take_left]
    have e6 : (5 : Int) + (xs.length : Int) = ((Fr.o c xs).code.length : Int) := by
      show _ = (([2, c / 256, c % 256, (xs.length : Int) / 256, (xs.length : Int) % 256] ++ xs).length : Int)
      rw [List.length_append]
      show _ = ((5 + xs.length : Nat) : Int)
      omega
    rw [e6]
/-- a proper beginning -/
theorem rd_short {f : Fr} (o : f.Ok) {k : Nat} (h : k < f.code.length) : rdF (f.code.take k) = .none := by
  obtain ⟨k1, k2, k3, k4, k5⟩ := kd_vals
  obtain ⟨w1, w2, w3, w4, w5⟩ := ws_vals
  obtain ⟨n1, n2, n3, n4, n5, n6, n7, n8⟩ := ne_ws
  have hl : (f.code.take k).length = k := by rw [List.length_take]; omega
  by_cases h3 : k < 3
  · unfold rdF
    rw [hl, if_pos h3]
  cases f with
  | a w c =>
    have : k < 3 := h
    exact absurd this h3
  | b w c n =>
    obtain ⟨hw, h0, h1, h2, h3'⟩ := o
    have h5 : k < 5 := h
    obtain ⟨R, hR⟩ : ∃ R, (Fr.b w c n).code.take k = kd w :: c / 256 :: c % 256 :: R := by
      have : k = 3 ∨ k = 4 := by omega
      rcases this with rfl | rfl
      · exact ⟨_, rfl⟩
      · exact ⟨_, rfl⟩
    rw [hR] at hl ⊢
    unfold rdF
    rw [hl]
    simp only [List.getD_cons_zero, List.getD_cons_succ]
    rw [if_neg h3]
    rcases hw with rfl | rfl
    · have hk : WS.getD (kd "permit" - 1).toNat "" = "permit" := by rw [k3]; exact w3
      rw [if_neg (by omega), hk, if_neg (by simp [n3, n4]), if_pos h5]
    · have hk : WS.getD (kd "reset" - 1).toNat "" = "reset" := by rw [k5]; exact w5
      rw [if_neg (by omega), hk, if_neg (by simp [n6, n7]), if_pos h5]
  | o c xs =>
    obtain ⟨h0, h1, h2, h3'⟩ := o
    have hk : WS.getD ((2 : Int) - 1).toNat "" = "octets" := w2
    have hlen : (Fr.o c xs).code.length = 5 + xs.length := by
      show ([2, c / 256, c % 256, (xs.length : Int) / 256, (xs.length : Int) % 256] ++ xs).length = _
      rw [List.length_append]
      rfl
    by_cases h5 : k < 5
    · obtain ⟨R, hR⟩ : ∃ R, (Fr.o c xs).code.take k = 2 :: c / 256 :: c % 256 :: R := by
        have : k = 3 ∨ k = 4 := by omega
        rcases this with rfl | rfl
        · exact ⟨_, rfl⟩
        · exact ⟨_, rfl⟩
      rw [hR] at hl ⊢
      unfold rdF
      rw [hl]
      simp only [List.getD_cons_zero, List.getD_cons_succ]
      rw [if_neg h3, if_neg (by omega), hk, if_neg (by simp [n1, n2]), if_pos h5]
    · obtain ⟨j, rfl⟩ : ∃ j, k = j + 5 := ⟨k - 5, by omega⟩
      have hR : (Fr.o c xs).code.take (j + 5) = 2 :: c / 256 :: c % 256 :: (xs.length : Int) / 256 :: (xs.length : Int) % 256 :: xs.take j := rfl
      have en : (xs.length : Int) / 256 * 256 + (xs.length : Int) % 256 = (xs.length : Int) := by omega
      rw [hR] at hl ⊢
      unfold rdF
      rw [hl]
      simp only [List.getD_cons_zero, List.getD_cons_succ]
      rw [if_neg h3, if_neg (by omega), hk, if_neg (by simp [n1, n2]), if_neg h5, if_neg (by simp), en, if_pos (by omega)]
/-- a first octet that is no kind -/
theorem rd_bad {b : Int} {R : List Int} (h : b < 1 ∨ 5 < b) (hl : 2 ≤ R.length) : rdF (b :: R) = .bad := by
  unfold rdF
  rw [List.length_cons, if_neg (by omega), if_pos (by simp only [List.getD_cons_zero]; omega)]
theorem rd_few {L : List Int} (h : L.length < 3) : rdF L = .none := by
  unfold rdF
  rw [if_pos h]
end K35

namespace K35
open PySem PySem.Spec PyProof.Rows L2 G

/-- two_octets -/
def t_two_octets (K : PySem.W.Frag) (E : XK) : TS :=
  (tRet (tLst (tCons (tOp gDiv (tVar 0) (tC (.int 256))) (tCons (tOp gMod (tVar 0) (tC (.int 256))) tNil))))

/-- write_frame -/
def t_write_frame (K : PySem.W.Frag) (E : XK) : TS :=
  (tSeq (tAsg (tOp rCat (tLst (tCons (tOp gAdd (tBM K "tuple" (rTIdxS K) (tC (.ref (He.ga K "WORDS"))) (tCons (tOp (rIxT K) (tVar 0) (tC (.int 0))) tNil)) (tC (.int 1))) tNil)) (tCallS (sp_two_octets K) (WE (wB E)) (tCons (tOp (rIxT K) (tVar 0) (tC (.int 1))) tNil))) (gName 1))
  (tSeq (tIfS (tTest (tOp rEq (tOp (rIxT K) (tVar 0) (tC (.int 0))) (tC (.str "octets"))))
  (tRet (tOp rCat (tOp rCat (tVar 1) (tCallS (sp_two_octets K) (WE (wB E)) (tCons (tCB (gLen K) (tCons (tOp (rIxT K) (tVar 0) (tC (.int 2))) tNil)) tNil))) (tCB (gListOf K) (tCons (tOp (rIxT K) (tVar 0) (tC (.int 2))) tNil))))
  tNext)
  (tSeq (tIfS (tTest (tOp gGt (tCB (gLen K) (tCons (tVar 0) tNil)) (tC (.int 2))))
  (tRet (tOp rCat (tVar 1) (tCallS (sp_two_octets K) (WE (wB E)) (tCons (tOp (rIxT K) (tVar 0) (tC (.int 2))) tNil))))
  tNext)
  (tRet (tVar 1)))))

/-- first_frame -/
def t_first_frame (K : PySem.W.Frag) (E : XK) : TS :=
  (tSeq (tIfS (tTest (tOp gLt (tCB (gLen K) (tCons (tVar 0) tNil)) (tC (.int 3))))
  (tRet (tC .non))
  tNext)
  (tSeq (tIfS (tNot (tTest (tChain gLe gLe (tC (.int 1)) (tOp (rIxL K) (tVar 0) (tC (.int 0))) (tCB (gLen K) (tCons (tC (.ref (He.ga K "WORDS"))) tNil)))))
  (tRs (He.ga K "InvalidFrame") (wB E))
  tNext)
  (tSeq (tAsg (tOp (rIxT K) (tC (.ref (He.ga K "WORDS"))) (tOp gMinus (tOp (rIxL K) (tVar 0) (tC (.int 0))) (tC (.int 1)))) (gName 1))
  (tSeq (tAsg (tOp gAdd (tOp gMul (tOp (rIxL K) (tVar 0) (tC (.int 1))) (tC (.int 256))) (tOp (rIxL K) (tVar 0) (tC (.int 2)))) (gName 2))
  (tSeq (tIfS (tOr (tTest (tOp rEq (tVar 1) (tC (.str "open")))) (tTest (tOp rEq (tVar 1) (tC (.str "end")))))
  (tRet (tTup (tCons (tTup (tCons (tVar 1) (tCons (tVar 2) tNil))) (tCons (tC (.int 3)) tNil))))
  tNext)
  (tSeq (tIfS (tTest (tOp gLt (tCB (gLen K) (tCons (tVar 0) tNil)) (tC (.int 5))))
  (tRet (tC .non))
  tNext)
  (tSeq (tAsg (tOp gAdd (tOp gMul (tOp (rIxL K) (tVar 0) (tC (.int 3))) (tC (.int 256))) (tOp (rIxL K) (tVar 0) (tC (.int 4)))) (gName 3))
  (tSeq (tIfS (tTest (tOp rNe (tVar 1) (tC (.str "octets"))))
  (tRet (tTup (tCons (tTup (tCons (tVar 1) (tCons (tVar 2) (tCons (tVar 3) tNil)))) (tCons (tC (.int 5)) tNil))))
  tNext)
  (tSeq (tIfS (tTest (tOp gLt (tCB (gLen K) (tCons (tVar 0) tNil)) (tOp gAdd (tC (.int 5)) (tVar 3))))
  (tRet (tC .non))
  tNext)
  (tRet (tTup (tCons (tTup (tCons (tVar 1) (tCons (tVar 2) (tCons (tSl (rSlL K) (tVar 0) (tPart (tC (.int 5))) (tPart (tOp gAdd (tC (.int 5)) (tVar 3)))) tNil)))) (tCons (tOp gAdd (tC (.int 5)) (tVar 3)) tNil)))))))))))))

/-- _law_cell -/
def t_law_cell (K : PySem.W.Frag) (E : XK) : TS :=
  (tSeq (tIfS (tTest (tOp gLt (tVar 1) (tCB (gLen K) (tCons (tVar 0) tNil))))
  (tRet (tOp (rIxL K) (tVar 0) (tVar 1)))
  tNext)
  (tRet (tC (.int 0))))

/-- _law_is_integer -/
def t_law_is_integer (K : PySem.W.Frag) (E : XK) : TS :=
  (tRet (tAndV (tCB (rIsi K) (tCons (tVar 0) (tCons (tC (.ty "int")) tNil))) (tNotV (tCB (rIsi K) (tCons (tVar 0) (tCons (tC (.ty "bool")) tNil))))))

/-- _law_start -/
def t_law_start (K : PySem.W.Frag) (E : XK) : TS :=
  (tSeq (tAsg (tC (.int 618970019642690137449562111)) (gName 2))
  (tSeq (tIfS (tTest (tChain gLt gLt (tUn gNeg (tC (.int 1000000000000000000))) (tVar 0) (tC (.int 1000000000000000000))))
  (tSeq (tAsg (tOp gMod (tCB gInt1 (tCons (tOp gAdd (tOp gMul (tVar 0) (tC (.int 2654435761))) (tOp gMul (tOp gAdd (tVar 1) (tC (.int 1))) (tC (.int 6700417)))) tNil)) (tVar 2)) (gName 3))
  (tSeq (tAsg (tC (.int 0)) (gName 4))
  (tSeq (tFor (iRng1 (tCons (tC (.int 4)) tNil)) (gName 5)
  (tSeq (tAsg (tOp gMod (tCB gInt1 (tCons (tOp gAdd (tOp gAdd (tOp gAdd (tOp gMulW (tVar 3) (tVar 3)) (tOp gMul (tC (.int 7)) (tVar 3))) (tVar 1)) (tVar 5)) tNil)) (tVar 2)) (gName 3))
  (tAsg (tOp gAdd (tOp gMulW (tVar 4) (tVar 2)) (tVar 3)) (gName 4))))
  (tRet (tLst (tCons (tVar 4) tNil))))))
  tNext)
  (tRet (tLst (tCons (tVar 0) tNil)))))

/-- _law_digit -/
def t_law_digit (K : PySem.W.Frag) (E : XK) : TS :=
  (tSeq (tAsg (tOp gMod (tCB gInt1 (tCons (tOp (rIxL K) (tVar 0) (tC (.int 0))) tNil)) (tVar 1)) (gName 2))
  (tSeq (tAsg (tOp gDivW (tOp (rIxL K) (tVar 0) (tC (.int 0))) (tVar 1)) (gSub (tVar 0) (tC (.int 0)) rSetL))
  (tRet (tVar 2))))

/-- _law_frame -/
def t_law_frame (K : PySem.W.Frag) (E : XK) : TS :=
  (tSeq (tAsg (tOp (rIxT K) (tTup (tCons (tC (.str "open")) (tCons (tC (.str "octets")) (tCons (tC (.str "permit")) (tCons (tC (.str "end")) (tCons (tC (.str "reset")) tNil)))))) (tCallS (sp_law_digit K) (WE (wB E)) (tCons (tVar 0) (tCons (tC (.int 5)) tNil)))) (gName 2))
  (tSeq (tAsg (tCallS (sp_law_digit K) (WE (wB E)) (tCons (tVar 0) (tCons (tC (.int 65536)) tNil))) (gName 3))
  (tSeq (tIfS (tTest (tOp rEq (tVar 2) (tC (.str "octets"))))
  (tSeq (tAsg (tCallS (sp_law_digit K) (WE (wB E)) (tCons (tVar 0) (tCons (tVar 1) tNil))) (gName 4))
  (tSeq (tAsg (tCallS (sp_law_digit K) (WE (wB E)) (tCons (tVar 0) (tCons (tC (.int 256)) tNil))) (gName 5))
  (tRet (tTup (tCons (tVar 2) (tCons (tVar 3) (tCons (tLc (iRng1 (tCons (tVar 4) tNil)) (gName 6) tYes (tOp gMod (tCB gInt1 (tCons (tOp gAdd (tOp gAdd (tVar 5) (tOp gMul (tC (.int 7)) (tVar 6))) (tOp gDiv (tVar 6) (tC (.int 5)))) tNil)) (tC (.int 256))) [6]) tNil)))))))
  tNext)
  (tSeq (tIfS (tTest (tOp (rIn K false) (tVar 2) (tTup (tCons (tC (.str "permit")) (tCons (tC (.str "reset")) tNil)))))
  (tRet (tTup (tCons (tVar 2) (tCons (tVar 3) (tCons (tCallS (sp_law_digit K) (WE (wB E)) (tCons (tVar 0) (tCons (tC (.int 65536)) tNil))) tNil)))))
  tNext)
  (tRet (tTup (tCons (tVar 2) (tCons (tVar 3) tNil))))))))

/-- _law_octets -/
def t_law_octets (K : PySem.W.Frag) (E : XK) : TS :=
  (tSeq (tAsg (gDGet (tDisp [((tC (.str "open")), (tC (.int 1))), ((tC (.str "octets")), (tC (.int 2))), ((tC (.str "permit")), (tC (.int 3))), ((tC (.str "end")), (tC (.int 4))), ((tC (.str "reset")), (tC (.int 5)))]) (tOp (rIxT K) (tVar 0) (tC (.int 0)))) (gName 1))
  (tSeq (tAsg (tLst (tCons (tVar 1) (tCons (tOp gDiv (tOp (rIxT K) (tVar 0) (tC (.int 1))) (tC (.int 256))) (tCons (tOp gMod (tCB gInt1 (tCons (tOp (rIxT K) (tVar 0) (tC (.int 1))) tNil)) (tC (.int 256))) tNil)))) (gName 2))
  (tSeq (tIfS (tTest (tOp rEq (tOp (rIxT K) (tVar 0) (tC (.int 0))) (tC (.str "octets"))))
  (tRet (tOp rCat (tOp rCat (tVar 2) (tLst (tCons (tOp gDiv (tCB (gLen K) (tCons (tOp (rIxT K) (tVar 0) (tC (.int 2))) tNil)) (tC (.int 256))) (tCons (tOp gMod (tCB gInt1 (tCons (tCB (gLen K) (tCons (tOp (rIxT K) (tVar 0) (tC (.int 2))) tNil)) tNil)) (tC (.int 256))) tNil)))) (tOp (rIxT K) (tVar 0) (tC (.int 2)))))
  tNext)
  (tSeq (tIfS (tTest (tOp gGt (tCB (gLen K) (tCons (tVar 0) tNil)) (tC (.int 2))))
  (tRet (tOp rCat (tVar 2) (tLst (tCons (tOp gDiv (tOp (rIxT K) (tVar 0) (tC (.int 2))) (tC (.int 256))) (tCons (tOp gMod (tCB gInt1 (tCons (tOp (rIxT K) (tVar 0) (tC (.int 2))) tNil)) (tC (.int 256))) tNil)))))
  tNext)
  (tRet (tVar 2))))))

/-- _law_copy -/
def t_law_copy (K : PySem.W.Frag) (E : XK) : TS :=
  (tRet (tCB (gTupOf K) (tCons (tLc (iTup K (tVar 0)) (gName 1) tYes (tIf (tB (tCB (rIsi K) (tCons (tVar 1) (tCons (tC (.ty "list")) tNil)))) (tCB (gListOf K) (tCons (tVar 1) tNil)) (tVar 1)) [1]) tNil)))

/-- _law_same_octets -/
def t_law_same_octets (K : PySem.W.Frag) (E : XK) : TS :=
  (tSeq (tIfS (tOr (tNot (tB (tCB (rIsi K) (tCons (tVar 0) (tCons (tC (.ty "list")) tNil))))) (tTest (tOp rNe (tCB (gLen K) (tCons (tVar 0) tNil)) (tCB (gLen K) (tCons (tVar 1) tNil)))))
  (tRet (tC (.bl false)))
  tNext)
  (tSeq (tFor (iRng1 (tCons (tCB (gLen K) (tCons (tVar 1) tNil)) tNil)) (gName 2)
  (tIfS (tOr (tNot (tB (tCallS (sp_law_is_integer K) (WE (wB E)) (tCons (tOp (rIxL K) (tVar 0) (tVar 2)) tNil)))) (tTest (tOp rNe (tOp (rIxL K) (tVar 0) (tVar 2)) (tOp (rIxL K) (tVar 1) (tVar 2)))))
  (tRet (tC (.bl false)))
  tNext))
  (tRet (tC (.bl true)))))

/-- _law_read -/
def t_law_read (K : PySem.W.Frag) (E : XK) : TS :=
  (tSeq (tAsg (tCB (gListOf K) (tCons (tVar 0) tNil)) (gName 1))
  (tSeq (fun D σ H => (fun W1 : WX => (tAsg (tCallS (sp_first_frame K) (WE W1) (tCons (tVar 1) tNil)) (gName 2))) (wAs K (.ref (He.ga K "InvalidFrame")) 3 (fun (aX : Addr) (clX : Value) (dX : Option Addr) => (tSeq (tIfS (tAnd (tB (tCB (rIsX K aX clX dX) (tCons (tVar 3) (tCons (tC (.ref (He.ga K "ThroughwayError"))) tNil)))) (tNot (tB (tCB (rIsX K aX clX dX) (tCons (tVar 3) (tCons (tC (.ref (He.ga K "InvalidAmount"))) tNil))))))
  (tRet (tC (.str "invalid")))
  tNext)
  (tRet (tC (.str "wrong"))))) (wB E) D) D σ H)
  (tSeq (tIfS (tTest (tOp (rNeD K) (tVar 1) (tVar 0)))
  (tRet (tC (.str "changed")))
  tNext)
  (tRet (tVar 2)))))

/-- _law_same -/
def t_law_same (K : PySem.W.Frag) (E : XK) : TS :=
  (tSeq (tIfS (tOr (tNot (tB (tCB (rIsi K) (tCons (tVar 0) (tCons (tC (.ty "tuple")) tNil))))) (tOr (tTest (tOp rNe (tCB (gLen K) (tCons (tVar 0) tNil)) (tC (.int 2)))) (tNot (tB (tCB (rIsi K) (tCons (tOp (rIxT K) (tVar 0) (tC (.int 0))) (tCons (tC (.ty "tuple")) tNil)))))))
  (tRet (tC (.bl false)))
  tNext)
  (tSeq (tIfS (tOr (tTest (tOp (rNeD K) (tOp (rIxT K) (tVar 0) (tC (.int 0))) (tVar 1))) (tOr (tNot (tB (tCallS (sp_law_is_integer K) (WE (wB E)) (tCons (tOp (rIxT K) (tOp (rIxT K) (tVar 0) (tC (.int 0))) (tC (.int 1))) tNil)))) (tNot (tB (tCallS (sp_law_is_integer K) (WE (wB E)) (tCons (tOp (rIxT K) (tVar 0) (tC (.int 1))) tNil))))))
  (tRet (tC (.bl false)))
  tNext)
  (tSeq (tIfS (tAnd (tTest (tOp rEq (tOp (rIxT K) (tVar 1) (tC (.int 0))) (tC (.str "octets")))) (tNot (tB (tCallS (sp_law_same_octets K) (WE (wB E)) (tCons (tOp (rIxT K) (tOp (rIxT K) (tVar 0) (tC (.int 0))) (tC (.int 2))) (tCons (tOp (rIxT K) (tVar 1) (tC (.int 2))) tNil))))))
  (tRet (tC (.bl false)))
  tNext)
  (tRet (tOp rEq (tOp (rIxT K) (tVar 0) (tC (.int 1))) (tVar 2))))))

/-- _law_holds -/
def t_law_holds (K : PySem.W.Frag) (E : XK) : TS :=
  (tSeq (tAsg (tCallS (sp_law_octets K) (WE (wB E)) (tCons (tVar 0) tNil)) (gName 2))
  (tSeq (tAsg (tCallS (sp_law_copy K) (WE (wB E)) (tCons (tVar 0) tNil)) (gName 3))
  (tSeq (tIfS (tOr (tNot (tB (tCallS (sp_law_same_octets K) (WE (wB E)) (tCons (tCallS (sp_write_frame K) (WE (wB E)) (tCons (tVar 3) tNil)) (tCons (tVar 2) tNil))))) (tTest (tOp (rNeD K) (tVar 3) (tVar 0))))
  (tRet (tC (.bl false)))
  tNext)
  (tSeq (tAsg (tLc (iRng1 (tCons (tCallS (sp_law_digit K) (WE (wB E)) (tCons (tVar 1) (tCons (tC (.int 10)) tNil))) tNil)) (gName 5) tYes (tCallS (sp_law_digit K) (fun _ => E0) (tCons (tVar 1) (tCons (tC (.int 256)) tNil))) [5]) (gName 4))
  (tSeq (tIfS (tNot (tB (tCallS (sp_law_same K) (WE (wB E)) (tCons (tCallS (sp_law_read K) (WE (wB E)) (tCons (tOp rCat (tVar 2) (tVar 4)) tNil)) (tCons (tVar 0) (tCons (tCB (gLen K) (tCons (tVar 2) tNil)) tNil))))))
  (tRet (tC (.bl false)))
  tNext)
  (tSeq (tFor (iRng1 (tCons (tCB (gLen K) (tCons (tVar 2) tNil)) tNil)) (gName 5)
  (tIfS (tTest (tOp rNotN (tCallS (sp_law_read K) (WE (wB E)) (tCons (tSl (rSlL K) (tVar 2) tNoPart (tPart (tVar 5))) tNil)) (tC .non)))
  (tRet (tC (.bl false)))
  tNext))
  (tSeq (tAsg (tOp rCat (tOp rCat (tLst (tCons (tOp (rIxT K) (tTup (tCons (tC (.int 0)) (tCons (tC (.int 6)) (tCons (tC (.int 255)) (tCons (tOp gAdd (tC (.int 6)) (tCallS (sp_law_digit K) (WE (wB E)) (tCons (tVar 1) (tCons (tC (.int 250)) tNil)))) tNil))))) (tCallS (sp_law_digit K) (WE (wB E)) (tCons (tVar 1) (tCons (tC (.int 4)) tNil)))) tNil)) (tSl (rSlL K) (tVar 2) (tPart (tC (.int 1))) tNoPart)) (tVar 4)) (gName 6))
  (tSeq (tFor (iRng1 (tCons (tOp gAdd (tCB gMin2 (tCons (tCB (gLen K) (tCons (tVar 6) tNil)) (tCons (tC (.int 8)) tNil))) (tC (.int 1))) tNil)) (gName 5)
  (tSeq (tIfS (tAnd (tTest (tOp gLt (tVar 5) (tC (.int 3)))) (tTest (tOp rNotN (tCallS (sp_law_read K) (WE (wB E)) (tCons (tSl (rSlL K) (tVar 6) tNoPart (tPart (tVar 5))) tNil)) (tC .non))))
  (tRet (tC (.bl false)))
  tNext)
  (tIfS (tAnd (tTest (tOp gGe (tVar 5) (tC (.int 3)))) (tTest (tOp rNe (tCallS (sp_law_read K) (WE (wB E)) (tCons (tSl (rSlL K) (tVar 6) tNoPart (tPart (tVar 5))) tNil)) (tC (.str "invalid")))))
  (tRet (tC (.bl false)))
  tNext)))
  (tRet (tOp rEq (tCallS (sp_law_read K) (WE (wB E)) (tCons (tVar 6) tNil)) (tC (.str "invalid"))))))))))))

/-- law -/
def t_law (K : PySem.W.Frag) (E : XK) : TS :=
  (tSeq (tAsg (tC (.int 13)) (gName 1))
  (Evl.tCut (tIfS (tTest (tOp rEq (tOp gMod (tCB gInt1 (tCons (tCallS (sp_law_cell K) (WE (wB E)) (tCons (tVar 0) (tCons (tC (.int 0)) tNil))) tNil)) (tC (.int 4))) (tC (.int 1))))
  (tAsg (tC (.int 701)) (gName 1))
  tNext)
  (tSeq (tFor (iRng1 (tCons (tCB gMin2 (tCons (tC (.int 6)) (tCons (tCB gMax2 (tCons (tC (.int 1)) (tCons (tOp gMinus (tCB (gLen K) (tCons (tVar 0) tNil)) (tC (.int 1))) tNil))) tNil))) tNil)) (gName 2)
  (tSeq (tAsg (tCallS (sp_law_start K) (WE (wB E)) (tCons (tCallS (sp_law_cell K) (WE (wB E)) (tCons (tVar 0) (tCons (tOp gAdd (tC (.int 1)) (tVar 2)) tNil))) (tCons (tVar 2) tNil))) (gName 3))
  (tIfS (tNot (tB (tCallS (sp_law_holds K) (WE (wB E)) (tCons (tCallS (sp_law_frame K) (WE (wB E)) (tCons (tVar 3) (tCons (tVar 1) tNil))) (tCons (tVar 3) tNil)))))
  (tRet (tC (.bl false)))
  tNext)))
  (tRet (tC (.bl true))))))

end K35

namespace K35
open PySem PySem.Spec PyProof.Rows L2 G
section
variable {P : Program} {w : World} {K : PySem.W.Frag} {mg : Str → Option Value} {base : Heap}

theorem d_two_octets (T : TX K mg base)  {cdv : Value} {A : Around} {outer : List Env} {s : Shared} {H : Hp} {E : XK} (hr : Room 0 (A.deeper (envOfC "two_octets" (defScope s_two_octets) s.heap.objs.size (He.ga K "two_octets") cdv))) :
    PSs (cxOf (L2.CX P w) P w K mg base N_two_octets "two_octets" (defScope s_two_octets) (He.ga K "two_octets") cdv A outer s H E) (defBody s_two_octets) (t_two_octets K E) := by
  have tk : Takes (cxOf (L2.CX P w) P w K mg base N_two_octets "two_octets" (defScope s_two_octets) (He.ga K "two_octets") cdv A outer s H E) (wB E) := takes_of rfl rfl rfl rfl
  exact (pss_one (ps_ret (pe_lst (pa_cons (pe_op op_fdiv (pv 0) pe_int) (pa_cons (pe_op op_mod (pv 0) pe_int) pa_nil)))))

theorem d_write_frame (T : TX K mg base) (h_two_octets : Has P w K mg base 1 "two_octets" P_two_octets (sp_two_octets K)) {cdv : Value} {A : Around} {outer : List Env} {s : Shared} {H : Hp} {E : XK} (hr : Room 1 (A.deeper (envOfC "write_frame" (defScope s_write_frame) s.heap.objs.size (He.ga K "write_frame") cdv))) :
    PSs (cxOf (L2.CX P w) P w K mg base N_write_frame "write_frame" (defScope s_write_frame) (He.ga K "write_frame") cdv A outer s H E) (defBody s_write_frame) (t_write_frame K E) := by
  have tk : Takes (cxOf (L2.CX P w) P w K mg base N_write_frame "write_frame" (defScope s_write_frame) (He.ga K "write_frame") cdv A outer s H E) (wB E) := takes_of rfl rfl rfl rfl
  exact (pss_cons (ps_set (i := 1) sc_write_frame.nd rfl (Or.inl rfl) (pe_op op_cat (pe_lst (pa_cons (pe_op op_add (pe_bm PySem.F.plainAttrs_tuple PySem.F.slot_tuple_index PySem.F.type_tuple_index mt_tindexS (pe_gref rfl (T.glo 1)) (pa_cons (pe_ix ix_tup (pv 0) pe_int (fun _ _ => rfl)) pa_nil)) pe_int) pa_nil)) (pe_h h_two_octets (hr.mono (by decide)) rfl (fun σ => passAt tk σ) (pa_cons (pe_ix ix_tup (pv 0) pe_int (fun _ _ => rfl)) pa_nil))))
  (pss_cons (ps_if (pt_cmpR op_eq (pe_ix ix_tup (pv 0) pe_int (fun _ _ => rfl)) pe_str (nomark _))
  (pss_one (ps_ret (pe_op op_cat (pe_op op_cat (pv 1) (pe_h h_two_octets (hr.mono (by decide)) rfl (fun σ => passAt tk σ) (pa_cons (pe_callB call_len (by rfl) (T.free 2) PySem.boot_len (pa_cons (pe_ix ix_tup (pv 0) pe_int (fun _ _ => rfl)) pa_nil)) pa_nil))) (pe_callTy call_list_of (by rfl) (T.free 3) (by decide +kernel) (pa_cons (pe_ix ix_tup (pv 0) pe_int (fun _ _ => rfl)) pa_nil)))))
  pss_nil)
  (pss_cons (ps_if (pt_cmpR op_gt (pe_callB call_len (by rfl) (T.free 2) PySem.boot_len (pa_cons (pv 0) pa_nil)) pe_int (nomark _))
  (pss_one (ps_ret (pe_op op_cat (pv 1) (pe_h h_two_octets (hr.mono (by decide)) rfl (fun σ => passAt tk σ) (pa_cons (pe_ix ix_tup (pv 0) pe_int (fun _ _ => rfl)) pa_nil)))))
  pss_nil)
  (pss_one (ps_ret (pv 1))))))

theorem d_first_frame (T : TX K mg base)  {cdv : Value} {A : Around} {outer : List Env} {s : Shared} {H : Hp} {E : XK} (hr : Room 0 (A.deeper (envOfC "first_frame" (defScope s_first_frame) s.heap.objs.size (He.ga K "first_frame") cdv))) :
    PSs (cxOf (L2.CX P w) P w K mg base N_first_frame "first_frame" (defScope s_first_frame) (He.ga K "first_frame") cdv A outer s H E) (defBody s_first_frame) (t_first_frame K E) := by
  have tk : Takes (cxOf (L2.CX P w) P w K mg base N_first_frame "first_frame" (defScope s_first_frame) (He.ga K "first_frame") cdv A outer s H E) (wB E) := takes_of rfl rfl rfl rfl
  exact (pss_cons (ps_if (pt_cmpR op_lt (pe_callB call_len (by rfl) (T.free 2) PySem.boot_len (pa_cons (pv 0) pa_nil)) pe_int (nomark _))
  (pss_one (ps_ret pe_non))
  pss_nil)
  (pss_cons (ps_if (pt_not (pt_chain op_le op_le pe_int (pe_ix ix_list (pv 0) pe_int (fun _ _ => rfl)) (pe_callB call_len (by rfl) (T.free 2) PySem.boot_len (pa_cons (pe_gref rfl (T.glo 1)) pa_nil))))
  (pss_one (ps_rs rfl tk (T.exc 4 5) rfl))
  pss_nil)
  (pss_cons (ps_set (i := 1) sc_first_frame.nd rfl (Or.inl rfl) (pe_ix ix_tup (pe_gref rfl (T.glo 1)) (pe_op op_sub (pe_ix ix_list (pv 0) pe_int (fun _ _ => rfl)) pe_int) (fun _ _ => rfl)))
  (pss_cons (ps_set (i := 2) sc_first_frame.nd rfl (Or.inl rfl) (pe_op op_add (pe_op op_mul (pe_ix ix_list (pv 0) pe_int (fun _ _ => rfl)) pe_int) (pe_ix ix_list (pv 0) pe_int (fun _ _ => rfl))))
  (pss_cons (ps_if (PW.pt (pw_or (pt_cmpR op_eq (pv 1) pe_str (nomark _)) (pw_or1 (pt_cmpR op_eq (pv 1) pe_str (nomark _)))))
  (pss_one (ps_ret (pe_tup (pa_cons (pe_tup (pa_cons (pv 1) (pa_cons (pv 2) pa_nil))) (pa_cons pe_int pa_nil)))))
  pss_nil)
  (pss_cons (ps_if (pt_cmpR op_lt (pe_callB call_len (by rfl) (T.free 2) PySem.boot_len (pa_cons (pv 0) pa_nil)) pe_int (nomark _))
  (pss_one (ps_ret pe_non))
  pss_nil)
  (pss_cons (ps_set (i := 3) sc_first_frame.nd rfl (Or.inl rfl) (pe_op op_add (pe_op op_mul (pe_ix ix_list (pv 0) pe_int (fun _ _ => rfl)) pe_int) (pe_ix ix_list (pv 0) pe_int (fun _ _ => rfl))))
  (pss_cons (ps_if (pt_cmpR op_ne (pv 1) pe_str (nomark _))
  (pss_one (ps_ret (pe_tup (pa_cons (pe_tup (pa_cons (pv 1) (pa_cons (pv 2) (pa_cons (pv 3) pa_nil)))) (pa_cons pe_int pa_nil)))))
  pss_nil)
  (pss_cons (ps_if (pt_cmpR op_lt (pe_callB call_len (by rfl) (T.free 2) PySem.boot_len (pa_cons (pv 0) pa_nil)) (pe_op op_add pe_int (pv 3)) (nomark _))
  (pss_one (ps_ret pe_non))
  pss_nil)
  (pss_one (ps_ret (pe_tup (pa_cons (pe_tup (pa_cons (pv 1) (pa_cons (pv 2) (pa_cons (pe_slice sl_list (pv 0) (po_some pe_int) (po_some (pe_op op_add pe_int (pv 3)))) pa_nil)))) (pa_cons (pe_op op_add pe_int (pv 3)) pa_nil))))))))))))))

theorem d_law_cell (T : TX K mg base)  {cdv : Value} {A : Around} {outer : List Env} {s : Shared} {H : Hp} {E : XK} (hr : Room 0 (A.deeper (envOfC "_law_cell" (defScope s_law_cell) s.heap.objs.size (He.ga K "_law_cell") cdv))) :
    PSs (cxOf (L2.CX P w) P w K mg base N_law_cell "_law_cell" (defScope s_law_cell) (He.ga K "_law_cell") cdv A outer s H E) (defBody s_law_cell) (t_law_cell K E) := by
  have tk : Takes (cxOf (L2.CX P w) P w K mg base N_law_cell "_law_cell" (defScope s_law_cell) (He.ga K "_law_cell") cdv A outer s H E) (wB E) := takes_of rfl rfl rfl rfl
  exact (pss_cons (ps_if (pt_cmpR op_lt (pv 1) (pe_callB call_len (by rfl) (T.free 2) PySem.boot_len (pa_cons (pv 0) pa_nil)) (nomark _))
  (pss_one (ps_ret (pe_ix ix_list (pv 0) (pv 1) (fun _ _ => rfl))))
  pss_nil)
  (pss_one (ps_ret pe_int)))

theorem d_law_is_integer (T : TX K mg base)  {cdv : Value} {A : Around} {outer : List Env} {s : Shared} {H : Hp} {E : XK} (hr : Room 0 (A.deeper (envOfC "_law_is_integer" (defScope s_law_is_integer) s.heap.objs.size (He.ga K "_law_is_integer") cdv))) :
    PSs (cxOf (L2.CX P w) P w K mg base N_law_is_integer "_law_is_integer" (defScope s_law_is_integer) (He.ga K "_law_is_integer") cdv A outer s H E) (defBody s_law_is_integer) (t_law_is_integer K E) := by
  have tk : Takes (cxOf (L2.CX P w) P w K mg base N_law_is_integer "_law_is_integer" (defScope s_law_is_integer) (He.ga K "_law_is_integer") cdv A outer s H E) (wB E) := takes_of rfl rfl rfl rfl
  exact (pss_one (ps_ret (pe_and (pe_callB call_isi (by rfl) (T.free 7) (by decide +kernel) (pa_cons (pv 0) (pa_cons (pe_bltn (v := .ty "int") rfl (T.free 6) (by decide +kernel) rfl) pa_nil))) (pe_one (pe_not (pe_callB call_isi (by rfl) (T.free 7) (by decide +kernel) (pa_cons (pv 0) (pa_cons (pe_bltn (v := .ty "bool") rfl (T.free 8) (by decide +kernel) rfl) pa_nil))))))))

theorem d_law_start (T : TX K mg base)  {cdv : Value} {A : Around} {outer : List Env} {s : Shared} {H : Hp} {E : XK} (hr : Room 0 (A.deeper (envOfC "_law_start" (defScope s_law_start) s.heap.objs.size (He.ga K "_law_start") cdv))) :
    PSs (cxOf (L2.CX P w) P w K mg base N_law_start "_law_start" (defScope s_law_start) (He.ga K "_law_start") cdv A outer s H E) (defBody s_law_start) (t_law_start K E) := by
  have tk : Takes (cxOf (L2.CX P w) P w K mg base N_law_start "_law_start" (defScope s_law_start) (He.ga K "_law_start") cdv A outer s H E) (wB E) := takes_of rfl rfl rfl rfl
  have po : PassesOwn (model P w) (cxOf (L2.CX P w) P w K mg base N_law_start "_law_start" (defScope s_law_start) (He.ga K "_law_start") cdv A outer s H E).A (cxOf (L2.CX P w) P w K mg base N_law_start "_law_start" (defScope s_law_start) (He.ga K "_law_start") cdv A outer s H E).env (cxOf (L2.CX P w) P w K mg base N_law_start "_law_start" (defScope s_law_start) (He.ga K "_law_start") cdv A outer s H E).xe := passes_of rfl
  exact (pss_cons (ps_set (i := 2) sc_law_start.nd rfl (Or.inl rfl) pe_int)
  (pss_cons (ps_if (pt_chain op_lt op_lt (pe_un un_neg pe_int) (pv 0) pe_int)
  (pss_cons (ps_set (i := 3) sc_law_start.nd rfl (Or.inl rfl) (pe_op op_mod (pe_callTy call_int1 (by rfl) (T.free 6) (by decide +kernel) (pa_cons (pe_op op_add (pe_op op_mul (pv 0) pe_int) (pe_op op_mul (pe_op op_add (pv 1) pe_int) pe_int)) pa_nil)) (pv 2)))
  (pss_cons (ps_set (i := 4) sc_law_start.nd rfl (Or.inl rfl) pe_int)
  (pss_cons (ps_for po rfl (pi_range1 rfl (T.free 9) (pa_cons pe_int pa_nil)) (pg_name (i := 5) sc_law_start.nd rfl (Or.inl rfl))
  (pss_cons (ps_set (i := 3) sc_law_start.nd rfl (Or.inl rfl) (pe_op op_mod (pe_callTy call_int1 (by rfl) (T.free 6) (by decide +kernel) (pa_cons (pe_op op_add (pe_op op_add (pe_op op_add (pe_op op_mulW (pv 3) (pv 3)) (pe_op op_mul pe_int (pv 3))) (pv 1)) (pv 5)) pa_nil)) (pv 2)))
  (pss_one (ps_set (i := 4) sc_law_start.nd rfl (Or.inl rfl) (pe_op op_add (pe_op op_mulW (pv 4) (pv 2)) (pv 3))))))
  (pss_one (ps_ret (pe_lst (pa_cons (pv 4) pa_nil)))))))
  pss_nil)
  (pss_one (ps_ret (pe_lst (pa_cons (pv 0) pa_nil))))))

theorem d_law_digit (T : TX K mg base)  {cdv : Value} {A : Around} {outer : List Env} {s : Shared} {H : Hp} {E : XK} (hr : Room 0 (A.deeper (envOfC "_law_digit" (defScope s_law_digit) s.heap.objs.size (He.ga K "_law_digit") cdv))) :
    PSs (cxOf (L2.CX P w) P w K mg base N_law_digit "_law_digit" (defScope s_law_digit) (He.ga K "_law_digit") cdv A outer s H E) (defBody s_law_digit) (t_law_digit K E) := by
  have tk : Takes (cxOf (L2.CX P w) P w K mg base N_law_digit "_law_digit" (defScope s_law_digit) (He.ga K "_law_digit") cdv A outer s H E) (wB E) := takes_of rfl rfl rfl rfl
  exact (pss_cons (ps_set (i := 2) sc_law_digit.nd rfl (Or.inl rfl) (pe_op op_mod (pe_callTy call_int1 (by rfl) (T.free 6) (by decide +kernel) (pa_cons (pe_ix ix_list (pv 0) pe_int (fun _ _ => rfl)) pa_nil)) (pv 1)))
  (pss_cons (ps_asg (pe_op op_fdivW (pe_ix ix_list (pv 0) pe_int (fun _ _ => rfl)) (pv 1)) (pg_sub (pv 0) pe_int set_list))
  (pss_one (ps_ret (pv 2)))))

theorem d_law_frame (T : TX K mg base) (h_law_digit : Has P w K mg base 1 "_law_digit" P_law_digit (sp_law_digit K)) {cdv : Value} {A : Around} {outer : List Env} {s : Shared} {H : Hp} {E : XK} (hr : Room 1 (A.deeper (envOfC "_law_frame" (defScope s_law_frame) s.heap.objs.size (He.ga K "_law_frame") cdv))) :
    PSs (cxOf (L2.CX P w) P w K mg base N_law_frame "_law_frame" (defScope s_law_frame) (He.ga K "_law_frame") cdv A outer s H E) (defBody s_law_frame) (t_law_frame K E) := by
  have tk : Takes (cxOf (L2.CX P w) P w K mg base N_law_frame "_law_frame" (defScope s_law_frame) (He.ga K "_law_frame") cdv A outer s H E) (wB E) := takes_of rfl rfl rfl rfl
  exact (pss_cons (ps_set (i := 2) sc_law_frame.nd rfl (Or.inl rfl) (pe_ix ix_tup (pe_tup (pa_cons pe_str (pa_cons pe_str (pa_cons pe_str (pa_cons pe_str (pa_cons pe_str pa_nil)))))) (pe_h h_law_digit (hr.mono (by decide)) rfl (fun σ => passAt tk σ) (pa_cons (pv 0) (pa_cons pe_int pa_nil))) (fun _ _ => rfl)))
  (pss_cons (ps_set (i := 3) sc_law_frame.nd rfl (Or.inl rfl) (pe_h h_law_digit (hr.mono (by decide)) rfl (fun σ => passAt tk σ) (pa_cons (pv 0) (pa_cons pe_int pa_nil))))
  (pss_cons (ps_if (pt_cmpR op_eq (pv 2) pe_str (nomark _))
  (pss_cons (ps_set (i := 4) sc_law_frame.nd rfl (Or.inl rfl) (pe_h h_law_digit (hr.mono (by decide)) rfl (fun σ => passAt tk σ) (pa_cons (pv 0) (pa_cons (pv 1) pa_nil))))
  (pss_cons (ps_set (i := 5) sc_law_frame.nd rfl (Or.inr rfl) (pe_h h_law_digit (hr.mono (by decide)) rfl (fun σ => passAt tk σ) (pa_cons (pv 0) (pa_cons pe_int pa_nil))))
  (pss_one (ps_ret (pe_tup (pa_cons (pv 2) (pa_cons (pv 3) (pa_cons (pe_lc (own := [("k", 6)]) (g := (gName 6)) (tt := tYes) rfl sc_law_frame.nd (pi_range1 rfl (T.free 9) (pa_cons (pv 4) pa_nil)) (blkOk_by (own := [("k", 6)]) (N := N_law_frame) (sc := defScope s_law_frame) (by decide +kernel)) (fun _ _ _ _ _ => (pg_name (i := 6) sc_law_frame.nd rfl (Or.inl rfl))) (fun _ _ _ _ _ => pts_nil) (fun _ _ _ _ _ => (pe_op op_mod (pe_callTy call_int1 (by rfl) (T.free 6) (by decide +kernel) (pa_cons (pe_op op_add (pe_op op_add (pv 5) (pe_op op_mul pe_int (pv 6))) (pe_op op_fdiv (pv 6) pe_int)) pa_nil)) pe_int))) pa_nil))))))))
  pss_nil)
  (pss_cons (ps_if (pt_cmpR op_in_seq (pv 2) (pe_tup (pa_cons pe_str (pa_cons pe_str pa_nil))) (by first | exact nomark _ | rfl | (with_unfolding_all rfl)))
  (pss_one (ps_ret (pe_tup (pa_cons (pv 2) (pa_cons (pv 3) (pa_cons (pe_h h_law_digit (hr.mono (by decide)) rfl (fun σ => passAt tk σ) (pa_cons (pv 0) (pa_cons pe_int pa_nil))) pa_nil))))))
  pss_nil)
  (pss_one (ps_ret (pe_tup (pa_cons (pv 2) (pa_cons (pv 3) pa_nil)))))))))

theorem d_law_octets (T : TX K mg base)  {cdv : Value} {A : Around} {outer : List Env} {s : Shared} {H : Hp} {E : XK} (hr : Room 0 (A.deeper (envOfC "_law_octets" (defScope s_law_octets) s.heap.objs.size (He.ga K "_law_octets") cdv))) :
    PSs (cxOf (L2.CX P w) P w K mg base N_law_octets "_law_octets" (defScope s_law_octets) (He.ga K "_law_octets") cdv A outer s H E) (defBody s_law_octets) (t_law_octets K E) := by
  have tk : Takes (cxOf (L2.CX P w) P w K mg base N_law_octets "_law_octets" (defScope s_law_octets) (He.ga K "_law_octets") cdv A outer s H E) (wB E) := takes_of rfl rfl rfl rfl
  have hu := hu_of hr
  exact (pss_cons (ps_set (i := 1) sc_law_octets.nd rfl (Or.inl rfl) (pe_dget hu (pe_disp (pps_cons pe_str pe_int (pps_cons pe_str pe_int (pps_cons pe_str pe_int (pps_cons pe_str pe_int (pps_cons pe_str pe_int pps_nil))))) rfl rfl (by simp) (by decide)) (pe_ix ix_tup (pv 0) pe_int (fun _ _ => rfl)) (fun _ _ => rfl)))
  (pss_cons (ps_set (i := 2) sc_law_octets.nd rfl (Or.inl rfl) (pe_lst (pa_cons (pv 1) (pa_cons (pe_op op_fdiv (pe_ix ix_tup (pv 0) pe_int (fun _ _ => rfl)) pe_int) (pa_cons (pe_op op_mod (pe_callTy call_int1 (by rfl) (T.free 6) (by decide +kernel) (pa_cons (pe_ix ix_tup (pv 0) pe_int (fun _ _ => rfl)) pa_nil)) pe_int) pa_nil)))))
  (pss_cons (ps_if (pt_cmpR op_eq (pe_ix ix_tup (pv 0) pe_int (fun _ _ => rfl)) pe_str (nomark _))
  (pss_one (ps_ret (pe_op op_cat (pe_op op_cat (pv 2) (pe_lst (pa_cons (pe_op op_fdiv (pe_callB call_len (by rfl) (T.free 2) PySem.boot_len (pa_cons (pe_ix ix_tup (pv 0) pe_int (fun _ _ => rfl)) pa_nil)) pe_int) (pa_cons (pe_op op_mod (pe_callTy call_int1 (by rfl) (T.free 6) (by decide +kernel) (pa_cons (pe_callB call_len (by rfl) (T.free 2) PySem.boot_len (pa_cons (pe_ix ix_tup (pv 0) pe_int (fun _ _ => rfl)) pa_nil)) pa_nil)) pe_int) pa_nil)))) (pe_ix ix_tup (pv 0) pe_int (fun _ _ => rfl)))))
  pss_nil)
  (pss_cons (ps_if (pt_cmpR op_gt (pe_callB call_len (by rfl) (T.free 2) PySem.boot_len (pa_cons (pv 0) pa_nil)) pe_int (nomark _))
  (pss_one (ps_ret (pe_op op_cat (pv 2) (pe_lst (pa_cons (pe_op op_fdiv (pe_ix ix_tup (pv 0) pe_int (fun _ _ => rfl)) pe_int) (pa_cons (pe_op op_mod (pe_callTy call_int1 (by rfl) (T.free 6) (by decide +kernel) (pa_cons (pe_ix ix_tup (pv 0) pe_int (fun _ _ => rfl)) pa_nil)) pe_int) pa_nil))))))
  pss_nil)
  (pss_one (ps_ret (pv 2)))))))

theorem d_law_copy (T : TX K mg base)  {cdv : Value} {A : Around} {outer : List Env} {s : Shared} {H : Hp} {E : XK} (hr : Room 0 (A.deeper (envOfC "_law_copy" (defScope s_law_copy) s.heap.objs.size (He.ga K "_law_copy") cdv))) :
    PSs (cxOf (L2.CX P w) P w K mg base N_law_copy "_law_copy" (defScope s_law_copy) (He.ga K "_law_copy") cdv A outer s H E) (defBody s_law_copy) (t_law_copy K E) := by
  have tk : Takes (cxOf (L2.CX P w) P w K mg base N_law_copy "_law_copy" (defScope s_law_copy) (He.ga K "_law_copy") cdv A outer s H E) (wB E) := takes_of rfl rfl rfl rfl
  exact (pss_one (ps_ret (pe_callTy call_tuple_of (by rfl) (T.free 10) (by decide +kernel) (pa_cons (pe_lc (own := [("item", 1)]) (g := (gName 1)) (tt := tYes) rfl sc_law_copy.nd (pi_tup (pv 0)) (blkOk_by (own := [("item", 1)]) (N := N_law_copy) (sc := defScope s_law_copy) (by decide +kernel)) (fun _ _ _ _ _ => (pg_name (i := 1) sc_law_copy.nd rfl (Or.inl rfl))) (fun _ _ _ _ _ => pts_nil) (fun _ _ _ _ _ => (pe_ifExp (pt_val (pe_callB call_isi (by rfl) (T.free 7) (by decide +kernel) (pa_cons (pv 1) (pa_cons (pe_bltn (v := .ty "list") rfl (T.free 3) (by decide +kernel) rfl) pa_nil)))) (pe_callTy call_list_of (by rfl) (T.free 3) (by decide +kernel) (pa_cons (pv 1) pa_nil)) (pv 1)))) pa_nil))))

theorem d_law_same_octets (T : TX K mg base) (h_law_is_integer : Has P w K mg base 1 "_law_is_integer" P_law_is_integer (sp_law_is_integer K)) {cdv : Value} {A : Around} {outer : List Env} {s : Shared} {H : Hp} {E : XK} (hr : Room 1 (A.deeper (envOfC "_law_same_octets" (defScope s_law_same_octets) s.heap.objs.size (He.ga K "_law_same_octets") cdv))) :
    PSs (cxOf (L2.CX P w) P w K mg base N_law_same_octets "_law_same_octets" (defScope s_law_same_octets) (He.ga K "_law_same_octets") cdv A outer s H E) (defBody s_law_same_octets) (t_law_same_octets K E) := by
  have tk : Takes (cxOf (L2.CX P w) P w K mg base N_law_same_octets "_law_same_octets" (defScope s_law_same_octets) (He.ga K "_law_same_octets") cdv A outer s H E) (wB E) := takes_of rfl rfl rfl rfl
  have po : PassesOwn (model P w) (cxOf (L2.CX P w) P w K mg base N_law_same_octets "_law_same_octets" (defScope s_law_same_octets) (He.ga K "_law_same_octets") cdv A outer s H E).A (cxOf (L2.CX P w) P w K mg base N_law_same_octets "_law_same_octets" (defScope s_law_same_octets) (He.ga K "_law_same_octets") cdv A outer s H E).env (cxOf (L2.CX P w) P w K mg base N_law_same_octets "_law_same_octets" (defScope s_law_same_octets) (He.ga K "_law_same_octets") cdv A outer s H E).xe := passes_of rfl
  exact (pss_cons (ps_if (PW.pt (pw_or (pt_not (pt_val (pe_callB call_isi (by rfl) (T.free 7) (by decide +kernel) (pa_cons (pv 0) (pa_cons (pe_bltn (v := .ty "list") rfl (T.free 3) (by decide +kernel) rfl) pa_nil))))) (pw_or1 (pt_cmpR op_ne (pe_callB call_len (by rfl) (T.free 2) PySem.boot_len (pa_cons (pv 0) pa_nil)) (pe_callB call_len (by rfl) (T.free 2) PySem.boot_len (pa_cons (pv 1) pa_nil)) (nomark _)))))
  (pss_one (ps_ret pe_bl))
  pss_nil)
  (pss_cons (ps_for po rfl (pi_range1 rfl (T.free 9) (pa_cons (pe_callB call_len (by rfl) (T.free 2) PySem.boot_len (pa_cons (pv 1) pa_nil)) pa_nil)) (pg_name (i := 2) sc_law_same_octets.nd rfl (Or.inl rfl))
  (pss_one (ps_if (PW.pt (pw_or (pt_not (pt_val (pe_h h_law_is_integer (hr.mono (by decide)) rfl (fun σ => passAt tk σ) (pa_cons (pe_ix ix_list (pv 0) (pv 2) (fun _ _ => rfl)) pa_nil)))) (pw_or1 (pt_cmpR op_ne (pe_ix ix_list (pv 0) (pv 2) (fun _ _ => rfl)) (pe_ix ix_list (pv 1) (pv 2) (fun _ _ => rfl)) (nomark _)))))
  (pss_one (ps_ret pe_bl))
  pss_nil)))
  (pss_one (ps_ret pe_bl))))

theorem d_law_read (T : TX K mg base) (h_first_frame : Has P w K mg base 1 "first_frame" P_first_frame (sp_first_frame K)) {cdv : Value} {A : Around} {outer : List Env} {s : Shared} {H : Hp} {E : XK} (hr : Room 1 (A.deeper (envOfC "_law_read" (defScope s_law_read) s.heap.objs.size (He.ga K "_law_read") cdv))) :
    PSs (cxOf (L2.CX P w) P w K mg base N_law_read "_law_read" (defScope s_law_read) (He.ga K "_law_read") cdv A outer s H E) (defBody s_law_read) (t_law_read K E) := by
  have tk : Takes (cxOf (L2.CX P w) P w K mg base N_law_read "_law_read" (defScope s_law_read) (He.ga K "_law_read") cdv A outer s H E) (wB E) := takes_of rfl rfl rfl rfl
  exact (pss_cons (ps_set (i := 1) sc_law_read.nd rfl (Or.inl rfl) (pe_callTy call_list_of (by rfl) (T.free 3) (by decide +kernel) (pa_cons (pv 0) pa_nil)))
  (pss_cons (ps_try_as (i := 3) (tb := fun W1 => (tAsg (tCallS (sp_first_frame K) (WE W1) (tCons (tVar 1) tNil)) (gName 2))) (ts := (fun (aX : Addr) (clX : Value) (dX : Option Addr) => (tSeq (tIfS (tAnd (tB (tCB (rIsX K aX clX dX) (tCons (tVar 3) (tCons (tC (.ref (He.ga K "ThroughwayError"))) tNil)))) (tNot (tB (tCB (rIsX K aX clX dX) (tCons (tVar 3) (tCons (tC (.ref (He.ga K "InvalidAmount"))) tNil))))))
  (tRet (tC (.str "invalid")))
  tNext)
  (tRet (tC (.str "wrong")))))) (Wout := (wB E)) rfl rfl sc_law_read.nd rfl rfl ⟨rfl, by decide, .inl (T.glo 5)⟩ tk (fun W1 pn xe tk1 po1 => (pss_one (ps_set (i := 2) sc_law_read.nd rfl (Or.inl rfl) (pe_h h_first_frame (hr.mono (by decide)) rfl (fun σ => passAt tk1 σ) (pa_cons (pv 1) pa_nil))))) (fun aX oX clX dX pn hzX hfX => (pss_cons (ps_if (PW.pt (pw_and (pt_val (pe_callB (call_isX hzX hfX) (by rfl) (T.free 7) (by decide +kernel) (pa_cons (pv 3) (pa_cons (pe_gref rfl (T.glo 11)) pa_nil)))) (pw_and1 (pt_not (pt_val (pe_callB (call_isX hzX hfX) (by rfl) (T.free 7) (by decide +kernel) (pa_cons (pv 3) (pa_cons (pe_gref rfl (T.glo 12)) pa_nil))))))))
  (pss_one (ps_ret pe_str))
  pss_nil)
  (pss_one (ps_ret pe_str)))))
  (pss_cons (ps_if (pt_cmpR (op_neD hr.units) (pv 1) (pv 0) (nomark _))
  (pss_one (ps_ret pe_str))
  pss_nil)
  (pss_one (ps_ret (pv 2))))))

theorem d_law_same (T : TX K mg base) (h_law_is_integer : Has P w K mg base 1 "_law_is_integer" P_law_is_integer (sp_law_is_integer K)) (h_law_same_octets : Has P w K mg base 2 "_law_same_octets" P_law_same_octets (sp_law_same_octets K)) {cdv : Value} {A : Around} {outer : List Env} {s : Shared} {H : Hp} {E : XK} (hr : Room 2 (A.deeper (envOfC "_law_same" (defScope s_law_same) s.heap.objs.size (He.ga K "_law_same") cdv))) :
    PSs (cxOf (L2.CX P w) P w K mg base N_law_same "_law_same" (defScope s_law_same) (He.ga K "_law_same") cdv A outer s H E) (defBody s_law_same) (t_law_same K E) := by
  have tk : Takes (cxOf (L2.CX P w) P w K mg base N_law_same "_law_same" (defScope s_law_same) (He.ga K "_law_same") cdv A outer s H E) (wB E) := takes_of rfl rfl rfl rfl
  exact (pss_cons (ps_if (PW.pt (pw_or (pt_not (pt_val (pe_callB call_isi (by rfl) (T.free 7) (by decide +kernel) (pa_cons (pv 0) (pa_cons (pe_bltn (v := .ty "tuple") rfl (T.free 10) (by decide +kernel) rfl) pa_nil))))) (pw_or (pt_cmpR op_ne (pe_callB call_len (by rfl) (T.free 2) PySem.boot_len (pa_cons (pv 0) pa_nil)) pe_int (nomark _)) (pw_or1 (pt_not (pt_val (pe_callB call_isi (by rfl) (T.free 7) (by decide +kernel) (pa_cons (pe_ix ix_tup (pv 0) pe_int (fun _ _ => rfl)) (pa_cons (pe_bltn (v := .ty "tuple") rfl (T.free 10) (by decide +kernel) rfl) pa_nil)))))))))
  (pss_one (ps_ret pe_bl))
  pss_nil)
  (pss_cons (ps_if (PW.pt (pw_or (pt_cmpR (op_neD hr.units) (pe_ix ix_tup (pv 0) pe_int (fun _ _ => rfl)) (pv 1) (nomark _)) (pw_or (pt_not (pt_val (pe_h h_law_is_integer (hr.mono (by decide)) rfl (fun σ => passAt tk σ) (pa_cons (pe_ix ix_tup (pe_ix ix_tup (pv 0) pe_int (fun _ _ => rfl)) pe_int (fun _ _ => rfl)) pa_nil)))) (pw_or1 (pt_not (pt_val (pe_h h_law_is_integer (hr.mono (by decide)) rfl (fun σ => passAt tk σ) (pa_cons (pe_ix ix_tup (pv 0) pe_int (fun _ _ => rfl)) pa_nil))))))))
  (pss_one (ps_ret pe_bl))
  pss_nil)
  (pss_cons (ps_if (PW.pt (pw_and (pt_cmpR op_eq (pe_ix ix_tup (pv 1) pe_int (fun _ _ => rfl)) pe_str (nomark _)) (pw_and1 (pt_not (pt_val (pe_h h_law_same_octets (hr.mono (by decide)) rfl (fun σ => passAt tk σ) (pa_cons (pe_ix ix_tup (pe_ix ix_tup (pv 0) pe_int (fun _ _ => rfl)) pe_int (fun _ _ => rfl)) (pa_cons (pe_ix ix_tup (pv 1) pe_int (fun _ _ => rfl)) pa_nil))))))))
  (pss_one (ps_ret pe_bl))
  pss_nil)
  (pss_one (ps_ret (pe_cmpR op_eq (pe_ix ix_tup (pv 0) pe_int (fun _ _ => rfl)) (pv 2) (nomark _)))))))

theorem d_law_holds (T : TX K mg base) (h_law_octets : Has P w K mg base 1 "_law_octets" P_law_octets (sp_law_octets K)) (h_law_copy : Has P w K mg base 1 "_law_copy" P_law_copy (sp_law_copy K)) (h_law_same_octets : Has P w K mg base 2 "_law_same_octets" P_law_same_octets (sp_law_same_octets K)) (h_write_frame : Has P w K mg base 2 "write_frame" P_write_frame (sp_write_frame K)) (h_law_digit : Has P w K mg base 1 "_law_digit" P_law_digit (sp_law_digit K)) (h_law_same : Has P w K mg base 3 "_law_same" P_law_same (sp_law_same K)) (h_law_read : Has P w K mg base 2 "_law_read" P_law_read (sp_law_read K)) {cdv : Value} {A : Around} {outer : List Env} {s : Shared} {H : Hp} {E : XK} (hr : Room 3 (A.deeper (envOfC "_law_holds" (defScope s_law_holds) s.heap.objs.size (He.ga K "_law_holds") cdv))) :
    PSs (cxOf (L2.CX P w) P w K mg base N_law_holds "_law_holds" (defScope s_law_holds) (He.ga K "_law_holds") cdv A outer s H E) (defBody s_law_holds) (t_law_holds K E) := by
  have tk : Takes (cxOf (L2.CX P w) P w K mg base N_law_holds "_law_holds" (defScope s_law_holds) (He.ga K "_law_holds") cdv A outer s H E) (wB E) := takes_of rfl rfl rfl rfl
  have po : PassesOwn (model P w) (cxOf (L2.CX P w) P w K mg base N_law_holds "_law_holds" (defScope s_law_holds) (He.ga K "_law_holds") cdv A outer s H E).A (cxOf (L2.CX P w) P w K mg base N_law_holds "_law_holds" (defScope s_law_holds) (He.ga K "_law_holds") cdv A outer s H E).env (cxOf (L2.CX P w) P w K mg base N_law_holds "_law_holds" (defScope s_law_holds) (He.ga K "_law_holds") cdv A outer s H E).xe := passes_of rfl
  exact (pss_cons (ps_set (i := 2) sc_law_holds.nd rfl (Or.inl rfl) (pe_h h_law_octets (hr.mono (by decide)) rfl (fun σ => passAt tk σ) (pa_cons (pv 0) pa_nil)))
  (pss_cons (ps_set (i := 3) sc_law_holds.nd rfl (Or.inl rfl) (pe_h h_law_copy (hr.mono (by decide)) rfl (fun σ => passAt tk σ) (pa_cons (pv 0) pa_nil)))
  (pss_cons (ps_if (PW.pt (pw_or (pt_not (pt_val (pe_h h_law_same_octets (hr.mono (by decide)) rfl (fun σ => passAt tk σ) (pa_cons (pe_h h_write_frame (hr.mono (by decide)) rfl (fun σ => passAt tk σ) (pa_cons (pv 3) pa_nil)) (pa_cons (pv 2) pa_nil))))) (pw_or1 (pt_cmpR (op_neD hr.units) (pv 3) (pv 0) (nomark _)))))
  (pss_one (ps_ret pe_bl))
  pss_nil)
  (pss_cons (ps_setLc (i := 4) (own := [("k", 5)]) (g := (gName 5)) (tt := tYes) rfl sc_law_holds.nd rfl rfl (sw_true rfl rfl rfl (by decide +kernel)) (pi_range1 rfl (T.free 9) (pa_cons (pe_h h_law_digit (hr.mono (by decide)) rfl (fun σ => passAt tk σ) (pa_cons (pv 1) (pa_cons pe_int pa_nil))) pa_nil)) (blkOk_by (own := [("k", 5)]) (N := N_law_holds) (sc := defScope s_law_holds) (by decide +kernel)) (fun _ _ _ _ _ => (pg_name (i := 5) sc_law_holds.nd rfl (Or.inl rfl))) (fun _ _ _ _ _ => pts_nil) (fun _ _ _ _ _ => (pe_h h_law_digit (hr.mono (by decide)) rfl (fun σ => passZ σ) (pa_cons (pv 1) (pa_cons pe_int pa_nil)))))
  (pss_cons (ps_if (pt_not (pt_val (pe_h h_law_same (hr.mono (by decide)) rfl (fun σ => passAt tk σ) (pa_cons (pe_h h_law_read (hr.mono (by decide)) rfl (fun σ => passAt tk σ) (pa_cons (pe_op op_cat (pv 2) (pv 4)) pa_nil)) (pa_cons (pv 0) (pa_cons (pe_callB call_len (by rfl) (T.free 2) PySem.boot_len (pa_cons (pv 2) pa_nil)) pa_nil))))))
  (pss_one (ps_ret pe_bl))
  pss_nil)
  (pss_cons (ps_for po rfl (pi_range1 rfl (T.free 9) (pa_cons (pe_callB call_len (by rfl) (T.free 2) PySem.boot_len (pa_cons (pv 2) pa_nil)) pa_nil)) (pg_name (i := 5) sc_law_holds.nd rfl (Or.inl rfl))
  (pss_one (ps_if (pt_cmpR op_notN1 (pe_h h_law_read (hr.mono (by decide)) rfl (fun σ => passAt tk σ) (pa_cons (pe_slice sl_list (pv 2) po_none (po_some (pv 5))) pa_nil)) pe_non (nomark _))
  (pss_one (ps_ret pe_bl))
  pss_nil)))
  (pss_cons (ps_set (i := 6) sc_law_holds.nd rfl (Or.inl rfl) (pe_op op_cat (pe_op op_cat (pe_lst (pa_cons (pe_ix ix_tup (pe_tup (pa_cons pe_int (pa_cons pe_int (pa_cons pe_int (pa_cons (pe_op op_add pe_int (pe_h h_law_digit (hr.mono (by decide)) rfl (fun σ => passAt tk σ) (pa_cons (pv 1) (pa_cons pe_int pa_nil)))) pa_nil))))) (pe_h h_law_digit (hr.mono (by decide)) rfl (fun σ => passAt tk σ) (pa_cons (pv 1) (pa_cons pe_int pa_nil))) (fun _ _ => rfl)) pa_nil)) (pe_slice sl_list (pv 2) (po_some pe_int) po_none)) (pv 4)))
  (pss_cons (ps_for po rfl (pi_range1 rfl (T.free 9) (pa_cons (pe_op op_add (pe_callB (call_min2 rfl) (by rfl) (T.free 13) (by decide +kernel) (pa_cons (pe_callB call_len (by rfl) (T.free 2) PySem.boot_len (pa_cons (pv 6) pa_nil)) (pa_cons pe_int pa_nil))) pe_int) pa_nil)) (pg_name (i := 5) sc_law_holds.nd rfl (Or.inl rfl))
  (pss_cons (ps_if (PW.pt (pw_and (pt_cmpR op_lt (pv 5) pe_int (nomark _)) (pw_and1 (pt_cmpR op_notN1 (pe_h h_law_read (hr.mono (by decide)) rfl (fun σ => passAt tk σ) (pa_cons (pe_slice sl_list (pv 6) po_none (po_some (pv 5))) pa_nil)) pe_non (nomark _)))))
  (pss_one (ps_ret pe_bl))
  pss_nil)
  (pss_one (ps_if (PW.pt (pw_and (pt_cmpR op_ge (pv 5) pe_int (nomark _)) (pw_and1 (pt_cmpR op_ne (pe_h h_law_read (hr.mono (by decide)) rfl (fun σ => passAt tk σ) (pa_cons (pe_slice sl_list (pv 6) po_none (po_some (pv 5))) pa_nil)) pe_str (nomark _)))))
  (pss_one (ps_ret pe_bl))
  pss_nil))))
  (pss_one (ps_ret (pe_cmpR op_eq (pe_h h_law_read (hr.mono (by decide)) rfl (fun σ => passAt tk σ) (pa_cons (pv 6) pa_nil)) pe_str (nomark _))))))))))))

theorem d_law (T : TX K mg base) (h_law_cell : Has P w K mg base 1 "_law_cell" P_law_cell (sp_law_cell K)) (h_law_start : Has P w K mg base 1 "_law_start" P_law_start (sp_law_start K)) (h_law_holds : Has P w K mg base 4 "_law_holds" P_law_holds (sp_law_holds K)) (h_law_frame : Has P w K mg base 2 "_law_frame" P_law_frame (sp_law_frame K)) {cdv : Value} {A : Around} {outer : List Env} {s : Shared} {H : Hp} {E : XK} (hr : Room 4 (A.deeper (envOfC "law" (defScope s_law) s.heap.objs.size (He.ga K "law") cdv))) :
    PSs (cxOf (L2.CX P w) P w K mg base N_law "law" (defScope s_law) (He.ga K "law") cdv A outer s H E) (defBody s_law) (t_law K E) := by
  have tk : Takes (cxOf (L2.CX P w) P w K mg base N_law "law" (defScope s_law) (He.ga K "law") cdv A outer s H E) (wB E) := takes_of rfl rfl rfl rfl
  have po : PassesOwn (model P w) (cxOf (L2.CX P w) P w K mg base N_law "law" (defScope s_law) (He.ga K "law") cdv A outer s H E).A (cxOf (L2.CX P w) P w K mg base N_law "law" (defScope s_law) (He.ga K "law") cdv A outer s H E).env (cxOf (L2.CX P w) P w K mg base N_law "law" (defScope s_law) (He.ga K "law") cdv A outer s H E).xe := passes_of rfl
  exact (pss_cons (ps_set (i := 1) sc_law.nd rfl (Or.inl rfl) pe_int)
  (Evl.pss_cut (ps_if (pt_cmpR op_eq (pe_op op_mod (pe_callTy call_int1 (by rfl) (T.free 6) (by decide +kernel) (pa_cons (pe_h h_law_cell (hr.mono (by decide)) rfl (fun σ => passAt tk σ) (pa_cons (pv 0) (pa_cons pe_int pa_nil))) pa_nil)) pe_int) pe_int (nomark _))
  (pss_one (ps_set (i := 1) sc_law.nd rfl (Or.inl rfl) pe_int))
  pss_nil)
  (pss_cons (ps_for po rfl (pi_range1 rfl (T.free 9) (pa_cons (pe_callB (call_min2 rfl) (by rfl) (T.free 13) (by decide +kernel) (pa_cons pe_int (pa_cons (pe_callB (call_max2 rfl) (by rfl) (T.free 14) (by decide +kernel) (pa_cons pe_int (pa_cons (pe_op op_sub (pe_callB call_len (by rfl) (T.free 2) PySem.boot_len (pa_cons (pv 0) pa_nil)) pe_int) pa_nil))) pa_nil))) pa_nil)) (pg_name (i := 2) sc_law.nd rfl (Or.inl rfl))
  (pss_cons (ps_set (i := 3) sc_law.nd rfl (Or.inl rfl) (pe_h h_law_start (hr.mono (by decide)) rfl (fun σ => passAt tk σ) (pa_cons (pe_h h_law_cell (hr.mono (by decide)) rfl (fun σ => passAt tk σ) (pa_cons (pv 0) (pa_cons (pe_op op_add pe_int (pv 2)) pa_nil))) (pa_cons (pv 2) pa_nil))))
  (pss_one (ps_if (pt_not (pt_val (pe_h h_law_holds (hr.mono (by decide)) rfl (fun σ => passAt tk σ) (pa_cons (pe_h h_law_frame (hr.mono (by decide)) rfl (fun σ => passAt tk σ) (pa_cons (pv 3) (pa_cons (pv 1) pa_nil))) (pa_cons (pv 3) pa_nil)))))
  (pss_one (ps_ret pe_bl))
  pss_nil))))
  (pss_one (ps_ret pe_bl)))))

end
end K35

namespace K35
open PySem PySem.Spec PyProof.Rows L2 G
local macro_rules | `(tactic| wtm_at "g_get") => `(tactic| first
  | fail
  | fail)
local macro_rules | `(tactic| wtm_at "g_set") => `(tactic| first
  | fail
  | fail)
local macro_rules | `(tactic| wtm_at "g_set2") => `(tactic| first
  | fail
  | fail)
local macro_rules | `(tactic| wtm_at "g_mt") => `(tactic| first
  | fail
  | fail)
local macro_rules | `(tactic| wtm_at "g_call") => `(tactic| first
  | ((with_reducible refine' c_digit ?k1 ?k2 ?k3 ?_); (case k1 => wtm_at "g_hp"); (case k2 => omega); (case k3 => omega); intro _ _ _ _)
  | ((with_reducible refine' c_start ?_); intro _ _ _)
  | ((with_reducible refine' c_isint ?_))
  | ((with_reducible refine' c_cell ?k1 ?k2 ?_); (case k1 => wtm_at "g_sq"); (case k2 => omega); intro _)
  | ((with_reducible refine' c_two ?_))
  | fail)
local macro_rules | `(tactic| wtm_at "g_ne") => `(tactic| first
  | (with_reducible assumption) | (with_reducible exact Ne.symm (by assumption)) | (with_reducible exact ne_of_none (by assumption) (by assumption)) | (with_reducible exact (ne_of_none (by assumption) (by assumption)).symm)
  | fail)
local macro_rules | `(tactic| wtm_at "g_hp") => `(tactic| first
  | (with_reducible assumption) | (with_reducible exact upd_same) | ((with_reducible refine' up_nn ?k1 ?k2); (case k1 => with_reducible assumption); (case k2 => wtm_at "g_hp")) | ((with_reducible refine' up_k' ?k1 ?k2); (case k1 => wtm_at "g_ne"); (case k2 => wtm_at "g_hp"))
  | ((with_reducible refine' up_ko ?k1 ?k2 ?k3); (case k1 => wtm_at "g_hp"); (case k2 => wtm_at "g_hp"); (case k3 => (intro z; cases z)))
  | ((with_reducible refine' ext_get ?k1 ?k2); (case k1 => assumption); (case k2 => wtm_at "g_hp"))
  | ((with_reducible refine' extp_get ?k1 ?k2 ?k3); (case k1 => assumption); (case k2 => wtm_at "g_ne"); (case k3 => wtm_at "g_hp"))
  | ((with_reducible refine' exts_get ?k1 ?k2 ?k3); (case k1 => assumption); (case k2 => wtm_at "g_ni"); (case k3 => wtm_at "g_hp"))
  | fail)
local macro_rules | `(tactic| wtm_at "g_ni") => `(tactic| first
  | (with_reducible assumption) | (with_reducible exact ni_nil)
  | ((with_reducible refine' ni_cons ?k1 ?k2); (case k1 => wtm_at "g_ne"); (case k2 => wtm_at "g_ni"))
  | fail)
local macro_rules | `(tactic| wtm_at "g_mem") => `(tactic| first
  | (with_reducible assumption) | (with_reducible exact mem_hd)
  | ((with_reducible refine' mem_tl ?k1); (case k1 => wtm_at "g_mem"))
  | fail)
local macro_rules | `(tactic| wtm_at "g_sub") => `(tactic| first
  | (with_reducible assumption) | (with_reducible exact SubN.nil)
  | ((with_reducible refine' SubN.inn ?k1 ?k2); (case k1 => wtm_at "g_mem"); (case k2 => wtm_at "g_sub"))
  | ((with_reducible refine' SubN.new ?k1 ?k2); (case k1 => wtm_at "g_nn"); (case k2 => wtm_at "g_sub"))
  | fail)
local macro_rules | `(tactic| wtm_at "g_nn") => `(tactic| first
  | (with_reducible assumption) | ((with_reducible refine' none_up ?k1 ?k2); (case k1 => wtm_at "g_ne"); (case k2 => wtm_at "g_nn")) | ((with_reducible refine' none_dn ?k1); (case k1 => with_reducible assumption))
  | ((with_reducible refine' exts_none ?k1 ?k2); (case k1 => assumption); (case k2 => with_reducible assumption)) | ((with_reducible refine' ext_none ?k1 ?k2); (case k1 => assumption); (case k2 => with_reducible assumption))
  | fail)
local macro_rules | `(tactic| wtm_at "g_ex") => `(tactic| first
  | (with_reducible assumption) | (with_reducible exact Ext.rfl') | (with_reducible exact ExtP.rfl')
  | ((with_reducible refine' ext_up ?k1 ?k2); (case k1 => wtm_at "g_nn"); (case k2 => wtm_at "g_ex"))
  | ((with_reducible refine' ext_put ?k1 ?k2); (case k1 => wtm_at "g_nn"); (case k2 => wtm_at "g_ex"))
  | ((with_reducible refine' ext_via ?k1 ?k2); (case k1 => assumption); (case k2 => wtm_at "g_ex"))
  | ((with_reducible refine' ext_thr ?k1 ?k2 ?k3); (case k2 => assumption); (case k1 => wtm_at "g_nn"); (case k3 => wtm_at "g_ex"))
  | ((with_reducible refine' extp_put ?k1); (case k1 => wtm_at "g_ex"))
  | ((with_reducible refine' extp_up ?k1 ?k2); (case k1 => wtm_at "g_nn"); (case k2 => wtm_at "g_ex"))
  | ((with_reducible refine' extp_putn ?k1 ?k2); (case k1 => wtm_at "g_nn"); (case k2 => wtm_at "g_ex"))
  | ((with_reducible refine' extp_via ?k1 ?k2); (case k1 => assumption); (case k2 => wtm_at "g_ex"))
  | ((with_reducible refine' extp_viae ?k1 ?k2); (case k1 => assumption); (case k2 => wtm_at "g_ex"))
  | ((with_reducible refine' extp_thr ?k1 ?k2 ?k3); (case k2 => assumption); (case k1 => wtm_at "g_nn"); (case k3 => wtm_at "g_ex"))
  | (with_reducible exact ExtS.rfl')
  | ((with_reducible refine' exts_up ?k1 ?k2); (case k1 => wtm_at "g_nn"); (case k2 => wtm_at "g_ex"))
  | ((with_reducible refine' exts_put ?k1 ?k2); (case k1 => wtm_at "g_sub"); (case k2 => wtm_at "g_ex"))
  | ((with_reducible refine' exts_thrE ?k1 ?k2); (case k1 => assumption); (case k2 => wtm_at "g_ex"))
  | ((with_reducible refine' exts_thrP ?k1 ?k2 ?k3 ?k4); (case k1 => assumption); (case k2 => assumption); (case k3 => wtm_at "g_sub"); (case k4 => wtm_at "g_ex"))
  | ((with_reducible refine' exts_thr ?k1 ?k2 ?k3); (case k1 => assumption); (case k2 => wtm_at "g_sub"); (case k3 => wtm_at "g_ex"))
  | fail)
local macro_rules | `(tactic| wtm_at "g_thw") => `(tactic| first
  | (with_reducible assumption) | ((with_reducible refine' Thw.lst ?k1); (case k1 => wtm_at "g_hp")) | ((with_reducible refine' Thw.ins ?k1); (case k1 => wtm_at "g_hp"))
  | fail)
local macro_rules | `(tactic| wtm_at "g_sc") => `(tactic| first
  | (with_reducible assumption) | ((with_reducible refine' scr_new' ?k1 ?k2); (case k1 => wtm_at "g_nn"); (case k2 => wtm_at "g_sc")) | ((with_reducible refine' scr_put' ?k1 ?k2); (case k1 => wtm_at "g_thw"); (case k2 => wtm_at "g_sc"))
  | ((with_reducible refine' scr_ext ?k1 ?k2); (case k1 => assumption); (case k2 => wtm_at "g_sc")) | ((with_reducible refine' scr_extp ?k1 ?k2 ?k3); (case k1 => assumption); (case k2 => wtm_at "g_thw"); (case k3 => wtm_at "g_sc")) | ((with_reducible refine' scr_extn ?k1 ?k2 ?k3); (case k1 => assumption); (case k2 => wtm_at "g_nn"); (case k3 => wtm_at "g_sc"))
  | fail)
local macro_rules | `(tactic| wtm_at "g_sq") => `(tactic| first
  | (with_reducible assumption) | ((with_reducible refine' SqL.of ?k1); (case k1 => wtm_at "g_hp")) | ((with_reducible refine' Scr.sq ?k1); (case k1 => wtm_at "g_sc")) | ((with_reducible refine' sq_new' ?k1 ?k2); (case k1 => wtm_at "g_nn"); (case k2 => wtm_at "g_sq")) | ((with_reducible refine' sq_put' ?k1 ?k2); (case k1 => wtm_at "g_ne"); (case k2 => wtm_at "g_sq"))
  | ((with_reducible refine' sq_ext ?k1 ?k2); (case k1 => assumption); (case k2 => wtm_at "g_sq"))
  | fail)
local macro_rules | `(tactic| wtm_at "g_sqt") => `(tactic| first
  | (with_reducible assumption) | ((with_reducible refine' SqT.of' ?k1); (case k1 => wtm_at "g_hp")) | ((with_reducible refine' sqt_ext ?k1 ?k2); (case k1 => assumption); (case k2 => wtm_at "g_sqt"))
  | fail)
local macro_rules | `(tactic| wtm_at "g_st") => `(tactic| first
  | (with_reducible first
      | refine w_seq ?_ | refine w_asg ?_ | refine w_nm ?_ | refine w_next ?_ | refine w_if ?_ | refine w_ret ?_ | refine w_retN ?_ | refine w_drop ?_
      | refine w_var rfl ?_ | refine w_c ?_ | refine w_op ?_ | refine w_I0 ?_
      | refine w_eqI ?_ | refine w_neI ?_ | refine w_eqB ?_ | refine w_neB ?_ | refine w_eqS ?_ | refine w_neS ?_ | refine w_isN0 ?_ | refine w_isNi ?_ | refine w_isNr ?_ | refine w_isNb ?_ | refine w_isNs ?_ | refine w_notN0 ?_ | refine w_notNi ?_ | refine w_notNr ?_ | refine w_notNb ?_ | refine w_notNs ?_ | refine w_isN ?_ | refine w_notN ?_ | refine w_isB ?_ | refine w_notB ?_
      | refine w_un ?_ | refine w_U ?_ | refine w_chain ?_ | refine w_k ?_ | refine w_test ?_ | refine w_tB ?_ | refine w_tru ?_ | refine w_not ?_ | refine w_and ?_ | refine w_or ?_
      | refine w_andV ?_ | refine w_orV ?_ | refine w_notV ?_ | refine w_ife ?_ | refine w_nil ?_ | refine w_cons ?_ | refine w_tup ?_ | refine w_lst ?_ | refine w_small rfl ?_
      | refine w_call ?_ | refine w_mk ?_ | refine w_mt ?_ | refine w_cb ?_ | refine w_min2 ?_ | refine w_max2 ?_ | refine w_abs ?_ | refine w_int ?_
      | refine w_fld0 ?_ | refine w_bm ?_ | refine w_bm0 ?_ | refine w_sub ?_ | refine w_sfld ?_ | refine w_sfa ?_ | refine w_radd ?_ | refine w_rsub ?_ | refine w_ip ?_ | refine w_rs ?_ | refine w_pr ?_
      | refine w_lcR1 ?_ | refine w_lcR2 ?_ | refine w_lcL ?_ | refine w_lcT ?_ | refine w_yes ?_ | refine w_disp ?_ | refine w_prs ?_ | refine w_prn ?_ | refine w_dget ?_ | refine w_sl ?_ | refine w_nopart ?_ | refine w_part ?_ | refine w_pint ?_
      | refine w_forR1 ?_ | refine w_forR2 ?_ | refine w_forL ?_ | refine w_forT ?_ | refine w_aug rfl ?_ | refine w_par ?_ | refine w_brk ?_ | refine w_cont ?_
      | refine w_isi_ii ?_ | refine w_isi_ib ?_ | refine w_isi_bi ?_ | refine w_isi_bb ?_ | refine w_isi_ss ?_ | refine w_isi_is ?_ | refine w_isi_il ?_ | refine w_isi_it ?_ | refine w_isi_sl ?_ | refine w_isi_st ?_ | refine w_isi_nl ?_ | refine w_isi_nt ?_
      | refine if_T ?_ | refine if_F ?_ | refine if_nT ?_ | refine if_nF ?_)
  | ((with_reducible refine' w_lenL ?k1 ?_); (case k1 => wtm_at "g_sq"))
  | ((with_reducible refine' w_lenT ?k1 ?_); (case k1 => wtm_at "g_sqt"))
  | ((with_reducible refine' w_isi_ll ?k1 ?_); (case k1 => wtm_at "g_hp"))
  | ((with_reducible refine' w_isi_tt ?k1 ?_); (case k1 => wtm_at "g_hp"))
  | ((with_reducible refine' w_isi_lt ?k1 ?_); (case k1 => wtm_at "g_hp"))
  | ((with_reducible refine' w_isi_tl ?k1 ?_); (case k1 => wtm_at "g_hp"))
  | wtm_at "g_get"
  | wtm_at "g_mt"
  | wtm_at "g_set"
  | wtm_at "g_set2"
  | wtm_at "g_call"
  | fail)
local macro_rules | `(tactic| wtm_at "g_go") => `(tactic| repeat wtm_at "g_st")
local macro_rules | `(tactic| wtm_at "g_ifo") => `(tactic| first
  | (refine if_nno rfl ?_) | (refine if_yes rfl ?_)
  | (refine if_no (by omega) ?_)
  | (refine if_yes (by omega) ?_)
  | (refine if_nno (by omega) ?_)
  | (refine if_nyes (by omega) ?_)
  | (refine if_nno (decide_eq_false (by omega)).symm ?_)
  | (refine if_nno (decide_eq_true (by omega)).symm ?_)
  | fail)
local macro_rules | `(tactic| wtm_at "g_goo") => `(tactic| repeat (first | wtm_at "g_st" | wtm_at "g_ifo"))
section
variable {K : PySem.W.Frag} {mg : Str → Option Value} {base : Heap}
theorem pure_law_cell (T : TX K mg base) (vs : List V) (H : Hp) (Q : VK) (E : XK) (h : sp_law_cell K vs H Q E) : t_law_cell K E { nx := fun _ H' => Q .non H', rt := Q } (start N_law_cell vs) H := by
  obtain ⟨a, ns, k, rfl, hS, h0, q⟩ := h
  unfold t_law_cell
  wtm_at "g_go"
  rw [List.length_map]
  refine if_d (fun hk => ?_) (fun hk => ?_)
  · wtm_at "g_go"
    obtain ⟨z, hz⟩ : ∃ z, ns[k.toNat]? = some z := ⟨ns[k.toNat], List.getElem?_eq_getElem (by omega)⟩
    refine w_ixL hS (at_of (j := k.toNat) (v := V.int z) (by omega) (by rw [List.getElem?_map, hz]; rfl)) (q z)
  · wtm_at "g_go"
    exact q 0
theorem pure_law_digit (T : TX K mg base) (vs : List V) (H : Hp) (Q : VK) (E : XK) (h : sp_law_digit K vs H Q E) : t_law_digit K E { nx := fun _ H' => Q .non H', rt := Q } (start N_law_digit vs) H := by
  obtain ⟨p, n, m, rfl, hp, h0, h1, q⟩ := h
  unfold t_law_digit
  wtm_at "g_go"
  refine w_ixL (SqL.of hp) (v := .int n) rfl ?_
  wtm_at "g_go"
  refine w_I h0 ?_
  wtm_at "g_go"
  refine w_ixL (SqL.of hp) (v := .int n) rfl ?_
  wtm_at "g_go"
  refine w_I (digit_div h0 h1 _) ?_
  wtm_at "g_go"
  refine w_setL hp (j := 0) rfl ?_
  wtm_at "g_go"
  exact q _ _ (Int.emod_nonneg _ (by omega)) (Int.emod_lt_of_pos _ h0)
theorem pure_law_start (T : TX K mg base) (vs : List V) (H : Hp) (Q : VK) (E : XK) (h : sp_law_start K vs H Q E) : t_law_start K E { nx := fun _ H' => Q .non H', rt := Q } (start N_law_start vs) H := by
  obtain ⟨c, k, rfl, q⟩ := h
  unfold t_law_start
  wtm_at "g_go"
  refine if_d (fun h1 => ?_) (fun h1 => ?_)
  · wtm_at "g_go"
    refine if_d (fun h2 => ?_) (fun h2 => ?_)
    · wtm_at "g_go"
      refine w_I (.inr (by decide)) ?_
      wtm_at "g_go"
      refine w_I (.inr (by decide)) ?_
      wtm_at "g_go"
      refine w_I (by decide) ?_
      wtm_at "g_go"
      refine loop1 (n := 4) (fun i σ H' => H' = H ∧ ∃ (m n : Int) (v : Option V), σ = [some (.int c), some (.int k), some (.int 618970019642690137449562111), some (.int m), some (.int n), v] ∧ 0 ≤ m ∧ m < 618970019642690137449562111 ∧ 0 ≤ n ∧ n < (618970019642690137449562111 : Int) ^ i) rfl (by decide)
        ⟨rfl, _, _, _, rfl, Int.emod_nonneg _ (by decide), Int.emod_lt_of_pos _ (by decide), by decide, by decide⟩ ?_ ?_
      · rintro i σ H' hi ⟨rfl, m, n, v, rfl, m0, m1, n0, n1⟩
        obtain ⟨b1, b2⟩ := pr_pow i hi
        have e3 : (618970019642690137449562111 : Int) < 618970019642690137449562111 ^ 3 + 1 := by decide +kernel
        wtm_at "g_go"
        refine w_I (wide_mul (a := 300) (b := 300) (small_w m0 (Int.lt_trans m1 e3)) (small_w m0 (Int.lt_trans m1 e3)) (by decide) (by decide) (by decide)) ?_
        wtm_at "g_go"
        refine w_I (.inl (by decide)) ?_
        wtm_at "g_go"
        refine w_I (by decide) ?_
        wtm_at "g_go"
        refine w_I (wide_mul (a := 300) (b := 300) (small_w n0 (Int.lt_trans n1 b1)) (small_w (by decide) e3) (by decide) (by decide) (by decide)) ?_
        wtm_at "g_go"
        refine ⟨rfl, _, _, _, rfl, Int.emod_nonneg _ (by decide), Int.emod_lt_of_pos _ (by decide), ?_⟩
        rw [Int.pow_succ]
        exact num_step n0 n1 (Int.emod_nonneg _ (by decide)) (Int.emod_lt_of_pos _ (by decide))
      · rintro σ H' ⟨rfl, m, n, v, rfl, m0, m1, n0, n1⟩
        wtm_at "g_go"
        exact q n
    · wtm_at "g_go"
      exact q c
  · wtm_at "g_go"
    exact q c
end
section
variable {K : PySem.W.Frag} {mg : Str → Option Value} {base : Heap}
theorem pure_law_is_integer (T : TX K mg base) (vs : List V) (H : Hp) (Q : VK) (E : XK) (h : sp_law_is_integer K vs H Q E) : t_law_is_integer K E { nx := fun _ H' => Q .non H', rt := Q } (start N_law_is_integer vs) H := by
  obtain ⟨x, rfl, ⟨i, rfl, q⟩ | ⟨i, rfl, q⟩⟩ := h
  · unfold t_law_is_integer
    wtm_at "g_go"
    exact q
  · unfold t_law_is_integer
    wtm_at "g_go"
    exact q
end
section
variable {K : PySem.W.Frag} {mg : Str → Option Value} {base : Heap}
theorem pure_two_octets (T : TX K mg base) (vs : List V) (H : Hp) (Q : VK) (E : XK) (h : sp_two_octets K vs H Q E) : t_two_octets K E { nx := fun _ H' => Q .non H', rt := Q } (start N_two_octets vs) H := by
  obtain ⟨n, rfl, q⟩ := h
  unfold t_two_octets
  wtm_at "g_go"
  refine w_I ⟨by decide, by decide⟩ ?_
  wtm_at "g_go"
  refine w_I (by decide) ?_
  wtm_at "g_go"
  exact q
theorem ws_map : v_WORDS = WS.map V.str := rfl
theorem w_word {H : Hp} {Q : VK} {w : Str} (T : TX K mg base) (hw : w ∈ WS) (q : Q (.int (WS.idxOf w : Nat)) H) : rTIdxS K (.ref (He.ga K "WORDS")) [.str w] H Q := w_tidxS (ws_map ▸ kx_WORDS T H) hw q
/-- the first item is the word, the second one the channel -/
theorem FrAt.sq {H : Hp} {p l : Addr} {f : Fr} (h : FrAt H p l f) : ∃ xs, H p = some (.tup xs) ∧ (match f with
  | .a w c => xs = [.str w, .int c]
  | .b w c n => xs = [.str w, .int c, .int n]
  | .o c _ => xs = [.str "octets", .int c, .ref l]) := by
  cases f with
  | a w c => exact ⟨_, h, rfl⟩
  | b w c n => exact ⟨_, h, rfl⟩
  | o c xs => exact ⟨_, h.1, rfl⟩
theorem mem_ws : ("open" : Str) ∈ WS ∧ ("octets" : Str) ∈ WS ∧ ("permit" : Str) ∈ WS ∧ ("end" : Str) ∈ WS ∧ ("reset" : Str) ∈ WS := by decide +kernel
theorem pure_write_frame (T : TX K mg base) (vs : List V) (H : Hp) (Q : VK) (E : XK) (h : sp_write_frame K vs H Q E) : t_write_frame K E { nx := fun _ H' => Q .non H', rt := Q } (start N_write_frame vs) H := by
  obtain ⟨p, l, f, rfl, hf, o, q⟩ := h
  obtain ⟨m1, m2, m3, m4, m5⟩ := mem_ws
  obtain ⟨n1, n2, n3, n4, n5, n6, n7, n8⟩ := ne_ws
  unfold t_write_frame
  cases f with
  | a w c =>
    have hf' : H p = some (.tup [.str w, .int c]) := hf
    have hw : w ∈ WS := by rcases o.1 with rfl | rfl <;> assumption
    have hno : ¬ w = "octets" := by rcases o.1 with rfl | rfl <;> (intro z; first | exact n1 z.symm | exact n2 z.symm)
    wtm_at "g_go"
    refine ty_tupX (T.b.ex_ 0) ?_
    wtm_at "g_go"
    refine w_ixT (xs := [.str w, .int c]) (by wtm_at "g_sqt") rfl ?_
    wtm_at "g_go"
    refine w_word T hw ?_
    wtm_at "g_go"
    intro t1 ht1
    wtm_at "g_go"
    refine w_ixT (xs := [.str w, .int c]) (by wtm_at "g_sqt") rfl ?_
    wtm_at "g_go"
    intro t2 ht2
    refine w_cat (by wtm_at "g_hp") (by wtm_at "g_hp") (small_le rfl) fun t3 ht3 => ?_
    wtm_at "g_go"
    refine w_ixT (xs := [.str w, .int c]) (by wtm_at "g_sqt") rfl ?_
    wtm_at "g_go"
    refine if_no hno ?_
    wtm_at "g_go"
    refine if_no (show ¬ (2 : Int) < ((2 : Nat) : Int) by decide) ?_
    wtm_at "g_go"
    exact q _ _ (none_dn (none_dn ht3)) (by wtm_at "g_ex") (by rw [upd_same]; rfl)
  | b w c n =>
    have hf' : H p = some (.tup [.str w, .int c, .int n]) := hf
    have hw : w ∈ WS := by rcases o.1 with rfl | rfl <;> assumption
    have hno : ¬ w = "octets" := by rcases o.1 with rfl | rfl <;> assumption
    wtm_at "g_go"
    refine ty_tupX (T.b.ex_ 0) ?_
    wtm_at "g_go"
    refine w_ixT (xs := [.str w, .int c, .int n]) (by wtm_at "g_sqt") rfl ?_
    wtm_at "g_go"
    refine w_word T hw ?_
    wtm_at "g_go"
    intro t1 ht1
    wtm_at "g_go"
    refine w_ixT (xs := [.str w, .int c, .int n]) (by wtm_at "g_sqt") rfl ?_
    wtm_at "g_go"
    intro t2 ht2
    refine w_cat (by wtm_at "g_hp") (by wtm_at "g_hp") (small_le rfl) fun t3 ht3 => ?_
    wtm_at "g_go"
    refine w_ixT (xs := [.str w, .int c, .int n]) (by wtm_at "g_sqt") rfl ?_
    wtm_at "g_go"
    refine if_no hno ?_
    wtm_at "g_go"
    refine if_yes (show (2 : Int) < ((3 : Nat) : Int) by decide) ?_
    wtm_at "g_go"
    refine w_ixT (xs := [.str w, .int c, .int n]) (by wtm_at "g_sqt") rfl ?_
    wtm_at "g_go"
    intro t4 ht4
    refine w_cat (by wtm_at "g_hp") (by wtm_at "g_hp") (small_le rfl) fun t5 ht5 => ?_
    exact q _ _ (none_dn (none_dn (none_dn (none_dn ht5)))) (by wtm_at "g_ex") (by rw [upd_same]; rfl)
  | o c xs =>
    have hf' : H p = some (.tup [.str "octets", .int c, .ref l]) := hf.1
    have hl : H l = some (.lst (xs.map V.int)) := hf.2
    have hlen := o.2.2.1
    wtm_at "g_go"
    refine ty_tupX (T.b.ex_ 0) ?_
    wtm_at "g_go"
    refine w_ixT (xs := [.str "octets", .int c, .ref l]) (by wtm_at "g_sqt") rfl ?_
    wtm_at "g_go"
    refine w_word T m2 ?_
    wtm_at "g_go"
    intro t1 ht1
    wtm_at "g_go"
    refine w_ixT (xs := [.str "octets", .int c, .ref l]) (by wtm_at "g_sqt") rfl ?_
    wtm_at "g_go"
    intro t2 ht2
    refine w_cat (by wtm_at "g_hp") (by wtm_at "g_hp") (small_le rfl) fun t3 ht3 => ?_
    wtm_at "g_go"
    refine w_ixT (xs := [.str "octets", .int c, .ref l]) (by wtm_at "g_sqt") rfl ?_
    wtm_at "g_go"
    refine if_yes rfl ?_
    wtm_at "g_go"
    refine w_ixT (xs := [.str "octets", .int c, .ref l]) (by wtm_at "g_sqt") rfl ?_
    wtm_at "g_go"
    rw [List.length_map]
    intro t4 ht4
    refine w_cat (by wtm_at "g_hp") (by wtm_at "g_hp") (small_le rfl) fun t5 ht5 => ?_
    wtm_at "g_go"
    refine w_ixT (xs := [.str "octets", .int c, .ref l]) (by wtm_at "g_sqt") rfl ?_
    wtm_at "g_go"
    refine w_listL (K := K) (xs := xs.map V.int) (by wtm_at "g_sq") fun t6 ht6 => ?_
    refine w_cat (by wtm_at "g_hp") (by wtm_at "g_hp") (by rw [List.length_map]; exact small16 (by show 5 + xs.length ≤ _; omega)) fun t7 ht7 => ?_
    refine q _ _ (none_dn (none_dn (none_dn (none_dn (none_dn (none_dn ht7)))))) (by wtm_at "g_ex") ?_
    rw [upd_same]
    show _ = some (HO.lst (([2, c / 256, c % 256, (xs.length : Int) / 256, (xs.length : Int) % 256] ++ xs).map V.int))
    rw [List.map_append]
    rfl
end
end K35

namespace K35
open PySem PySem.Spec PyProof.Rows L2 G
local macro_rules | `(tactic| wtm_at "g_get") => `(tactic| first
  | fail
  | fail)
local macro_rules | `(tactic| wtm_at "g_set") => `(tactic| first
  | fail
  | fail)
local macro_rules | `(tactic| wtm_at "g_set2") => `(tactic| first
  | fail
  | fail)
local macro_rules | `(tactic| wtm_at "g_mt") => `(tactic| first
  | fail
  | fail)
local macro_rules | `(tactic| wtm_at "g_call") => `(tactic| first
  | ((with_reducible refine' c_digit ?k1 ?k2 ?k3 ?_); (case k1 => wtm_at "g_hp"); (case k2 => omega); (case k3 => omega); intro _ _ _ _)
  | ((with_reducible refine' c_start ?_); intro _ _ _)
  | ((with_reducible refine' c_isint ?_))
  | ((with_reducible refine' c_cell ?k1 ?k2 ?_); (case k1 => wtm_at "g_sq"); (case k2 => omega); intro _)
  | ((with_reducible refine' c_two ?_))
  | fail)
local macro_rules | `(tactic| wtm_at "g_ne") => `(tactic| first
  | (with_reducible assumption) | (with_reducible exact Ne.symm (by assumption)) | (with_reducible exact ne_of_none (by assumption) (by assumption)) | (with_reducible exact (ne_of_none (by assumption) (by assumption)).symm)
  | fail)
local macro_rules | `(tactic| wtm_at "g_hp") => `(tactic| first
  | (with_reducible assumption) | (with_reducible exact upd_same) | ((with_reducible refine' up_nn ?k1 ?k2); (case k1 => with_reducible assumption); (case k2 => wtm_at "g_hp")) | ((with_reducible refine' up_k' ?k1 ?k2); (case k1 => wtm_at "g_ne"); (case k2 => wtm_at "g_hp"))
  | ((with_reducible refine' up_ko ?k1 ?k2 ?k3); (case k1 => wtm_at "g_hp"); (case k2 => wtm_at "g_hp"); (case k3 => (intro z; cases z)))
  | ((with_reducible refine' ext_get ?k1 ?k2); (case k1 => assumption); (case k2 => wtm_at "g_hp"))
  | ((with_reducible refine' extp_get ?k1 ?k2 ?k3); (case k1 => assumption); (case k2 => wtm_at "g_ne"); (case k3 => wtm_at "g_hp"))
  | ((with_reducible refine' exts_get ?k1 ?k2 ?k3); (case k1 => assumption); (case k2 => wtm_at "g_ni"); (case k3 => wtm_at "g_hp"))
  | fail)
local macro_rules | `(tactic| wtm_at "g_ni") => `(tactic| first
  | (with_reducible assumption) | (with_reducible exact ni_nil)
  | ((with_reducible refine' ni_cons ?k1 ?k2); (case k1 => wtm_at "g_ne"); (case k2 => wtm_at "g_ni"))
  | fail)
local macro_rules | `(tactic| wtm_at "g_mem") => `(tactic| first
  | (with_reducible assumption) | (with_reducible exact mem_hd)
  | ((with_reducible refine' mem_tl ?k1); (case k1 => wtm_at "g_mem"))
  | fail)
local macro_rules | `(tactic| wtm_at "g_sub") => `(tactic| first
  | (with_reducible assumption) | (with_reducible exact SubN.nil)
  | ((with_reducible refine' SubN.inn ?k1 ?k2); (case k1 => wtm_at "g_mem"); (case k2 => wtm_at "g_sub"))
  | ((with_reducible refine' SubN.new ?k1 ?k2); (case k1 => wtm_at "g_nn"); (case k2 => wtm_at "g_sub"))
  | fail)
local macro_rules | `(tactic| wtm_at "g_nn") => `(tactic| first
  | (with_reducible assumption) | ((with_reducible refine' none_up ?k1 ?k2); (case k1 => wtm_at "g_ne"); (case k2 => wtm_at "g_nn")) | ((with_reducible refine' none_dn ?k1); (case k1 => with_reducible assumption))
  | ((with_reducible refine' exts_none ?k1 ?k2); (case k1 => assumption); (case k2 => with_reducible assumption)) | ((with_reducible refine' ext_none ?k1 ?k2); (case k1 => assumption); (case k2 => with_reducible assumption))
  | fail)
local macro_rules | `(tactic| wtm_at "g_ex") => `(tactic| first
  | (with_reducible assumption) | (with_reducible exact Ext.rfl') | (with_reducible exact ExtP.rfl')
  | ((with_reducible refine' ext_up ?k1 ?k2); (case k1 => wtm_at "g_nn"); (case k2 => wtm_at "g_ex"))
  | ((with_reducible refine' ext_put ?k1 ?k2); (case k1 => wtm_at "g_nn"); (case k2 => wtm_at "g_ex"))
  | ((with_reducible refine' ext_via ?k1 ?k2); (case k1 => assumption); (case k2 => wtm_at "g_ex"))
  | ((with_reducible refine' ext_thr ?k1 ?k2 ?k3); (case k2 => assumption); (case k1 => wtm_at "g_nn"); (case k3 => wtm_at "g_ex"))
  | ((with_reducible refine' extp_put ?k1); (case k1 => wtm_at "g_ex"))
  | ((with_reducible refine' extp_up ?k1 ?k2); (case k1 => wtm_at "g_nn"); (case k2 => wtm_at "g_ex"))
  | ((with_reducible refine' extp_putn ?k1 ?k2); (case k1 => wtm_at "g_nn"); (case k2 => wtm_at "g_ex"))
  | ((with_reducible refine' extp_via ?k1 ?k2); (case k1 => assumption); (case k2 => wtm_at "g_ex"))
  | ((with_reducible refine' extp_viae ?k1 ?k2); (case k1 => assumption); (case k2 => wtm_at "g_ex"))
  | ((with_reducible refine' extp_thr ?k1 ?k2 ?k3); (case k2 => assumption); (case k1 => wtm_at "g_nn"); (case k3 => wtm_at "g_ex"))
  | (with_reducible exact ExtS.rfl')
  | ((with_reducible refine' exts_up ?k1 ?k2); (case k1 => wtm_at "g_nn"); (case k2 => wtm_at "g_ex"))
  | ((with_reducible refine' exts_put ?k1 ?k2); (case k1 => wtm_at "g_sub"); (case k2 => wtm_at "g_ex"))
  | ((with_reducible refine' exts_thrE ?k1 ?k2); (case k1 => assumption); (case k2 => wtm_at "g_ex"))
  | ((with_reducible refine' exts_thrP ?k1 ?k2 ?k3 ?k4); (case k1 => assumption); (case k2 => assumption); (case k3 => wtm_at "g_sub"); (case k4 => wtm_at "g_ex"))
  | ((with_reducible refine' exts_thr ?k1 ?k2 ?k3); (case k1 => assumption); (case k2 => wtm_at "g_sub"); (case k3 => wtm_at "g_ex"))
  | fail)
local macro_rules | `(tactic| wtm_at "g_thw") => `(tactic| first
  | (with_reducible assumption) | ((with_reducible refine' Thw.lst ?k1); (case k1 => wtm_at "g_hp")) | ((with_reducible refine' Thw.ins ?k1); (case k1 => wtm_at "g_hp"))
  | fail)
local macro_rules | `(tactic| wtm_at "g_sc") => `(tactic| first
  | (with_reducible assumption) | ((with_reducible refine' scr_new' ?k1 ?k2); (case k1 => wtm_at "g_nn"); (case k2 => wtm_at "g_sc")) | ((with_reducible refine' scr_put' ?k1 ?k2); (case k1 => wtm_at "g_thw"); (case k2 => wtm_at "g_sc"))
  | ((with_reducible refine' scr_ext ?k1 ?k2); (case k1 => assumption); (case k2 => wtm_at "g_sc")) | ((with_reducible refine' scr_extp ?k1 ?k2 ?k3); (case k1 => assumption); (case k2 => wtm_at "g_thw"); (case k3 => wtm_at "g_sc")) | ((with_reducible refine' scr_extn ?k1 ?k2 ?k3); (case k1 => assumption); (case k2 => wtm_at "g_nn"); (case k3 => wtm_at "g_sc"))
  | fail)
local macro_rules | `(tactic| wtm_at "g_sq") => `(tactic| first
  | (with_reducible assumption) | ((with_reducible refine' SqL.of ?k1); (case k1 => wtm_at "g_hp")) | ((with_reducible refine' Scr.sq ?k1); (case k1 => wtm_at "g_sc")) | ((with_reducible refine' sq_new' ?k1 ?k2); (case k1 => wtm_at "g_nn"); (case k2 => wtm_at "g_sq")) | ((with_reducible refine' sq_put' ?k1 ?k2); (case k1 => wtm_at "g_ne"); (case k2 => wtm_at "g_sq"))
  | ((with_reducible refine' sq_ext ?k1 ?k2); (case k1 => assumption); (case k2 => wtm_at "g_sq"))
  | fail)
local macro_rules | `(tactic| wtm_at "g_sqt") => `(tactic| first
  | (with_reducible assumption) | ((with_reducible refine' SqT.of' ?k1); (case k1 => wtm_at "g_hp")) | ((with_reducible refine' sqt_ext ?k1 ?k2); (case k1 => assumption); (case k2 => wtm_at "g_sqt"))
  | fail)
local macro_rules | `(tactic| wtm_at "g_st") => `(tactic| first
  | (with_reducible first
      | refine w_seq ?_ | refine w_asg ?_ | refine w_nm ?_ | refine w_next ?_ | refine w_if ?_ | refine w_ret ?_ | refine w_retN ?_ | refine w_drop ?_
      | refine w_var rfl ?_ | refine w_c ?_ | refine w_op ?_ | refine w_I0 ?_
      | refine w_eqI ?_ | refine w_neI ?_ | refine w_eqB ?_ | refine w_neB ?_ | refine w_eqS ?_ | refine w_neS ?_ | refine w_isN0 ?_ | refine w_isNi ?_ | refine w_isNr ?_ | refine w_isNb ?_ | refine w_isNs ?_ | refine w_notN0 ?_ | refine w_notNi ?_ | refine w_notNr ?_ | refine w_notNb ?_ | refine w_notNs ?_ | refine w_isN ?_ | refine w_notN ?_ | refine w_isB ?_ | refine w_notB ?_
      | refine w_un ?_ | refine w_U ?_ | refine w_chain ?_ | refine w_k ?_ | refine w_test ?_ | refine w_tB ?_ | refine w_tru ?_ | refine w_not ?_ | refine w_and ?_ | refine w_or ?_
      | refine w_andV ?_ | refine w_orV ?_ | refine w_notV ?_ | refine w_ife ?_ | refine w_nil ?_ | refine w_cons ?_ | refine w_tup ?_ | refine w_lst ?_ | refine w_small rfl ?_
      | refine w_call ?_ | refine w_mk ?_ | refine w_mt ?_ | refine w_cb ?_ | refine w_min2 ?_ | refine w_max2 ?_ | refine w_abs ?_ | refine w_int ?_
      | refine w_fld0 ?_ | refine w_bm ?_ | refine w_bm0 ?_ | refine w_sub ?_ | refine w_sfld ?_ | refine w_sfa ?_ | refine w_radd ?_ | refine w_rsub ?_ | refine w_ip ?_ | refine w_rs ?_ | refine w_pr ?_
      | refine w_lcR1 ?_ | refine w_lcR2 ?_ | refine w_lcL ?_ | refine w_lcT ?_ | refine w_yes ?_ | refine w_disp ?_ | refine w_prs ?_ | refine w_prn ?_ | refine w_dget ?_ | refine w_sl ?_ | refine w_nopart ?_ | refine w_part ?_ | refine w_pint ?_
      | refine w_forR1 ?_ | refine w_forR2 ?_ | refine w_forL ?_ | refine w_forT ?_ | refine w_aug rfl ?_ | refine w_par ?_ | refine w_brk ?_ | refine w_cont ?_
      | refine w_isi_ii ?_ | refine w_isi_ib ?_ | refine w_isi_bi ?_ | refine w_isi_bb ?_ | refine w_isi_ss ?_ | refine w_isi_is ?_ | refine w_isi_il ?_ | refine w_isi_it ?_ | refine w_isi_sl ?_ | refine w_isi_st ?_ | refine w_isi_nl ?_ | refine w_isi_nt ?_
      | refine if_T ?_ | refine if_F ?_ | refine if_nT ?_ | refine if_nF ?_)
  | ((with_reducible refine' w_lenL ?k1 ?_); (case k1 => wtm_at "g_sq"))
  | ((with_reducible refine' w_lenT ?k1 ?_); (case k1 => wtm_at "g_sqt"))
  | ((with_reducible refine' w_isi_ll ?k1 ?_); (case k1 => wtm_at "g_hp"))
  | ((with_reducible refine' w_isi_tt ?k1 ?_); (case k1 => wtm_at "g_hp"))
  | ((with_reducible refine' w_isi_lt ?k1 ?_); (case k1 => wtm_at "g_hp"))
  | ((with_reducible refine' w_isi_tl ?k1 ?_); (case k1 => wtm_at "g_hp"))
  | wtm_at "g_get"
  | wtm_at "g_mt"
  | wtm_at "g_set"
  | wtm_at "g_set2"
  | wtm_at "g_call"
  | fail)
local macro_rules | `(tactic| wtm_at "g_go") => `(tactic| repeat wtm_at "g_st")
local macro_rules | `(tactic| wtm_at "g_ifo") => `(tactic| first
  | (refine if_nno rfl ?_) | (refine if_yes rfl ?_)
  | (refine if_no (by omega) ?_)
  | (refine if_yes (by omega) ?_)
  | (refine if_nno (by omega) ?_)
  | (refine if_nyes (by omega) ?_)
  | (refine if_nno (decide_eq_false (by omega)).symm ?_)
  | (refine if_nno (decide_eq_true (by omega)).symm ?_)
  | fail)
local macro_rules | `(tactic| wtm_at "g_goo") => `(tactic| repeat (first | wtm_at "g_st" | wtm_at "g_ifo"))
section
variable {K : PySem.W.Frag} {mg : Str → Option Value} {base : Heap}
abbrev kws : List (Key × V) := [(.inr "open", .int 1), (.inr "octets", .int 2), (.inr "permit", .int 3), (.inr "end", .int 4), (.inr "reset", .int 5)]
theorem kw_1 : valV (mergeK [] kws) (.inr "open" : Key) = some (.int 1) := by kernel_rfl
theorem kw_2 : valV (mergeK [] kws) (.inr "octets" : Key) = some (.int 2) := by kernel_rfl
theorem kw_3 : valV (mergeK [] kws) (.inr "permit" : Key) = some (.int 3) := by kernel_rfl
theorem kw_4 : valV (mergeK [] kws) (.inr "end" : Key) = some (.int 4) := by kernel_rfl
theorem kw_5 : valV (mergeK [] kws) (.inr "reset" : Key) = some (.int 5) := by kernel_rfl
theorem kw_a {w : Str} (h : w = "open" ∨ w = "end") : valV (mergeK [] kws) (.inr w : Key) = some (.int (kd w)) := by
  obtain ⟨k1, k2, k3, k4, k5⟩ := kd_vals
  rcases h with rfl | rfl
  · rw [k1]; exact kw_1
  · rw [k4]; exact kw_4
theorem kw_b {w : Str} (h : w = "permit" ∨ w = "reset") : valV (mergeK [] kws) (.inr w : Key) = some (.int (kd w)) := by
  obtain ⟨k1, k2, k3, k4, k5⟩ := kd_vals
  rcases h with rfl | rfl
  · rw [k3]; exact kw_3
  · rw [k5]; exact kw_5
theorem pure_law_octets (T : TX K mg base) (vs : List V) (H : Hp) (Q : VK) (E : XK) (h : sp_law_octets K vs H Q E) : t_law_octets K E { nx := fun _ H' => Q .non H', rt := Q } (start N_law_octets vs) H := by
  obtain ⟨p, l, f, rfl, hf, o, q⟩ := h
  obtain ⟨n1, n2, n3, n4, n5, n6, n7, n8⟩ := ne_ws
  unfold t_law_octets
  wtm_at "g_go"
  intro t0 ht0
  wtm_at "g_go"
  refine ⟨upd_same, kws, rfl, by decide, ?_⟩
  have e1 : Ext H (upd (upd H t0 (.dK [])) t0 (.dK (mergeK [] kws))) := by wtm_at "g_ex"
  have hd : (upd (upd H t0 (.dK [])) t0 (.dK (mergeK [] kws))) t0 = some (.dK (mergeK [] kws)) := upd_same
  generalize upd (upd H t0 (.dK [])) t0 (.dK (mergeK [] kws)) = H1 at *
  cases f with
  | a w c =>
    have hf' : H1 p = some (.tup [.str w, .int c]) := e1 _ _ hf
    have hno : ¬ w = "octets" := by rcases o.1 with rfl | rfl <;> (intro z; first | exact n1 z.symm | exact n2 z.symm)
    wtm_at "g_go"
    refine w_ixT (xs := [.str w, .int c]) (by wtm_at "g_sqt") rfl ?_
    refine w_dgetS hd (kw_a o.1) ?_
    wtm_at "g_go"
    refine w_ixT (xs := [.str w, .int c]) (by wtm_at "g_sqt") rfl ?_
    wtm_at "g_go"
    refine w_I ⟨by decide, by decide⟩ ?_
    wtm_at "g_go"
    refine w_ixT (xs := [.str w, .int c]) (by wtm_at "g_sqt") rfl ?_
    wtm_at "g_go"
    refine w_I (by decide) ?_
    wtm_at "g_go"
    intro t1 ht1
    wtm_at "g_go"
    refine w_ixT (xs := [.str w, .int c]) (by wtm_at "g_sqt") rfl ?_
    wtm_at "g_go"
    refine if_no hno ?_
    wtm_at "g_go"
    refine if_no (show ¬ (2 : Int) < ((2 : Nat) : Int) by decide) ?_
    wtm_at "g_go"
    exact q _ _ (ext_none e1 ht1) (by wtm_at "g_ex") (by rw [upd_same]; rfl)
  | b w c n =>
    have hf' : H1 p = some (.tup [.str w, .int c, .int n]) := e1 _ _ hf
    have hno : ¬ w = "octets" := by rcases o.1 with rfl | rfl <;> assumption
    wtm_at "g_go"
    refine w_ixT (xs := [.str w, .int c, .int n]) (by wtm_at "g_sqt") rfl ?_
    refine w_dgetS hd (kw_b o.1) ?_
    wtm_at "g_go"
    refine w_ixT (xs := [.str w, .int c, .int n]) (by wtm_at "g_sqt") rfl ?_
    wtm_at "g_go"
    refine w_I ⟨by decide, by decide⟩ ?_
    wtm_at "g_go"
    refine w_ixT (xs := [.str w, .int c, .int n]) (by wtm_at "g_sqt") rfl ?_
    wtm_at "g_go"
    refine w_I (by decide) ?_
    wtm_at "g_go"
    intro t1 ht1
    wtm_at "g_go"
    refine w_ixT (xs := [.str w, .int c, .int n]) (by wtm_at "g_sqt") rfl ?_
    wtm_at "g_go"
    refine if_no hno ?_
    wtm_at "g_go"
    refine if_yes (show (2 : Int) < ((3 : Nat) : Int) by decide) ?_
    wtm_at "g_go"
    refine w_ixT (xs := [.str w, .int c, .int n]) (by wtm_at "g_sqt") rfl ?_
    wtm_at "g_go"
    refine w_I ⟨by decide, by decide⟩ ?_
    wtm_at "g_go"
    refine w_ixT (xs := [.str w, .int c, .int n]) (by wtm_at "g_sqt") rfl ?_
    wtm_at "g_go"
    refine w_I (by decide) ?_
    wtm_at "g_go"
    intro t2 ht2
    refine w_cat (by wtm_at "g_hp") (by wtm_at "g_hp") (small_le rfl) fun t3 ht3 => ?_
    exact q _ _ (ext_none e1 (none_dn (none_dn ht3))) (by wtm_at "g_ex") (by rw [upd_same]; rfl)
  | o c xs =>
    have hf' : H1 p = some (.tup [.str "octets", .int c, .ref l]) := e1 _ _ hf.1
    have hl : H1 l = some (.lst (xs.map V.int)) := e1 _ _ hf.2
    have hlen := o.2.2.1
    wtm_at "g_go"
    refine w_ixT (xs := [.str "octets", .int c, .ref l]) (by wtm_at "g_sqt") rfl ?_
    refine w_dgetS hd kw_2 ?_
    wtm_at "g_go"
    refine w_ixT (xs := [.str "octets", .int c, .ref l]) (by wtm_at "g_sqt") rfl ?_
    wtm_at "g_go"
    refine w_I ⟨by decide, by decide⟩ ?_
    wtm_at "g_go"
    refine w_ixT (xs := [.str "octets", .int c, .ref l]) (by wtm_at "g_sqt") rfl ?_
    wtm_at "g_go"
    refine w_I (by decide) ?_
    wtm_at "g_go"
    intro t1 ht1
    wtm_at "g_go"
    refine w_ixT (xs := [.str "octets", .int c, .ref l]) (by wtm_at "g_sqt") rfl ?_
    wtm_at "g_go"
    refine if_yes rfl ?_
    wtm_at "g_go"
    refine w_ixT (xs := [.str "octets", .int c, .ref l]) (by wtm_at "g_sqt") rfl ?_
    wtm_at "g_go"
    rw [List.length_map]
    refine w_I ⟨by decide, by decide⟩ ?_
    wtm_at "g_go"
    refine w_ixT (xs := [.str "octets", .int c, .ref l]) (by wtm_at "g_sqt") rfl ?_
    wtm_at "g_go"
    rw [List.length_map]
    refine w_I (by decide) ?_
    wtm_at "g_go"
    intro t4 ht4
    refine w_cat (by wtm_at "g_hp") (by wtm_at "g_hp") (small_le rfl) fun t5 ht5 => ?_
    wtm_at "g_go"
    refine w_ixT (xs := [.str "octets", .int c, .ref l]) (by wtm_at "g_sqt") rfl ?_
    refine w_cat (by wtm_at "g_hp") (by wtm_at "g_hp") (by rw [List.length_map]; exact small16 (by show 5 + xs.length ≤ _; omega)) fun t7 ht7 => ?_
    refine q _ _ (ext_none e1 (none_dn (none_dn (none_dn ht7)))) (by wtm_at "g_ex") ?_
    rw [upd_same]
    show _ = some (HO.lst (([2, c / 256, c % 256, (xs.length : Int) / 256, (xs.length : Int) % 256] ++ xs).map V.int))
    rw [List.map_append]
    rfl
end
end K35

namespace K35
open PySem PySem.Spec PyProof.Rows L2 G
local macro_rules | `(tactic| wtm_at "g_get") => `(tactic| first
  | fail
  | fail)
local macro_rules | `(tactic| wtm_at "g_set") => `(tactic| first
  | fail
  | fail)
local macro_rules | `(tactic| wtm_at "g_set2") => `(tactic| first
  | fail
  | fail)
local macro_rules | `(tactic| wtm_at "g_mt") => `(tactic| first
  | fail
  | fail)
local macro_rules | `(tactic| wtm_at "g_call") => `(tactic| first
  | ((with_reducible refine' c_digit ?k1 ?k2 ?k3 ?_); (case k1 => wtm_at "g_hp"); (case k2 => omega); (case k3 => omega); intro _ _ _ _)
  | ((with_reducible refine' c_start ?_); intro _ _ _)
  | ((with_reducible refine' c_isint ?_))
  | ((with_reducible refine' c_cell ?k1 ?k2 ?_); (case k1 => wtm_at "g_sq"); (case k2 => omega); intro _)
  | ((with_reducible refine' c_two ?_))
  | fail)
local macro_rules | `(tactic| wtm_at "g_ne") => `(tactic| first
  | (with_reducible assumption) | (with_reducible exact Ne.symm (by assumption)) | (with_reducible exact ne_of_none (by assumption) (by assumption)) | (with_reducible exact (ne_of_none (by assumption) (by assumption)).symm)
  | fail)
local macro_rules | `(tactic| wtm_at "g_hp") => `(tactic| first
  | (with_reducible assumption) | (with_reducible exact upd_same) | ((with_reducible refine' up_nn ?k1 ?k2); (case k1 => with_reducible assumption); (case k2 => wtm_at "g_hp")) | ((with_reducible refine' up_k' ?k1 ?k2); (case k1 => wtm_at "g_ne"); (case k2 => wtm_at "g_hp"))
  | ((with_reducible refine' up_ko ?k1 ?k2 ?k3); (case k1 => wtm_at "g_hp"); (case k2 => wtm_at "g_hp"); (case k3 => (intro z; cases z)))
  | ((with_reducible refine' ext_get ?k1 ?k2); (case k1 => assumption); (case k2 => wtm_at "g_hp"))
  | ((with_reducible refine' extp_get ?k1 ?k2 ?k3); (case k1 => assumption); (case k2 => wtm_at "g_ne"); (case k3 => wtm_at "g_hp"))
  | ((with_reducible refine' exts_get ?k1 ?k2 ?k3); (case k1 => assumption); (case k2 => wtm_at "g_ni"); (case k3 => wtm_at "g_hp"))
  | fail)
local macro_rules | `(tactic| wtm_at "g_ni") => `(tactic| first
  | (with_reducible assumption) | (with_reducible exact ni_nil)
  | ((with_reducible refine' ni_cons ?k1 ?k2); (case k1 => wtm_at "g_ne"); (case k2 => wtm_at "g_ni"))
  | fail)
local macro_rules | `(tactic| wtm_at "g_mem") => `(tactic| first
  | (with_reducible assumption) | (with_reducible exact mem_hd)
  | ((with_reducible refine' mem_tl ?k1); (case k1 => wtm_at "g_mem"))
  | fail)
local macro_rules | `(tactic| wtm_at "g_sub") => `(tactic| first
  | (with_reducible assumption) | (with_reducible exact SubN.nil)
  | ((with_reducible refine' SubN.inn ?k1 ?k2); (case k1 => wtm_at "g_mem"); (case k2 => wtm_at "g_sub"))
  | ((with_reducible refine' SubN.new ?k1 ?k2); (case k1 => wtm_at "g_nn"); (case k2 => wtm_at "g_sub"))
  | fail)
local macro_rules | `(tactic| wtm_at "g_nn") => `(tactic| first
  | (with_reducible assumption) | ((with_reducible refine' none_up ?k1 ?k2); (case k1 => wtm_at "g_ne"); (case k2 => wtm_at "g_nn")) | ((with_reducible refine' none_dn ?k1); (case k1 => with_reducible assumption))
  | ((with_reducible refine' exts_none ?k1 ?k2); (case k1 => assumption); (case k2 => with_reducible assumption)) | ((with_reducible refine' ext_none ?k1 ?k2); (case k1 => assumption); (case k2 => with_reducible assumption))
  | fail)
local macro_rules | `(tactic| wtm_at "g_ex") => `(tactic| first
  | (with_reducible assumption) | (with_reducible exact Ext.rfl') | (with_reducible exact ExtP.rfl')
  | ((with_reducible refine' ext_up ?k1 ?k2); (case k1 => wtm_at "g_nn"); (case k2 => wtm_at "g_ex"))
  | ((with_reducible refine' ext_put ?k1 ?k2); (case k1 => wtm_at "g_nn"); (case k2 => wtm_at "g_ex"))
  | ((with_reducible refine' ext_via ?k1 ?k2); (case k1 => assumption); (case k2 => wtm_at "g_ex"))
  | ((with_reducible refine' ext_thr ?k1 ?k2 ?k3); (case k2 => assumption); (case k1 => wtm_at "g_nn"); (case k3 => wtm_at "g_ex"))
  | ((with_reducible refine' extp_put ?k1); (case k1 => wtm_at "g_ex"))
  | ((with_reducible refine' extp_up ?k1 ?k2); (case k1 => wtm_at "g_nn"); (case k2 => wtm_at "g_ex"))
  | ((with_reducible refine' extp_putn ?k1 ?k2); (case k1 => wtm_at "g_nn"); (case k2 => wtm_at "g_ex"))
  | ((with_reducible refine' extp_via ?k1 ?k2); (case k1 => assumption); (case k2 => wtm_at "g_ex"))
  | ((with_reducible refine' extp_viae ?k1 ?k2); (case k1 => assumption); (case k2 => wtm_at "g_ex"))
  | ((with_reducible refine' extp_thr ?k1 ?k2 ?k3); (case k2 => assumption); (case k1 => wtm_at "g_nn"); (case k3 => wtm_at "g_ex"))
  | (with_reducible exact ExtS.rfl')
  | ((with_reducible refine' exts_up ?k1 ?k2); (case k1 => wtm_at "g_nn"); (case k2 => wtm_at "g_ex"))
  | ((with_reducible refine' exts_put ?k1 ?k2); (case k1 => wtm_at "g_sub"); (case k2 => wtm_at "g_ex"))
  | ((with_reducible refine' exts_thrE ?k1 ?k2); (case k1 => assumption); (case k2 => wtm_at "g_ex"))
  | ((with_reducible refine' exts_thrP ?k1 ?k2 ?k3 ?k4); (case k1 => assumption); (case k2 => assumption); (case k3 => wtm_at "g_sub"); (case k4 => wtm_at "g_ex"))
  | ((with_reducible refine' exts_thr ?k1 ?k2 ?k3); (case k1 => assumption); (case k2 => wtm_at "g_sub"); (case k3 => wtm_at "g_ex"))
  | fail)
local macro_rules | `(tactic| wtm_at "g_thw") => `(tactic| first
  | (with_reducible assumption) | ((with_reducible refine' Thw.lst ?k1); (case k1 => wtm_at "g_hp")) | ((with_reducible refine' Thw.ins ?k1); (case k1 => wtm_at "g_hp"))
  | fail)
local macro_rules | `(tactic| wtm_at "g_sc") => `(tactic| first
  | (with_reducible assumption) | ((with_reducible refine' scr_new' ?k1 ?k2); (case k1 => wtm_at "g_nn"); (case k2 => wtm_at "g_sc")) | ((with_reducible refine' scr_put' ?k1 ?k2); (case k1 => wtm_at "g_thw"); (case k2 => wtm_at "g_sc"))
  | ((with_reducible refine' scr_ext ?k1 ?k2); (case k1 => assumption); (case k2 => wtm_at "g_sc")) | ((with_reducible refine' scr_extp ?k1 ?k2 ?k3); (case k1 => assumption); (case k2 => wtm_at "g_thw"); (case k3 => wtm_at "g_sc")) | ((with_reducible refine' scr_extn ?k1 ?k2 ?k3); (case k1 => assumption); (case k2 => wtm_at "g_nn"); (case k3 => wtm_at "g_sc"))
  | fail)
local macro_rules | `(tactic| wtm_at "g_sq") => `(tactic| first
  | (with_reducible assumption) | ((with_reducible refine' SqL.of ?k1); (case k1 => wtm_at "g_hp")) | ((with_reducible refine' Scr.sq ?k1); (case k1 => wtm_at "g_sc")) | ((with_reducible refine' sq_new' ?k1 ?k2); (case k1 => wtm_at "g_nn"); (case k2 => wtm_at "g_sq")) | ((with_reducible refine' sq_put' ?k1 ?k2); (case k1 => wtm_at "g_ne"); (case k2 => wtm_at "g_sq"))
  | ((with_reducible refine' sq_ext ?k1 ?k2); (case k1 => assumption); (case k2 => wtm_at "g_sq"))
  | fail)
local macro_rules | `(tactic| wtm_at "g_sqt") => `(tactic| first
  | (with_reducible assumption) | ((with_reducible refine' SqT.of' ?k1); (case k1 => wtm_at "g_hp")) | ((with_reducible refine' sqt_ext ?k1 ?k2); (case k1 => assumption); (case k2 => wtm_at "g_sqt"))
  | fail)
local macro_rules | `(tactic| wtm_at "g_st") => `(tactic| first
  | (with_reducible first
      | refine w_seq ?_ | refine w_asg ?_ | refine w_nm ?_ | refine w_next ?_ | refine w_if ?_ | refine w_ret ?_ | refine w_retN ?_ | refine w_drop ?_
      | refine w_var rfl ?_ | refine w_c ?_ | refine w_op ?_ | refine w_I0 ?_
      | refine w_eqI ?_ | refine w_neI ?_ | refine w_eqB ?_ | refine w_neB ?_ | refine w_eqS ?_ | refine w_neS ?_ | refine w_isN0 ?_ | refine w_isNi ?_ | refine w_isNr ?_ | refine w_isNb ?_ | refine w_isNs ?_ | refine w_notN0 ?_ | refine w_notNi ?_ | refine w_notNr ?_ | refine w_notNb ?_ | refine w_notNs ?_ | refine w_isN ?_ | refine w_notN ?_ | refine w_isB ?_ | refine w_notB ?_
      | refine w_un ?_ | refine w_U ?_ | refine w_chain ?_ | refine w_k ?_ | refine w_test ?_ | refine w_tB ?_ | refine w_tru ?_ | refine w_not ?_ | refine w_and ?_ | refine w_or ?_
      | refine w_andV ?_ | refine w_orV ?_ | refine w_notV ?_ | refine w_ife ?_ | refine w_nil ?_ | refine w_cons ?_ | refine w_tup ?_ | refine w_lst ?_ | refine w_small rfl ?_
      | refine w_call ?_ | refine w_mk ?_ | refine w_mt ?_ | refine w_cb ?_ | refine w_min2 ?_ | refine w_max2 ?_ | refine w_abs ?_ | refine w_int ?_
      | refine w_fld0 ?_ | refine w_bm ?_ | refine w_bm0 ?_ | refine w_sub ?_ | refine w_sfld ?_ | refine w_sfa ?_ | refine w_radd ?_ | refine w_rsub ?_ | refine w_ip ?_ | refine w_rs ?_ | refine w_pr ?_
      | refine w_lcR1 ?_ | refine w_lcR2 ?_ | refine w_lcL ?_ | refine w_lcT ?_ | refine w_yes ?_ | refine w_disp ?_ | refine w_prs ?_ | refine w_prn ?_ | refine w_dget ?_ | refine w_sl ?_ | refine w_nopart ?_ | refine w_part ?_ | refine w_pint ?_
      | refine w_forR1 ?_ | refine w_forR2 ?_ | refine w_forL ?_ | refine w_forT ?_ | refine w_aug rfl ?_ | refine w_par ?_ | refine w_brk ?_ | refine w_cont ?_
      | refine w_isi_ii ?_ | refine w_isi_ib ?_ | refine w_isi_bi ?_ | refine w_isi_bb ?_ | refine w_isi_ss ?_ | refine w_isi_is ?_ | refine w_isi_il ?_ | refine w_isi_it ?_ | refine w_isi_sl ?_ | refine w_isi_st ?_ | refine w_isi_nl ?_ | refine w_isi_nt ?_
      | refine if_T ?_ | refine if_F ?_ | refine if_nT ?_ | refine if_nF ?_)
  | ((with_reducible refine' w_lenL ?k1 ?_); (case k1 => wtm_at "g_sq"))
  | ((with_reducible refine' w_lenT ?k1 ?_); (case k1 => wtm_at "g_sqt"))
  | ((with_reducible refine' w_isi_ll ?k1 ?_); (case k1 => wtm_at "g_hp"))
  | ((with_reducible refine' w_isi_tt ?k1 ?_); (case k1 => wtm_at "g_hp"))
  | ((with_reducible refine' w_isi_lt ?k1 ?_); (case k1 => wtm_at "g_hp"))
  | ((with_reducible refine' w_isi_tl ?k1 ?_); (case k1 => wtm_at "g_hp"))
  | wtm_at "g_get"
  | wtm_at "g_mt"
  | wtm_at "g_set"
  | wtm_at "g_set2"
  | wtm_at "g_call"
  | fail)
local macro_rules | `(tactic| wtm_at "g_go") => `(tactic| repeat wtm_at "g_st")
local macro_rules | `(tactic| wtm_at "g_ifo") => `(tactic| first
  | (refine if_nno rfl ?_) | (refine if_yes rfl ?_)
  | (refine if_no (by omega) ?_)
  | (refine if_yes (by omega) ?_)
  | (refine if_nno (by omega) ?_)
  | (refine if_nyes (by omega) ?_)
  | (refine if_nno (decide_eq_false (by omega)).symm ?_)
  | (refine if_nno (decide_eq_true (by omega)).symm ?_)
  | fail)
local macro_rules | `(tactic| wtm_at "g_goo") => `(tactic| repeat (first | wtm_at "g_st" | wtm_at "g_ifo"))
section
variable {K : PySem.W.Frag} {mg : Str → Option Value} {base : Heap}
theorem word_at {k : Int} (h0 : 1 ≤ k) (h1 : k ≤ 5) : atI v_WORDS (k - 1) = some (V.str (WS.getD (k - 1).toNat "")) := by
  have h : k = 1 ∨ k = 2 ∨ k = 3 ∨ k = 4 ∨ k = 5 := by omega
  rcases h with rfl | rfl | rfl | rfl | rfl <;> rfl
theorem getD_nn {L : List Int} (h : ∀ x ∈ L, 0 ≤ x) (a : Nat) : 0 ≤ L.getD a 0 := by
  rw [List.getD_eq_getElem?_getD]
  cases e : L[a]? with
  | none => exact Int.le_refl 0
  | some x => exact h x (List.mem_of_getElem? e)
theorem pure_first_frame (T : TX K mg base) (vs : List V) (H : Hp) (Q : VK) (E : XK) (h : sp_first_frame K vs H Q E) : t_first_frame K E { nx := fun _ H' => Q .non H', rt := Q } (start N_first_frame vs) H := by
  obtain ⟨a, L, rfl, ha, hnn, q1, q2, q3⟩ := h
  unfold t_first_frame
  unfold rdF at q1 q2 q3
  wtm_at "g_go"
  rw [List.length_map]
  refine if_d (fun h1 => ?_) (fun h1 => ?_)
  · wtm_at "g_go"
    exact q1 (if_pos (by omega)) H Ext.rfl'
  rw [if_neg (by omega)] at q1 q2 q3
  wtm_at "g_go"
  refine w_ixL (SqL.of ha) (atI_int (a := 0) (by omega) rfl) ?_
  wtm_at "g_go"
  by_cases h2 : 1 ≤ L.getD 0 0
  case neg =>
    wtm_at "g_goo"
    exact q2 (if_pos (by omega))
  refine if_yes h2 ?_
  wtm_at "g_go"
  refine w_lenT (kx_WORDS T H) ?_
  have e5 : ((v_WORDS.length : Nat) : Int) = 5 := rfl
  rw [e5]
  wtm_at "g_go"
  by_cases h3 : L.getD 0 0 ≤ 5
  case neg =>
    wtm_at "g_goo"
    exact q2 (if_pos (by omega))
  refine if_nno h3 ?_
  rw [if_neg (by omega)] at q1 q2 q3
  wtm_at "g_go"
  refine w_ixL (SqL.of ha) (atI_int (a := 0) (by omega) rfl) ?_
  wtm_at "g_go"
  refine w_ixT (kx_WORDS T H) (word_at h2 h3) ?_
  generalize WS.getD (L.getD 0 0 - 1).toNat "" = W at *
  wtm_at "g_go"
  refine w_ixL (SqL.of ha) (atI_int (a := 1) (by omega) rfl) ?_
  wtm_at "g_go"
  refine w_I (.inr (by decide)) ?_
  wtm_at "g_go"
  refine w_ixL (SqL.of ha) (atI_int (a := 2) (by omega) rfl) ?_
  wtm_at "g_go"
  have short : W = "open" ∨ W = "end" → tRet (tTup (tCons (tTup (tCons (tVar 1) (tCons (tVar 2) tNil))) (tCons (tC (.int 3)) tNil))) { nx := fun _ H' => Q .non H', rt := Q } [some (.ref a), some (.str W), some (.int (L.getD 1 0 * 256 + L.getD 2 0)), none] H := by
    intro hw
    wtm_at "g_go"
    intro t1 ht1
    wtm_at "g_go"
    intro t2 ht2
    refine q3 (.a W (L.getD 1 0 * 256 + L.getD 2 0)) 3 (if_pos hw) _ t2 t1 t1 (by wtm_at "g_ex") upd_same ?_
    show upd _ _ _ t1 = some (.tup [.str W, .int (L.getD 1 0 * 256 + L.getD 2 0)])
    wtm_at "g_hp"
  refine if_d (fun h4 => ?_) (fun h4 => ?_)
  · refine if_T ?_
    exact short (.inl h4)
  wtm_at "g_go"
  refine if_d (fun h5 => ?_) (fun h5 => ?_)
  · exact short (.inr h5)
  rw [if_neg (fun z => z.elim h4 h5)] at q1 q2 q3
  wtm_at "g_go"
  rw [List.length_map]
  refine if_d (fun h6 => ?_) (fun h6 => ?_)
  · wtm_at "g_go"
    exact q1 (if_pos (by omega)) H Ext.rfl'
  rw [if_neg (by omega)] at q1 q2 q3
  wtm_at "g_go"
  refine w_ixL (SqL.of ha) (atI_int (a := 3) (by omega) rfl) ?_
  wtm_at "g_go"
  refine w_I (.inr (by decide)) ?_
  wtm_at "g_go"
  refine w_ixL (SqL.of ha) (atI_int (a := 4) (by omega) rfl) ?_
  wtm_at "g_go"
  refine if_nd (fun h7 => ?_) (fun h7 => ?_)
  · wtm_at "g_go"
    intro t1 ht1
    wtm_at "g_go"
    intro t2 ht2
    refine q3 (.b W (L.getD 1 0 * 256 + L.getD 2 0) (L.getD 3 0 * 256 + L.getD 4 0)) 5 (if_pos h7) _ t2 t1 t1 (by wtm_at "g_ex") upd_same ?_
    show upd _ _ _ t1 = some (.tup [.str W, .int (L.getD 1 0 * 256 + L.getD 2 0), .int (L.getD 3 0 * 256 + L.getD 4 0)])
    wtm_at "g_hp"
  rw [if_neg (fun z => z h7)] at q1 q2 q3
  subst h7
  have hn : 0 ≤ L.getD 3 0 * 256 + L.getD 4 0 := by
    have := getD_nn hnn 3
    have := getD_nn hnn 4
    omega
  generalize L.getD 3 0 * 256 + L.getD 4 0 = n at *
  wtm_at "g_go"
  rw [List.length_map]
  refine if_d (fun h8 => ?_) (fun h8 => ?_)
  · wtm_at "g_go"
    exact q1 (if_pos h8) H Ext.rfl'
  wtm_at "g_go"
  refine w_slLmid (SqL.of ha) (by omega) (by omega) fun l hl => ?_
  wtm_at "g_go"
  intro t1 ht1
  wtm_at "g_go"
  intro t2 ht2
  refine q3 (.o (L.getD 1 0 * 256 + L.getD 2 0) ((L.drop 5).take n.toNat)) (5 + n) (if_neg h8) _ t2 t1 l (by wtm_at "g_ex") upd_same ⟨?_, ?_⟩
  · wtm_at "g_hp"
  · have e6 : (5 + n - 5).toNat = n.toNat := by omega
    rw [List.map_take, List.map_drop, ← e6]
    exact up_n (up_n upd_same ht1) ht2
theorem pure_law_same_octets (T : TX K mg base) (vs : List V) (H : Hp) (Q : VK) (E : XK) (h : sp_law_same_octets K vs H Q E) : t_law_same_octets K E { nx := fun _ H' => Q .non H', rt := Q } (start N_law_same_octets vs) H := by
  obtain ⟨a, b, xs, rfl, ha, hb, hl, q⟩ := h
  unfold t_law_same_octets
  wtm_at "g_go"
  rw [decide_eq_true rfl]
  wtm_at "g_go"
  rw [List.length_map]
  refine loop1 (n := xs.length) (fun i σ H' => H' = H ∧ ∃ v2, σ = [some (.ref a), some (.ref b), v2]) rfl (by omega) ⟨rfl, _, rfl⟩ ?_ ?_
  · rintro i σ H1 hi ⟨rfl, v2, rfl⟩
    wtm_at "g_go"
    refine w_ixL (SqL.of ha) (atI_int hi rfl) ?_
    wtm_at "g_go"
    refine w_ixL (SqL.of ha) (atI_int hi rfl) ?_
    wtm_at "g_go"
    refine w_ixL (SqL.of hb) (atI_int hi rfl) ?_
    wtm_at "g_go"
    rw [decide_eq_true rfl]
    wtm_at "g_go"
    exact ⟨rfl, _, rfl⟩
  · rintro σ H1 ⟨rfl, v2, rfl⟩
    wtm_at "g_go"
    exact q
theorem pure_law_read (T : TX K mg base) (vs : List V) (H : Hp) (Q : VK) (E : XK) (h : sp_law_read K vs H Q E) : t_law_read K E { nx := fun _ H' => Q .non H', rt := Q } (start N_law_read vs) H := by
  obtain ⟨a, L, rfl, ha, hnn, q1, q2, q3⟩ := h
  unfold t_law_read
  wtm_at "g_go"
  refine w_listL (xs := L.map V.int) (SqL.of ha) fun g hg => ?_
  wtm_at "g_go"
  refine ⟨g, L, rfl, upd_same, hnn, fun hr H1 e1 => ?_, fun hr => ⟨true, T.exm 0, fun _ x hx => ?_, fun z => Bool.noConfusion z⟩, fun f n hr H1 t p l e1 ht hf => ?_⟩
  · wtm_at "g_go"
    refine w_neLI (xs := L) (ys := L) (by wtm_at "g_sq") (by wtm_at "g_sq") ?_
    rw [decide_eq_true rfl]
    wtm_at "g_go"
    exact q1 hr _ (by wtm_at "g_ex")
  · wtm_at "g_go"
    refine w_isX (excCB_ok (T.b.ex_ 1)) (.own _) (of_decide_eq_true (T.b.ex_ 2)) ?_
    wtm_at "g_go"
    refine w_isX (excCB_ok (T.b.ex_ 1)) (.own _) (of_decide_eq_true (T.b.ex_ 3)) ?_
    wtm_at "g_go"
    exact q2 hr _ (by wtm_at "g_ex")
  · wtm_at "g_go"
    refine w_neLI (xs := L) (ys := L) (by wtm_at "g_sq") (by wtm_at "g_sq") ?_
    rw [decide_eq_true rfl]
    wtm_at "g_go"
    exact q3 f n hr _ t p l (by wtm_at "g_ex") ht hf
end
end K35

namespace K35
open PySem PySem.Spec PyProof.Rows L2 G
local macro_rules | `(tactic| wtm_at "g_get") => `(tactic| first
  | fail
  | fail)
local macro_rules | `(tactic| wtm_at "g_set") => `(tactic| first
  | fail
  | fail)
local macro_rules | `(tactic| wtm_at "g_set2") => `(tactic| first
  | fail
  | fail)
local macro_rules | `(tactic| wtm_at "g_mt") => `(tactic| first
  | fail
  | fail)
local macro_rules | `(tactic| wtm_at "g_call") => `(tactic| first
  | ((with_reducible refine' c_digit ?k1 ?k2 ?k3 ?_); (case k1 => wtm_at "g_hp"); (case k2 => omega); (case k3 => omega); intro _ _ _ _)
  | ((with_reducible refine' c_start ?_); intro _ _ _)
  | ((with_reducible refine' c_isint ?_))
  | ((with_reducible refine' c_cell ?k1 ?k2 ?_); (case k1 => wtm_at "g_sq"); (case k2 => omega); intro _)
  | ((with_reducible refine' c_two ?_))
  | fail)
local macro_rules | `(tactic| wtm_at "g_ne") => `(tactic| first
  | (with_reducible assumption) | (with_reducible exact Ne.symm (by assumption)) | (with_reducible exact ne_of_none (by assumption) (by assumption)) | (with_reducible exact (ne_of_none (by assumption) (by assumption)).symm)
  | fail)
local macro_rules | `(tactic| wtm_at "g_hp") => `(tactic| first
  | (with_reducible assumption) | (with_reducible exact upd_same) | ((with_reducible refine' up_nn ?k1 ?k2); (case k1 => with_reducible assumption); (case k2 => wtm_at "g_hp")) | ((with_reducible refine' up_k' ?k1 ?k2); (case k1 => wtm_at "g_ne"); (case k2 => wtm_at "g_hp"))
  | ((with_reducible refine' up_ko ?k1 ?k2 ?k3); (case k1 => wtm_at "g_hp"); (case k2 => wtm_at "g_hp"); (case k3 => (intro z; cases z)))
  | ((with_reducible refine' ext_get ?k1 ?k2); (case k1 => assumption); (case k2 => wtm_at "g_hp"))
  | ((with_reducible refine' extp_get ?k1 ?k2 ?k3); (case k1 => assumption); (case k2 => wtm_at "g_ne"); (case k3 => wtm_at "g_hp"))
  | ((with_reducible refine' exts_get ?k1 ?k2 ?k3); (case k1 => assumption); (case k2 => wtm_at "g_ni"); (case k3 => wtm_at "g_hp"))
  | fail)
local macro_rules | `(tactic| wtm_at "g_ni") => `(tactic| first
  | (with_reducible assumption) | (with_reducible exact ni_nil)
  | ((with_reducible refine' ni_cons ?k1 ?k2); (case k1 => wtm_at "g_ne"); (case k2 => wtm_at "g_ni"))
  | fail)
local macro_rules | `(tactic| wtm_at "g_mem") => `(tactic| first
  | (with_reducible assumption) | (with_reducible exact mem_hd)
  | ((with_reducible refine' mem_tl ?k1); (case k1 => wtm_at "g_mem"))
  | fail)
local macro_rules | `(tactic| wtm_at "g_sub") => `(tactic| first
  | (with_reducible assumption) | (with_reducible exact SubN.nil)
  | ((with_reducible refine' SubN.inn ?k1 ?k2); (case k1 => wtm_at "g_mem"); (case k2 => wtm_at "g_sub"))
  | ((with_reducible refine' SubN.new ?k1 ?k2); (case k1 => wtm_at "g_nn"); (case k2 => wtm_at "g_sub"))
  | fail)
local macro_rules | `(tactic| wtm_at "g_nn") => `(tactic| first
  | (with_reducible assumption) | ((with_reducible refine' none_up ?k1 ?k2); (case k1 => wtm_at "g_ne"); (case k2 => wtm_at "g_nn")) | ((with_reducible refine' none_dn ?k1); (case k1 => with_reducible assumption))
  | ((with_reducible refine' exts_none ?k1 ?k2); (case k1 => assumption); (case k2 => with_reducible assumption)) | ((with_reducible refine' ext_none ?k1 ?k2); (case k1 => assumption); (case k2 => with_reducible assumption))
  | fail)
local macro_rules | `(tactic| wtm_at "g_ex") => `(tactic| first
  | (with_reducible assumption) | (with_reducible exact Ext.rfl') | (with_reducible exact ExtP.rfl')
  | ((with_reducible refine' ext_up ?k1 ?k2); (case k1 => wtm_at "g_nn"); (case k2 => wtm_at "g_ex"))
  | ((with_reducible refine' ext_put ?k1 ?k2); (case k1 => wtm_at "g_nn"); (case k2 => wtm_at "g_ex"))
  | ((with_reducible refine' ext_via ?k1 ?k2); (case k1 => assumption); (case k2 => wtm_at "g_ex"))
  | ((with_reducible refine' ext_thr ?k1 ?k2 ?k3); (case k2 => assumption); (case k1 => wtm_at "g_nn"); (case k3 => wtm_at "g_ex"))
  | ((with_reducible refine' extp_put ?k1); (case k1 => wtm_at "g_ex"))
  | ((with_reducible refine' extp_up ?k1 ?k2); (case k1 => wtm_at "g_nn"); (case k2 => wtm_at "g_ex"))
  | ((with_reducible refine' extp_putn ?k1 ?k2); (case k1 => wtm_at "g_nn"); (case k2 => wtm_at "g_ex"))
  | ((with_reducible refine' extp_via ?k1 ?k2); (case k1 => assumption); (case k2 => wtm_at "g_ex"))
  | ((with_reducible refine' extp_viae ?k1 ?k2); (case k1 => assumption); (case k2 => wtm_at "g_ex"))
  | ((with_reducible refine' extp_thr ?k1 ?k2 ?k3); (case k2 => assumption); (case k1 => wtm_at "g_nn"); (case k3 => wtm_at "g_ex"))
  | (with_reducible exact ExtS.rfl')
  | ((with_reducible refine' exts_up ?k1 ?k2); (case k1 => wtm_at "g_nn"); (case k2 => wtm_at "g_ex"))
  | ((with_reducible refine' exts_put ?k1 ?k2); (case k1 => wtm_at "g_sub"); (case k2 => wtm_at "g_ex"))
  | ((with_reducible refine' exts_thrE ?k1 ?k2); (case k1 => assumption); (case k2 => wtm_at "g_ex"))
  | ((with_reducible refine' exts_thrP ?k1 ?k2 ?k3 ?k4); (case k1 => assumption); (case k2 => assumption); (case k3 => wtm_at "g_sub"); (case k4 => wtm_at "g_ex"))
  | ((with_reducible refine' exts_thr ?k1 ?k2 ?k3); (case k1 => assumption); (case k2 => wtm_at "g_sub"); (case k3 => wtm_at "g_ex"))
  | fail)
local macro_rules | `(tactic| wtm_at "g_thw") => `(tactic| first
  | (with_reducible assumption) | ((with_reducible refine' Thw.lst ?k1); (case k1 => wtm_at "g_hp")) | ((with_reducible refine' Thw.ins ?k1); (case k1 => wtm_at "g_hp"))
  | fail)
local macro_rules | `(tactic| wtm_at "g_sc") => `(tactic| first
  | (with_reducible assumption) | ((with_reducible refine' scr_new' ?k1 ?k2); (case k1 => wtm_at "g_nn"); (case k2 => wtm_at "g_sc")) | ((with_reducible refine' scr_put' ?k1 ?k2); (case k1 => wtm_at "g_thw"); (case k2 => wtm_at "g_sc"))
  | ((with_reducible refine' scr_ext ?k1 ?k2); (case k1 => assumption); (case k2 => wtm_at "g_sc")) | ((with_reducible refine' scr_extp ?k1 ?k2 ?k3); (case k1 => assumption); (case k2 => wtm_at "g_thw"); (case k3 => wtm_at "g_sc")) | ((with_reducible refine' scr_extn ?k1 ?k2 ?k3); (case k1 => assumption); (case k2 => wtm_at "g_nn"); (case k3 => wtm_at "g_sc"))
  | fail)
local macro_rules | `(tactic| wtm_at "g_sq") => `(tactic| first
  | (with_reducible assumption) | ((with_reducible refine' SqL.of ?k1); (case k1 => wtm_at "g_hp")) | ((with_reducible refine' Scr.sq ?k1); (case k1 => wtm_at "g_sc")) | ((with_reducible refine' sq_new' ?k1 ?k2); (case k1 => wtm_at "g_nn"); (case k2 => wtm_at "g_sq")) | ((with_reducible refine' sq_put' ?k1 ?k2); (case k1 => wtm_at "g_ne"); (case k2 => wtm_at "g_sq"))
  | ((with_reducible refine' sq_ext ?k1 ?k2); (case k1 => assumption); (case k2 => wtm_at "g_sq"))
  | fail)
local macro_rules | `(tactic| wtm_at "g_sqt") => `(tactic| first
  | (with_reducible assumption) | ((with_reducible refine' SqT.of' ?k1); (case k1 => wtm_at "g_hp")) | ((with_reducible refine' sqt_ext ?k1 ?k2); (case k1 => assumption); (case k2 => wtm_at "g_sqt"))
  | fail)
local macro_rules | `(tactic| wtm_at "g_st") => `(tactic| first
  | (with_reducible first
      | refine w_seq ?_ | refine w_asg ?_ | refine w_nm ?_ | refine w_next ?_ | refine w_if ?_ | refine w_ret ?_ | refine w_retN ?_ | refine w_drop ?_
      | refine w_var rfl ?_ | refine w_c ?_ | refine w_op ?_ | refine w_I0 ?_
      | refine w_eqI ?_ | refine w_neI ?_ | refine w_eqB ?_ | refine w_neB ?_ | refine w_eqS ?_ | refine w_neS ?_ | refine w_isN0 ?_ | refine w_isNi ?_ | refine w_isNr ?_ | refine w_isNb ?_ | refine w_isNs ?_ | refine w_notN0 ?_ | refine w_notNi ?_ | refine w_notNr ?_ | refine w_notNb ?_ | refine w_notNs ?_ | refine w_isN ?_ | refine w_notN ?_ | refine w_isB ?_ | refine w_notB ?_
      | refine w_un ?_ | refine w_U ?_ | refine w_chain ?_ | refine w_k ?_ | refine w_test ?_ | refine w_tB ?_ | refine w_tru ?_ | refine w_not ?_ | refine w_and ?_ | refine w_or ?_
      | refine w_andV ?_ | refine w_orV ?_ | refine w_notV ?_ | refine w_ife ?_ | refine w_nil ?_ | refine w_cons ?_ | refine w_tup ?_ | refine w_lst ?_ | refine w_small rfl ?_
      | refine w_call ?_ | refine w_mk ?_ | refine w_mt ?_ | refine w_cb ?_ | refine w_min2 ?_ | refine w_max2 ?_ | refine w_abs ?_ | refine w_int ?_
      | refine w_fld0 ?_ | refine w_bm ?_ | refine w_bm0 ?_ | refine w_sub ?_ | refine w_sfld ?_ | refine w_sfa ?_ | refine w_radd ?_ | refine w_rsub ?_ | refine w_ip ?_ | refine w_rs ?_ | refine w_pr ?_
      | refine w_lcR1 ?_ | refine w_lcR2 ?_ | refine w_lcL ?_ | refine w_lcT ?_ | refine w_yes ?_ | refine w_disp ?_ | refine w_prs ?_ | refine w_prn ?_ | refine w_dget ?_ | refine w_sl ?_ | refine w_nopart ?_ | refine w_part ?_ | refine w_pint ?_
      | refine w_forR1 ?_ | refine w_forR2 ?_ | refine w_forL ?_ | refine w_forT ?_ | refine w_aug rfl ?_ | refine w_par ?_ | refine w_brk ?_ | refine w_cont ?_
      | refine w_isi_ii ?_ | refine w_isi_ib ?_ | refine w_isi_bi ?_ | refine w_isi_bb ?_ | refine w_isi_ss ?_ | refine w_isi_is ?_ | refine w_isi_il ?_ | refine w_isi_it ?_ | refine w_isi_sl ?_ | refine w_isi_st ?_ | refine w_isi_nl ?_ | refine w_isi_nt ?_
      | refine if_T ?_ | refine if_F ?_ | refine if_nT ?_ | refine if_nF ?_)
  | ((with_reducible refine' w_lenL ?k1 ?_); (case k1 => wtm_at "g_sq"))
  | ((with_reducible refine' w_lenT ?k1 ?_); (case k1 => wtm_at "g_sqt"))
  | ((with_reducible refine' w_isi_ll ?k1 ?_); (case k1 => wtm_at "g_hp"))
  | ((with_reducible refine' w_isi_tt ?k1 ?_); (case k1 => wtm_at "g_hp"))
  | ((with_reducible refine' w_isi_lt ?k1 ?_); (case k1 => wtm_at "g_hp"))
  | ((with_reducible refine' w_isi_tl ?k1 ?_); (case k1 => wtm_at "g_hp"))
  | wtm_at "g_get"
  | wtm_at "g_mt"
  | wtm_at "g_set"
  | wtm_at "g_set2"
  | wtm_at "g_call"
  | fail)
local macro_rules | `(tactic| wtm_at "g_go") => `(tactic| repeat wtm_at "g_st")
local macro_rules | `(tactic| wtm_at "g_ifo") => `(tactic| first
  | (refine if_nno rfl ?_) | (refine if_yes rfl ?_)
  | (refine if_no (by omega) ?_)
  | (refine if_yes (by omega) ?_)
  | (refine if_nno (by omega) ?_)
  | (refine if_nyes (by omega) ?_)
  | (refine if_nno (decide_eq_false (by omega)).symm ?_)
  | (refine if_nno (decide_eq_true (by omega)).symm ?_)
  | fail)
local macro_rules | `(tactic| wtm_at "g_goo") => `(tactic| repeat (first | wtm_at "g_st" | wtm_at "g_ifo"))
section
variable {K : PySem.W.Frag} {mg : Str → Option Value} {base : Heap}
/-- what == says of two frames that are the same -/
theorem w_neFr {H : Hp} {Q : VK} {p q l m : Addr} {f : Fr} (h1 : FrAt H p l f) (h2 : FrAt H q m f) (o : f.Ok) (k : Q (.bl false) H) : rNeD K (.ref p) (.ref q) H Q := by
  refine w_neD h1.dp h2.dp (d_shaped o) (d_shaped o) ?_
  rw [eqv_self (d_shaped o)]
  exact k
theorem pure_law_same (T : TX K mg base) (vs : List V) (H : Hp) (Q : VK) (E : XK) (h : sp_law_same K vs H Q E) : t_law_same K E { nx := fun _ H' => Q .non H', rt := Q } (start N_law_same vs) H := by
  obtain ⟨t, p, l, q, m, f, n, rfl, ht, hq, hp, o, k⟩ := h
  obtain ⟨n1, n2, n3, n4, n5, n6, n7, n8⟩ := ne_ws
  unfold t_law_same
  wtm_at "g_go"
  refine if_nno rfl ?_
  wtm_at "g_go"
  refine w_ixT (xs := [.ref q, .int n]) (by wtm_at "g_sqt") rfl ?_
  obtain ⟨xs, hxs, hm⟩ := hq.sq
  wtm_at "g_go"
  refine w_ixT (xs := [.ref q, .int n]) (by wtm_at "g_sqt") rfl ?_
  wtm_at "g_go"
  refine w_neFr hq hp o ?_
  wtm_at "g_go"
  refine w_ixT (xs := [.ref q, .int n]) (by wtm_at "g_sqt") rfl ?_
  wtm_at "g_go"
  cases f with
  | a w c =>
    have hq' : H q = some (.tup [.str w, .int c]) := hq
    have hp' : H p = some (.tup [.str w, .int c]) := hp
    have hno : ¬ w = "octets" := by rcases o.1 with rfl | rfl <;> (intro z; first | exact n1 z.symm | exact n2 z.symm)
    refine w_ixT (xs := [.str w, .int c]) (by wtm_at "g_sqt") rfl ?_
    wtm_at "g_go"
    refine w_ixT (xs := [.ref q, .int n]) (by wtm_at "g_sqt") rfl ?_
    wtm_at "g_go"
    refine w_ixT (xs := [.str w, .int c]) (by wtm_at "g_sqt") rfl ?_
    wtm_at "g_go"
    refine if_no hno ?_
    wtm_at "g_go"
    refine w_ixT (xs := [.ref q, .int n]) (by wtm_at "g_sqt") rfl ?_
    wtm_at "g_go"
    rw [decide_eq_true rfl]
    exact k
  | b w c n' =>
    have hq' : H q = some (.tup [.str w, .int c, .int n']) := hq
    have hp' : H p = some (.tup [.str w, .int c, .int n']) := hp
    have hno : ¬ w = "octets" := by rcases o.1 with rfl | rfl <;> assumption
    refine w_ixT (xs := [.str w, .int c, .int n']) (by wtm_at "g_sqt") rfl ?_
    wtm_at "g_go"
    refine w_ixT (xs := [.ref q, .int n]) (by wtm_at "g_sqt") rfl ?_
    wtm_at "g_go"
    refine w_ixT (xs := [.str w, .int c, .int n']) (by wtm_at "g_sqt") rfl ?_
    wtm_at "g_go"
    refine if_no hno ?_
    wtm_at "g_go"
    refine w_ixT (xs := [.ref q, .int n]) (by wtm_at "g_sqt") rfl ?_
    wtm_at "g_go"
    rw [decide_eq_true rfl]
    exact k
  | o c ys =>
    have hq' : H q = some (.tup [.str "octets", .int c, .ref m]) := hq.1
    have hp' : H p = some (.tup [.str "octets", .int c, .ref l]) := hp.1
    have hlen := o.2.2.1
    refine w_ixT (xs := [.str "octets", .int c, .ref m]) (by wtm_at "g_sqt") rfl ?_
    wtm_at "g_go"
    refine w_ixT (xs := [.ref q, .int n]) (by wtm_at "g_sqt") rfl ?_
    wtm_at "g_go"
    refine w_ixT (xs := [.str "octets", .int c, .ref l]) (by wtm_at "g_sqt") rfl ?_
    wtm_at "g_go"
    refine if_yes rfl ?_
    wtm_at "g_go"
    refine w_ixT (xs := [.ref q, .int n]) (by wtm_at "g_sqt") rfl ?_
    wtm_at "g_go"
    refine w_ixT (xs := [.str "octets", .int c, .ref m]) (by wtm_at "g_sqt") rfl ?_
    wtm_at "g_go"
    refine w_ixT (xs := [.str "octets", .int c, .ref l]) (by wtm_at "g_sqt") rfl ?_
    wtm_at "g_go"
    refine ⟨m, l, ys, rfl, hq.2, hp.2, by omega, ?_⟩
    wtm_at "g_go"
    refine w_ixT (xs := [.ref q, .int n]) (by wtm_at "g_sqt") rfl ?_
    wtm_at "g_go"
    rw [decide_eq_true rfl]
    exact k
def PvC (H : Hp) (c : Int) (xs : List Int) (D : Addr) (i : Nat) (H' : Hp) : Prop := Ext H H' ∧ ((i = 0 ∧ H' D = some (.lst [])) ∨ (i = 1 ∧ H' D = some (.lst [.str "octets"])) ∨ (i = 2 ∧ H' D = some (.lst [.str "octets", .int c])) ∨
  (i = 3 ∧ ∃ m, H m = none ∧ H' m = some (.lst (xs.map V.int)) ∧ m ≠ D ∧ H' D = some (.lst [.str "octets", .int c, .ref m])))
theorem pure_law_copy (T : TX K mg base) (vs : List V) (H : Hp) (Q : VK) (E : XK) (h : sp_law_copy K vs H Q E) : t_law_copy K E { nx := fun _ H' => Q .non H', rt := Q } (start N_law_copy vs) H := by
  obtain ⟨p, l, f, rfl, hp, o, q⟩ := h
  unfold t_law_copy
  wtm_at "g_go"
  cases f with
  | a w c =>
    have hp' : H p = some (.tup [.str w, .int c]) := hp
    refine lcT (xs := [.str w, .int c]) (fun i => ([.str w, .int c] : List V).getD i .non) (by wtm_at "g_sqt") (show (2 : Nat) < 16000000 by decide) (fun i x D H1 hx hD e hA => ?_) (fun D H1 hD e hA => ?_)
    · have hi : i = 0 ∨ i = 1 := by have z := (List.getElem?_eq_some_iff.mp hx).1; simp at z; omega
      rcases hi with rfl | rfl <;> cases hx <;> wtm_at "g_go" <;> exact lc_one (by wtm_at "g_hp") (by wtm_at "g_ex") hD (by omega) rfl
    · refine w_tupL (SqL.of hA) fun t ht => ?_
      exact q t D _ (by wtm_at "g_ex") (show upd _ _ _ t = some (.tup [.str w, .int c]) from upd_same) hD
  | b w c n =>
    have hp' : H p = some (.tup [.str w, .int c, .int n]) := hp
    refine lcT (xs := [.str w, .int c, .int n]) (fun i => ([.str w, .int c, .int n] : List V).getD i .non) (by wtm_at "g_sqt") (show (3 : Nat) < 16000000 by decide) (fun i x D H1 hx hD e hA => ?_) (fun D H1 hD e hA => ?_)
    · have hi : i = 0 ∨ i = 1 ∨ i = 2 := by have z := (List.getElem?_eq_some_iff.mp hx).1; simp at z; omega
      rcases hi with rfl | rfl | rfl <;> cases hx <;> wtm_at "g_go" <;> exact lc_one (by wtm_at "g_hp") (by wtm_at "g_ex") hD (by omega) rfl
    · refine w_tupL (SqL.of hA) fun t ht => ?_
      exact q t D _ (by wtm_at "g_ex") (show upd _ _ _ t = some (.tup [.str w, .int c, .int n]) from upd_same) hD
  | o c xs =>
    have hp' : H p = some (.tup [.str "octets", .int c, .ref l]) := hp.1
    have hl : H l = some (.lst (xs.map V.int)) := hp.2
    refine ⟨p, rfl, ⟨_, SqT.of' hp'⟩, lcG walk_tup (PvC H c xs)
      (fun D hD => ⟨by wtm_at "g_ex", .inl ⟨rfl, upd_same⟩⟩) (fun D i H' h => SqT.of' (h.1 _ _ hp')) ?_ ?_⟩
    · rintro i x D H1 H2 hi hD ⟨e, hA⟩ ⟨rfl, hx⟩
      refine ⟨wipe1, ?_⟩
      have hi3 : i = 0 ∨ i = 1 ∨ i = 2 := by simp at hi; omega
      rcases hi3 with rfl | rfl | rfl
      · cases hx
        rcases hA with ⟨_, hA⟩ | ⟨z, _⟩ | ⟨z, _⟩ | ⟨z, _⟩
        · wtm_at "g_go"
          exact lc_addG (Pv := PvC H c xs) hA (small16l (show (2 : Nat) < 16000000 by decide) |> fun z => Nat.lt_of_le_of_lt (by simp) z) ⟨by wtm_at "g_ex", .inr (.inl ⟨rfl, upd_same⟩)⟩
        all_goals omega
      · cases hx
        rcases hA with ⟨z, _⟩ | ⟨_, hA⟩ | ⟨z, _⟩ | ⟨z, _⟩
        rotate_left
        · wtm_at "g_go"
          exact lc_addG (Pv := PvC H c xs) hA (small16l (show (2 : Nat) < 16000000 by decide) |> fun z => Nat.lt_of_le_of_lt (by simp) z) ⟨by wtm_at "g_ex", .inr (.inr (.inl ⟨rfl, upd_same⟩))⟩
        all_goals omega
      · cases hx
        rcases hA with ⟨z, _⟩ | ⟨z, _⟩ | ⟨_, hA⟩ | ⟨z, _⟩
        rotate_left
        rotate_left
        · wtm_at "g_go"
          refine w_listL (xs := xs.map V.int) (by wtm_at "g_sq") fun m hm => ?_
          have nmD : m ≠ D := (ne_of_none hA hm).symm
          exact lc_addG (Pv := PvC H c xs) (up_k hA nmD.symm) (Nat.lt_of_le_of_lt (show (2 : Nat) ≤ 2 from Nat.le_refl _) (small16l (by decide))) ⟨by wtm_at "g_ex", .inr (.inr (.inr ⟨rfl, m, ext_none e hm, up_k upd_same nmD, nmD, upd_same⟩))⟩
        all_goals omega
    · rintro D H1 hD ⟨e, ⟨z, _⟩ | ⟨z, _⟩ | ⟨z, _⟩ | ⟨z, m, hm, hm1, nmD, hA⟩⟩
      · cases z
      · cases z
      · cases z
      · refine w_tupL (SqL.of hA) fun t ht => ?_
        refine q t m _ (by wtm_at "g_ex") ⟨upd_same, ?_⟩ hm
        wtm_at "g_hp"
end
end K35

namespace K35
open PySem PySem.Spec PyProof.Rows L2 G
local macro_rules | `(tactic| wtm_at "g_get") => `(tactic| first
  | fail
  | fail)
local macro_rules | `(tactic| wtm_at "g_set") => `(tactic| first
  | fail
  | fail)
local macro_rules | `(tactic| wtm_at "g_set2") => `(tactic| first
  | fail
  | fail)
local macro_rules | `(tactic| wtm_at "g_mt") => `(tactic| first
  | fail
  | fail)
local macro_rules | `(tactic| wtm_at "g_call") => `(tactic| first
  | ((with_reducible refine' c_digit ?k1 ?k2 ?k3 ?_); (case k1 => wtm_at "g_hp"); (case k2 => omega); (case k3 => omega); intro _ _ _ _)
  | ((with_reducible refine' c_start ?_); intro _ _ _)
  | ((with_reducible refine' c_isint ?_))
  | ((with_reducible refine' c_cell ?k1 ?k2 ?_); (case k1 => wtm_at "g_sq"); (case k2 => omega); intro _)
  | ((with_reducible refine' c_two ?_))
  | fail)
local macro_rules | `(tactic| wtm_at "g_ne") => `(tactic| first
  | (with_reducible assumption) | (with_reducible exact Ne.symm (by assumption)) | (with_reducible exact ne_of_none (by assumption) (by assumption)) | (with_reducible exact (ne_of_none (by assumption) (by assumption)).symm)
  | fail)
local macro_rules | `(tactic| wtm_at "g_hp") => `(tactic| first
  | (with_reducible assumption) | (with_reducible exact upd_same) | ((with_reducible refine' up_nn ?k1 ?k2); (case k1 => with_reducible assumption); (case k2 => wtm_at "g_hp")) | ((with_reducible refine' up_k' ?k1 ?k2); (case k1 => wtm_at "g_ne"); (case k2 => wtm_at "g_hp"))
  | ((with_reducible refine' up_ko ?k1 ?k2 ?k3); (case k1 => wtm_at "g_hp"); (case k2 => wtm_at "g_hp"); (case k3 => (intro z; cases z)))
  | ((with_reducible refine' ext_get ?k1 ?k2); (case k1 => assumption); (case k2 => wtm_at "g_hp"))
  | ((with_reducible refine' extp_get ?k1 ?k2 ?k3); (case k1 => assumption); (case k2 => wtm_at "g_ne"); (case k3 => wtm_at "g_hp"))
  | ((with_reducible refine' exts_get ?k1 ?k2 ?k3); (case k1 => assumption); (case k2 => wtm_at "g_ni"); (case k3 => wtm_at "g_hp"))
  | fail)
local macro_rules | `(tactic| wtm_at "g_ni") => `(tactic| first
  | (with_reducible assumption) | (with_reducible exact ni_nil)
  | ((with_reducible refine' ni_cons ?k1 ?k2); (case k1 => wtm_at "g_ne"); (case k2 => wtm_at "g_ni"))
  | fail)
local macro_rules | `(tactic| wtm_at "g_mem") => `(tactic| first
  | (with_reducible assumption) | (with_reducible exact mem_hd)
  | ((with_reducible refine' mem_tl ?k1); (case k1 => wtm_at "g_mem"))
  | fail)
local macro_rules | `(tactic| wtm_at "g_sub") => `(tactic| first
  | (with_reducible assumption) | (with_reducible exact SubN.nil)
  | ((with_reducible refine' SubN.inn ?k1 ?k2); (case k1 => wtm_at "g_mem"); (case k2 => wtm_at "g_sub"))
  | ((with_reducible refine' SubN.new ?k1 ?k2); (case k1 => wtm_at "g_nn"); (case k2 => wtm_at "g_sub"))
  | fail)
local macro_rules | `(tactic| wtm_at "g_nn") => `(tactic| first
  | (with_reducible assumption) | ((with_reducible refine' none_up ?k1 ?k2); (case k1 => wtm_at "g_ne"); (case k2 => wtm_at "g_nn")) | ((with_reducible refine' none_dn ?k1); (case k1 => with_reducible assumption))
  | ((with_reducible refine' exts_none ?k1 ?k2); (case k1 => assumption); (case k2 => with_reducible assumption)) | ((with_reducible refine' ext_none ?k1 ?k2); (case k1 => assumption); (case k2 => with_reducible assumption))
  | fail)
local macro_rules | `(tactic| wtm_at "g_ex") => `(tactic| first
  | (with_reducible assumption) | (with_reducible exact Ext.rfl') | (with_reducible exact ExtP.rfl')
  | ((with_reducible refine' ext_up ?k1 ?k2); (case k1 => wtm_at "g_nn"); (case k2 => wtm_at "g_ex"))
  | ((with_reducible refine' ext_put ?k1 ?k2); (case k1 => wtm_at "g_nn"); (case k2 => wtm_at "g_ex"))
  | ((with_reducible refine' ext_via ?k1 ?k2); (case k1 => assumption); (case k2 => wtm_at "g_ex"))
  | ((with_reducible refine' ext_thr ?k1 ?k2 ?k3); (case k2 => assumption); (case k1 => wtm_at "g_nn"); (case k3 => wtm_at "g_ex"))
  | ((with_reducible refine' extp_put ?k1); (case k1 => wtm_at "g_ex"))
  | ((with_reducible refine' extp_up ?k1 ?k2); (case k1 => wtm_at "g_nn"); (case k2 => wtm_at "g_ex"))
  | ((with_reducible refine' extp_putn ?k1 ?k2); (case k1 => wtm_at "g_nn"); (case k2 => wtm_at "g_ex"))
  | ((with_reducible refine' extp_via ?k1 ?k2); (case k1 => assumption); (case k2 => wtm_at "g_ex"))
  | ((with_reducible refine' extp_viae ?k1 ?k2); (case k1 => assumption); (case k2 => wtm_at "g_ex"))
  | ((with_reducible refine' extp_thr ?k1 ?k2 ?k3); (case k2 => assumption); (case k1 => wtm_at "g_nn"); (case k3 => wtm_at "g_ex"))
  | (with_reducible exact ExtS.rfl')
  | ((with_reducible refine' exts_up ?k1 ?k2); (case k1 => wtm_at "g_nn"); (case k2 => wtm_at "g_ex"))
  | ((with_reducible refine' exts_put ?k1 ?k2); (case k1 => wtm_at "g_sub"); (case k2 => wtm_at "g_ex"))
  | ((with_reducible refine' exts_thrE ?k1 ?k2); (case k1 => assumption); (case k2 => wtm_at "g_ex"))
  | ((with_reducible refine' exts_thrP ?k1 ?k2 ?k3 ?k4); (case k1 => assumption); (case k2 => assumption); (case k3 => wtm_at "g_sub"); (case k4 => wtm_at "g_ex"))
  | ((with_reducible refine' exts_thr ?k1 ?k2 ?k3); (case k1 => assumption); (case k2 => wtm_at "g_sub"); (case k3 => wtm_at "g_ex"))
  | fail)
local macro_rules | `(tactic| wtm_at "g_thw") => `(tactic| first
  | (with_reducible assumption) | ((with_reducible refine' Thw.lst ?k1); (case k1 => wtm_at "g_hp")) | ((with_reducible refine' Thw.ins ?k1); (case k1 => wtm_at "g_hp"))
  | fail)
local macro_rules | `(tactic| wtm_at "g_sc") => `(tactic| first
  | (with_reducible assumption) | ((with_reducible refine' scr_new' ?k1 ?k2); (case k1 => wtm_at "g_nn"); (case k2 => wtm_at "g_sc")) | ((with_reducible refine' scr_put' ?k1 ?k2); (case k1 => wtm_at "g_thw"); (case k2 => wtm_at "g_sc"))
  | ((with_reducible refine' scr_ext ?k1 ?k2); (case k1 => assumption); (case k2 => wtm_at "g_sc")) | ((with_reducible refine' scr_extp ?k1 ?k2 ?k3); (case k1 => assumption); (case k2 => wtm_at "g_thw"); (case k3 => wtm_at "g_sc")) | ((with_reducible refine' scr_extn ?k1 ?k2 ?k3); (case k1 => assumption); (case k2 => wtm_at "g_nn"); (case k3 => wtm_at "g_sc"))
  | fail)
local macro_rules | `(tactic| wtm_at "g_sq") => `(tactic| first
  | (with_reducible assumption) | ((with_reducible refine' SqL.of ?k1); (case k1 => wtm_at "g_hp")) | ((with_reducible refine' Scr.sq ?k1); (case k1 => wtm_at "g_sc")) | ((with_reducible refine' sq_new' ?k1 ?k2); (case k1 => wtm_at "g_nn"); (case k2 => wtm_at "g_sq")) | ((with_reducible refine' sq_put' ?k1 ?k2); (case k1 => wtm_at "g_ne"); (case k2 => wtm_at "g_sq"))
  | ((with_reducible refine' sq_ext ?k1 ?k2); (case k1 => assumption); (case k2 => wtm_at "g_sq"))
  | fail)
local macro_rules | `(tactic| wtm_at "g_sqt") => `(tactic| first
  | (with_reducible assumption) | ((with_reducible refine' SqT.of' ?k1); (case k1 => wtm_at "g_hp")) | ((with_reducible refine' sqt_ext ?k1 ?k2); (case k1 => assumption); (case k2 => wtm_at "g_sqt"))
  | fail)
local macro_rules | `(tactic| wtm_at "g_st") => `(tactic| first
  | (with_reducible first
      | refine w_seq ?_ | refine w_asg ?_ | refine w_nm ?_ | refine w_next ?_ | refine w_if ?_ | refine w_ret ?_ | refine w_retN ?_ | refine w_drop ?_
      | refine w_var rfl ?_ | refine w_c ?_ | refine w_op ?_ | refine w_I0 ?_
      | refine w_eqI ?_ | refine w_neI ?_ | refine w_eqB ?_ | refine w_neB ?_ | refine w_eqS ?_ | refine w_neS ?_ | refine w_isN0 ?_ | refine w_isNi ?_ | refine w_isNr ?_ | refine w_isNb ?_ | refine w_isNs ?_ | refine w_notN0 ?_ | refine w_notNi ?_ | refine w_notNr ?_ | refine w_notNb ?_ | refine w_notNs ?_ | refine w_isN ?_ | refine w_notN ?_ | refine w_isB ?_ | refine w_notB ?_
      | refine w_un ?_ | refine w_U ?_ | refine w_chain ?_ | refine w_k ?_ | refine w_test ?_ | refine w_tB ?_ | refine w_tru ?_ | refine w_not ?_ | refine w_and ?_ | refine w_or ?_
      | refine w_andV ?_ | refine w_orV ?_ | refine w_notV ?_ | refine w_ife ?_ | refine w_nil ?_ | refine w_cons ?_ | refine w_tup ?_ | refine w_lst ?_ | refine w_small rfl ?_
      | refine w_call ?_ | refine w_mk ?_ | refine w_mt ?_ | refine w_cb ?_ | refine w_min2 ?_ | refine w_max2 ?_ | refine w_abs ?_ | refine w_int ?_
      | refine w_fld0 ?_ | refine w_bm ?_ | refine w_bm0 ?_ | refine w_sub ?_ | refine w_sfld ?_ | refine w_sfa ?_ | refine w_radd ?_ | refine w_rsub ?_ | refine w_ip ?_ | refine w_rs ?_ | refine w_pr ?_
      | refine w_lcR1 ?_ | refine w_lcR2 ?_ | refine w_lcL ?_ | refine w_lcT ?_ | refine w_yes ?_ | refine w_disp ?_ | refine w_prs ?_ | refine w_prn ?_ | refine w_dget ?_ | refine w_sl ?_ | refine w_nopart ?_ | refine w_part ?_ | refine w_pint ?_
      | refine w_forR1 ?_ | refine w_forR2 ?_ | refine w_forL ?_ | refine w_forT ?_ | refine w_aug rfl ?_ | refine w_par ?_ | refine w_brk ?_ | refine w_cont ?_
      | refine w_isi_ii ?_ | refine w_isi_ib ?_ | refine w_isi_bi ?_ | refine w_isi_bb ?_ | refine w_isi_ss ?_ | refine w_isi_is ?_ | refine w_isi_il ?_ | refine w_isi_it ?_ | refine w_isi_sl ?_ | refine w_isi_st ?_ | refine w_isi_nl ?_ | refine w_isi_nt ?_
      | refine if_T ?_ | refine if_F ?_ | refine if_nT ?_ | refine if_nF ?_)
  | ((with_reducible refine' w_lenL ?k1 ?_); (case k1 => wtm_at "g_sq"))
  | ((with_reducible refine' w_lenT ?k1 ?_); (case k1 => wtm_at "g_sqt"))
  | ((with_reducible refine' w_isi_ll ?k1 ?_); (case k1 => wtm_at "g_hp"))
  | ((with_reducible refine' w_isi_tt ?k1 ?_); (case k1 => wtm_at "g_hp"))
  | ((with_reducible refine' w_isi_lt ?k1 ?_); (case k1 => wtm_at "g_hp"))
  | ((with_reducible refine' w_isi_tl ?k1 ?_); (case k1 => wtm_at "g_hp"))
  | wtm_at "g_get"
  | wtm_at "g_mt"
  | wtm_at "g_set"
  | wtm_at "g_set2"
  | wtm_at "g_call"
  | fail)
local macro_rules | `(tactic| wtm_at "g_go") => `(tactic| repeat wtm_at "g_st")
local macro_rules | `(tactic| wtm_at "g_ifo") => `(tactic| first
  | (refine if_nno rfl ?_) | (refine if_yes rfl ?_)
  | (refine if_no (by omega) ?_)
  | (refine if_yes (by omega) ?_)
  | (refine if_nno (by omega) ?_)
  | (refine if_nyes (by omega) ?_)
  | (refine if_nno (decide_eq_false (by omega)).symm ?_)
  | (refine if_nno (decide_eq_true (by omega)).symm ?_)
  | fail)
local macro_rules | `(tactic| wtm_at "g_goo") => `(tactic| repeat (first | wtm_at "g_st" | wtm_at "g_ifo"))
section
variable {K : PySem.W.Frag} {mg : Str → Option Value} {base : Heap}
theorem accM_ints {f : Nat → Int} {n : Nat} : accM (fun i => V.int (f i)) n = ((List.range n).map f).map V.int := by
  unfold accM
  rw [List.map_map]
  rfl
theorem pure_law_frame (T : TX K mg base) (vs : List V) (H : Hp) (Q : VK) (E : XK) (h : sp_law_frame K vs H Q E) : t_law_frame K E { nx := fun _ H' => Q .non H', rt := Q } (start N_law_frame vs) H := by
  obtain ⟨s, n, m, rfl, hs, m0, m1, q⟩ := h
  obtain ⟨n1, n2, n3, n4, n5, n6, n7, n8⟩ := ne_ws
  unfold t_law_frame
  wtm_at "g_go"
  intro tp htp
  have nst : s ≠ tp := ne_of_none hs htp
  wtm_at "g_go"
  rename_i d n1' d0 d1
  obtain ⟨w, hw, hc⟩ : ∃ w : Str, atI [V.str "open", V.str "octets", V.str "permit", V.str "end", V.str "reset"] d = some (.str w) ∧ ((w = "open" ∨ w = "end") ∨ w = "octets" ∨ (w = "permit" ∨ w = "reset")) := by
    have h5 : d = 0 ∨ d = 1 ∨ d = 2 ∨ d = 3 ∨ d = 4 := by omega
    rcases h5 with rfl | rfl | rfl | rfl | rfl
    · exact ⟨"open", rfl, .inl (.inl rfl)⟩
    · exact ⟨"octets", rfl, .inr (.inl rfl)⟩
    · exact ⟨"permit", rfl, .inr (.inr (.inl rfl))⟩
    · exact ⟨"end", rfl, .inl (.inr rfl)⟩
    · exact ⟨"reset", rfl, .inr (.inr (.inr rfl))⟩
  refine w_ixT (xs := [V.str "open", V.str "octets", V.str "permit", V.str "end", V.str "reset"]) (by wtm_at "g_sqt") hw ?_
  wtm_at "g_go"
  rename_i c n2' c0 c1
  have e1 : ExtP s H (upd (upd (upd H tp (.tup [V.str "open", V.str "octets", V.str "permit", V.str "end", V.str "reset"])) s (.lst [.int n1'])) s (.lst [.int n2'])) := by wtm_at "g_ex"
  have hs1 : (upd (upd (upd H tp (.tup [V.str "open", V.str "octets", V.str "permit", V.str "end", V.str "reset"])) s (.lst [.int n1'])) s (.lst [.int n2'])) s = some (.lst [.int n2']) := upd_same
  generalize upd (upd (upd H tp (.tup [V.str "open", V.str "octets", V.str "permit", V.str "end", V.str "reset"])) s (.lst [.int n1'])) s (.lst [.int n2']) = H1 at *
  rcases hc with hc | rfl | hc
  · have hno : ¬ w = "octets" := by rcases hc with rfl | rfl <;> (intro z; first | exact n1 z.symm | exact n2 z.symm)
    refine if_no hno ?_
    wtm_at "g_go"
    intro t2 ht2
    wtm_at "g_go"
    have hin : inV (.str w) [V.str "permit", V.str "reset"] = false := by rcases hc with rfl | rfl <;> kernel_rfl
    refine w_inT (SqT.of' upd_same) rfl rfl ?_
    rw [hin]
    wtm_at "g_go"
    intro t3 ht3
    have nst3 : s ≠ t3 := ne_of_none hs1 (none_dn ht3)
    exact q (.a w c) t3 t3 _ n2' (by wtm_at "g_ex") (by wtm_at "g_hp") (show upd _ _ _ t3 = some (.tup [.str w, .int c]) from upd_same) ⟨hc, c0, c1⟩ nst3.symm
  · refine if_yes rfl ?_
    wtm_at "g_go"
    rename_i sz n3' sz0 sz1 b n4' b0 b1
    obtain ⟨z, rfl⟩ := Int.eq_ofNat_of_zero_le sz0
    refine lcR1 (n := z) (fun k => V.int ((b + 7 * (k : Int) + (k : Int) / 5) % 256)) rfl (by omega) (fun i D H2 hi hD e hA => ?_) (fun D H2 hD e hA => ?_)
    · wtm_at "g_go"
      refine w_I (.inl (by decide)) ?_
      wtm_at "g_go"
      refine w_I ⟨by decide, by decide⟩ ?_
      wtm_at "g_go"
      refine w_I (by decide) ?_
      exact lc_one (by wtm_at "g_hp") (by wtm_at "g_ex") hD (by omega) rfl
    · wtm_at "g_go"
      intro t3 ht3
      have nsD : s ≠ D := ne_of_none (H := upd (upd H1 s (.lst [.int n3'])) s (.lst [.int n4'])) upd_same hD
      have ntD : D ≠ t3 := ne_of_none hA ht3
      have hs2 : H2 s = some (.lst [.int n4']) := by wtm_at "g_hp"
      refine q (.o c ((List.range z).map fun (k : Nat) => (b + 7 * (k : Int) + (k : Int) / 5) % 256)) t3 D _ n4' (by wtm_at "g_ex") (by wtm_at "g_hp") ⟨upd_same, ?_⟩ ⟨c0, c1, ?_, ?_⟩ nsD.symm
      · rw [upd_ne ntD, hA]
        exact congrArg (fun z => some (HO.lst z)) accM_ints
      · rw [List.length_map, List.length_range]
        omega
      · intro x hx
        obtain ⟨k, _, rfl⟩ := List.mem_map.mp hx
        exact Int.emod_nonneg _ (by decide)
  · have hno : ¬ w = "octets" := by rcases hc with rfl | rfl <;> assumption
    refine if_no hno ?_
    wtm_at "g_go"
    intro t2 ht2
    have nst2 : s ≠ t2 := ne_of_none hs1 ht2
    wtm_at "g_go"
    have hin : inV (.str w) [V.str "permit", V.str "reset"] = true := by rcases hc with rfl | rfl <;> kernel_rfl
    refine w_inT (SqT.of' upd_same) rfl rfl ?_
    rw [hin]
    wtm_at "g_go"
    rename_i a n3' a0 a1
    intro t3 ht3
    have nst3 : s ≠ t3 := ne_of_none (H := upd (upd H1 t2 (.tup [V.str "permit", V.str "reset"])) s (.lst [.int n3'])) upd_same ht3
    exact q (.b w c a) t3 t3 _ n3' (by wtm_at "g_ex") (by wtm_at "g_hp") (show upd _ _ _ t3 = some (.tup [.str w, .int c, .int a]) from upd_same) ⟨hc, c0, c1, a0, a1⟩ nst3.symm
end
end K35

namespace K35
open PySem PySem.Spec PyProof.Rows L2 G
local macro_rules | `(tactic| wtm_at "g_get") => `(tactic| first
  | fail
  | fail)
local macro_rules | `(tactic| wtm_at "g_set") => `(tactic| first
  | fail
  | fail)
local macro_rules | `(tactic| wtm_at "g_set2") => `(tactic| first
  | fail
  | fail)
local macro_rules | `(tactic| wtm_at "g_mt") => `(tactic| first
  | fail
  | fail)
local macro_rules | `(tactic| wtm_at "g_call") => `(tactic| first
  | ((with_reducible refine' c_digit ?k1 ?k2 ?k3 ?_); (case k1 => wtm_at "g_hp"); (case k2 => omega); (case k3 => omega); intro _ _ _ _)
  | ((with_reducible refine' c_start ?_); intro _ _ _)
  | ((with_reducible refine' c_isint ?_))
  | ((with_reducible refine' c_cell ?k1 ?k2 ?_); (case k1 => wtm_at "g_sq"); (case k2 => omega); intro _)
  | ((with_reducible refine' c_two ?_))
  | fail)
local macro_rules | `(tactic| wtm_at "g_ne") => `(tactic| first
  | (with_reducible assumption) | (with_reducible exact Ne.symm (by assumption)) | (with_reducible exact ne_of_none (by assumption) (by assumption)) | (with_reducible exact (ne_of_none (by assumption) (by assumption)).symm)
  | fail)
local macro_rules | `(tactic| wtm_at "g_hp") => `(tactic| first
  | (with_reducible assumption) | (with_reducible exact upd_same) | ((with_reducible refine' up_nn ?k1 ?k2); (case k1 => with_reducible assumption); (case k2 => wtm_at "g_hp")) | ((with_reducible refine' up_k' ?k1 ?k2); (case k1 => wtm_at "g_ne"); (case k2 => wtm_at "g_hp"))
  | ((with_reducible refine' up_ko ?k1 ?k2 ?k3); (case k1 => wtm_at "g_hp"); (case k2 => wtm_at "g_hp"); (case k3 => (intro z; cases z)))
  | ((with_reducible refine' ext_get ?k1 ?k2); (case k1 => assumption); (case k2 => wtm_at "g_hp"))
  | ((with_reducible refine' extp_get ?k1 ?k2 ?k3); (case k1 => assumption); (case k2 => wtm_at "g_ne"); (case k3 => wtm_at "g_hp"))
  | ((with_reducible refine' exts_get ?k1 ?k2 ?k3); (case k1 => assumption); (case k2 => wtm_at "g_ni"); (case k3 => wtm_at "g_hp"))
  | fail)
local macro_rules | `(tactic| wtm_at "g_ni") => `(tactic| first
  | (with_reducible assumption) | (with_reducible exact ni_nil)
  | ((with_reducible refine' ni_cons ?k1 ?k2); (case k1 => wtm_at "g_ne"); (case k2 => wtm_at "g_ni"))
  | fail)
local macro_rules | `(tactic| wtm_at "g_mem") => `(tactic| first
  | (with_reducible assumption) | (with_reducible exact mem_hd)
  | ((with_reducible refine' mem_tl ?k1); (case k1 => wtm_at "g_mem"))
  | fail)
local macro_rules | `(tactic| wtm_at "g_sub") => `(tactic| first
  | (with_reducible assumption) | (with_reducible exact SubN.nil)
  | ((with_reducible refine' SubN.inn ?k1 ?k2); (case k1 => wtm_at "g_mem"); (case k2 => wtm_at "g_sub"))
  | ((with_reducible refine' SubN.new ?k1 ?k2); (case k1 => wtm_at "g_nn"); (case k2 => wtm_at "g_sub"))
  | fail)
local macro_rules | `(tactic| wtm_at "g_nn") => `(tactic| first
  | (with_reducible assumption) | ((with_reducible refine' none_up ?k1 ?k2); (case k1 => wtm_at "g_ne"); (case k2 => wtm_at "g_nn")) | ((with_reducible refine' none_dn ?k1); (case k1 => with_reducible assumption))
  | ((with_reducible refine' exts_none ?k1 ?k2); (case k1 => assumption); (case k2 => with_reducible assumption)) | ((with_reducible refine' ext_none ?k1 ?k2); (case k1 => assumption); (case k2 => with_reducible assumption))
  | fail)
local macro_rules | `(tactic| wtm_at "g_ex") => `(tactic| first
  | (with_reducible assumption) | (with_reducible exact Ext.rfl') | (with_reducible exact ExtP.rfl')
  | ((with_reducible refine' ext_up ?k1 ?k2); (case k1 => wtm_at "g_nn"); (case k2 => wtm_at "g_ex"))
  | ((with_reducible refine' ext_put ?k1 ?k2); (case k1 => wtm_at "g_nn"); (case k2 => wtm_at "g_ex"))
  | ((with_reducible refine' ext_via ?k1 ?k2); (case k1 => assumption); (case k2 => wtm_at "g_ex"))
  | ((with_reducible refine' ext_thr ?k1 ?k2 ?k3); (case k2 => assumption); (case k1 => wtm_at "g_nn"); (case k3 => wtm_at "g_ex"))
  | ((with_reducible refine' extp_put ?k1); (case k1 => wtm_at "g_ex"))
  | ((with_reducible refine' extp_up ?k1 ?k2); (case k1 => wtm_at "g_nn"); (case k2 => wtm_at "g_ex"))
  | ((with_reducible refine' extp_putn ?k1 ?k2); (case k1 => wtm_at "g_nn"); (case k2 => wtm_at "g_ex"))
  | ((with_reducible refine' extp_via ?k1 ?k2); (case k1 => assumption); (case k2 => wtm_at "g_ex"))
  | ((with_reducible refine' extp_viae ?k1 ?k2); (case k1 => assumption); (case k2 => wtm_at "g_ex"))
  | ((with_reducible refine' extp_thr ?k1 ?k2 ?k3); (case k2 => assumption); (case k1 => wtm_at "g_nn"); (case k3 => wtm_at "g_ex"))
  | (with_reducible exact ExtS.rfl')
  | ((with_reducible refine' exts_up ?k1 ?k2); (case k1 => wtm_at "g_nn"); (case k2 => wtm_at "g_ex"))
  | ((with_reducible refine' exts_put ?k1 ?k2); (case k1 => wtm_at "g_sub"); (case k2 => wtm_at "g_ex"))
  | ((with_reducible refine' exts_thrE ?k1 ?k2); (case k1 => assumption); (case k2 => wtm_at "g_ex"))
  | ((with_reducible refine' exts_thrP ?k1 ?k2 ?k3 ?k4); (case k1 => assumption); (case k2 => assumption); (case k3 => wtm_at "g_sub"); (case k4 => wtm_at "g_ex"))
  | ((with_reducible refine' exts_thr ?k1 ?k2 ?k3); (case k1 => assumption); (case k2 => wtm_at "g_sub"); (case k3 => wtm_at "g_ex"))
  | fail)
local macro_rules | `(tactic| wtm_at "g_thw") => `(tactic| first
  | (with_reducible assumption) | ((with_reducible refine' Thw.lst ?k1); (case k1 => wtm_at "g_hp")) | ((with_reducible refine' Thw.ins ?k1); (case k1 => wtm_at "g_hp"))
  | fail)
local macro_rules | `(tactic| wtm_at "g_sc") => `(tactic| first
  | (with_reducible assumption) | ((with_reducible refine' scr_new' ?k1 ?k2); (case k1 => wtm_at "g_nn"); (case k2 => wtm_at "g_sc")) | ((with_reducible refine' scr_put' ?k1 ?k2); (case k1 => wtm_at "g_thw"); (case k2 => wtm_at "g_sc"))
  | ((with_reducible refine' scr_ext ?k1 ?k2); (case k1 => assumption); (case k2 => wtm_at "g_sc")) | ((with_reducible refine' scr_extp ?k1 ?k2 ?k3); (case k1 => assumption); (case k2 => wtm_at "g_thw"); (case k3 => wtm_at "g_sc")) | ((with_reducible refine' scr_extn ?k1 ?k2 ?k3); (case k1 => assumption); (case k2 => wtm_at "g_nn"); (case k3 => wtm_at "g_sc"))
  | fail)
local macro_rules | `(tactic| wtm_at "g_sq") => `(tactic| first
  | (with_reducible assumption) | ((with_reducible refine' SqL.of ?k1); (case k1 => wtm_at "g_hp")) | ((with_reducible refine' Scr.sq ?k1); (case k1 => wtm_at "g_sc")) | ((with_reducible refine' sq_new' ?k1 ?k2); (case k1 => wtm_at "g_nn"); (case k2 => wtm_at "g_sq")) | ((with_reducible refine' sq_put' ?k1 ?k2); (case k1 => wtm_at "g_ne"); (case k2 => wtm_at "g_sq"))
  | ((with_reducible refine' sq_ext ?k1 ?k2); (case k1 => assumption); (case k2 => wtm_at "g_sq"))
  | fail)
local macro_rules | `(tactic| wtm_at "g_sqt") => `(tactic| first
  | (with_reducible assumption) | ((with_reducible refine' SqT.of' ?k1); (case k1 => wtm_at "g_hp")) | ((with_reducible refine' sqt_ext ?k1 ?k2); (case k1 => assumption); (case k2 => wtm_at "g_sqt"))
  | fail)
local macro_rules | `(tactic| wtm_at "g_st") => `(tactic| first
  | (with_reducible first
      | refine w_seq ?_ | refine w_asg ?_ | refine w_nm ?_ | refine w_next ?_ | refine w_if ?_ | refine w_ret ?_ | refine w_retN ?_ | refine w_drop ?_
      | refine w_var rfl ?_ | refine w_c ?_ | refine w_op ?_ | refine w_I0 ?_
      | refine w_eqI ?_ | refine w_neI ?_ | refine w_eqB ?_ | refine w_neB ?_ | refine w_eqS ?_ | refine w_neS ?_ | refine w_isN0 ?_ | refine w_isNi ?_ | refine w_isNr ?_ | refine w_isNb ?_ | refine w_isNs ?_ | refine w_notN0 ?_ | refine w_notNi ?_ | refine w_notNr ?_ | refine w_notNb ?_ | refine w_notNs ?_ | refine w_isN ?_ | refine w_notN ?_ | refine w_isB ?_ | refine w_notB ?_
      | refine w_un ?_ | refine w_U ?_ | refine w_chain ?_ | refine w_k ?_ | refine w_test ?_ | refine w_tB ?_ | refine w_tru ?_ | refine w_not ?_ | refine w_and ?_ | refine w_or ?_
      | refine w_andV ?_ | refine w_orV ?_ | refine w_notV ?_ | refine w_ife ?_ | refine w_nil ?_ | refine w_cons ?_ | refine w_tup ?_ | refine w_lst ?_ | refine w_small rfl ?_
      | refine w_call ?_ | refine w_mk ?_ | refine w_mt ?_ | refine w_cb ?_ | refine w_min2 ?_ | refine w_max2 ?_ | refine w_abs ?_ | refine w_int ?_
      | refine w_fld0 ?_ | refine w_bm ?_ | refine w_bm0 ?_ | refine w_sub ?_ | refine w_sfld ?_ | refine w_sfa ?_ | refine w_radd ?_ | refine w_rsub ?_ | refine w_ip ?_ | refine w_rs ?_ | refine w_pr ?_
      | refine w_lcR1 ?_ | refine w_lcR2 ?_ | refine w_lcL ?_ | refine w_lcT ?_ | refine w_yes ?_ | refine w_disp ?_ | refine w_prs ?_ | refine w_prn ?_ | refine w_dget ?_ | refine w_sl ?_ | refine w_nopart ?_ | refine w_part ?_ | refine w_pint ?_
      | refine w_forR1 ?_ | refine w_forR2 ?_ | refine w_forL ?_ | refine w_forT ?_ | refine w_aug rfl ?_ | refine w_par ?_ | refine w_brk ?_ | refine w_cont ?_
      | refine w_isi_ii ?_ | refine w_isi_ib ?_ | refine w_isi_bi ?_ | refine w_isi_bb ?_ | refine w_isi_ss ?_ | refine w_isi_is ?_ | refine w_isi_il ?_ | refine w_isi_it ?_ | refine w_isi_sl ?_ | refine w_isi_st ?_ | refine w_isi_nl ?_ | refine w_isi_nt ?_
      | refine if_T ?_ | refine if_F ?_ | refine if_nT ?_ | refine if_nF ?_)
  | ((with_reducible refine' w_lenL ?k1 ?_); (case k1 => wtm_at "g_sq"))
  | ((with_reducible refine' w_lenT ?k1 ?_); (case k1 => wtm_at "g_sqt"))
  | ((with_reducible refine' w_isi_ll ?k1 ?_); (case k1 => wtm_at "g_hp"))
  | ((with_reducible refine' w_isi_tt ?k1 ?_); (case k1 => wtm_at "g_hp"))
  | ((with_reducible refine' w_isi_lt ?k1 ?_); (case k1 => wtm_at "g_hp"))
  | ((with_reducible refine' w_isi_tl ?k1 ?_); (case k1 => wtm_at "g_hp"))
  | wtm_at "g_get"
  | wtm_at "g_mt"
  | wtm_at "g_set"
  | wtm_at "g_set2"
  | wtm_at "g_call"
  | fail)
local macro_rules | `(tactic| wtm_at "g_go") => `(tactic| repeat wtm_at "g_st")
local macro_rules | `(tactic| wtm_at "g_ifo") => `(tactic| first
  | (refine if_nno rfl ?_) | (refine if_yes rfl ?_)
  | (refine if_no (by omega) ?_)
  | (refine if_yes (by omega) ?_)
  | (refine if_nno (by omega) ?_)
  | (refine if_nyes (by omega) ?_)
  | (refine if_nno (decide_eq_false (by omega)).symm ?_)
  | (refine if_nno (decide_eq_true (by omega)).symm ?_)
  | fail)
local macro_rules | `(tactic| wtm_at "g_goo") => `(tactic| repeat (first | wtm_at "g_st" | wtm_at "g_ifo"))
section
variable {K : PySem.W.Frag} {mg : Str → Option Value} {base : Heap}
theorem extp_viaP {s : Addr} {H H1 H' : Hp} (f : ExtP s H1 H') (e : ExtP s H H1) : ExtP s H H' := e.trans f
theorem c_readN {H : Hp} {Q : VK} {E : XK} {a : Addr} {L : List Int} (h : H a = some (.lst (L.map V.int))) (hn : ∀ x ∈ L, 0 ≤ x) (hr : rdF L = .none) (k : ∀ H', Ext H H' → Q .non H') : sp_law_read K [.ref a] H Q E :=
  ⟨a, L, rfl, h, hn, fun _ => k, (fun z => by rw [hr] at z; cases z), (fun f n z => by rw [hr] at z; cases z)⟩
theorem c_readB {H : Hp} {Q : VK} {E : XK} {a : Addr} {L : List Int} (h : H a = some (.lst (L.map V.int))) (hn : ∀ x ∈ L, 0 ≤ x) (hr : rdF L = .bad) (k : ∀ H', Ext H H' → Q (.str "invalid") H') : sp_law_read K [.ref a] H Q E :=
  ⟨a, L, rfl, h, hn, (fun z => by rw [hr] at z; cases z), fun _ => k, (fun f n z => by rw [hr] at z; cases z)⟩
theorem c_readO {H : Hp} {Q : VK} {E : XK} {a : Addr} {L : List Int} {f : Fr} {n : Int} (h : H a = some (.lst (L.map V.int))) (hn : ∀ x ∈ L, 0 ≤ x) (hr : rdF L = .ok f n) (k : ∀ H' t p l, Ext H H' → H' t = some (.tup [.ref p, .int n]) → FrAt H' p l f → Q (.ref t) H') : sp_law_read K [.ref a] H Q E :=
  ⟨a, L, rfl, h, hn, (fun z => by rw [hr] at z; cases z), (fun z => by rw [hr] at z; cases z), fun f' n' z => by
    rw [hr] at z
    cases z
    exact k⟩
theorem pure_law_holds (T : TX K mg base) (vs : List V) (H : Hp) (Q : VK) (E : XK) (h : sp_law_holds K vs H Q E) : t_law_holds K E { nx := fun _ H' => Q .non H', rt := Q } (start N_law_holds vs) H := by
  obtain ⟨p, l, s, f, n, rfl, hf, o, nls, hs, q⟩ := h
  have hnn := code_nn o
  have hcl : f.code.length ≤ 1010 ∧ 3 ≤ f.code.length := by
    cases f with
    | a w c => exact ⟨show (3 : Nat) ≤ 1010 by decide, show (3 : Nat) ≤ 3 by decide⟩
    | b w c n => exact ⟨show (5 : Nat) ≤ 1010 by decide, show (3 : Nat) ≤ 5 by decide⟩
    | o c xs =>
      have hl := o.2.2.1
      have : (Fr.o c xs).code.length = 5 + xs.length := by
        show ([2, c / 256, c % 256, (xs.length : Int) / 256, (xs.length : Int) % 256] ++ xs).length = _
        rw [List.length_append]
        rfl
      omega
  unfold t_law_holds
  wtm_at "g_go"
  refine ⟨p, l, f, rfl, hf, o, fun du H1 hdu0 e1 hdu => ?_⟩
  have hs1 := e1 _ _ hs
  have hf1 := hf.ext e1
  wtm_at "g_go"
  refine ⟨p, l, f, rfl, hf1, o, fun q2 m H2 e2 hq2 hm0 => ?_⟩
  have hdu2 := e2 _ _ hdu
  wtm_at "g_go"
  refine ⟨q2, m, f, rfl, hq2, o, fun wr H3 hwr0 e3 hwr => ?_⟩
  wtm_at "g_go"
  refine ⟨wr, du, f.code, rfl, hwr, e3 _ _ hdu2, by omega, ?_⟩
  wtm_at "g_go"
  refine w_neFr (hq2.ext e3) ((hf1.ext e2).ext e3) o ?_
  wtm_at "g_go"
  have e03 : Ext H H3 := (e1.trans e2).trans e3
  have hs3 := e03 _ _ hs
  have hf3 := hf.ext e03
  have hdu3 := e3 _ _ hdu2
  have nds : du ≠ s := (ne_of_none hs hdu0).symm
  rename_i c n1 c0 c1
  obtain ⟨z, rfl⟩ := Int.eq_ofNat_of_zero_le c0
  have e4 : ExtP s H3 (upd H3 s (.lst [.int n1])) := extp_put ExtP.rfl'
  refine lcDraw (s := s) (n0 := n1) (m := 256) (n := z) rfl (by omega) upd_same (by decide) (fun i D H4 n2 hi hD e hs4 nsD => ?_) (fun σ H Q Q' hQ h => ?_) (fun D H4 ds n2 hD e hs4 hl hds hA => ?_)
  · wtm_at "g_go"
    exact ⟨_, _, rfl, by omega, by omega, rfl⟩
  · obtain ⟨v, hv, p', n', m', e1', h1, h2, h3, h4⟩ := h
    exact ⟨v, hv, p', n', m', e1', h1, h2, h3, fun d n'' a b => hQ _ _ (h4 d n'' a b)⟩
  have e34 : ExtP s H3 H4 := extp_viaP e e4
  have e04 : ExtP s H H4 := fun a o ha h => e34 a o ha (e03 a o h)
  have hdu4 : H4 du = some (.lst (f.code.map V.int)) := e34 _ _ nds hdu3
  have hf4 : FrAt H4 p l f := hf3.extp e34 hs3 nls
  have hdl : ds.length ≤ 9 := by omega
  have nDs : D ≠ s := fun z => by subst z; rw [upd_same] at hD; cases hD
  wtm_at "g_go"
  refine w_cat hdu4 hA (by rw [List.length_map, List.length_map]; exact small16 (by omega)) fun t5 ht5 => ?_
  rw [← List.map_append]
  wtm_at "g_go"
  refine c_readO (L := f.code ++ ds) upd_same (fun x hx => (List.mem_append.mp hx).elim (hnn x) fun z => (hds x z).1) (rd_code o ds) fun H5 t p5 l5 e5 ht hf5 => ?_
  have e45 : Ext H4 H5 := by wtm_at "g_ex"
  wtm_at "g_go"
  rw [List.length_map]
  refine ⟨t, p, l, p5, l5, f, _, rfl, ht, hf5, hf4.ext e45, o, ?_⟩
  wtm_at "g_go"
  have hdu5 := e45 _ _ hdu4
  have hA5 := e45 _ _ hA
  have hs5 := e45 _ _ hs4
  rw [List.length_map]
  refine loop1 (n := f.code.length) (fun i σ H' => ∃ v5, σ = [some (.ref p), some (.ref s), some (.ref du), some (.ref q2), some (.ref D), v5, none] ∧ Ext H5 H') rfl (by omega) ⟨_, rfl, Ext.rfl'⟩ ?_ ?_
  · rintro i σ H6 hi ⟨v5, rfl, e6⟩
    wtm_at "g_go"
    refine w_slLto (SqL.of (e6 _ _ hdu5)) (by omega) fun t6 ht6 => ?_
    have ei : ((i : Int)).toNat = i := by omega
    rw [ei, ← List.map_take]
    wtm_at "g_go"
    refine c_readN (L := f.code.take i) upd_same (fun x hx => hnn x (List.mem_of_mem_take hx)) (rd_short o hi) fun H7 e7 => ?_
    wtm_at "g_go"
    exact ⟨_, rfl, by wtm_at "g_ex"⟩
  rintro σ H6 ⟨v5, rfl, e6⟩
  have hdu6 := e6 _ _ hdu5
  have hA6 := e6 _ _ hA5
  have hs6 := e6 _ _ hs5
  wtm_at "g_go"
  rename_i x6 n6 x60 x61
  intro t7 ht7
  have nst7 : s ≠ t7 := ne_of_none (H := upd H6 s (.lst [.int n6])) upd_same ht7
  wtm_at "g_go"
  rename_i y6 n7 y60 y61
  obtain ⟨b, hb, hbad, hb0⟩ : ∃ b : Int, atI [V.int 0, V.int 6, V.int 255, V.int (6 + x6)] y6 = some (.int b) ∧ (b < 1 ∨ 5 < b) ∧ 0 ≤ b := by
    have h4 : y6 = 0 ∨ y6 = 1 ∨ y6 = 2 ∨ y6 = 3 := by omega
    rcases h4 with rfl | rfl | rfl | rfl
    · exact ⟨0, rfl, by omega, by omega⟩
    · exact ⟨6, rfl, by omega, by omega⟩
    · exact ⟨255, rfl, by omega, by omega⟩
    · exact ⟨6 + x6, rfl, by omega, by omega⟩
  refine w_ixT (xs := [V.int 0, V.int 6, V.int 255, V.int (6 + x6)]) (by wtm_at "g_sqt") hb ?_
  have nd7 : du ≠ t7 := ne_of_none (H := upd H6 s (.lst [.int n6])) (up_k hdu6 nds) ht7
  have nD7 : D ≠ t7 := ne_of_none (H := upd H6 s (.lst [.int n6])) (up_k hA6 nDs) ht7
  have e67 : ExtP s H6 (upd (upd (upd H6 s (.lst [.int n6])) t7 (.tup [V.int 0, V.int 6, V.int 255, V.int (6 + x6)])) s (.lst [.int n7])) := by wtm_at "g_ex"
  have hs7 : (upd (upd (upd H6 s (.lst [.int n6])) t7 (.tup [V.int 0, V.int 6, V.int 255, V.int (6 + x6)])) s (.lst [.int n7])) s = some (.lst [.int n7]) := upd_same
  generalize upd (upd (upd H6 s (.lst [.int n6])) t7 (.tup [V.int 0, V.int 6, V.int 255, V.int (6 + x6)])) s (.lst [.int n7]) = H7 at *
  have hdu7 := e67 _ _ nds hdu6
  have hA7 := e67 _ _ nDs hA6
  wtm_at "g_go"
  intro t8 ht8
  wtm_at "g_go"
  refine w_slLfrom (SqL.of (up_n hdu7 ht8)) (by omega) fun t9 ht9 => ?_
  refine w_cat (xs := [V.int b]) (up_n upd_same ht9) upd_same (by rw [List.length_drop, List.length_map]; exact small16 (by show 1 + _ ≤ _; omega)) fun t10 ht10 => ?_
  wtm_at "g_go"
  refine w_cat upd_same (up_n (up_n (up_n hA7 ht8) ht9) ht10) (by rw [List.length_append, List.length_drop, List.length_map, List.length_map]; exact small16 (by show 1 + _ + _ ≤ _; omega)) fun t11 ht11 => ?_
  have hbd : ([V.int b] ++ (f.code.map V.int).drop (Int.toNat 1)) ++ ds.map V.int = (b :: (f.code.drop 1 ++ ds)).map V.int := by
    rw [List.map_cons, List.map_append, List.map_drop]
    rfl
  rw [hbd]
  have e711 : Ext H7 (upd (upd (upd (upd H7 t8 (.lst [.int b])) t9 (.lst ((f.code.map V.int).drop (Int.toNat 1)))) t10 (.lst ([V.int b] ++ (f.code.map V.int).drop (Int.toNat 1)))) t11 (.lst ((b :: (f.code.drop 1 ++ ds)).map V.int))) := by wtm_at "g_ex"
  have hb11 : (upd (upd (upd (upd H7 t8 (.lst [.int b])) t9 (.lst ((f.code.map V.int).drop (Int.toNat 1)))) t10 (.lst ([V.int b] ++ (f.code.map V.int).drop (Int.toNat 1)))) t11 (.lst ((b :: (f.code.drop 1 ++ ds)).map V.int))) t11 = some (.lst ((b :: (f.code.drop 1 ++ ds)).map V.int)) := upd_same
  generalize upd (upd (upd (upd H7 t8 (.lst [.int b])) t9 (.lst ((f.code.map V.int).drop (Int.toNat 1)))) t10 (.lst ([V.int b] ++ (f.code.map V.int).drop (Int.toNat 1)))) t11 (.lst ((b :: (f.code.drop 1 ++ ds)).map V.int)) = H11 at *
  have hbn : ∀ x ∈ b :: (f.code.drop 1 ++ ds), 0 ≤ x := by
    intro x hx
    rcases List.mem_cons.mp hx with rfl | hx
    · exact hb0
    · exact (List.mem_append.mp hx).elim (fun z => hnn x (List.mem_of_mem_drop z)) fun z => (hds x z).1
  have hbl : (b :: (f.code.drop 1 ++ ds)).length = f.code.length + ds.length := by
    rw [List.length_cons, List.length_append, List.length_drop]
    omega
  have hrb : ∀ k, rdF ((b :: (f.code.drop 1 ++ ds)).take k) = (if k < 3 then .none else .bad) := by
    intro k
    by_cases hk : k < 3
    · rw [if_pos hk]
      exact rd_few (by rw [List.length_take]; omega)
    · rw [if_neg hk]
      obtain ⟨j, rfl⟩ : ∃ j, k = j + 1 := ⟨k - 1, by omega⟩
      rw [List.take_succ_cons]
      exact rd_bad hbad (by rw [List.length_take, List.length_append, List.length_drop]; omega)
  wtm_at "g_go"
  rw [List.length_map, hbl]
  obtain ⟨N, hN, hN2⟩ : ∃ N : Nat, (if (8 : Int) < ((f.code.length + ds.length : Nat) : Int) then (8 : Int) else ((f.code.length + ds.length : Nat) : Int)) + 1 = (N : Int) ∧ N ≤ 9 := ⟨((if (8 : Int) < ((f.code.length + ds.length : Nat) : Int) then (8 : Int) else ((f.code.length + ds.length : Nat) : Int)) + 1).toNat, by split <;> omega, by split <;> omega⟩
  refine loop1 (n := N) (fun i σ H' => ∃ v5, σ = [some (.ref p), some (.ref s), some (.ref du), some (.ref q2), some (.ref D), v5, some (.ref t11)] ∧ Ext H11 H') hN (by omega) ⟨_, rfl, Ext.rfl'⟩ ?_ ?_
  · rintro i σ H12 hi ⟨v5, rfl, e12⟩
    have ei : ((i : Int)).toNat = i := by omega
    have hb12 := e12 _ _ hb11
    by_cases h3 : i < 3
    · wtm_at "g_go"
      refine if_yes (by omega) ?_
      wtm_at "g_go"
      refine w_slLto (SqL.of hb12) (by omega) fun t13 ht13 => ?_
      rw [ei, ← List.map_take]
      wtm_at "g_go"
      refine c_readN (L := (b :: (f.code.drop 1 ++ ds)).take i) upd_same (fun x hx => hbn x (List.mem_of_mem_take hx)) (by rw [hrb, if_pos h3]) fun H14 e14 => ?_
      wtm_at "g_go"
      refine if_no (by omega) ?_
      wtm_at "g_go"
      exact ⟨_, rfl, by wtm_at "g_ex"⟩
    · wtm_at "g_go"
      refine if_no (by omega) ?_
      wtm_at "g_go"
      refine if_yes (by omega) ?_
      wtm_at "g_go"
      refine w_slLto (SqL.of hb12) (by omega) fun t13 ht13 => ?_
      rw [ei, ← List.map_take]
      wtm_at "g_go"
      refine c_readB (L := (b :: (f.code.drop 1 ++ ds)).take i) upd_same (fun x hx => hbn x (List.mem_of_mem_take hx)) (by rw [hrb, if_neg h3]) fun H14 e14 => ?_
      wtm_at "g_go"
      rw [decide_eq_true rfl]
      wtm_at "g_go"
      exact ⟨_, rfl, by wtm_at "g_ex"⟩
  rintro σ H12 ⟨v5, rfl, e12⟩
  wtm_at "g_go"
  refine c_readB (L := b :: (f.code.drop 1 ++ ds)) (e12 _ _ hb11) hbn (rd_bad hbad (by rw [List.length_append, List.length_drop]; omega)) fun H14 e14 => ?_
  wtm_at "g_go"
  rw [decide_eq_true rfl]
  refine q _ ?_
  exact fun a o ha h => e14 a o (e12 a o (e711 a o (e67 a o ha (e6 a o (e45 a o (e04 a o ha h))))))
theorem pure_law (T : TX K mg base) (vs : List V) (H : Hp) (Q : VK) (E : XK) (h : sp_law K vs H Q E) : t_law K E { nx := fun _ H' => Q .non H', rt := Q } (start N_law vs) H := by
  obtain ⟨a, ns, rfl, hS, q⟩ := h
  unfold t_law
  wtm_at "g_go"
  refine w_cut (fun σ H' => ∃ many : Int, σ = [some (.ref a), some (.int many), none, none] ∧ (many = 13 ∨ many = 701) ∧ H' = H) ?_ ?_
  · wtm_at "g_go"
    refine w_I (show (0 : Int) < 4 by decide) ?_
    wtm_at "g_go"
    refine if_d (fun h1 => ?_) (fun h1 => ?_)
    · wtm_at "g_go"
      exact ⟨701, rfl, .inr rfl, rfl⟩
    · wtm_at "g_go"
      exact ⟨13, rfl, .inl rfl, rfl⟩
  rintro σ H0 ⟨many, rfl, hm, rfl⟩
  wtm_at "g_go"
  obtain ⟨N, hN, hN2⟩ : ∃ N : Nat, (if (if (((ns.map V.int).length : Nat) : Int) - 1 > 1 then (((ns.map V.int).length : Nat) : Int) - 1 else 1) < 6 then (if (((ns.map V.int).length : Nat) : Int) - 1 > 1 then (((ns.map V.int).length : Nat) : Int) - 1 else 1) else 6) = (N : Int) ∧ N ≤ 6 :=
    ⟨(if (if (((ns.map V.int).length : Nat) : Int) - 1 > 1 then (((ns.map V.int).length : Nat) : Int) - 1 else 1) < 6 then (if (((ns.map V.int).length : Nat) : Int) - 1 > 1 then (((ns.map V.int).length : Nat) : Int) - 1 else 1) else 6).toNat, by split <;> split <;> omega, by split <;> split <;> omega⟩
  refine loop1 (n := N) (fun i σ H' => ∃ v2 v3, σ = [some (.ref a), some (.int many), v2, v3] ∧ Scr K H' a (ns.map V.int)) hN (by omega) ⟨_, _, rfl, hS⟩ ?_ ?_
  · rintro i σ H1 hi ⟨v2, v3, rfl, hS1⟩
    wtm_at "g_go"
    rename_i n1 n2 st hst
    refine ⟨st, n2, many, rfl, upd_same, by omega, by omega, fun f p l H2 n3 e2 hs2 hf o nl => ?_⟩
    wtm_at "g_go"
    refine ⟨p, l, st, f, n3, rfl, hf, o, nl, hs2, fun H3 e3 => ?_⟩
    wtm_at "g_go"
    refine ⟨_, _, rfl, ?_⟩
    have e13 : Ext H1 H3 := fun b u h => e3 b u (ne_of_none h hst) (e2 b u (ne_of_none h hst) (up_n h hst))
    exact hS1.ext e13
  · rintro σ H1 ⟨v2, v3, rfl, hS1⟩
    wtm_at "g_go"
    exact q _
end
end K35

namespace K35
open PySem PySem.Spec PyProof.Rows L2 G
section
variable {P : Program} {w : World} {K : PySem.W.Frag} {mg : Str → Option Value} {base : Heap}

theorem len_two_octets {K : PySem.W.Frag} : ∀ vs H Q E, sp_two_octets K vs H Q E → vs.length = (P_two_octets : List Str).length := by
  intro vs H Q E h
  repeat first | (obtain ⟨rfl, _⟩ := h; rfl) | obtain ⟨_, h⟩ := h
theorem has_two_octets (T : TX K mg base) : Has P w K mg base 1 "two_octets" P_two_octets (sp_two_octets K) :=
  mk_has (T.glo 15) (T.says.def_ 0) sc_two_octets (fun _ _ _ _ _ _ us hl => match us, hl with | [_], _ => rfl) len_two_octets
    fun cdv A outer s H vs Q E hr h => ⟨t_two_octets K E, d_two_octets T  hr, pure_two_octets T vs H Q E h⟩

theorem len_write_frame {K : PySem.W.Frag} : ∀ vs H Q E, sp_write_frame K vs H Q E → vs.length = (P_write_frame : List Str).length := by
  intro vs H Q E h
  repeat first | (obtain ⟨rfl, _⟩ := h; rfl) | obtain ⟨_, h⟩ := h
theorem has_write_frame (T : TX K mg base) : Has P w K mg base 2 "write_frame" P_write_frame (sp_write_frame K) :=
  mk_has (T.glo 16) (T.says.def_ 1) sc_write_frame (fun _ _ _ _ _ _ us hl => match us, hl with | [_], _ => rfl) len_write_frame
    fun cdv A outer s H vs Q E hr h => ⟨t_write_frame K E, d_write_frame T (has_two_octets T) hr, pure_write_frame T vs H Q E h⟩

theorem len_first_frame {K : PySem.W.Frag} : ∀ vs H Q E, sp_first_frame K vs H Q E → vs.length = (P_first_frame : List Str).length := by
  intro vs H Q E h
  repeat first | (obtain ⟨rfl, _⟩ := h; rfl) | obtain ⟨_, h⟩ := h
theorem has_first_frame (T : TX K mg base) : Has P w K mg base 1 "first_frame" P_first_frame (sp_first_frame K) :=
  mk_has (T.glo 17) (T.says.def_ 2) sc_first_frame (fun _ _ _ _ _ _ us hl => match us, hl with | [_], _ => rfl) len_first_frame
    fun cdv A outer s H vs Q E hr h => ⟨t_first_frame K E, d_first_frame T  hr, pure_first_frame T vs H Q E h⟩

theorem len_law_cell {K : PySem.W.Frag} : ∀ vs H Q E, sp_law_cell K vs H Q E → vs.length = (P_law_cell : List Str).length := by
  intro vs H Q E h
  repeat first | (obtain ⟨rfl, _⟩ := h; rfl) | obtain ⟨_, h⟩ := h
theorem has_law_cell (T : TX K mg base) : Has P w K mg base 1 "_law_cell" P_law_cell (sp_law_cell K) :=
  mk_has (T.glo 18) (T.says.def_ 3) sc_law_cell (fun _ _ _ _ _ _ us hl => match us, hl with | [_, _], _ => rfl) len_law_cell
    fun cdv A outer s H vs Q E hr h => ⟨t_law_cell K E, d_law_cell T  hr, pure_law_cell T vs H Q E h⟩

theorem len_law_is_integer {K : PySem.W.Frag} : ∀ vs H Q E, sp_law_is_integer K vs H Q E → vs.length = (P_law_is_integer : List Str).length := by
  intro vs H Q E h
  repeat first | (obtain ⟨rfl, _⟩ := h; rfl) | obtain ⟨_, h⟩ := h
theorem has_law_is_integer (T : TX K mg base) : Has P w K mg base 1 "_law_is_integer" P_law_is_integer (sp_law_is_integer K) :=
  mk_has (T.glo 19) (T.says.def_ 4) sc_law_is_integer (fun _ _ _ _ _ _ us hl => match us, hl with | [_], _ => rfl) len_law_is_integer
    fun cdv A outer s H vs Q E hr h => ⟨t_law_is_integer K E, d_law_is_integer T  hr, pure_law_is_integer T vs H Q E h⟩

theorem len_law_start {K : PySem.W.Frag} : ∀ vs H Q E, sp_law_start K vs H Q E → vs.length = (P_law_start : List Str).length := by
  intro vs H Q E h
  repeat first | (obtain ⟨rfl, _⟩ := h; rfl) | obtain ⟨_, h⟩ := h
theorem has_law_start (T : TX K mg base) : Has P w K mg base 1 "_law_start" P_law_start (sp_law_start K) :=
  mk_has (T.glo 20) (T.says.def_ 5) sc_law_start (fun _ _ _ _ _ _ us hl => match us, hl with | [_, _], _ => rfl) len_law_start
    fun cdv A outer s H vs Q E hr h => ⟨t_law_start K E, d_law_start T  hr, pure_law_start T vs H Q E h⟩

theorem len_law_digit {K : PySem.W.Frag} : ∀ vs H Q E, sp_law_digit K vs H Q E → vs.length = (P_law_digit : List Str).length := by
  intro vs H Q E h
  repeat first | (obtain ⟨rfl, _⟩ := h; rfl) | obtain ⟨_, h⟩ := h
theorem has_law_digit (T : TX K mg base) : Has P w K mg base 1 "_law_digit" P_law_digit (sp_law_digit K) :=
  mk_has (T.glo 21) (T.says.def_ 6) sc_law_digit (fun _ _ _ _ _ _ us hl => match us, hl with | [_, _], _ => rfl) len_law_digit
    fun cdv A outer s H vs Q E hr h => ⟨t_law_digit K E, d_law_digit T  hr, pure_law_digit T vs H Q E h⟩

theorem len_law_frame {K : PySem.W.Frag} : ∀ vs H Q E, sp_law_frame K vs H Q E → vs.length = (P_law_frame : List Str).length := by
  intro vs H Q E h
  repeat first | (obtain ⟨rfl, _⟩ := h; rfl) | obtain ⟨_, h⟩ := h
theorem has_law_frame (T : TX K mg base) : Has P w K mg base 2 "_law_frame" P_law_frame (sp_law_frame K) :=
  mk_has (T.glo 22) (T.says.def_ 7) sc_law_frame (fun _ _ _ _ _ _ us hl => match us, hl with | [_, _], _ => rfl) len_law_frame
    fun cdv A outer s H vs Q E hr h => ⟨t_law_frame K E, d_law_frame T (has_law_digit T) hr, pure_law_frame T vs H Q E h⟩

theorem len_law_octets {K : PySem.W.Frag} : ∀ vs H Q E, sp_law_octets K vs H Q E → vs.length = (P_law_octets : List Str).length := by
  intro vs H Q E h
  repeat first | (obtain ⟨rfl, _⟩ := h; rfl) | obtain ⟨_, h⟩ := h
theorem has_law_octets (T : TX K mg base) : Has P w K mg base 1 "_law_octets" P_law_octets (sp_law_octets K) :=
  mk_has (T.glo 23) (T.says.def_ 8) sc_law_octets (fun _ _ _ _ _ _ us hl => match us, hl with | [_], _ => rfl) len_law_octets
    fun cdv A outer s H vs Q E hr h => ⟨t_law_octets K E, d_law_octets T  hr, pure_law_octets T vs H Q E h⟩

theorem len_law_copy {K : PySem.W.Frag} : ∀ vs H Q E, sp_law_copy K vs H Q E → vs.length = (P_law_copy : List Str).length := by
  intro vs H Q E h
  repeat first | (obtain ⟨rfl, _⟩ := h; rfl) | obtain ⟨_, h⟩ := h
theorem has_law_copy (T : TX K mg base) : Has P w K mg base 1 "_law_copy" P_law_copy (sp_law_copy K) :=
  mk_has (T.glo 24) (T.says.def_ 9) sc_law_copy (fun _ _ _ _ _ _ us hl => match us, hl with | [_], _ => rfl) len_law_copy
    fun cdv A outer s H vs Q E hr h => ⟨t_law_copy K E, d_law_copy T  hr, pure_law_copy T vs H Q E h⟩

theorem len_law_same_octets {K : PySem.W.Frag} : ∀ vs H Q E, sp_law_same_octets K vs H Q E → vs.length = (P_law_same_octets : List Str).length := by
  intro vs H Q E h
  repeat first | (obtain ⟨rfl, _⟩ := h; rfl) | obtain ⟨_, h⟩ := h
theorem has_law_same_octets (T : TX K mg base) : Has P w K mg base 2 "_law_same_octets" P_law_same_octets (sp_law_same_octets K) :=
  mk_has (T.glo 25) (T.says.def_ 10) sc_law_same_octets (fun _ _ _ _ _ _ us hl => match us, hl with | [_, _], _ => rfl) len_law_same_octets
    fun cdv A outer s H vs Q E hr h => ⟨t_law_same_octets K E, d_law_same_octets T (has_law_is_integer T) hr, pure_law_same_octets T vs H Q E h⟩

theorem len_law_read {K : PySem.W.Frag} : ∀ vs H Q E, sp_law_read K vs H Q E → vs.length = (P_law_read : List Str).length := by
  intro vs H Q E h
  repeat first | (obtain ⟨rfl, _⟩ := h; rfl) | obtain ⟨_, h⟩ := h
theorem has_law_read (T : TX K mg base) : Has P w K mg base 2 "_law_read" P_law_read (sp_law_read K) :=
  mk_has (T.glo 26) (T.says.def_ 11) sc_law_read (fun _ _ _ _ _ _ us hl => match us, hl with | [_], _ => rfl) len_law_read
    fun cdv A outer s H vs Q E hr h => ⟨t_law_read K E, d_law_read T (has_first_frame T) hr, pure_law_read T vs H Q E h⟩

theorem len_law_same {K : PySem.W.Frag} : ∀ vs H Q E, sp_law_same K vs H Q E → vs.length = (P_law_same : List Str).length := by
  intro vs H Q E h
  repeat first | (obtain ⟨rfl, _⟩ := h; rfl) | obtain ⟨_, h⟩ := h
theorem has_law_same (T : TX K mg base) : Has P w K mg base 3 "_law_same" P_law_same (sp_law_same K) :=
  mk_has (T.glo 27) (T.says.def_ 12) sc_law_same (fun _ _ _ _ _ _ us hl => match us, hl with | [_, _, _], _ => rfl) len_law_same
    fun cdv A outer s H vs Q E hr h => ⟨t_law_same K E, d_law_same T (has_law_is_integer T) (has_law_same_octets T) hr, pure_law_same T vs H Q E h⟩

theorem len_law_holds {K : PySem.W.Frag} : ∀ vs H Q E, sp_law_holds K vs H Q E → vs.length = (P_law_holds : List Str).length := by
  intro vs H Q E h
  repeat first | (obtain ⟨rfl, _⟩ := h; rfl) | obtain ⟨_, h⟩ := h
theorem has_law_holds (T : TX K mg base) : Has P w K mg base 4 "_law_holds" P_law_holds (sp_law_holds K) :=
  mk_has (T.glo 28) (T.says.def_ 13) sc_law_holds (fun _ _ _ _ _ _ us hl => match us, hl with | [_, _], _ => rfl) len_law_holds
    fun cdv A outer s H vs Q E hr h => ⟨t_law_holds K E, d_law_holds T (has_law_octets T) (has_law_copy T) (has_law_same_octets T) (has_write_frame T) (has_law_digit T) (has_law_same T) (has_law_read T) hr, pure_law_holds T vs H Q E h⟩

theorem len_law {K : PySem.W.Frag} : ∀ vs H Q E, sp_law K vs H Q E → vs.length = (P_law : List Str).length := by
  intro vs H Q E h
  repeat first | (obtain ⟨rfl, _⟩ := h; rfl) | obtain ⟨_, h⟩ := h
theorem has_law (T : TX K mg base) : Has P w K mg base 5 "law" P_law (sp_law K) :=
  mk_has (T.glo 29) (T.says.def_ 14) sc_law (fun _ _ _ _ _ _ us hl => match us, hl with | [_], _ => rfl) len_law
    fun cdv A outer s H vs Q E hr h => ⟨t_law K E, d_law T (has_law_cell T) (has_law_start T) (has_law_holds T) (has_law_frame T) hr, pure_law T vs H Q E h⟩

theorem ok_law (T : TX K mg base) {fd : FuncData} (F : FunD K "law" "law" (defArgs s_law) (defBody s_law) (defScope s_law) [] [] (He.ga K "law") fd) : FnOk P w K mg base (L2.CX P w) 5 (He.ga K "law") fd P_law (sp_law K) :=
  FunD.ok (CX := L2.CX P w) F sc_law len_law fun cdv A outer s H vs Q E hr h => ⟨t_law K E, d_law T (has_law_cell T) (has_law_start T) (has_law_holds T) (has_law_frame T) hr, pure_law T vs H Q E h⟩

end

abbrev R : PySem.W.OpenRow := PySem.W.OpenLaw.row PySem.Challenge.rw_throughway_k35_frames
abbrev hk : PySem.W.Hook := hookB 5 fa fn pr ex
def ob (s : PySem.W.SharedT) : AlB := obsBG 5 fa fn pr ex (HandSHeadRun.getT s)
theorem ob_eq (s : PySem.W.SharedT) : ob s = hk.obs s.abs := obsBG_eq (HandSHeadRun.getT_eq s)
def names : List PySem.Str := (["ThroughwayError", "InvalidAmount", "InvalidFrame", "two_octets", "write_frame", "first_frame", "_law_cell", "_law_is_integer", "_law_start", "_law_digit", "_law_frame", "_law_octets", "_law_copy", "_law_same_octets", "_law_read", "_law_same", "_law_holds", "WORDS"] : List PySem.Str)
theorem run (w : World) : HandSHeadRun.RunEq R (PySem.W.view R.prog [21]) hk ob 4000 names w := by
  intro os
  kernel_rfl
end K35

open PySem PySem.W PySem.Calls PyProof.Rows
theorem PySem.Challenge.cw_throughway_k35_frames_holds : PySem.Challenge.rw_throughway_k35_frames.Holds := by
  w_on; o_law
  refine HandSHeadRun.head_any (r := OpenLaw.row PySem.Challenge.rw_throughway_k35_frames) (q := view (OpenLaw.row PySem.Challenge.rw_throughway_k35_frames).prog [21]) (H := K35.hk) (ob := K35.ob) (M := 4000) (loose := K35.names) (d := HandSHeadRun.topDef (OpenLaw.row PySem.Challenge.rw_throughway_k35_frames).prog 21) (kwd := []) K35.ob_eq
    (by kernel_rfl) (fun s => by kernel_rfl) K35.run (by kernel_rfl) (by kernel_rfl) (by kernel_rfl) (by rfl) (by first | assumption | decide +kernel) (by decide +kernel) ⟨rfl, rfl, rfl, rfl, rfl, by decide +kernel⟩ ?hw ?hc
  case hw => w_witness2
  case hc =>
    refine G.walk_ofEB (l := PySem.Challenge.rw_throughway_k35_frames) (n := 63) (k := 5) (x := "script") (CX := fun w => L2.CX (PySem.Challenge.rw_throughway_k35_frames).prog w) rfl (by decide) (by kernel_rfl) ⟨rfl, by decide, by decide⟩ ?F ?X
    case X =>
      intro w H s e s' z
      obtain ⟨_, _, _, _, _, _, _, _, _, _, _, _, z⟩ := z
      exact z.elim
    case F =>
      intro w mg fa h Y G hmg0
      obtain ⟨K, KX, c⟩ := Y
      have hmg : mg ("law" : PySem.Str) = some (.ref fa) := by
        have e : (HandSHeadRun.topDef (OpenLaw.row PySem.Challenge.rw_throughway_k35_frames).prog 21).name = ("law" : PySem.Str) := by kernel_rfl
        rw [← e]
        exact hmg0
      obtain ⟨fd, FD⟩ := He.SaysD.def_ c.d 14 (d := K35.D_law) rfl
      have b := L2.FunD.bindsA (ps := ["script"]) FD fun _ _ _ _ _ _ us hl => match us, hl with | [_], _ => rfl
      have eg : fa = He.ga K "law" := by
        have e := hmg.symm.trans (He.glo_ok KX G (He.SaysD.fact c.d 29 (f := .glo "law") rfl))
        cases e
        rfl
      subst eg
      exact ⟨K, fd, K35.sp_law K, KX, fun s v => b s [v] rfl, fun H a ns hl hb hO hS => K35.law_start hl hb hO hS, fun base kin hns => K35.ok_law ⟨⟨kin, hns, c.d⟩, c⟩ FD⟩
