import PyProof.Rows.All
import Wide.All
import OpenK.AllK
import Wide.FinOn
import HandS.ForMost
import HandS.ForExc
import HandS.Wide
import HandS.Steps
import HandS.Evl
import HandS.Defaults
import HandS.IsInst
import HandS.Head0
import HandS.Head1
import HandS.Head2
import HandS.HeadEnd
import HandS.EndBits
import HandS.HeadHook1
import HandS.HeadHook2
import HandS.Property
import HandS.OwnEq
import HandS.ExcIs
import HandS.DeepEq
import HandS.HeadHook4
import HandS.TupLe
import HandS.Walk
import PySem.Challenge.RW_throughway_k39_messages
set_option Elab.async false
set_option linter.all false
set_option maxRecDepth 100000
set_option maxHeartbeats 4000000
/-! My own words over the hand layer: a def of the module, a method, a class, by names (Has, HasM, HasI); their calls; readings step by step. -/
namespace G
open PySem PySem.Spec PyProof.Rows L2

/-! ### a call that may let an exception out, at the slots -/
section
variable {X : Cx} {k : Nat} {f C : Addr} {fd : FuncData} {ps : List Str} {sp : Sp} {E : L2.St → XK} {x m : Str} {p pos apos : Pos} {e o : Expr} {es : List Expr} {ta : TE} {t : TA}
abbrev XC (X : Cx) : CXT := L2.CX X.prog X.w
/-- nothing is let out -/
theorem passZ (σ : L2.St) : PassesAt (XC X) X σ E0 := fun _ _ _ _ _ _ c => by
  obtain ⟨_, _, _, _, _, _, _, _, _, _, _, _, z⟩ := c
  exact z.elim
theorem pe_callS0 (F : FnOk X.prog X.w X.K X.mg X.base (XC X) k f fd ps sp) (hr : Room k X.A) (hg : Gl X x) (hm : X.mg x = some (.ref f)) (hk : PySem.W.keepIn X.K (.ref f) = true) (hb : Binds X.K fd ps []) (hx : ∀ σ, PassesAt (XC X) X σ (E σ))
    (hdb : (x == ("__debug__" : Str)) = false := by decide) : PE X (.Call (.Name x p) [] [] pos) (tCallS sp E tNil) := by
  refine ⟨fun pz s σ H Q I h => ?_⟩
  refine wpAny_Call_Name_kw ?_
  refine ld_glob I hg hm ?_ hdb
  exact PySem.W.callWith_K0 I.kIn hk (run_fnS (us := []) F hr hb (hx σ) I .nil h)
/-- o.m(..) -/
def tMt (C : Addr) (m : Str) (sp : Sp) (E : L2.St → XK) (ta : TE) (t : TA) : TE := fun σ H Q => ta σ H fun x H1 => ∃ a dx fs, x = .ref a ∧ H1 a = some (.ins C dx fs) ∧ fs.lookup m = none ∧
  t σ H1 fun vs H2 => sp (x :: vs) H2 Q (E σ)
theorem pe_mt {pl : Sem Bool} (he : PE X o ta) (c : Cls X.K C) (hm : Meth X.K C m f) (F : FnOk X.prog X.w X.K X.mg X.base (XC X) k f fd ps sp) (hr : Room k X.A) (hb : Binds X.K fd ps []) (hx : ∀ σ, PassesAt (XC X) X σ (E σ)) (ha : PA X (e :: es) t)
    (hst : starEach (e :: es) X.env = (false, eval e X.env) :: starEach es X.env := by rfl) (hpl : (backTo pos (starEach es X.env)).any (·.1) = false := by rfl)
    (ht : eval (.Call (.Attribute o m apos) (e :: es) [] pos) X.env = (do
      let ov ← eval o X.env
      standAt apos.atName
      let (f, first) ← holding [ov] (getMethod ov m pl)
      callWith pos f first (backTo pos (starEach (e :: es) X.env)) (backToKw pos (keywordEach [] X.env))) := by rfl) :
    PE X (.Call (.Attribute o m apos) (e :: es) [] pos) (tMt C m sp E ta t) := by
  refine ⟨fun pz s σ H Q I h => ?_⟩
  refine PySem.W.methodCall_KW (pl := pl) (thn (he.run pz s σ H _ I h) fun u z1 ⟨x, H1, J1, rq, a, dx, fs, ex, ea, l, q⟩ => ?_) ht
  subst ex
  obtain rfl : u = Value.ref a := rq
  refine getmeth_ok J1 ea c hm l ?_
  refine PySem.W.callWith_K (first := [.ref a]) (h₀ := X.base) I.ok.mod.kin hm.kp (thn (ha.run pos pz z1 σ H1 _ J1 q) fun us s2 ⟨vs, H2, J2, r, qb⟩ => ⟨J2.kIn, ?_⟩) hst hpl
  exact run_fnS (us := .ref a :: us) (vs := .ref a :: vs) F hr hb (hx σ) J2 (.cons rfl r) qb
theorem pe_mt0 {pl : Sem Bool} (he : PE X o ta) (c : Cls X.K C) (hm : Meth X.K C m f) (F : FnOk X.prog X.w X.K X.mg X.base (XC X) k f fd ps sp) (hr : Room k X.A) (hb : Binds X.K fd ps []) (hx : ∀ σ, PassesAt (XC X) X σ (E σ))
    (ht : eval (.Call (.Attribute o m apos) [] [] pos) X.env = (do
      let ov ← eval o X.env
      standAt apos.atName
      let (f, first) ← holding [ov] (getMethod ov m pl)
      callWith pos f first (backTo pos (starEach [] X.env)) (backToKw pos (keywordEach [] X.env))) := by rfl) :
    PE X (.Call (.Attribute o m apos) [] [] pos) (tMt C m sp E ta tNil) := by
  refine ⟨fun pz s σ H Q I h => ?_⟩
  refine PySem.W.methodCall_KW (pl := pl) (thn (he.run pz s σ H _ I h) fun u z1 ⟨x, H1, J1, rq, a, dx, fs, ex, ea, l, q⟩ => ?_) ht
  subst ex
  obtain rfl : u = Value.ref a := rq
  refine getmeth_ok J1 ea c hm l ?_
  exact PySem.W.callWith_K0 (first := [.ref a]) J1.kIn hm.kp (run_fnS (us := [.ref a]) (vs := [.ref a]) F hr hb (hx σ) J1 (.cons rfl .nil) q)
/-- C(..) -/
def tMk (C : Addr) (sp : Sp) (E : L2.St → XK) (t : TA) : TE := fun σ H Q => t σ H fun vs H1 => ∀ x dx, H1 x = none → H1 dx = none → dx ≠ x →
  sp (.ref x :: vs) (upd (upd H1 dx (.own x)) x (.ins C dx [])) (fun v H2 => v = .non ∧ Q (.ref x) H2) (E σ)
theorem run_mk {pz : List (Addr × Obj)} {σ : L2.St} {H : Hp} {s : Shared} {Q : VK} {us : List Value} {vs : List V} (M : Mk X.K C f) (F : FnOk X.prog X.w X.K X.mg X.base (XC X) k f fd ps sp) (hr : Room (k + 1) X.A) (hb : Binds X.K fd ps [])
    (hx : PassesAt (XC X) X σ (E σ)) (I : Inv X pz σ H s) (r : Vals vs us)
    (h : ∀ x dx, H x = none → H dx = none → dx ≠ x → sp (.ref x :: vs) (upd (upd H dx (.own x)) x (.ins C dx [])) (fun v H2 => v = .non ∧ Q (.ref x) H2) (E σ)) :
    wpAny (model X.prog X.w) X.A (call (.ref C) us) (EP X pz σ Q) X.xe s := by
  have hqa := h (s.heap.objs.size + 1) s.heap.objs.size (I.hok.fresh (Nat.le_succ _)) (I.hok.fresh (Nat.le_refl _)) (Nat.ne_of_lt (Nat.lt_succ_self _))
  have J2 := Inv.made (C := C) I
  have rr2 : Vals (V.ref (s.heap.objs.size + 1) :: vs) (Value.ref (s.heap.objs.size + 1) :: us) := .cons rfl r
  have hl : (Value.ref (s.heap.objs.size + 1) :: us).length = ps.length := by
    have e := rr2.length
    rw [F.len _ _ _ _ hqa] at e
    exact e.symm
  have b := hb _ (Value.ref (s.heap.objs.size + 1) :: us) J2.kIn (by rw [List.append_nil]; exact hl)
  rw [List.append_nil] at b
  refine wpAny_call (make_map (f := f) I.kIn M.makes M.init (beq_iff_eq.mp M.fn) (codeAny_mono (F.run _ X.stack _ _ ⟨Value.ref (s.heap.objs.size + 1) :: us, []⟩ (Value.ref (s.heap.objs.size + 1) :: us) _ _ (E σ) (hr.make C us [])
    (J2.env0.make C us []) b rr2 hqa) fun r s' hqb => ?_))
  cases r with
  | error e => exact hx pz _ _ e s' J2 hqb
  | ok fl =>
    cases fl with
    | ret u =>
      obtain ⟨v, H', J3, rv, ev, qc⟩ := J2.after hqb
      subst ev
      exact ⟨rv, ⟨V.ref (s.heap.objs.size + 1), H', J3, rfl, qc⟩⟩
    | next => exact False.elim hqb
    | brk => exact False.elim hqb
    | cont => exact False.elim hqb
theorem pe_mk (M : Mk X.K C f) (F : FnOk X.prog X.w X.K X.mg X.base (XC X) k f fd ps sp) (hr : Room (k + 1) X.A) (hg : Gl X x) (hm : X.mg x = some (.ref C)) (hb : Binds X.K fd ps []) (hx : ∀ σ, PassesAt (XC X) X σ (E σ))
    (ha : PA X (e :: es) t) (hdb : (x == ("__debug__" : Str)) = false := by decide) (he : starEach (e :: es) X.env = (false, eval e X.env) :: starEach es X.env := by rfl) (hpl : (backTo pos (starEach es X.env)).any (·.1) = false := by rfl) :
    PE X (.Call (.Name x p) (e :: es) [] pos) (tMk C sp E t) := by
  refine ⟨fun pz s σ H Q I h => ?_⟩
  refine wpAny_Call_Name_kw ?_
  refine ld_glob I hg hm ?_ hdb
  refine PySem.W.callWith_K (h₀ := X.base) I.ok.mod.kin M.kp (thn (ha.run pos pz s σ H _ I h) fun us z1 ⟨vs, H1, J1, r, q⟩ => ⟨J1.kIn, ?_⟩) he hpl
  exact run_mk M F hr hb (hx σ) J1 r q
theorem pe_mk0 (M : Mk X.K C f) (F : FnOk X.prog X.w X.K X.mg X.base (XC X) k f fd ps sp) (hr : Room (k + 1) X.A) (hg : Gl X x) (hm : X.mg x = some (.ref C)) (hb : Binds X.K fd ps []) (hx : ∀ σ, PassesAt (XC X) X σ (E σ))
    (hdb : (x == ("__debug__" : Str)) = false := by decide) : PE X (.Call (.Name x p) [] [] pos) (tMk C sp E tNil) := by
  refine ⟨fun pz s σ H Q I h => ?_⟩
  refine wpAny_Call_Name_kw ?_
  refine ld_glob I hg hm ?_ hdb
  exact PySem.W.callWith_K0 I.kIn M.kp (run_mk (us := []) M F hr hb (hx σ) I .nil h)
end

/-! ### by names -/
section
variable (P : Program) (w : World) (K : PySem.W.Frag) (mg : Str → Option Value) (base : Heap)
/-- a def of the module -/
structure Has (k : Nat) (x : Str) (ps : List Str) (sp : Sp) : Prop where
  gl : mg x = some (.ref (He.ga K x))
  kp : PySem.W.keepIn K (.ref (He.ga K x)) = true
  ex : ∃ fd, FnOk P w K mg base (L2.CX P w) k (He.ga K x) fd ps sp ∧ Binds K fd ps []
/-- a method -/
structure HasM (k : Nat) (c m : Str) (ps : List Str) (sp : Sp) : Prop where
  cl : Cls K (He.ga K c)
  me : Meth K (He.ga K c) m (He.ma K (He.ga K c) m)
  ex : ∃ fd, FnOk P w K mg base (L2.CX P w) k (He.ma K (He.ga K c) m) fd ps sp ∧ Binds K fd ps []
/-- a class that is made by its __init__ -/
structure HasI (k : Nat) (c : Str) (ps : List Str) (sp : Sp) : Prop where
  gl : mg c = some (.ref (He.ga K c))
  mkr : Mk K (He.ga K c) (He.ma K (He.ga K c) "__init__")
  ex : ∃ fd, FnOk P w K mg base (L2.CX P w) k (He.ma K (He.ga K c) "__init__") fd ps sp ∧ Binds K fd ps []
end
section
variable {P : Program} {w : World} {K : PySem.W.Frag} {mg : Str → Option Value} {base : Heap}
theorem Has.mono {j k : Nat} {x : Str} {ps : List Str} {sp : Sp} (h : Has P w K mg base j x ps sp) (l : j ≤ k) : Has P w K mg base k x ps sp :=
  ⟨h.gl, h.kp, let ⟨fd, F, b⟩ := h.ex; ⟨fd, F.mono l, b⟩⟩
theorem HasM.mono {j k : Nat} {c m : Str} {ps : List Str} {sp : Sp} (h : HasM P w K mg base j c m ps sp) (l : j ≤ k) : HasM P w K mg base k c m ps sp :=
  ⟨h.cl, h.me, let ⟨fd, F, b⟩ := h.ex; ⟨fd, F.mono l, b⟩⟩
theorem HasI.mono {j k : Nat} {c : Str} {ps : List Str} {sp : Sp} (h : HasI P w K mg base j c ps sp) (l : j ≤ k) : HasI P w K mg base k c ps sp :=
  ⟨h.gl, h.mkr, let ⟨fd, F, b⟩ := h.ex; ⟨fd, F.mono l, b⟩⟩
end
section
variable {X : Cx} {k : Nat} {ps : List Str} {sp : Sp} {E : L2.St → XK} {x c m : Str} {p pos apos : Pos} {e o : Expr} {es : List Expr} {ta : TE} {t : TA}
theorem pe_h (h : Has X.prog X.w X.K X.mg X.base k x ps sp) (hr : Room k X.A) (hg : Gl X x) (hx : ∀ σ, PassesAt (XC X) X σ (E σ)) (ha : PA X (e :: es) t) (hdb : (x == ("__debug__" : Str)) = false := by decide)
    (he : starEach (e :: es) X.env = (false, eval e X.env) :: starEach es X.env := by rfl) (hpl : (backTo pos (starEach es X.env)).any (·.1) = false := by rfl) : PE X (.Call (.Name x p) (e :: es) [] pos) (tCallS sp E t) := by
  obtain ⟨fd, F, b⟩ := h.ex
  exact pe_callS F hr hg h.gl h.kp b hx ha hdb he hpl
theorem pe_h0 (h : Has X.prog X.w X.K X.mg X.base k x ps sp) (hr : Room k X.A) (hg : Gl X x) (hx : ∀ σ, PassesAt (XC X) X σ (E σ)) (hdb : (x == ("__debug__" : Str)) = false := by decide) : PE X (.Call (.Name x p) [] [] pos) (tCallS sp E tNil) := by
  obtain ⟨fd, F, b⟩ := h.ex
  exact pe_callS0 F hr hg h.gl h.kp b hx hdb
theorem pe_i (h : HasI X.prog X.w X.K X.mg X.base k c ps sp) (hr : Room (k + 1) X.A) (hg : Gl X c) (hx : ∀ σ, PassesAt (XC X) X σ (E σ)) (ha : PA X (e :: es) t) (hdb : (c == ("__debug__" : Str)) = false := by decide)
    (he : starEach (e :: es) X.env = (false, eval e X.env) :: starEach es X.env := by rfl) (hpl : (backTo pos (starEach es X.env)).any (·.1) = false := by rfl) : PE X (.Call (.Name c p) (e :: es) [] pos) (tMk (He.ga X.K c) sp E t) := by
  obtain ⟨fd, F, b⟩ := h.ex
  exact pe_mk h.mkr F hr hg h.gl b hx ha hdb he hpl
theorem pe_i0 (h : HasI X.prog X.w X.K X.mg X.base k c ps sp) (hr : Room (k + 1) X.A) (hg : Gl X c) (hx : ∀ σ, PassesAt (XC X) X σ (E σ)) (hdb : (c == ("__debug__" : Str)) = false := by decide) : PE X (.Call (.Name c p) [] [] pos) (tMk (He.ga X.K c) sp E tNil) := by
  obtain ⟨fd, F, b⟩ := h.ex
  exact pe_mk0 h.mkr F hr hg h.gl b hx hdb
theorem pe_m {pl : Sem Bool} (he : PE X o ta) (h : HasM X.prog X.w X.K X.mg X.base k c m ps sp) (hr : Room k X.A) (hx : ∀ σ, PassesAt (XC X) X σ (E σ)) (ha : PA X (e :: es) t)
    (hst : starEach (e :: es) X.env = (false, eval e X.env) :: starEach es X.env := by rfl) (hpl : (backTo pos (starEach es X.env)).any (·.1) = false := by rfl)
    (ht : eval (.Call (.Attribute o m apos) (e :: es) [] pos) X.env = (do
      let ov ← eval o X.env
      standAt apos.atName
      let (f, first) ← holding [ov] (getMethod ov m pl)
      callWith pos f first (backTo pos (starEach (e :: es) X.env)) (backToKw pos (keywordEach [] X.env))) := by rfl) :
    PE X (.Call (.Attribute o m apos) (e :: es) [] pos) (tMt (He.ga X.K c) m sp E ta t) := by
  obtain ⟨fd, F, b⟩ := h.ex
  exact pe_mt he h.cl h.me F hr b hx ha hst hpl ht
theorem pe_m0 {pl : Sem Bool} (he : PE X o ta) (h : HasM X.prog X.w X.K X.mg X.base k c m ps sp) (hr : Room k X.A) (hx : ∀ σ, PassesAt (XC X) X σ (E σ))
    (ht : eval (.Call (.Attribute o m apos) [] [] pos) X.env = (do
      let ov ← eval o X.env
      standAt apos.atName
      let (f, first) ← holding [ov] (getMethod ov m pl)
      callWith pos f first (backTo pos (starEach [] X.env)) (backToKw pos (keywordEach [] X.env))) := by rfl) :
    PE X (.Call (.Attribute o m apos) [] [] pos) (tMt (He.ga X.K c) m sp E ta tNil) := by
  obtain ⟨fd, F, b⟩ := h.ex
  exact pe_mt0 he h.cl h.me F hr b hx ht
/-- raise X('..'), X without an __init__ -/
def tRs (C : Addr) (W : WX) : TS := fun _ σ H => W (.ref C) none σ H
/-- what the class of an own exception must have -/
structure HasX (K : PySem.W.Frag) (mg : Str → Option Value) (c : Str) : Prop where
  gl : mg c = some (.ref (He.ga K c))
  ex : PySem.W.excIn K (He.ga K c) He.veBase "ValueError.__new__" = true
  kp : PySem.W.keepIn K (.ref (He.ga K c)) = true
  sb : PySem.W.subIn K (.ref (He.ga K c)) (.type "BaseException") = some true
  ty : PySem.W.typeIn K (.ref (He.ga K c)) = some (.type "type")
theorem ps_rs {W : WX} {msg : Str} {j : Nat} {p2 pos2 : Pos} (hc : X.calm = true) (tk : Takes X W) (h : HasX X.K X.mg c) (hg : Gl X c) (hdb : (c == ("__debug__" : Str)) = false := by decide) :
    PS X (.Raise (some (.Call (.Name c p) [.Constant (.str msg) j p2] [] pos)) none pos2) (tRs (He.ga X.K c) W) :=
  ps_raise hc tk (pmk_own PySem.F.excBase_ValueError h.ex h.gl h.kp (raises_own h.sb h.ty) hg hdb)
end

/-! ### a def of the text keeps its promise -/
section
variable {P : Program} {w : World} {K : PySem.W.Frag} {mg : Str → Option Value} {base : Heap}
/-- what the body's term and its reading are to give -/
abbrev Body (P : Program) (w : World) (K : PySem.W.Frag) (mg : Str → Option Value) (base : Heap) (k : Nat) (N : List Str) (qual : Str) (scope : Scope) (f : Addr) (body : List Stmt) (sp : Sp) : Prop :=
  ∀ (cdv : Value) (A : Around) (outer : List Env) (s : Shared) (H : Hp) (vs : List V) (Q : VK) (E : XK), Room k (A.deeper (envOfC qual scope s.heap.objs.size f cdv)) → sp vs H Q E →
      ∃ t, PSs (cxOf (L2.CX P w) P w K mg base N qual scope f cdv A outer s H E) body t ∧ t { nx := fun _ H' => Q .non H', rt := Q } (start N vs) H
theorem mk_has {k : Nat} {x qual : Str} {params : Arguments} {body : List Stmt} {scope : Scope} {N ps : List Str} {sp : Sp} (gl : mg x = some (.ref (He.ga K x)))
    (F : ∃ fd, FunD K x qual params body scope [] [] (He.fAd K (x, none)) fd) (S : FnScope N ps scope)
    (hb : ∀ (kV doc pm : Value) (an : Option Addr) (cdv ct : Value) (us : List Value), us.length = ps.length → bindArgs (PySem.W.fnOf x qual params body scope .none kV doc pm an cdv ct) ⟨us, []⟩ = pure (ps.zip us))
    (len : ∀ vs H Q E, sp vs H Q E → vs.length = ps.length) (hbody : Body P w K mg base k N qual scope (He.ga K x) body sp) : Has P w K mg base (k + 1) x ps sp := by
  obtain ⟨fd, F⟩ := F
  exact ⟨gl, F.kp, fd, FunD.ok (CX := L2.CX P w) F S len hbody, F.bindsN hb⟩
theorem mk_hasM {k : Nat} {c m qual : Str} {params : Arguments} {body : List Stmt} {scope : Scope} {N ps : List Str} {sp : Sp} (cl : Cls K (He.ga K c)) (me : Meth K (He.ga K c) m (He.ma K (He.ga K c) m))
    (F : ∃ fd, FunD K m qual params body scope [] [] (He.fAd K (c, some m)) fd) (S : FnScope N ps scope)
    (hb : ∀ (kV doc pm : Value) (an : Option Addr) (cdv ct : Value) (us : List Value), us.length = ps.length → bindArgs (PySem.W.fnOf m qual params body scope .none kV doc pm an cdv ct) ⟨us, []⟩ = pure (ps.zip us))
    (len : ∀ vs H Q E, sp vs H Q E → vs.length = ps.length) (hbody : Body P w K mg base k N qual scope (He.ma K (He.ga K c) m) body sp) : HasM P w K mg base (k + 1) c m ps sp := by
  obtain ⟨fd, F⟩ := F
  exact ⟨cl, me, fd, FunD.ok (CX := L2.CX P w) F S len hbody, F.bindsN hb⟩
theorem mk_hasI {k : Nat} {c qual : Str} {params : Arguments} {body : List Stmt} {scope : Scope} {N ps : List Str} {sp : Sp} (gl : mg c = some (.ref (He.ga K c))) (mk : Mk K (He.ga K c) (He.ma K (He.ga K c) "__init__"))
    (F : ∃ fd, FunD K "__init__" qual params body scope [] [] (He.fAd K (c, some "__init__")) fd) (S : FnScope N ps scope)
    (hb : ∀ (kV doc pm : Value) (an : Option Addr) (cdv ct : Value) (us : List Value), us.length = ps.length → bindArgs (PySem.W.fnOf "__init__" qual params body scope .none kV doc pm an cdv ct) ⟨us, []⟩ = pure (ps.zip us))
    (len : ∀ vs H Q E, sp vs H Q E → vs.length = ps.length) (hbody : Body P w K mg base k N qual scope (He.ma K (He.ga K c) "__init__") body sp) : HasI P w K mg base (k + 1) c ps sp := by
  obtain ⟨fd, F⟩ := F
  exact ⟨gl, mk, fd, FunD.ok (CX := L2.CX P w) F S len hbody, F.bindsN hb⟩
/-- the head's facts -/
structure Tx (fa : List He.Fa) (fn : List He.DefD) (K : PySem.W.Frag) (mg : Str → Option Value) (base : Heap) : Prop where
  kin : K.In base
  ns : base.Ns mainGlobals mg
  says : He.SaysD fa fn K
variable {fa : List He.Fa} {fn : List He.DefD}
theorem Tx.glo (T : Tx fa fn K mg base) {x : Str} (i : Nat) (h : fa[i]? = some (.glo x) := by rfl) : mg x = some (.ref (He.ga K x)) := He.glo_ok T.kin T.ns (T.says.fact i h)
theorem Tx.free (T : Tx fa fn K mg base) {x : Str} (i : Nat) (h : fa[i]? = some (.free x) := by rfl) : mg x = none := He.free_ok T.kin T.ns (T.says.fact i h)
theorem Tx.cls (T : Tx fa fn K mg base) {x : Str} (i : Nat) (h : fa[i]? = some (.cls x) := by rfl) : Cls K (He.ga K x) := He.cls_ok (T.says.fact i h)
theorem Tx.noat (T : Tx fa fn K mg base) {x f : Str} (i : Nat) (h : fa[i]? = some (.noat x f) := by rfl) : NoAttr K (He.ga K x) f := He.noat_ok (T.says.fact i h)
theorem Tx.meth (T : Tx fa fn K mg base) {x m : Str} (i : Nat) (h : fa[i]? = some (.meth x m) := by rfl) : Meth K (He.ga K x) m (He.ma K (He.ga K x) m) := He.meth_ok (T.says.fact i h)
theorem Tx.mkr (T : Tx fa fn K mg base) {x : Str} (i : Nat) (h : fa[i]? = some (.mkr x) := by rfl) : Mk K (He.ga K x) (He.ma K (He.ga K x) "__init__") := He.mkr_ok (T.says.fact i h)
theorem Tx.exm (T : Tx fa fn K mg base) {x y : Str} {b : Bool} (i : Nat) (h : fa[i]? = some (.exm x y b) := by rfl) : PySem.W.exmOne K (.ref (He.ga K x)) (.ref (He.ga K y)) = some b := He.exm_ok (T.says.fact i h)
theorem Tx.exc (T : Tx fa fn K mg base) {x : Str} (i j : Nat) (h : fa[i]? = some (.exc x) := by rfl) (h2 : fa[j]? = some (.glo x) := by rfl) : HasX K mg x :=
  let ⟨a, b, c, d⟩ := He.exc_ok (T.says.fact i h)
  ⟨T.glo j h2, a, b, c, d⟩
end

/-! ### the end, with the script's bits told -/
theorem walk_ofEB {l : PySem.W.OpenLaw} {n k : Nat} {q : Program} {loose : List Str} {XP : (Str → Option Value) → Heap → Prop} {YP : World → Heap → Prop} {d : DefRec} {CX : World → CXT} {x : Str}
    (hn : l.most = some n) (hn2 : n ≤ sizeLine) (hdf : d.params.defaults = []) (hr : Room k callerA)
    (F : ∀ (w : World) (mg : Str → Option Value) (fa : Addr) (h : Heap), YP w h → h.Ns mainGlobals mg → mg d.name = some (.ref fa) →
      ∃ (K : PySem.W.Frag) (fd : FuncData) (sp : Sp), K.In h ∧ (∀ (s : Shared) (u : Value), BindsTo s fd ⟨[u], []⟩ [(x, u)]) ∧
        (∀ (H : Hp) (a : Addr) (ns : List Int), ns.length ≤ n → (∀ z ∈ ns, Builtin.Int.intBits z ≤ 1048576) → Only H → SqL K H a (ns.map V.int) → sp [.ref a] H (fun v _ => v = .bl true) fun _ _ _ => False) ∧
        ∀ base : Heap, K.In base → base.Ns mainGlobals mg → FnOk l.prog w K mg base (CX w) k fa fd [x] sp)
    (hCX : ∀ (w : World) (H : Hp) (s : Shared) (e : Value) (s' : Shared), CX w [] H s (fun _ _ _ => False) e s' → False) :
    PySem.W.WalkO q loose XP YP l.row.toRowW d [] (fun f vs => PySem.call f vs) := by
  refine Att.attach_callB hn hdf fun w sA sB mg mb fa o pm cd doc a vs ns G Y ho hd hcd hmg hobj hints hlen hbits hg => ?_
  obtain ⟨K, fd, sp, kx, bd, sh, FF⟩ := F w mg fa _ Y G.T.g hmg
  exact law_call kx G.T.g G.T.b G.T.builtins G.T.nolimit hg hobj hints (Nat.le_trans hlen hn2) hr FF bd (fun H hO hS => sh H a ns hlen hbits hO hS) fun H e s' => hCX w H sB e s'
end G

/-! readings, step by step -/
namespace G
open PySem PySem.Spec PyProof.Rows L2
/-! ### names of the rules' relations -/
abbrev wB (E : XK) : WX := fun cls d _ H => E cls d H
abbrev gAdd : R2 := rI0 fun i j => .int (i + j)
abbrev gMinus : R2 := rI0 fun i j => .int (i - j)
abbrev gMul : R2 := rI CMul fun i j => .int (i * j)
abbrev gMulW : R2 := rI CMulW fun i j => .int (i * j)
abbrev gDiv : R2 := rI CDiv fun i j => .int (i / j)
abbrev gDivW : R2 := rI CDivW fun i j => .int (i / j)
abbrev gMod : R2 := rI (fun _ j => 0 < j) fun i j => .int (i % j)
abbrev gPow : R2 := rI CPow fun i j => .int (i ^ j.toNat)
abbrev gShl : R2 := rI CPow fun i j => .int (i * 2 ^ j.toNat)
abbrev gShr : R2 := rI (fun _ j => 0 ≤ j) fun i j => .int (i / 2 ^ j.toNat)
abbrev gAnd : R2 := rI0 fun i j => .int (Builtin.bitAnd i j)
abbrev gOr : R2 := rI0 fun i j => .int (Builtin.bitOr i j)
abbrev gXor : R2 := rI0 fun i j => .int (Builtin.bitXor i j)
abbrev gLt : R2 := rI0 fun i j => .bl (decide (i < j))
abbrev gLte : R2 := rI0 fun i j => .bl (decide (i ≤ j))
abbrev gGt : R2 := rI0 fun i j => .bl (decide (j < i))
abbrev gGte : R2 := rI0 fun i j => .bl (decide (j ≤ i))
abbrev gLe : R2 := gLte
abbrev gGe : R2 := gGte
abbrev gNeg : V → Hp → VK → Prop := rU fun i => .int (-i)
abbrev gCatS : R2 := fun x y H Q => ∃ i j, x = .str i ∧ y = .str j ∧ i.length + j.length ≤ sizeLine ∧ Q (.str (i ++ j)) H
abbrev gInS : R2 := rInS
abbrev gNotInS : R2 := rNotInS
abbrev gLen (K : PySem.W.Frag) : List V → Hp → VK → Prop := fun xs H Q => ∃ x n, xs = [x] ∧ LenV K x H n ∧ Q (.int (n : Nat)) H
abbrev gMin2 : List V → Hp → VK → Prop := fun xs H Q => ∃ i j, xs = [.int i, .int j] ∧ Q (.int (if j < i then j else i)) H
abbrev gMax2 : List V → Hp → VK → Prop := fun xs H Q => ∃ i j, xs = [.int i, .int j] ∧ Q (.int (if j > i then j else i)) H
abbrev gAbs : List V → Hp → VK → Prop := fun xs H Q => ∃ i, xs = [.int i] ∧ Q (.int (if i < 0 then -i else i)) H
abbrev gInt1 : List V → Hp → VK → Prop := fun xs H Q => (∃ i, xs = [.int i] ∧ Q (.int i) H) ∨ ∃ k, xs = [.bl k] ∧ Q (.int (if k then 1 else 0)) H
abbrev gBool1 : List V → Hp → VK → Prop := fun xs H Q => (∃ i, xs = [.int i] ∧ Q (.bl (i != 0)) H) ∨ ∃ k, xs = [.bl k] ∧ Q (.bl k) H
abbrev gStr1 : List V → Hp → VK → Prop := fun xs H Q => ∃ i, xs = [.int i] ∧ i.natAbs.log2 < 1920 ∧ Q (.str (toString i)) H
abbrev gListOf (K : PySem.W.Frag) : List V → Hp → VK → Prop := fun xs H Q => ∃ p ys, xs = [.ref p] ∧ (SqL K H p ys ∨ SqT K H p ys) ∧ ∀ l, H l = none → Q (.ref l) (upd H l (.lst ys))
abbrev gTupOf (K : PySem.W.Frag) : List V → Hp → VK → Prop := fun xs H Q => ∃ p ys, xs = [.ref p] ∧ ((SqL K H p ys ∧ ∀ l, H l = none → Q (.ref l) (upd H l (.tup ys))) ∨ (SqT K H p ys ∧ Q (.ref p) H))
section
variable {X : Cx} {x : Str} {pos : Pos}
theorem pe_gint {i : Int} (hg : Gl X x) (hm : ∃ t, X.mg x = some (.int i t)) (hd : (x == ("__debug__" : Str)) = false := by decide) : PE X (.Name x pos) (tC (.int i)) := by
  obtain ⟨t, hm⟩ := hm
  exact pe_glob hg hm ⟨t, rfl⟩ hd
theorem pe_gstr {z : Str} (hg : Gl X x) (hm : ∃ t, X.mg x = some (.str z t)) (hd : (x == ("__debug__" : Str)) = false := by decide) : PE X (.Name x pos) (tC (.str z)) := by
  obtain ⟨t, hm⟩ := hm
  exact pe_glob hg hm ⟨t, rfl⟩ hd
theorem pe_gref {a : Addr} (hg : Gl X x) (hm : X.mg x = some (.ref a)) (hd : (x == ("__debug__" : Str)) = false := by decide) : PE X (.Name x pos) (tC (.ref a)) := pe_glob hg hm rfl hd
end
section
variable {K : PySem.W.Frag} {mg : Str → Option Value} {base : Heap} {fa : List He.Fa} {fn : List He.DefD}
theorem Tx.int (T : Tx fa fn K mg base) {x : Str} {n : Int} (i : Nat) (h : fa[i]? = some (.int x n) := by rfl) : ∃ t, mg x = some (.int n t) := He.int_ok T.kin T.ns (T.says.fact i h)
theorem Tx.str (T : Tx fa fn K mg base) {x z : Str} (i : Nat) (h : fa[i]? = some (.str x z) := by rfl) : ∃ t, mg x = some (.str z t) := He.str_ok T.kin T.ns (T.says.fact i h)
end

/-! ### steps -/
section
variable {K : PySem.W.Frag} {σ : L2.St} {H : Hp} {Q : VK} {v x y : V} {i j : Int} {n : Nat} {ta tb tc te : TE} {r r' : R2} {g : Int → Int → V} {C : Int → Int → Prop} {tA : TA}
theorem w_var (h : σ[n]? = some (some v)) (q : Q v H) : tVar n σ H Q := ⟨v, h, q⟩
theorem w_c (q : Q v H) : tC v σ H Q := q
theorem w_op (h : ta σ H fun x H1 => tb σ H1 fun y H2 => r x y H2 Q) : tOp r ta tb σ H Q := h
theorem w_I0 (q : Q (g i j) H) : rI0 g (.int i) (.int j) H Q := ⟨i, j, rfl, rfl, q⟩
theorem w_I (c : C i j) (q : Q (g i j) H) : rI C g (.int i) (.int j) H Q := ⟨i, j, rfl, rfl, c, q⟩
theorem w_eqI (q : Q (.bl (decide (i = j))) H) : rEq (.int i) (.int j) H Q := ⟨rfl, by
  have e : decide (V.int i = V.int j) = decide (i = j) := by simp
  show Q (.bl (decide (V.int i = V.int j))) H
  rw [e]; exact q⟩
theorem w_neI (q : Q (.bl (!decide (i = j))) H) : rNe (.int i) (.int j) H Q := ⟨rfl, by
  have e : decide (V.int i = V.int j) = decide (i = j) := by simp
  show Q (.bl (!decide (V.int i = V.int j))) H
  rw [e]; exact q⟩
theorem w_eqB {a b : Bool} (q : Q (.bl (decide (a = b))) H) : rEq (.bl a) (.bl b) H Q := ⟨rfl, by
  have e : decide (V.bl a = V.bl b) = decide (a = b) := by simp
  show Q (.bl (decide (V.bl a = V.bl b))) H
  rw [e]; exact q⟩
theorem w_neB {a b : Bool} (q : Q (.bl (!decide (a = b))) H) : rNe (.bl a) (.bl b) H Q := ⟨rfl, by
  have e : decide (V.bl a = V.bl b) = decide (a = b) := by simp
  show Q (.bl (!decide (V.bl a = V.bl b))) H
  rw [e]; exact q⟩
theorem w_eqS {a b : Str} (q : Q (.bl (decide (a = b))) H) : rEq (.str a) (.str b) H Q := ⟨rfl, by
  have e : decide (V.str a = V.str b) = decide (a = b) := by simp
  show Q (.bl (decide (V.str a = V.str b))) H
  rw [e]; exact q⟩
theorem w_neS {a b : Str} (q : Q (.bl (!decide (a = b))) H) : rNe (.str a) (.str b) H Q := ⟨rfl, by
  have e : decide (V.str a = V.str b) = decide (a = b) := by simp
  show Q (.bl (!decide (V.str a = V.str b))) H
  rw [e]; exact q⟩
theorem w_isN (q : Q (.bl (decide (x = .non))) H) : rIsN x .non H Q := ⟨rfl, q⟩
theorem w_notN (q : Q (.bl (!decide (x = .non))) H) : rNotN x .non H Q := ⟨rfl, q⟩
theorem w_un {rr : V → Hp → VK → Prop} (h : ta σ H fun x H1 => rr x H1 Q) : tUn rr ta σ H Q := h
theorem w_U {f : Int → V} (q : Q (f i) H) : rU f (.int i) H Q := ⟨i, rfl, q⟩
theorem w_chain (h : ta σ H fun x H1 => tb σ H1 fun y H2 => r x y H2 fun z H3 => ∃ k, z = .bl k ∧ (if k = true then tc σ H3 fun w' H4 => r' y w' H4 Q else Q (.bl false) H3)) : tChain r r' ta tb tc σ H Q := h
theorem w_k {b : Bool} {P : Bool → Prop} (h : P b) : ∃ k, V.bl b = .bl k ∧ P k := ⟨b, rfl, h⟩
theorem w_test {Q : Bool → Hp → Prop} (h : te σ H fun x H' => ∃ k, x = .bl k ∧ Q k H') : tTest te σ H Q := h
theorem w_tB {Q : Bool → Hp → Prop} (h : te σ H fun x H' => ∃ k, x = .bl k ∧ Q k H') : tB te σ H Q := h
theorem w_tru {Q : Bool → Hp → Prop} (h : te σ H fun x H' => ∃ k, TruV K x H' k ∧ Q k H') : tTru K te σ H Q := h
theorem w_not {Q : Bool → Hp → Prop} {t : TT} (h : t σ H fun c H1 => Q (!c) H1) : tNot t σ H Q := h
theorem w_and {Q : Bool → Hp → Prop} {t u : TT} (h : t σ H fun c H1 => if c = true then u σ H1 Q else Q false H1) : tAnd t u σ H Q := h
theorem w_or {Q : Bool → Hp → Prop} {t u : TT} (h : t σ H fun c H1 => if c = true then Q true H1 else u σ H1 Q) : tOr t u σ H Q := h
theorem w_andV (h : ta σ H fun x H1 => ∃ c, x = .bl c ∧ if c = true then tb σ H1 Q else Q (.bl false) H1) : tAndV ta tb σ H Q := h
theorem w_orV (h : ta σ H fun x H1 => ∃ c, x = .bl c ∧ if c = true then Q (.bl true) H1 else tb σ H1 Q) : tOrV ta tb σ H Q := h
theorem w_notV (h : ta σ H fun x H1 => ∃ c, x = .bl c ∧ Q (.bl (!c)) H1) : tNotV ta σ H Q := h
theorem w_ife {t : TT} (h : t σ H fun c H1 => if c = true then ta σ H1 Q else tb σ H1 Q) : tIf t ta tb σ H Q := h
theorem w_nil {Q : List V → Hp → Prop} (q : Q [] H) : tNil σ H Q := q
theorem w_cons {Q : List V → Hp → Prop} (h : te σ H fun x H1 => tA σ H1 fun xs H2 => Q (x :: xs) H2) : tCons te tA σ H Q := h
theorem w_tup (h : tA σ H fun xs H1 => xs.length ≤ sizeLine ∧ ∀ p, H1 p = none → Q (.ref p) (upd H1 p (.tup xs))) : tTup tA σ H Q := h
theorem w_lst (h : tA σ H fun xs H1 => xs.length ≤ sizeLine ∧ ∀ p, H1 p = none → Q (.ref p) (upd H1 p (.lst xs))) : tLst tA σ H Q := h
theorem w_small {xs : List V} {P : Prop} (hl : Nat.ble xs.length 1000 = true) (h : P) : xs.length ≤ sizeLine ∧ P := ⟨Nat.le_trans (Nat.le_of_ble_eq_true hl) (by decide), h⟩
theorem w_call {sp : Sp} {E : L2.St → XK} (h : tA σ H fun vs H1 => sp vs H1 Q (E σ)) : tCallS sp E tA σ H Q := h
theorem w_mk {Cc : Addr} {sp : Sp} {E : L2.St → XK} (h : tA σ H fun vs H1 => ∀ x dx, H1 x = none → H1 dx = none → dx ≠ x → sp (.ref x :: vs) (upd (upd H1 dx (.own x)) x (.ins Cc dx [])) (fun v H2 => v = .non ∧ Q (.ref x) H2) (E σ)) : tMk Cc sp E tA σ H Q := h
theorem w_mt {Cc : Addr} {m : Str} {sp : Sp} {E : L2.St → XK} (h : ta σ H fun x H1 => ∃ a dx fs, x = .ref a ∧ H1 a = some (.ins Cc dx fs) ∧ fs.lookup m = none ∧ tA σ H1 fun vs H2 => sp (x :: vs) H2 Q (E σ)) : tMt Cc m sp E ta tA σ H Q := h
theorem w_cb {rr : List V → Hp → VK → Prop} (h : tA σ H fun vs H1 => rr vs H1 Q) : tCB rr tA σ H Q := h
theorem w_min2 (q : Q (.int (if j < i then j else i)) H) : gMin2 [.int i, .int j] H Q := ⟨i, j, rfl, q⟩
theorem w_max2 (q : Q (.int (if j > i then j else i)) H) : gMax2 [.int i, .int j] H Q := ⟨i, j, rfl, q⟩
theorem w_abs (q : Q (.int (if i < 0 then -i else i)) H) : gAbs [.int i] H Q := ⟨i, rfl, q⟩
theorem w_int (q : Q (.int i) H) : gInt1 [.int i] H Q := .inl ⟨i, rfl, q⟩
theorem w_lenL {p : Addr} {xs : List V} (h : SqL K H p xs) (q : Q (.int (xs.length : Int)) H) : gLen K [.ref p] H Q := ⟨_, xs.length, rfl, .inl ⟨xs, h, rfl⟩, q⟩
theorem w_lenT {p : Addr} {xs : List V} (h : SqT K H p xs) (q : Q (.int (xs.length : Int)) H) : gLen K [.ref p] H Q := ⟨_, xs.length, rfl, .inr ⟨xs, h, rfl⟩, q⟩
theorem w_lenS {z : Str} (h : z.length ≤ sizeLine) (q : Q (.int (z.length : Int)) H) : gLen K [.str z] H Q := ⟨_, z.length, rfl, ⟨h, rfl⟩, q⟩
theorem w_listL {p : Addr} {xs : List V} (h : SqL K H p xs) (q : ∀ l, H l = none → Q (.ref l) (upd H l (.lst xs))) : gListOf K [.ref p] H Q := ⟨p, xs, rfl, .inl h, q⟩
theorem w_listT {p : Addr} {xs : List V} (h : SqT K H p xs) (q : ∀ l, H l = none → Q (.ref l) (upd H l (.lst xs))) : gListOf K [.ref p] H Q := ⟨p, xs, rfl, .inr h, q⟩
theorem w_ixL {p : Addr} {xs : List V} (h : SqL K H p xs) (ha : atI xs i = some v) (q : Q v H) : rIxL K (.ref p) (.int i) H Q := ⟨p, xs, i, v, rfl, rfl, h, ha, q⟩
theorem w_ixT {p : Addr} {xs : List V} (h : SqT K H p xs) (ha : atI xs i = some v) (q : Q v H) : rIxT K (.ref p) (.int i) H Q := ⟨p, xs, i, v, rfl, rfl, h, ha, q⟩
theorem w_fld {f : Str} {a Cc dx : Addr} {fs : List (Str × V)} {P : Addr → Addr → Addr → List (Str × V) → V → Prop} (h : H a = some (.ins Cc dx fs)) (c : Cls K Cc) (na : NoAttr K Cc f) (l : fs.lookup f = some v) (q : P a Cc dx fs v) :
    ∃ a' C' dx' fs' v', V.ref a = .ref a' ∧ H a' = some (.ins C' dx' fs') ∧ Cls K C' ∧ NoAttr K C' f ∧ fs'.lookup f = some v' ∧ P a' C' dx' fs' v' := ⟨a, Cc, dx, fs, v, rfl, h, c, na, l, q⟩
theorem w_mt1 {m : Str} {a Cc dx : Addr} {fs : List (Str × V)} {P : Addr → Prop} (h : H a = some (.ins Cc dx fs)) (l : fs.lookup m = none) (q : P a) :
    ∃ a' dx' fs', V.ref a = .ref a' ∧ H a' = some (.ins Cc dx' fs') ∧ fs'.lookup m = none ∧ P a' := ⟨a, dx, fs, rfl, h, l, q⟩
theorem w_fld0 {f : Str} (h : ta σ H fun x H1 => ∃ a C dx fs v, x = .ref a ∧ H1 a = some (.ins C dx fs) ∧ Cls K C ∧ NoAttr K C f ∧ fs.lookup f = some v ∧ Q v H1) : tFld K ta f σ H Q := h
theorem w_bm {T : String} {rr : V → List V → Hp → VK → Prop} (h : ta σ H fun x H1 => tyV K T x H1 ∧ tA σ H1 fun xs H2 => rr x xs H2 Q) : tBM K T rr ta tA σ H Q := h
theorem w_bm0 {T : String} {rr : V → List V → Hp → VK → Prop} (h : ta σ H fun x H1 => tyV K T x H1 ∧ rr x [] H1 Q) : tBM0 K T rr ta σ H Q := h
theorem w_app {l : Addr} {xs : List V} (h : H l = some (.lst xs)) (hz : xs.length < sizeLine) (q : Q .non (upd H l (.lst (xs ++ [v])))) : rAppend (.ref l) [v] H Q := ⟨l, xs, v, rfl, rfl, h, hz, q⟩
theorem ty_list {l : Addr} {xs : List V} {P : Prop} (h : H l = some (.lst xs)) (q : P) : tyV K "list" (.ref l) H ∧ P := ⟨.inl ⟨rfl, xs, .inl (.inl h)⟩, q⟩
end
section
variable {K : PySem.W.Frag} {σ : L2.St} {H : Hp} {D : Ends} {v x y : V} {n : Nat} {ta tb te : TE} {t u : TS} {tt : TT}
theorem w_seq (h : t { D with nx := u D } σ H) : tSeq t u D σ H := h
theorem w_next (h : D.nx σ H) : tNext D σ H := h
theorem w_brk (h : D.bk σ H) : tBreak D σ H := h
theorem w_cont (h : D.ct σ H) : tCont D σ H := h
theorem w_drop (h : te σ H fun _ H1 => D.nx σ H1) : tDrop te D σ H := h
theorem w_ret (h : te σ H D.rt) : tRet te D σ H := h
theorem w_retN (h : D.rt .non H) : tRetN D σ H := h
theorem w_if (h : tt σ H fun b H1 => if b = true then t D σ H1 else u D σ H1) : tIfS tt t u D σ H := h
theorem w_asg {g : TG} (h : te σ H fun x H1 => g x σ H1 D.nx) : tAsg te g D σ H := h
theorem w_nm {Q : L2.St → Hp → Prop} (h : Q (σ.set n (some v)) H) : gName n v σ H Q := h
theorem w_sub {to ti : TE} {ts : TSet} {Q : L2.St → Hp → Prop} (h : to σ H fun o H1 => ti σ H1 fun i H2 => ts o i v H2 fun H3 => Q σ H3) : gSub to ti ts v σ H Q := h
theorem w_setL {l : Addr} {xs : List V} {k : Int} {j : Nat} {Q : Hp → Prop} (h : H l = some (.lst xs)) (hj : ixN xs.length k = some j) (q : Q (upd H l (.lst (xs.set j v)))) : rSetL (.ref l) (.int k) v H Q := ⟨l, xs, k, j, rfl, rfl, h, hj, q⟩
theorem w_sfld {f : Str} (h : tb σ H fun y H1 => ta σ H1 fun x H2 => ∃ a C dx fs, x = .ref a ∧ H2 a = some (.ins C dx fs) ∧ Cls K C ∧ NoAttr K C f ∧ fs.length < 1000 ∧ D.nx σ (upd H2 a (.ins C dx (putF f y fs)))) : sFld K ta tb f D σ H := h
theorem w_sput {f : Str} {a C dx : Addr} {fs fs' : List (Str × V)} (h : H a = some (.ins C dx fs)) (c : Cls K C) (na : NoAttr K C f) (e : putF f y fs = fs') (l : Nat.blt fs.length 1000 = true) (q : D.nx σ (upd H a (.ins C dx fs'))) :
    ∃ a' C' dx' fs0, V.ref a = .ref a' ∧ H a' = some (.ins C' dx' fs0) ∧ Cls K C' ∧ NoAttr K C' f ∧ fs0.length < 1000 ∧ D.nx σ (upd H a' (.ins C' dx' (putF f y fs0))) := ⟨a, C, dx, fs, rfl, h, c, na, Nat.le_of_ble_eq_true l, by rw [e]; exact q⟩
theorem w_sfa {f : Str} {rd : V → V → Hp → VK → Prop} (h : ta σ H fun x H1 => ∃ a C dx fs v, x = .ref a ∧ H1 a = some (.ins C dx fs) ∧ Cls K C ∧ NoAttr K C f ∧ fs.lookup f = some v ∧
  tb σ H1 fun y H2 => rd v y H2 fun z H3 => ∃ dx' fs', H3 a = some (.ins C dx' fs') ∧ fs'.length < 1000 ∧ D.nx σ (upd H3 a (.ins C dx' (putF f z fs')))) : sFldAug K ta tb rd f D σ H := h
theorem w_sput2 {f : Str} {a C dx : Addr} {fs fs' : List (Str × V)} (h : H a = some (.ins C dx fs)) (e : putF f y fs = fs') (l : Nat.blt fs.length 1000 = true) (q : D.nx σ (upd H a (.ins C dx fs'))) :
    ∃ dx' fs0, H a = some (.ins C dx' fs0) ∧ fs0.length < 1000 ∧ D.nx σ (upd H a (.ins C dx' (putF f y fs0))) := ⟨dx, fs, h, Nat.le_of_ble_eq_true l, by rw [e]; exact q⟩
theorem w_radd {i j : Int} {Q : VK} (q : Q (.int (i + j)) H) : L2.rAdd (.int i) (.int j) H Q := ⟨i, j, rfl, rfl, q⟩
theorem w_rsub {i j : Int} {Q : VK} (q : Q (.int (i - j)) H) : L2.rSub (.int i) (.int j) H Q := ⟨i, j, rfl, rfl, q⟩
theorem w_aug {te : TE} {ti : TIp} (hx : σ[n]? = some (some x)) (h : te σ H fun y H1 => ti x y H1 fun z H2 => D.nx (σ.set n (some z)) H2) : tAug n te ti D σ H := ⟨x, hx, h⟩
theorem w_ip {f : Int → Int → Int} {i j : Int} {Q : VK} (q : Q (.int (f i j)) H) : ipI f (.int i) (.int j) H Q := ⟨i, j, rfl, rfl, q⟩
theorem w_rs {C : Addr} {W : WX} (h : W (.ref C) none σ H) : tRs C W D σ H := h
theorem w_par {i j : Nat} {tA : TA} (h : tA σ H fun vs H1 => ∃ v w, vs = [v, w] ∧ D.nx ((σ.set i (some v)).set j (some w)) H1) : tPar i j tA D σ H := h
/-! ### ifs -/
theorem if_d {p : Prop} [Decidable p] {A B : Prop} (h1 : p → A) (h2 : ¬ p → B) : if decide p = true then A else B := by
  by_cases h : p
  · rw [decide_eq_true h]; exact h1 h
  · rw [decide_eq_false h]; exact h2 h
theorem if_nd {p : Prop} [Decidable p] {A B : Prop} (h1 : ¬ p → A) (h2 : p → B) : if (!decide p) = true then A else B := by
  by_cases h : p
  · rw [decide_eq_true h]; exact h2 h
  · rw [decide_eq_false h]; exact h1 h
theorem if_T {A B : Prop} (h : A) : if true = true then A else B := h
theorem if_F {A B : Prop} (h : B) : if false = true then A else B := h
theorem if_nT {A B : Prop} (h : B) : if (!true) = true then A else B := h
theorem if_nF {A B : Prop} (h : A) : if (!false) = true then A else B := h
theorem if_b {b : Bool} {A B : Prop} (h1 : b = true → A) (h2 : b = false → B) : if b = true then A else B := by
  cases b
  · exact h2 rfl
  · exact h1 rfl
end
/-! ### loops -/
section
variable {K : PySem.W.Frag} {g : TG} {tb : TS} {D : Ends} {σ : L2.St} {H : Hp} {tA : TA} {tl : TE}
def LoopL (K : PySem.W.Frag) (a : Addr) (g : TG) (tb : TS) (D : Ends) (σ : L2.St) (H : Hp) : Prop := (∃ xs, SqL K H a xs) ∧ ∃ W : Nat → Nat → L2.St → Hp → Prop, (∃ m, W 0 m σ H) ∧ ∀ i m σ H, W i m σ H →
  ((Itl K a).stop i H ∧ D.nx σ H) ∨ ((Itl K a).go i H ∧ ∃ N : L2.St → Hp → Prop, (∀ σ' H', N σ' H' → ∃ m', m' < m ∧ W (i + 1) m' σ' H') ∧ ∀ x H', (Itl K a).yld i H x H' → g x σ H' fun σ2 H2 => tb { D with nx := N, ct := N, bk := D.nx } σ2 H2)
def LoopT (K : PySem.W.Frag) (a : Addr) (g : TG) (tb : TS) (D : Ends) (σ : L2.St) (H : Hp) : Prop := (∃ xs, SqT K H a xs) ∧ ∃ W : Nat → Nat → L2.St → Hp → Prop, (∃ m, W 0 m σ H) ∧ ∀ i m σ H, W i m σ H →
  ((Itt K a).stop i H ∧ D.nx σ H) ∨ ((Itt K a).go i H ∧ ∃ N : L2.St → Hp → Prop, (∀ σ' H', N σ' H' → ∃ m', m' < m ∧ W (i + 1) m' σ' H') ∧ ∀ x H', (Itt K a).yld i H x H' → g x σ H' fun σ2 H2 => tb { D with nx := N, ct := N, bk := D.nx } σ2 H2)
/-- the same words by names -/
def rLoop1 (g : TG) (tb : TS) (D : Ends) (σ : L2.St) (vs : List V) (H1 : Hp) : Prop := ∃ j : Int, vs = [.int j] ∧ -(2 ^ 62) ≤ j ∧ j < 2 ^ 62 ∧ ∃ W : Nat → Nat → L2.St → Hp → Prop, (∃ m, W 0 m σ H1) ∧ ∀ i m σ H, W i m σ H →
  ((Itr 0 j.toNat).stop i H ∧ D.nx σ H) ∨ ((Itr 0 j.toNat).go i H ∧ ∃ N : L2.St → Hp → Prop, (∀ σ' H', N σ' H' → ∃ m', m' < m ∧ W (i + 1) m' σ' H') ∧ ∀ x H', (Itr 0 j.toNat).yld i H x H' → g x σ H' fun σ2 H2 => tb { D with nx := N, ct := N, bk := D.nx } σ2 H2)
def rLoop2 (g : TG) (tb : TS) (D : Ends) (σ : L2.St) (vs : List V) (H1 : Hp) : Prop := ∃ i j : Int, vs = [.int i, .int j] ∧ (-(2 ^ 62) ≤ i ∧ i < 2 ^ 62 ∧ -(2 ^ 62) ≤ j ∧ j < 2 ^ 62) ∧ ∃ W : Nat → Nat → L2.St → Hp → Prop, (∃ m, W 0 m σ H1) ∧ ∀ k m σ H, W k m σ H →
  ((Itr i (j - i).toNat).stop k H ∧ D.nx σ H) ∨ ((Itr i (j - i).toNat).go k H ∧ ∃ N : L2.St → Hp → Prop, (∀ σ' H', N σ' H' → ∃ m', m' < m ∧ W (k + 1) m' σ' H') ∧ ∀ x H', (Itr i (j - i).toNat).yld k H x H' → g x σ H' fun σ2 H2 => tb { D with nx := N, ct := N, bk := D.nx } σ2 H2)
def rLoopL (K : PySem.W.Frag) (g : TG) (tb : TS) (D : Ends) (σ : L2.St) (x : V) (H1 : Hp) : Prop := ∃ a, x = .ref a ∧ LoopL K a g tb D σ H1
def rLoopT (K : PySem.W.Frag) (g : TG) (tb : TS) (D : Ends) (σ : L2.St) (x : V) (H1 : Hp) : Prop := ∃ a, x = .ref a ∧ LoopT K a g tb D σ H1
theorem w_forR1 (h : tA σ H fun vs H1 => rLoop1 g tb D σ vs H1) : tFor (iRng1 tA) g tb D σ H := h
theorem w_forR2 (h : tA σ H fun vs H1 => rLoop2 g tb D σ vs H1) : tFor (iRng2 tA) g tb D σ H := h
theorem w_forL (h : tl σ H fun x H1 => rLoopL K g tb D σ x H1) : tFor (iList K tl) g tb D σ H := h
theorem w_forT (h : tl σ H fun x H1 => rLoopT K g tb D σ x H1) : tFor (iTup K tl) g tb D σ H := h
/-- for i in range(n), n a Nat -/
theorem loop1 {n : Nat} (Pv : Nat → L2.St → Hp → Prop) {j : Int} (hj : j = (n : Int)) (hn : n < 4000000000) (h0 : Pv 0 σ H)
    (hs : ∀ i σ H, i < n → Pv i σ H → g (.int (i : Int)) σ H fun σ2 H2 => tb { D with nx := Pv (i + 1), ct := Pv (i + 1), bk := D.nx } σ2 H2) (hd : ∀ σ H, Pv n σ H → D.nx σ H) : rLoop1 g tb D σ [.int j] H := by
  subst hj
  refine ⟨(n : Int), rfl, by omega, by omega, for_range (lo := 0) (n := (n : Int).toNat) Pv h0 (fun i σ H hi p => ?_) (fun σ H p => hd σ H ?_)⟩
  · have e : (0 : Int) + (i : Int) = (i : Int) := Int.zero_add _
    rw [e]
    exact hs i σ H (by omega) p
  · have e : (n : Int).toNat = n := Int.toNat_natCast n
    rw [e] at p
    exact p
theorem loop2 {lo hi : Int} (Pv : Nat → L2.St → Hp → Prop) (hn : -4000000000 < lo ∧ lo < 4000000000 ∧ -4000000000 < hi ∧ hi < 4000000000) (h0 : Pv 0 σ H)
    (hs : ∀ (i : Nat) σ H, lo + i < hi → Pv i σ H → g (.int (lo + i)) σ H fun σ2 H2 => tb { D with nx := Pv (i + 1), ct := Pv (i + 1), bk := D.nx } σ2 H2) (hd : ∀ σ H, Pv (hi - lo).toNat σ H → D.nx σ H) : rLoop2 g tb D σ [.int lo, .int hi] H := by
  refine ⟨lo, hi, rfl, ⟨by omega, by omega, by omega, by omega⟩, for_range (lo := lo) (n := (hi - lo).toNat) Pv h0 (fun i σ H hi' p => hs i σ H (by omega) p) (fun σ H p => hd σ H p)⟩
theorem loopL {a : Addr} {xs : List V} (Pv : Nat → L2.St → Hp → Prop) (hx : SqL K H a xs) (h0 : Pv 0 σ H) (hl : ∀ i σ H, i ≤ xs.length → Pv i σ H → SqL K H a xs)
    (hs : ∀ i x σ H, xs[i]? = some x → Pv i σ H → g x σ H fun σ2 H2 => tb { D with nx := Pv (i + 1), ct := Pv (i + 1), bk := D.nx } σ2 H2) (hd : ∀ σ H, Pv xs.length σ H → D.nx σ H) : rLoopL K g tb D σ (.ref a) H := ⟨a, rfl, ⟨_, hx⟩, for_list Pv h0 hl hs hd⟩
theorem loopT {a : Addr} {xs : List V} (Pv : Nat → L2.St → Hp → Prop) (hx : SqT K H a xs) (h0 : Pv 0 σ H) (hl : ∀ i σ H, i ≤ xs.length → Pv i σ H → SqT K H a xs)
    (hs : ∀ i x σ H, xs[i]? = some x → Pv i σ H → g x σ H fun σ2 H2 => tb { D with nx := Pv (i + 1), ct := Pv (i + 1), bk := D.nx } σ2 H2) (hd : ∀ σ H, Pv xs.length σ H → D.nx σ H) : rLoopT K g tb D σ (.ref a) H := ⟨a, rfl, ⟨_, hx⟩, for_tup Pv h0 hl hs hd⟩
end
/-! ### heaps -/
theorem up_k {H : Hp} {a b : Addr} {o u : HO} (h : H b = some u) (n : b ≠ a) : upd H a o b = some u := (upd_ne n).trans h
theorem up_n {H : Hp} {a b : Addr} {o u : HO} (h : H b = some u) (n : H a = none) : upd H a o b = some u := up_k h (ne_of_none h n)
theorem same_new {H : Hp} {a : Addr} {o : HO} (n : H a = none) : Same H (upd H a o) := fun _ _ e => up_n e n
theorem same_trans_new {H H1 : Hp} {a : Addr} {o : HO} (s : Same H H1) (n : H1 a = none) : Same H (upd H1 a o) := fun b u e => up_n (s b u e) n
theorem seqL_new {K : PySem.W.Frag} {H : Hp} {a b : Addr} {o : HO} {xs : List V} (h : SqL K H b xs) (n : H a = none) : SqL K (upd H a o) b xs := (same_new n).seq h
theorem seqL_put {K : PySem.W.Frag} {H : Hp} {a b : Addr} {o : HO} {xs : List V} (h : SqL K H b xs) (n : a ≠ b) : SqL K (upd H a o) b xs := by
  rcases h with (h | ⟨u, h⟩) | h
  · exact .inl (.inl (up_k h n.symm))
  · exact .inl (.inr ⟨u, up_k h n.symm⟩)
  · exact .inr h
end G
namespace G
open PySem PySem.Spec PyProof.Rows L2
/-! ### the script, which nobody writes -/
/-- a list that stands still: frozen, or of the written part -/
def Scr (K : PySem.W.Frag) (H : Hp) (a : Addr) (xs : List V) : Prop := (∃ o, H a = some (.frz o (.lst xs))) ∨
    ∃ (o : Obj) (its : Array Value) (n : Nat), K.lookup a = some o ∧ o.cls = .type "list" ∧ o.dict = none ∧ o.data = .seq its n ∧ its.size ≤ sizeLine ∧ Vals xs its.toList
section
variable {K : PySem.W.Frag} {H H' : Hp} {a q : Addr} {xs : List V} {o : HO}
theorem Scr.sq (h : Scr K H a xs) : SqL K H a xs := by
  rcases h with ⟨o, h⟩ | h
  · exact .inl (.inr ⟨o, h⟩)
  · exact .inr h
theorem Scr.same (h : Scr K H a xs) (s : Same H H') : Scr K H' a xs := by
  rcases h with ⟨o, h⟩ | h
  · exact .inl ⟨o, s _ _ h⟩
  · exact .inr h
theorem Scr.of (hO : Only H) (h : SqL K H a xs) : Scr K H a xs := by
  rcases h with (h | ⟨o, h⟩) | h
  · rcases hO a with e | ⟨o, ys, e⟩
    · rw [e] at h; cases h
    · rw [e] at h; cases h
  · exact .inl ⟨o, h⟩
  · exact .inr h
theorem Scr.new (h : Scr K H a xs) (n : H q = none) : Scr K (upd H q o) a xs := h.same (same_new n)
/-- not frozen -/
def Thw (H : Hp) (q : Addr) : Prop := ∀ o u, H q ≠ some (.frz o u)
theorem Thw.lst {xs : List V} (h : H q = some (.lst xs)) : Thw H q := fun _ _ e => by rw [h] at e; cases e
theorem Thw.ins {C dx : Addr} {fs : List (Str × V)} (h : H q = some (.ins C dx fs)) : Thw H q := fun _ _ e => by rw [h] at e; cases e
theorem Scr.put (h : Scr K H a xs) (n : Thw H q) : Scr K (upd H q o) a xs := by
  rcases h with ⟨u, h⟩ | h
  · refine .inl ⟨u, up_k h ?_⟩
    intro e
    subst e
    exact n _ _ h
  · exact .inr h
/-- written objects are not frozen: what was frozen stays so -/
def FrzIn (H H' : Hp) : Prop := ∀ b o u, H b = some (.frz o u) → H' b = some (.frz o u)
theorem Scr.frz (h : Scr K H a xs) (s : FrzIn H H') : Scr K H' a xs := by
  rcases h with ⟨o, h⟩ | h
  · exact .inl ⟨o, s _ _ _ h⟩
  · exact .inr h
end
theorem up_none {H : Hp} {a b : Addr} {o : HO} (h : upd H a o b = none) : b ≠ a ∧ H b = none := by
  by_cases e : b = a
  · subst e; rw [upd_same] at h; cases h
  · rw [upd_ne e] at h; exact ⟨e, h⟩
theorem none_up {H : Hp} {a b : Addr} {o : HO} (n : b ≠ a) (h : H b = none) : upd H a o b = none := (upd_ne n).trans h
theorem if_yes {p : Prop} [Decidable p] {A B : Prop} (h : p) (q : A) : if decide p = true then A else B := by rw [decide_eq_true h]; exact q
theorem if_no {p : Prop} [Decidable p] {A B : Prop} (h : ¬ p) (q : B) : if decide p = true then A else B := by rw [decide_eq_false h]; exact q
theorem if_nyes {p : Prop} [Decidable p] {A B : Prop} (h : ¬ p) (q : A) : if (!decide p) = true then A else B := by rw [decide_eq_false h]; exact q
theorem if_nno {p : Prop} [Decidable p] {A B : Prop} (h : p) (q : B) : if (!decide p) = true then A else B := by rw [decide_eq_true h]; exact q
end G

namespace G
open PySem PySem.Spec PyProof.Rows L2
theorem w_cut {t u : TS} {D : Ends} {σ : L2.St} {H : Hp} (Mid : L2.St → Hp → Prop) (h : t { D with nx := Mid } σ H) (k : ∀ σ' H', Mid σ' H' → u D σ' H') : Evl.tCut t u D σ H := ⟨Mid, h, k⟩
theorem ixN_of {n j : Nat} {k : Int} (e : k = (j : Int)) (h : j < n) : ixN n k = some j := by
  subst e
  unfold ixN
  rw [if_pos (by omega), if_pos (by omega)]; simp
end G

namespace G
open PySem PySem.Spec PyProof.Rows L2
/-! the same, the cheap question first -/
section
variable {K : PySem.W.Frag} {H : Hp} {a b q : Addr} {o u : HO} {xs : List V}
theorem up_k' (n : b ≠ a) (h : H b = some u) : upd H a o b = some u := up_k h n
theorem scr_new' (n : H q = none) (h : Scr K H a xs) : Scr K (upd H q o) a xs := h.new n
theorem scr_put' (n : Thw H q) (h : Scr K H a xs) : Scr K (upd H q o) a xs := h.put n
theorem sq_new' (n : H a = none) (h : SqL K H b xs) : SqL K (upd H a o) b xs := seqL_new h n
theorem sq_put' (n : a ≠ b) (h : SqL K H b xs) : SqL K (upd H a o) b xs := seqL_put h n
end
end G

namespace G
open PySem PySem.Spec PyProof.Rows L2
section
variable {H : Hp} {Q : VK} {i : Int} {a : Addr} {b : Bool} {z : Str}
theorem w_isN0 (q : Q (.bl true) H) : rIsN .non .non H Q := ⟨rfl, q⟩
theorem w_isNi (q : Q (.bl false) H) : rIsN (.int i) .non H Q := ⟨rfl, q⟩
theorem w_isNr (q : Q (.bl false) H) : rIsN (.ref a) .non H Q := ⟨rfl, q⟩
theorem w_isNb (q : Q (.bl false) H) : rIsN (.bl b) .non H Q := ⟨rfl, q⟩
theorem w_isNs (q : Q (.bl false) H) : rIsN (.str z) .non H Q := ⟨rfl, q⟩
theorem w_notN0 (q : Q (.bl false) H) : rNotN .non .non H Q := ⟨rfl, q⟩
theorem w_notNi (q : Q (.bl true) H) : rNotN (.int i) .non H Q := ⟨rfl, q⟩
theorem w_notNr (q : Q (.bl true) H) : rNotN (.ref a) .non H Q := ⟨rfl, q⟩
theorem w_notNb (q : Q (.bl true) H) : rNotN (.bl b) .non H Q := ⟨rfl, q⟩
theorem w_notNs (q : Q (.bl true) H) : rNotN (.str z) .non H Q := ⟨rfl, q⟩
end
end G

/-! properties, own ==, isinstance, further facts of the head -/
namespace G
open PySem PySem.Spec PyProof.Rows L2

/-! ### the Hook with getters and any Bool facts -/
/-- where a property's getter stands -/
def prA (K : PySem.W.Frag) (C f : Str) : Addr := match PySem.W.recIn K (He.ma K (He.ga K C) f) "property" with
  | some (.ref g :: _) => g
  | _ => 0
structure Pr where
  cls : Str
  fld : Str
  d : He.DefD
def fnWA (K : PySem.W.Frag) (a : Addr) : He.FnW := match K.lookup a with
  | some ⟨_, _, .func fd, _⟩ => some (fd.name, fd.qualname, fd.params, fd.body, fd.scope, fd.globals, fd.closure, fd.builtins)
  | _ => none
def okA (K : PySem.W.Frag) (a : Addr) (d : He.DefD) : Bool := PySem.W.keepIn K (.ref a) && (match K.lookup a with
  | some ⟨_, _, .func fd, _⟩ => PySem.W.codeIn K fd.code d.qual && (He.dflB K fd.defaults (d.dvs K) && He.kwdB K fd.kwdefaults (d.kws K))
  | _ => false)
theorem funD_A {K : PySem.W.Frag} {d : He.DefD} {a : Addr} (e : fnWA K a = d.val) (c : okA K a d = true) : ∃ fd, FunD K d.name d.qual d.params d.body d.scope (d.dvs K) (d.kws K) a fd := by
  obtain ⟨kp, c2⟩ := He.ba c
  unfold fnWA at e
  cases q : K.lookup a with
  | none =>
    rw [q] at c2
    cases c2
  | some o =>
    obtain ⟨oc, od, dt, osl⟩ := o
    rw [q] at c2 e
    cases dt with
    | func fd =>
      obtain ⟨n1, n2, n3, n4, n5, n6, n7, n8, n9, n10, n11, n12, n13, n14, n15⟩ := fd
      have e2 : (some (n1, n2, n3, n4, n5, n6, n7, n15) : He.FnW) = some (d.name, d.qual, d.params, .stmts d.body, d.scope, mainGlobals, [], builtinsNs) := e
      simp only [Option.some.injEq, Prod.mk.injEq] at e2
      obtain ⟨h1, h2, h3, h4, h5, h6, h7, h8⟩ := e2
      subst h1 h2 h3 h4 h5 h6 h7 h8
      have c3 : (PySem.W.codeIn K n13 d.qual && (He.dflB K n8 (d.dvs K) && He.kwdB K n9 (d.kws K))) = true := c2
      obtain ⟨k1, k2⟩ := He.ba c3
      obtain ⟨k3, k4⟩ := He.ba k2
      exact ⟨_, ⟨oc, od, n8, n9, n10, n11, n12, n13, n14, osl, rfl, q, k1, He.dflB_ok k3, He.kwdB_ok k4⟩, kp⟩
    | _ => cases c2
def Pr.ok (K : PySem.W.Frag) (p : Pr) : Bool :=
  He.eqO (PySem.W.findIn K (.ref (He.ga K p.cls)) p.fld) (some (some (.ref (He.ma K (He.ga K p.cls) p.fld)))) &&
  (He.eqO (PySem.W.specialIn K (.ref (He.ma K (He.ga K p.cls) p.fld)) "__get__") (some (some (.builtin "property.__get__"))) &&
  (decide (PySem.W.takesIn K (.ref (He.ma K (He.ga K p.cls) p.fld)) = some true) &&
  ((match PySem.W.recIn K (He.ma K (He.ga K p.cls) p.fld) "property" with
    | some (.ref _ :: _) => true
    | _ => false) && okA K (prA K p.cls p.fld) p.d)))
theorem Pr.prop {K : PySem.W.Frag} {p : Pr} (h : p.ok K = true) : PropOf K (He.ga K p.cls) p.fld (He.ma K (He.ga K p.cls) p.fld) (prA K p.cls p.fld) ∧ okA K (prA K p.cls p.fld) p.d = true := by
  obtain ⟨h1, h⟩ := He.ba h
  obtain ⟨h2, h⟩ := He.ba h
  obtain ⟨h3, h⟩ := He.ba h
  obtain ⟨h4, h5⟩ := He.ba h
  refine ⟨⟨He.eqO_ok h1, He.eqO_ok h2, of_decide_eq_true h3, ?_⟩, h5⟩
  unfold prA
  split at h4
  · rename_i g rest q
    rw [q]
    exact ⟨rest, rfl⟩
  · cases h4

abbrev AlB : Type := (He.AlD × List He.FnW) × Bool
abbrev Ex : Type := PySem.W.Frag → Bool
def obsB (fa : List He.Fa) (fn : List He.DefD) (pr : List Pr) (ex : List Ex) (K : PySem.W.Frag) : AlB := ((He.obsD fa fn K, pr.map fun p => fnWA K (prA K p.cls p.fld)), (pr.all fun p => p.ok K) && ex.all fun f => f K)
def valB (fn : List He.DefD) (pr : List Pr) : AlB := ((He.valD fn, pr.map fun p => p.d.val), true)
def SaysB (fa : List He.Fa) (fn : List He.DefD) (pr : List Pr) (ex : List Ex) (K : PySem.W.Frag) : Prop := obsB fa fn pr ex K = valB fn pr
def obsBG (n : Nat) (fa : List He.Fa) (fn : List He.DefD) (pr : List Pr) (ex : List Ex) (g : Addr → Option Obj) : AlB := obsB fa fn pr ex (He.frG g (He.asD g n))
def hookB (n : Nat) (fa : List He.Fa) (fn : List He.DefD) (pr : List Pr) (ex : List Ex) : PySem.W.Hook where
  α := AlB
  obs := fun s => obsBG n fa fn pr ex s.heap.get?
  val := fun _ => valB fn pr
  says := fun _ h => ∃ K : PySem.W.Frag, K.In h ∧ SaysB fa fn pr ex K
  of := fun _ _ e => ⟨_, He.frG_in, e⟩
  keeps := fun _ _ _ ⟨K, hK, c⟩ k => ⟨K, PySem.W.Frag.In.keeps hK k, c⟩
theorem obsBG_eq {n : Nat} {fa : List He.Fa} {fn : List He.DefD} {pr : List Pr} {ex : List Ex} {g : Addr → Option Obj} {s : Shared} (h : ∀ a, g a = s.heap.get? a) : obsBG n fa fn pr ex g = (hookB n fa fn pr ex).obs s := by
  have e : g = s.heap.get? := funext h
  rw [e] <;> rfl
section
variable {fa : List He.Fa} {fn : List He.DefD} {pr : List Pr} {ex : List Ex} {K : PySem.W.Frag}
theorem SaysB.d (c : SaysB fa fn pr ex K) : He.SaysD fa fn K := congrArg (fun z : AlB => z.1.1) c
theorem SaysB.ex_ (c : SaysB fa fn pr ex K) (i : Nat) {f : Ex} (h : ex[i]? = some f := by rfl) : f K = true := by
  have c1 := (He.ba (show ((pr.all fun p => p.ok K) && ex.all fun f => f K) = true from congrArg (fun z : AlB => z.2) c)).2
  exact List.all_eq_true.mp c1 f (List.mem_of_getElem? h)
theorem SaysB.pr_ (c : SaysB fa fn pr ex K) (i : Nat) {p : Pr} (h : pr[i]? = some p := by rfl) :
    PropOf K (He.ga K p.cls) p.fld (He.ma K (He.ga K p.cls) p.fld) (prA K p.cls p.fld) ∧ ∃ fd, FunD K p.d.name p.d.qual p.d.params p.d.body p.d.scope (p.d.dvs K) (p.d.kws K) (prA K p.cls p.fld) fd := by
  have c1 := (He.ba (show ((pr.all fun p => p.ok K) && ex.all fun f => f K) = true from congrArg (fun z : AlB => z.2) c)).1
  obtain ⟨a, b⟩ := Pr.prop (List.all_eq_true.mp c1 p (List.mem_of_getElem? h))
  have e : pr.map (fun p => fnWA K (prA K p.cls p.fld)) = pr.map fun p => p.d.val := congrArg (fun z : AlB => z.1.2) c
  have e2 : (pr.map fun p => fnWA K (prA K p.cls p.fld))[i]? = (pr.map fun p => p.d.val)[i]? := by rw [e]
  rw [List.getElem?_map, List.getElem?_map, h] at e2
  exact ⟨a, funD_A (Option.some.inj e2) b⟩
end
/-- the head's facts, with getters and Bools -/
structure TxB (fa : List He.Fa) (fn : List He.DefD) (pr : List Pr) (ex : List Ex) (K : PySem.W.Frag) (mg : Str → Option Value) (base : Heap) : Prop extends Tx fa fn K mg base where
  b : SaysB fa fn pr ex K

/-! ### properties -/
section
variable (P : Program) (w : World) (K : PySem.W.Frag) (mg : Str → Option Value) (base : Heap)
structure HasP (k : Nat) (c f : Str) (ps : List Str) (sp : Sp) : Prop where
  cl : Cls K (He.ga K c)
  pr : PropOf K (He.ga K c) f (He.ma K (He.ga K c) f) (prA K c f)
  ex : ∃ fd, FnOk P w K mg base (L2.CX P w) k (prA K c f) fd ps sp ∧ Binds K fd ps []
end
theorem HasP.mono {P : Program} {w : World} {K : PySem.W.Frag} {mg : Str → Option Value} {base : Heap} {j k : Nat} {c f : Str} {ps : List Str} {sp : Sp} (h : HasP P w K mg base j c f ps sp) (l : j ≤ k) : HasP P w K mg base k c f ps sp :=
  ⟨h.cl, h.pr, let ⟨fd, F, b⟩ := h.ex; ⟨fd, F.mono l, b⟩⟩
/-- e.f -/
def tPr (C : Addr) (sp : Sp) (ta : TE) : TE := fun σ H Q => ta σ H fun x H1 => ∃ a dx fs, x = .ref a ∧ H1 a = some (.ins C dx fs) ∧ sp [.ref a] H1 Q E0
section
variable {X : Cx} {k : Nat} {C p g a dx : Addr} {fs : List (Str × V)} {c f : Str} {fd : FuncData} {ps : List Str} {sp : Sp} {E : L2.St → XK} {e : Expr} {pos : Pos} {ta : TE}
theorem getprop_okS {pins : List (Addr × Obj)} {σ : L2.St} {H : Hp} {s : Shared} {Q : VK} {b : Bool} (I : Inv X pins σ H s) (ea : H a = some (.ins C dx fs)) (c : Cls X.K C) (hp : PropOf X.K C f p g)
    (F : FnOk X.prog X.w X.K X.mg X.base (XC X) k g fd ps sp) (hr : Room (k + 1) X.A) (hb : Binds X.K fd ps []) (h : sp [.ref a] H Q E0) :
    wpAny (model X.prog X.w) X.A (getAttr (.ref a) f b) (EP X pins σ Q) X.xe s := by
  obtain ⟨mA, O, _, _, _, _⟩ := ins_get I.hok ea
  obtain ⟨od, J, _⟩ := O.look
  obtain ⟨rest, hrec⟩ := hp.rec_
  have I1 := I.tok (s.toks + 1)
  have hl : ([Value.ref a] ++ ([] : List Value)).length = ps.length := by
    rw [← F.len _ _ _ _ h]
    rfl
  have hc : (PySem.W.clsIn X.K C).isSome = true := by
    obtain ⟨cd, hc, _⟩ := PySem.W.any_some c.hd
    rw [hc]
    rfl
  refine PySem.W.get_bind I.kIn J (PySem.W.plainGet_of (c.get f)).1 (PySem.W.findObj_data hc hp.at_ hp.get hp.tak) (PySem.W.plainGet_of (c.get f)).2 (wpAny_call (PySem.W.prop_get (s := { s with toks := s.toks + 1 }) I.kIn hrec ?_))
  refine codeAny_mono (F.run X.A.in1 X.stack { s with toks := s.toks + 1 } H ⟨[.ref a], []⟩ [.ref a] [.ref a] Q E0 hr.in1 I1.env0.in1 (hb _ [.ref a] I1.kIn hl) (.cons rfl .nil) h) fun r s' hq => ?_
  cases r with
  | error er =>
    obtain ⟨_, _, _, _, _, _, _, _, _, _, _, _, z⟩ := hq
    exact z.elim
  | ok fl =>
    cases fl with
    | ret u =>
      obtain ⟨v, H', I3, rv, q3⟩ := I1.after hq
      show wpAny _ _ (handedOut u) _ _ _
      rw [PySem.W.handedOut_of (handed_of rv)]
      exact wpAny_pure ⟨v, H', I3, rv, q3⟩
    | next => exact False.elim hq
    | brk => exact False.elim hq
    | cont => exact False.elim hq
theorem pe_pr (he : PE X e ta) (h : HasP X.prog X.w X.K X.mg X.base k c f ps sp) (hr : Room (k + 1) X.A)
    (hab : attributeBase e f X.env (eval e X.env) = eval e X.env := by rfl) : PE X (.Attribute e f pos) (tPr (He.ga X.K c) sp ta) := by
  obtain ⟨fd, F, b⟩ := h.ex
  refine ⟨fun pins s σ H Q I hh => ?_⟩
  refine attr_of hab (thn (he.run pins s σ H _ I hh) fun u s1 ⟨x, H1, I1, rx, a, dx, fs, ex, ea, q⟩ => ?_)
  subst ex
  obtain rfl : u = Value.ref a := rx
  exact getprop_okS I1 ea h.cl h.pr F hr b q
end
theorem mk_hasP {P : Program} {w : World} {K : PySem.W.Frag} {mg : Str → Option Value} {base : Heap} {k : Nat} {c m name qual : Str} {params : Arguments} {body : List Stmt} {scope : Scope} {N ps : List Str} {sp : Sp} (cl : Cls K (He.ga K c))
    (F : PropOf K (He.ga K c) m (He.ma K (He.ga K c) m) (prA K c m) ∧ ∃ fd, FunD K name qual params body scope [] [] (prA K c m) fd) (S : FnScope N ps scope)
    (hb : ∀ (kV doc pm : Value) (an : Option Addr) (cdv ct : Value) (us : List Value), us.length = ps.length → bindArgs (PySem.W.fnOf name qual params body scope .none kV doc pm an cdv ct) ⟨us, []⟩ = pure (ps.zip us))
    (len : ∀ vs H Q E, sp vs H Q E → vs.length = ps.length) (hbody : Body P w K mg base k N qual scope (prA K c m) body sp) : HasP P w K mg base (k + 1) c m ps sp := by
  obtain ⟨pr, fd, F⟩ := F
  exact ⟨cl, pr, fd, FunD.ok (CX := L2.CX P w) F S len hbody, F.bindsN hb⟩
section
variable {K : PySem.W.Frag} {σ : L2.St} {H : Hp} {Q : VK} {ta : TE}
theorem w_pr {C : Addr} {sp : Sp} (h : ta σ H fun x H1 => ∃ a dx fs, x = .ref a ∧ H1 a = some (.ins C dx fs) ∧ sp [.ref a] H1 Q E0) : tPr C sp ta σ H Q := h
theorem w_pr1 {a C dx : Addr} {fs : List (Str × V)} {P : Addr → Prop} (h : H a = some (.ins C dx fs)) (q : P a) : ∃ a' dx' fs', V.ref a = .ref a' ∧ H a' = some (.ins C dx' fs') ∧ P a' := ⟨a, dx, fs, rfl, h, q⟩
end

/-! ### own == -/
/-- what the right side of == may be: its type -/
def tyR (K : PySem.W.Frag) (H : Hp) (y : V) (t : Value) : Prop := (∃ C dx fs b, y = .ref b ∧ H b = some (.ins C dx fs) ∧ t = .ref C) ∨ ((∃ i, y = .int i) ∧ t = .type "int") ∨ (y = .non ∧ t = .type "NoneType") ∨ ((∃ x, y = .str x) ∧ t = .type "str") ∨
  ((∃ b, y = .bl b) ∧ t = .type "bool") ∨ (∃ a xs, y = .ref a ∧ H a = some (.lst xs) ∧ t = .type "list") ∨ (∃ a xs, y = .ref a ∧ H a = some (.tup xs) ∧ t = .type "tuple")
def rOwn (K : PySem.W.Frag) (C : Addr) (sp : Sp) : R2 := fun x y H Q => ∃ a dx fs t, x = .ref a ∧ H a = some (.ins C dx fs) ∧ tyR K H y t ∧ PySem.W.notFirst K C t = true ∧ sp [.ref a, y] H (fun v H' => ∃ b, v = .bl b ∧ Q (.bl b) H') E0
section
variable {X : Cx} {k : Nat} {c : Str} {ps : List Str} {sp : Sp}
theorem op_own (h : HasM X.prog X.w X.K X.mg X.base k c "__eq__" ps sp) (hr : Room k X.A) : OpR X (compareOp .Eq) (rOwn X.K (He.ga X.K c) sp) := by
  intro pins s σ H x y v u Q I rx ry hq
  obtain ⟨fd, F, hb⟩ := h.ex
  obtain ⟨a, dx, fs, t, ex, ea, ty, nf, q⟩ := hq
  subst ex
  obtain rfl : v = Value.ref a := rx
  obtain ⟨mA, J, _⟩ := ins_get I.hok ea
  obtain ⟨od, J, _⟩ := J.look
  obtain ⟨m, hF⟩ := I.fr
  have L : PySem.W.Looks (model X.prog X.w) s.heap (typeOf u) t := by
    rcases ty with ⟨C', dy, gs, b, rfl, eb, rfl⟩ | ⟨⟨i, rfl⟩, rfl⟩ | ⟨rfl, rfl⟩ | ⟨⟨i, rfl⟩, rfl⟩ | ⟨⟨i, rfl⟩, rfl⟩ | ⟨b, xs, rfl, eb, rfl⟩ | ⟨b, xs, rfl, eb, rfl⟩
    · obtain rfl : u = Value.ref b := ry
      obtain ⟨mB, J', _⟩ := ins_get I.hok eb
      obtain ⟨od', J', _⟩ := J'.look
      exact J'.type
    · obtain ⟨t, rfl⟩ := (show ∃ t, u = Value.int i t from ry)
      exact .now
    · obtain rfl := (show u = Value.none from ry)
      exact .now
    · obtain ⟨t, rfl⟩ := (show ∃ t, u = Value.str i t from ry)
      exact .now
    · obtain rfl := (show u = Value.bool i from ry)
      exact .now
    · obtain rfl : u = Value.ref b := ry
      obtain ⟨_, _, n, _, h1⟩ := (show ObjOk X.prog X.w H s.heap b (.lst xs) from I.hok b _ eb)
      exact (PySem.W.Looks.ld (part := none) h1).andThen .now
    · obtain rfl : u = Value.ref b := ry
      obtain ⟨_, _, _, o, h1, h2, _⟩ := (show ObjOk X.prog X.w H s.heap b (.tup xs) from I.hok b _ eb)
      refine (PySem.W.Looks.ld (part := none) h1).andThen ?_
      rw [h2]
      exact .now
  show wpAny (model X.prog X.w) X.A (richCompare .Eq (.ref a) u) (EP X pins σ Q) X.xe s
  refine PySem.W.cmp_K (op := .Eq) hr.units0 hF I.ok.mod.kin J L nf h.me.at_ h.me.fn ?_
  have hl := F.len _ _ _ _ q
  have r2 : Vals [V.ref a, y] [Value.ref a, u] := .cons rfl (.cons ry .nil)
  refine wpAny_call (codeAny_mono (F.run X.A X.stack s H ⟨[.ref a, u], []⟩ [.ref a, u] [.ref a, y] _ E0 hr I.env0 (by
    have := hb s [.ref a, u] I.kIn (by simpa using hl)
    simpa using this) r2 q) fun r s' hq => ?_)
  cases r with
  | error e => exact passZ σ pins H s e s' I hq
  | ok fl =>
    cases fl with
    | ret w =>
      obtain ⟨z, H', I', rz, b, ez, ex⟩ := I.after hq
      subst ez
      obtain rfl : w = Value.bool b := rz
      exact ⟨.bl b, H', I', rfl, ex⟩
    | next => exact False.elim hq
    | brk => exact False.elim hq
    | cont => exact False.elim hq
end
section
variable {K : PySem.W.Frag} {H : Hp} {Q : VK} {y : V} {sp : Sp}
theorem w_own {C a dx : Addr} {fs : List (Str × V)} {t : Value} (h : H a = some (.ins C dx fs)) (ty : tyR K H y t) (nf : PySem.W.notFirst K C t = true) (q : sp [.ref a, y] H (fun v H' => ∃ b, v = .bl b ∧ Q (.bl b) H') E0) : rOwn K C sp (.ref a) y H Q :=
  ⟨a, dx, fs, t, rfl, h, ty, nf, q⟩
theorem tyR_ins {b C dx : Addr} {fs : List (Str × V)} (h : H b = some (.ins C dx fs)) : tyR K H (.ref b) (.ref C) := .inl ⟨C, dx, fs, b, rfl, h, rfl⟩
theorem tyR_lst {b : Addr} {xs : List V} (h : H b = some (.lst xs)) : tyR K H (.ref b) (.type "list") := .inr (.inr (.inr (.inr (.inr (.inl ⟨b, xs, rfl, h, rfl⟩)))))
theorem tyR_tup {b : Addr} {xs : List V} (h : H b = some (.tup xs)) : tyR K H (.ref b) (.type "tuple") := .inr (.inr (.inr (.inr (.inr (.inr ⟨b, xs, rfl, h, rfl⟩)))))
theorem nf_same {C : Addr} : PySem.W.notFirst K C (.ref C) = true := by
  unfold PySem.W.notFirst
  have e : ((Value.ref C) == (Value.ref C)) = true := beq_self_eq_true _
  rw [e]
  rfl
end

/-! ### isinstance -/
/-- what an own class has for isinstance of its instances -/
structure InsC (K : PySem.W.Frag) (C : Addr) : Prop where
  cl : Cls K C
  ha : PySem.W.findIn K (.ref C) "__class__" = some (some (.builtin "object.__class__"))
  hn : PySem.W.specialIn K (.builtin "object.__class__") "__get__" = some (some (.builtin "getset_descriptor.__get__"))
  ht : PySem.W.takesIn K (.builtin "object.__class__") = some true
  hm : PySem.W.mroIn K C (.type "object") = some true
def insB (c : Str) : Ex := fun K => He.Fa.ok K (.cls c) && (He.eqO (PySem.W.findIn K (.ref (He.ga K c)) "__class__") (some (some (.builtin "object.__class__"))) &&
  (He.eqO (PySem.W.specialIn K (.builtin "object.__class__") "__get__") (some (some (.builtin "getset_descriptor.__get__"))) &&
  (decide (PySem.W.takesIn K (.builtin "object.__class__") = some true) && decide (PySem.W.mroIn K (He.ga K c) (.type "object") = some true))))
theorem insB_ok {K : PySem.W.Frag} {c : Str} (h : insB c K = true) : InsC K (He.ga K c) := by
  obtain ⟨h0, h⟩ := He.ba h
  obtain ⟨h1, h⟩ := He.ba h
  obtain ⟨h2, h⟩ := He.ba h
  obtain ⟨h3, h4⟩ := He.ba h
  exact ⟨He.cls_ok h0, He.eqO_ok h1, He.eqO_ok h2, of_decide_eq_true h3, of_decide_eq_true h4⟩
/-- isinstance of a built-in type's values and an own class; of an own class's instances and a class -/
def kitTB (t : String) (c : Str) (b : Bool) : Ex := fun K => decide (PySem.W.kitOne K (.type t) (.ref (He.ga K c)) = some b)
def kitOB (c d : Str) (b : Bool) : Ex := fun K => decide (PySem.W.kitOne K (.ref (He.ga K c)) (.ref (He.ga K d)) = some b)
def kitUB (c : Str) (t : String) (b : Bool) : Ex := fun K => decide (PySem.W.kitOne K (.ref (He.ga K c)) (.type t) = some b)
def nfB (c : Str) (t : String) : Ex := fun K => PySem.W.notFirst K (He.ga K c) (.type t)
def nfOB (c d : Str) : Ex := fun K => PySem.W.notFirst K (He.ga K c) (.ref (He.ga K d))
def tupX (x : Str) (vs : List He.Dv) : Ex := fun K => He.tupB K x vs
def lstX (x : Str) (vs : List He.Dv) : Ex := fun K => He.lstB K x vs
def excCB (c : Str) : Ex := fun K => He.eqO (PySem.W.findIn K (.ref (He.ga K c)) "__getattribute__") (some (some (.builtin "BaseException.__getattribute__"))) &&
  (He.eqO (PySem.W.findIn K (.ref (He.ga K c)) "__getattr__") (some none) && (decide (PySem.W.subIn K (.ref (He.ga K c)) (.type "BaseException") = some true) && (PySem.W.hasDictIn K (He.ga K c) &&
  (He.eqO (PySem.W.findIn K (.ref (He.ga K c)) "__class__") (some (some (.builtin "object.__class__"))) && (He.eqO (PySem.W.specialIn K (.builtin "object.__class__") "__get__") (some (some (.builtin "getset_descriptor.__get__"))) &&
  (decide (PySem.W.takesIn K (.builtin "object.__class__") = some true) && decide (PySem.W.mroIn K (He.ga K c) (.type "object") = some true)))))))
theorem excCB_ok {K : PySem.W.Frag} {c : Str} (h : excCB c K = true) : ExcC K (He.ga K c) := by
  obtain ⟨h1, h⟩ := He.ba h
  obtain ⟨h2, h⟩ := He.ba h
  obtain ⟨h3, h⟩ := He.ba h
  obtain ⟨h4, h⟩ := He.ba h
  obtain ⟨h5, h⟩ := He.ba h
  obtain ⟨h6, h⟩ := He.ba h
  obtain ⟨h7, h8⟩ := He.ba h
  exact ⟨He.eqO_ok h1, He.eqO_ok h2, of_decide_eq_true h3, h4, He.eqO_ok h5, He.eqO_ok h6, of_decide_eq_true h7, of_decide_eq_true h8⟩
/-- isinstance(e, c) in a suite -/
def rIsX (K : PySem.W.Frag) (a : Addr) (clX : Value) (dX : Option Addr) : List V → Hp → VK → Prop := fun xs H Q => ∃ (D : Addr) (c : V) (cv : Value) (b : Bool), clX = .ref D ∧ dX = none ∧ ExcC K D ∧ xs = [.ref a, c] ∧ ClsV c cv ∧ PySem.W.kitOne K (.ref D) cv = some b ∧ Q (.bl b) H
theorem call_isX {X : Cx} {a : Addr} {clX : Value} {dX : Option Addr} {oe : Obj} {pn : List (Addr × Obj)} (hz : Zc clX dX oe) (hf : ∃ vs, oe.data = .fields vs) : CallR (X.suite a ((a, oe) :: pn)) (.builtin "isinstance") (rIsX X.K a clX dX) := by
  intro pins s σ H xs us Q I r h
  obtain ⟨D, c, cv, b, e1, e2, C, ex, hc, k, q⟩ := h
  subst e1 e2
  exact call_isE C hz hf pins s σ H xs us Q I r ⟨c, cv, b, ex, fun u ru => hc.eq ru, k, q⟩
section
variable {K : PySem.W.Frag} {σ : L2.St} {H : Hp} {Q : VK}
theorem w_isX {a D : Addr} {c : V} {cv : Value} {b : Bool} (C : ExcC K D) (hc : ClsV c cv) (k : PySem.W.kitOne K (.ref D) cv = some b) (q : Q (.bl b) H) : rIsX K a (.ref D) none [.ref a, c] H Q := ⟨D, c, cv, b, rfl, rfl, C, rfl, hc, k, q⟩
theorem w_isi {x c : V} {t u : Value} {b : Bool} (k : ClsV c u) (ty : TyX K H x t) (e : PySem.W.kitOne K t u = some b) (q : Q (.bl b) H) : rIsi K [x, c] H Q := ⟨x, c, t, u, b, rfl, k, ty, e, q⟩
theorem w_isi_ii {i : Int} (q : Q (.bl true) H) : rIsi K [.int i, .ty "int"] H Q := w_isi (.ty _) (.base (.int _)) (kit_ty (by decide +kernel)) q
theorem w_isi_ib {i : Int} (q : Q (.bl false) H) : rIsi K [.int i, .ty "bool"] H Q := w_isi (.ty _) (.base (.int _)) (kit_ty (by decide +kernel)) q
theorem w_isi_is {i : Int} (q : Q (.bl false) H) : rIsi K [.int i, .ty "str"] H Q := w_isi (.ty _) (.base (.int _)) (kit_ty (by decide +kernel)) q
theorem w_isi_il {i : Int} (q : Q (.bl false) H) : rIsi K [.int i, .ty "list"] H Q := w_isi (.ty _) (.base (.int _)) (kit_ty (by decide +kernel)) q
theorem w_isi_it {i : Int} (q : Q (.bl false) H) : rIsi K [.int i, .ty "tuple"] H Q := w_isi (.ty _) (.base (.int _)) (kit_ty (by decide +kernel)) q
theorem w_isi_bi {i : Bool} (q : Q (.bl true) H) : rIsi K [.bl i, .ty "int"] H Q := w_isi (.ty _) (.base (.bl _)) (kit_ty (by decide +kernel)) q
theorem w_isi_bb {i : Bool} (q : Q (.bl true) H) : rIsi K [.bl i, .ty "bool"] H Q := w_isi (.ty _) (.base (.bl _)) (kit_ty (by decide +kernel)) q
theorem w_isi_ss {i : Str} (q : Q (.bl true) H) : rIsi K [.str i, .ty "str"] H Q := w_isi (.ty _) (.base (.str _)) (kit_ty (by decide +kernel)) q
theorem w_isi_sl {i : Str} (q : Q (.bl false) H) : rIsi K [.str i, .ty "list"] H Q := w_isi (.ty _) (.base (.str _)) (kit_ty (by decide +kernel)) q
theorem w_isi_st {i : Str} (q : Q (.bl false) H) : rIsi K [.str i, .ty "tuple"] H Q := w_isi (.ty _) (.base (.str _)) (kit_ty (by decide +kernel)) q
theorem w_isi_nl (q : Q (.bl false) H) : rIsi K [.non, .ty "list"] H Q := w_isi (.ty _) (.base .non) (kit_ty (by decide +kernel)) q
theorem w_isi_nt (q : Q (.bl false) H) : rIsi K [.non, .ty "tuple"] H Q := w_isi (.ty _) (.base .non) (kit_ty (by decide +kernel)) q
theorem w_isi_ll {a : Addr} {xs : List V} (h : H a = some (.lst xs)) (q : Q (.bl true) H) : rIsi K [.ref a, .ty "list"] H Q := w_isi (.ty _) (.base (.lst h)) (kit_ty (by decide +kernel)) q
theorem w_isi_lt {a : Addr} {xs : List V} (h : H a = some (.lst xs)) (q : Q (.bl false) H) : rIsi K [.ref a, .ty "tuple"] H Q := w_isi (.ty _) (.base (.lst h)) (kit_ty (by decide +kernel)) q
theorem w_isi_li {a : Addr} {xs : List V} (h : H a = some (.lst xs)) (q : Q (.bl false) H) : rIsi K [.ref a, .ty "int"] H Q := w_isi (.ty _) (.base (.lst h)) (kit_ty (by decide +kernel)) q
theorem w_isi_tt {a : Addr} {xs : List V} (h : H a = some (.tup xs)) (q : Q (.bl true) H) : rIsi K [.ref a, .ty "tuple"] H Q := w_isi (.ty _) (.base (.tup h)) (kit_ty (by decide +kernel)) q
theorem w_isi_tl {a : Addr} {xs : List V} (h : H a = some (.tup xs)) (q : Q (.bl false) H) : rIsi K [.ref a, .ty "list"] H Q := w_isi (.ty _) (.base (.tup h)) (kit_ty (by decide +kernel)) q
theorem w_isi_own {a C dx : Addr} {fs : List (Str × V)} {c : V} {u : Value} {b : Bool} (h : H a = some (.ins C dx fs)) (i : InsC K C) (k : ClsV c u) (e : PySem.W.kitOne K (.ref C) u = some b) (q : Q (.bl b) H) : rIsi K [.ref a, c] H Q :=
  w_isi k (.base (.ins h i.cl i.ha i.hn i.ht i.hm)) e q
end
end G

/-! == of lists and tuples, by data -/
namespace G
open PySem PySem.Spec PyProof.Rows L2
abbrev rIsB : R2 := fun x y H Q => ∃ a b, x = .bl a ∧ y = .bl b ∧ Q (.bl (decide (a = b))) H
abbrev rNotB : R2 := fun x y H Q => ∃ a b, x = .bl a ∧ y = .bl b ∧ Q (.bl (!decide (a = b))) H
section
variable {K : PySem.W.Frag} {H : Hp} {Q : VK} {x y : V} {d e : PyData} {xs ys : List Int} {a b : Addr}
theorem w_isB {p q : Bool} (h : Q (.bl (decide (p = q))) H) : rIsB (.bl p) (.bl q) H Q := ⟨p, q, rfl, rfl, h⟩
theorem w_notB {p q : Bool} (h : Q (.bl (!decide (p = q))) H) : rNotB (.bl p) (.bl q) H Q := ⟨p, q, rfl, rfl, h⟩
theorem dp_ints : ∀ xs : List Int, DpAll K H (xs.map V.int) (xs.map PyData.int)
  | [] => .nil
  | x :: xs => .cons (.int x) (dp_ints xs)
theorem eqv_ints : ∀ xs ys : List Int, PyData.eqvAll (xs.map PyData.int) (ys.map PyData.int) = decide (xs = ys)
  | [], [] => by simp [PyData.eqvAll]
  | [], y :: ys => by simp [PyData.eqvAll]
  | x :: xs, [] => by simp [PyData.eqvAll]
  | x :: xs, y :: ys => by
    have h := eqv_ints xs ys
    show (PyData.eqv (.int x) (.int y) && PyData.eqvAll (xs.map PyData.int) (ys.map PyData.int)) = _
    rw [h]
    unfold PyData.eqv
    by_cases h1 : x = y <;> by_cases h2 : xs = ys <;> simp [h1, h2]
theorem lay_ints : ∀ xs : List Int, PyData.canLayAll0 (xs.map PyData.int) = true
  | [] => rfl
  | x :: xs => by
    show (PyData.canLay0 (.int x) && PyData.canLayAll0 (xs.map PyData.int)) = true
    rw [lay_ints xs]
    rfl
theorem depth_ints : ∀ xs : List Int, PyData.depthAll (xs.map PyData.int) = 0
  | [] => by simp [PyData.depthAll]
  | x :: xs => by
    have h := depth_ints xs
    simp only [List.map_cons, PyData.depthAll, PyData.depth, h]
    rfl
theorem shaped_li : SeqAt.shaped (.list (xs.map PyData.int)) = true := by
  unfold SeqAt.shaped
  have h := lay_ints xs
  have h2 := depth_ints xs
  simp [PyData.canLay0, PyData.depth, h, h2]
theorem shaped_ti : SeqAt.shaped (.tuple (xs.map PyData.int)) = true := by
  unfold SeqAt.shaped
  have h := lay_ints xs
  have h2 := depth_ints xs
  simp [PyData.canLay0, PyData.depth, h, h2]
theorem w_eqLI (h1 : SqL K H a (xs.map V.int)) (h2 : SqL K H b (ys.map V.int)) (q : Q (.bl (decide (xs = ys))) H) : rEqD K (.ref a) (.ref b) H Q :=
  ⟨_, _, .lst h1 (dp_ints xs), .lst h2 (dp_ints ys), shaped_li, shaped_li, by
    show Q (.bl (PyData.eqvAll _ _)) H
    rw [eqv_ints]; exact q⟩
theorem w_neLI (h1 : SqL K H a (xs.map V.int)) (h2 : SqL K H b (ys.map V.int)) (q : Q (.bl (!decide (xs = ys))) H) : rNeD K (.ref a) (.ref b) H Q :=
  ⟨_, _, .lst h1 (dp_ints xs), .lst h2 (dp_ints ys), shaped_li, shaped_li, by
    show Q (.bl (!PyData.eqvAll _ _)) H
    rw [eqv_ints]; exact q⟩
theorem w_eqTI (h1 : SqT K H a (xs.map V.int)) (h2 : SqT K H b (ys.map V.int)) (q : Q (.bl (decide (xs = ys))) H) : rEqD K (.ref a) (.ref b) H Q :=
  ⟨_, _, .tup h1 (dp_ints xs), .tup h2 (dp_ints ys), shaped_ti, shaped_ti, by
    show Q (.bl (PyData.eqvAll _ _)) H
    rw [eqv_ints]; exact q⟩
theorem w_neTI (h1 : SqT K H a (xs.map V.int)) (h2 : SqT K H b (ys.map V.int)) (q : Q (.bl (!decide (xs = ys))) H) : rNeD K (.ref a) (.ref b) H Q :=
  ⟨_, _, .tup h1 (dp_ints xs), .tup h2 (dp_ints ys), shaped_ti, shaped_ti, by
    show Q (.bl (!PyData.eqvAll _ _)) H
    rw [eqv_ints]; exact q⟩
theorem w_eqL' {vs ws : List V} (xs ys : List Int) (h1 : SqL K H a vs) (h2 : SqL K H b ws) (q : Q (.bl (decide (xs = ys))) H) (e1 : vs = xs.map V.int := by rfl) (e2 : ws = ys.map V.int := by rfl) : rEqD K (.ref a) (.ref b) H Q := by
  subst e1 e2
  exact w_eqLI h1 h2 q
theorem w_neL' {vs ws : List V} (xs ys : List Int) (h1 : SqL K H a vs) (h2 : SqL K H b ws) (q : Q (.bl (!decide (xs = ys))) H) (e1 : vs = xs.map V.int := by rfl) (e2 : ws = ys.map V.int := by rfl) : rNeD K (.ref a) (.ref b) H Q := by
  subst e1 e2
  exact w_neLI h1 h2 q
theorem w_eqT' {vs ws : List V} (xs ys : List Int) (h1 : SqT K H a vs) (h2 : SqT K H b ws) (q : Q (.bl (decide (xs = ys))) H) (e1 : vs = xs.map V.int := by rfl) (e2 : ws = ys.map V.int := by rfl) : rEqD K (.ref a) (.ref b) H Q := by
  subst e1 e2
  exact w_eqTI h1 h2 q
theorem w_neT' {vs ws : List V} (xs ys : List Int) (h1 : SqT K H a vs) (h2 : SqT K H b ws) (q : Q (.bl (!decide (xs = ys))) H) (e1 : vs = xs.map V.int := by rfl) (e2 : ws = ys.map V.int := by rfl) : rNeD K (.ref a) (.ref b) H Q := by
  subst e1 e2
  exact w_neTI h1 h2 q
/-! by data -/
theorem w_eqD (h1 : Dp K H x d) (h2 : Dp K H y e) (s1 : SeqAt.shaped d = true) (s2 : SeqAt.shaped e = true) (q : Q (.bl (PyData.eqv d e)) H) : rEqD K x y H Q := ⟨d, e, h1, h2, s1, s2, q⟩
theorem w_neD (h1 : Dp K H x d) (h2 : Dp K H y e) (s1 : SeqAt.shaped d = true) (s2 : SeqAt.shaped e = true) (q : Q (.bl (!PyData.eqv d e)) H) : rNeD K x y H Q := ⟨d, e, h1, h2, s1, s2, q⟩
mutual
theorem eqv_refl : ∀ d : PyData, d.canLay0 = true → PyData.eqv d d = true
  | .none, _ => by simp [PyData.eqv]
  | .bool b, _ => by simp [PyData.eqv]
  | .int i, _ => by simp [PyData.eqv]
  | .str s, _ => by simp [PyData.eqv]
  | .list xs, h => by
    have := eqvAll_refl xs (by simpa [PyData.canLay0] using h)
    simpa [PyData.eqv] using this
  | .tuple xs, h => by
    have := eqvAll_refl xs (by simpa [PyData.canLay0] using h)
    simpa [PyData.eqv] using this
  | .dict _, h => by simp [PyData.canLay0] at h
theorem eqvAll_refl : ∀ ds : List PyData, PyData.canLayAll0 ds = true → PyData.eqvAll ds ds = true
  | [], _ => by simp [PyData.eqvAll]
  | d :: ds, h => by
    have h1 : PyData.canLay0 d = true ∧ PyData.canLayAll0 ds = true := by simpa [PyData.canLayAll0] using h
    have := eqv_refl d h1.1
    have := eqvAll_refl ds h1.2
    simp [PyData.eqvAll, *]
end
theorem eqv_self {d : PyData} (h : SeqAt.shaped d = true) : PyData.eqv d d = true := eqv_refl d (SeqAt.canLay_of_shaped h)
end
end G

/-! heaps that grow; the drawn cells, as any numbers -/
namespace G
open PySem PySem.Spec PyProof.Rows L2
/-- grown, but for p -/
def ExtP (p : Addr) (H H' : Hp) : Prop := ∀ a o, a ≠ p → H a = some o → H' a = some o
section
variable {K : PySem.W.Frag} {H H1 H' : Hp} {a b p q : Addr} {o u o' : HO} {xs : List V}
theorem ext_get (e : Ext H H') (h : H b = some u) : H' b = some u := e _ _ h
theorem extp_get (e : ExtP p H H') (n : b ≠ p) (h : H b = some u) : H' b = some u := e _ _ n h
theorem ext_toP (e : Ext H H') : ExtP p H H' := fun a o _ h => e a o h
theorem ExtP.rfl' : ExtP p H H := fun _ _ _ h => h
theorem ExtP.trans (e : ExtP p H H1) (f : ExtP p H1 H') : ExtP p H H' := fun a o n h => f a o n (e a o n h)
theorem ext_via (f : Ext H1 H') (e : Ext H H1) : Ext H H' := e.trans f
theorem extp_via (f : ExtP p H1 H') (e : ExtP p H H1) : ExtP p H H' := e.trans f
theorem extp_viae (f : Ext H1 H') (e : ExtP p H H1) : ExtP p H H' := e.trans (ext_toP f)
theorem ext_up (n : H1 a = none) (e : Ext H H1) : Ext H (upd H1 a o) := fun b u h => up_n (e b u h) n
theorem extp_up (n : H1 a = none) (e : ExtP p H H1) : ExtP p H (upd H1 a o) := fun b u hb h => up_n (e b u hb h) n
theorem extp_put (e : ExtP p H H1) : ExtP p H (upd H1 p o) := fun b u hb h => up_k (e b u hb h) hb
/-- an object that was made since is written -/
theorem ext_put (n : H a = none) (e : Ext H H1) : Ext H (upd H1 a o) := fun b u h => up_k (e b u h) (ne_of_none h n)
theorem extp_putn (n : H a = none) (e : ExtP p H H1) : ExtP p H (upd H1 a o) := fun b u hb h => up_k (e b u hb h) (ne_of_none h n)
theorem ext_of_extp (n : H p = none) (e : ExtP p H H') : Ext H H' := fun a o h => e a o (ne_of_none h n) h
theorem extp_of_extp (n : H q = none) (e : ExtP q H H') : ExtP p H H' := ext_toP (ext_of_extp n e)
theorem ext_thr (n : H p = none) (f : ExtP p H1 H') (e : Ext H H1) : Ext H H' := fun a o h => f a o (ne_of_none h n) (e a o h)
theorem extp_thr (n : H q = none) (f : ExtP q H1 H') (e : ExtP p H H1) : ExtP p H H' := fun a o hp h => f a o (ne_of_none h n) (e a o hp h)
theorem Scr.ext (h : Scr K H a xs) (e : Ext H H') : Scr K H' a xs := h.same e
theorem scr_ext (e : Ext H H') (h : Scr K H a xs) : Scr K H' a xs := h.same e
theorem scr_extp (e : ExtP p H H') (n : Thw H p) (h : Scr K H a xs) : Scr K H' a xs := h.frz fun b o u hb => e b _ (fun z => by subst z; exact n o u hb) hb
theorem scr_extn (e : ExtP p H H') (n : H p = none) (h : Scr K H a xs) : Scr K H' a xs := h.frz fun b o u hb => e b _ (ne_of_none hb n) hb
theorem sq_ext (e : Ext H H') (h : SqL K H a xs) : SqL K H' a xs := h.ext e
theorem sqt_ext (e : Ext H H') (h : SqT K H a xs) : SqT K H' a xs := h.ext e
theorem SqT.of' (h : H a = some (.tup xs)) : SqT K H a xs := .inl (.inl h)
theorem ne_of' (h1 : H a = some o) (h2 : H b = some u) (n : o ≠ u) : a ≠ b := fun e => by
  subst e
  rw [h1] at h2
  cases h2
  exact n rfl
theorem up_nn (n : H a = none) (h : H b = some u) : upd H a o b = some u := up_n h n
theorem none_dn (h : upd H a o b = none) : H b = none := (up_none h).2
theorem up_ko (h : H b = some u) (h2 : H a = some o') (n : u ≠ o') : upd H a o b = some u := up_k h (ne_of' h h2 n)
end
/-! ### promises -/
def gsCell (K : PySem.W.Frag) : Sp := fun vs H Q _ => ∃ (a : Addr) (ns : List Int) (k : Int), vs = [.ref a, .int k] ∧ SqL K H a (ns.map V.int) ∧ 0 ≤ k ∧ ∀ n, Q (.int n) H
def gsStart (K : PySem.W.Frag) : Sp := fun vs H Q _ => ∃ (c k : Int), vs = [.int c, .int k] ∧ ∀ n p, H p = none → Q (.ref p) (upd H p (.lst [.int n]))
def gsDigit (K : PySem.W.Frag) : Sp := fun vs H Q _ => ∃ (p : Addr) (n m : Int), vs = [.ref p, .int m] ∧ H p = some (.lst [.int n]) ∧ 0 < m ∧ m < 1099511627776 ∧
  ∀ d n', 0 ≤ d → d < m → Q (.int d) (upd H p (.lst [.int n']))
/-- a bool or not, by isinstance: an integer -/
def gsIsInt (K : PySem.W.Frag) : Sp := fun vs H Q _ => ∃ (x : V), vs = [x] ∧ ((∃ i, x = .int i ∧ Q (.bl true) H) ∨ (∃ b, x = .bl b ∧ Q (.bl false) H))
section
variable {K : PySem.W.Frag} {H : Hp} {Q : VK} {E : XK} {a p : Addr} {k m n c : Int} {ns : List Int}
theorem c_cell (hS : SqL K H a (ns.map V.int)) (h0 : 0 ≤ k) (q : ∀ n, Q (.int n) H) : gsCell K [.ref a, .int k] H Q E := ⟨a, ns, k, rfl, hS, h0, q⟩
theorem c_start (q : ∀ n p, H p = none → Q (.ref p) (upd H p (.lst [.int n]))) : gsStart K [.int c, .int k] H Q E := ⟨c, k, rfl, q⟩
theorem c_digit (h : H p = some (.lst [.int n])) (h0 : 0 < m) (h1 : m < 1099511627776) (q : ∀ d n', 0 ≤ d → d < m → Q (.int d) (upd H p (.lst [.int n']))) : gsDigit K [.ref p, .int m] H Q E := ⟨p, n, m, rfl, h, h0, h1, q⟩
theorem c_isint (q : Q (.bl true) H) : gsIsInt K [.int n] H Q E := ⟨_, rfl, .inl ⟨n, rfl, q⟩⟩
end
theorem pr_pow (i : Nat) (h : i < 4) : (618970019642690137449562111 : Int) ^ i < 618970019642690137449562111 ^ 3 + 1 ∧ (0 : Int) < 618970019642690137449562111 ^ i := by
  have : i = 0 ∨ i = 1 ∨ i = 2 ∨ i = 3 := by omega
  rcases this with rfl | rfl | rfl | rfl <;> decide +kernel
theorem num_step {n m q : Int} (h0 : 0 ≤ n) (h1 : n < q) (h2 : 0 ≤ m) (h3 : m < 618970019642690137449562111) : 0 ≤ n * 618970019642690137449562111 + m ∧ n * 618970019642690137449562111 + m < q * 618970019642690137449562111 := by omega
theorem small_w {x : Int} (h0 : 0 ≤ x) (h : x < 618970019642690137449562111 ^ 3 + 1) : x.natAbs < 2 ^ 300 := by
  have e : (618970019642690137449562111 : Int) ^ 3 + 1 < ((2 ^ 300 : Nat) : Int) := by decide +kernel
  have e2 : x < ((2 ^ 300 : Nat) : Int) := Int.lt_trans h e
  omega
theorem ints_at {gs : List Int} {j : Nat} {z : Int} (h : gs[j]? = some z) {k : Int} (e : k = (j : Int)) : atI (gs.map V.int) k = some (V.int z) := at_of e (by rw [List.getElem?_map, h]; rfl)
theorem digit_div {m : Int} (h0 : 0 < m) (h1 : m < 1099511627776) : ∀ i : Int, CDivW i m := fun i => wide_div (b := 40) h0 (by omega) (by decide) (by decide)
/-! ### slices of lists of integers -/
theorem sum_app (xs ys : List Int) : (xs ++ ys).sum = xs.sum + ys.sum := by
  induction xs with
  | nil => simp
  | cons a r ih => rw [List.cons_append, List.sum_cons, List.sum_cons, ih]; omega
end G

/-! comprehensions whose turns only make objects; slices; indexing -/
namespace G
open PySem PySem.Spec PyProof.Rows L2
section
variable {K : PySem.W.Frag} {σ : L2.St} {H : Hp} {Q : VK} {g : TG} {tt : TT} {te : TE} {vs : List Nat} {tA : TA} {tl : TE}
def rLc (J : It) (g : TG) (tt : TT) (te : TE) (vs : List Nat) (σ : L2.St) (H1 : Hp) (Q : VK) : Prop := ∀ D, H1 D = none → ∃ W : Nat → Nat → Hp → Prop, (∃ m, W 0 m (upd H1 D (.lst []))) ∧ ∀ i m H, W i m H →
  (J.stop i H ∧ Q (.ref D) H) ∨ (J.go i H ∧ ∃ Nx : Hp → Prop, (∀ H', Nx H' → ∃ m', m' < m ∧ W (i + 1) m' H') ∧ ∀ x H', J.yld i H x H' → g x (wipe σ vs) H' fun σ2 H2 => wipe σ2 vs = wipe σ vs ∧ tt σ2 H2 fun b H3 =>
    if b = true then te σ2 H3 fun y H4 => ∃ acc, H4 D = some (.lst acc) ∧ acc.length < sizeLine ∧ Nx (upd H4 D (.lst (acc ++ [y]))) else Nx H3)
def rLcR1 (g : TG) (tt : TT) (te : TE) (ws : List Nat) (σ : L2.St) (Q : VK) (vs : List V) (H1 : Hp) : Prop := ∃ j : Int, vs = [.int j] ∧ -(2 ^ 62) ≤ j ∧ j < 2 ^ 62 ∧ rLc (Itr 0 j.toNat) g tt te ws σ H1 Q
def rLcR2 (g : TG) (tt : TT) (te : TE) (ws : List Nat) (σ : L2.St) (Q : VK) (vs : List V) (H1 : Hp) : Prop := ∃ i j : Int, vs = [.int i, .int j] ∧ (-(2 ^ 62) ≤ i ∧ i < 2 ^ 62 ∧ -(2 ^ 62) ≤ j ∧ j < 2 ^ 62) ∧ rLc (Itr i (j - i).toNat) g tt te ws σ H1 Q
def rLcL (K : PySem.W.Frag) (g : TG) (tt : TT) (te : TE) (ws : List Nat) (σ : L2.St) (Q : VK) (x : V) (H1 : Hp) : Prop := ∃ a, x = .ref a ∧ (∃ xs, SqL K H1 a xs) ∧ rLc (Itl K a) g tt te ws σ H1 Q
def rLcT (K : PySem.W.Frag) (g : TG) (tt : TT) (te : TE) (ws : List Nat) (σ : L2.St) (Q : VK) (x : V) (H1 : Hp) : Prop := ∃ a, x = .ref a ∧ (∃ xs, SqT K H1 a xs) ∧ rLc (Itt K a) g tt te ws σ H1 Q
theorem w_lcR1 (h : tA σ H fun ws H1 => rLcR1 g tt te vs σ Q ws H1) : tLc (iRng1 tA) g tt te vs σ H Q := h
theorem w_lcR2 (h : tA σ H fun ws H1 => rLcR2 g tt te vs σ Q ws H1) : tLc (iRng2 tA) g tt te vs σ H Q := h
theorem w_lcL (h : tl σ H fun x H1 => rLcL K g tt te vs σ Q x H1) : tLc (iList K tl) g tt te vs σ H Q := h
theorem w_lcT (h : tl σ H fun x H1 => rLcT K g tt te vs σ Q x H1) : tLc (iTup K tl) g tt te vs σ H Q := h
theorem wipe1 {v : Nat} {x : Option V} : wipe ((wipe σ [v]).set v x) [v] = wipe σ [v] := by
  show ((σ.set v none).set v x).set v none = σ.set v none
  rw [List.set_set, List.set_set]
def LcAdd (D : Addr) (Pv : Nat → Hp → Prop) (i : Nat) (y : V) (H4 : Hp) : Prop := ∃ acc, H4 D = some (.lst acc) ∧ acc.length < sizeLine ∧ Pv (i + 1) (upd H4 D (.lst (acc ++ [y])))
/-- grown only, the list so far at D -/
def PvE (H : Hp) (D : Addr) (A : Nat → List V) (i : Nat) (H' : Hp) : Prop := Ext H H' ∧ H' D = some (.lst (A i))
theorem lc_add {D : Addr} {A : Nat → List V} {i : Nat} {y : V} {H4 : Hp} (h : H4 D = some (.lst (A i))) (e : Ext H H4) (n : H D = none) (ha : A (i + 1) = A i ++ [y]) (hl : (A i).length < sizeLine) : LcAdd D (PvE H D A) i y H4 :=
  ⟨A i, h, hl, ext_put n e, by rw [upd_same, ha]⟩
theorem lc_skip {D : Addr} {A : Nat → List V} {i : Nat} {H3 : Hp} (h : H3 D = some (.lst (A i))) (e : Ext H H3) (ha : A (i + 1) = A i) : PvE H D A (i + 1) H3 := ⟨e, by rw [ha]; exact h⟩
/-- over any walk, growth only: A i the list so far -/
theorem lcE {J : It} {n : Nat} {G : Hp → Prop} {Y : Nat → Hp → V → Hp → Prop} (w : Walk J n G Y) (A : Nat → List V) (h0 : A 0 = []) (hG : ∀ H', Ext H H' → G H')
    (hs : ∀ i x D H1 H2, i < n → H D = none → Ext H H1 → H1 D = some (.lst (A i)) → Y i H1 x H2 → g x (wipe σ vs) H2 fun σ2 H2 => wipe σ2 vs = wipe σ vs ∧ tt σ2 H2 fun b H3 =>
      if b = true then te σ2 H3 fun y H4 => LcAdd D (PvE H D A) i y H4 else PvE H D A (i + 1) H3)
    (hd : ∀ D H1, H D = none → Ext H H1 → H1 D = some (.lst (A n)) → Q (.ref D) H1) : rLc J g tt te vs σ H Q := fun D hD =>
  lc_it w (PvE H D A) ⟨ext_up hD Ext.rfl', by rw [upd_same, h0]⟩ (fun i H' _ h => hG H' h.1) (fun i x H1 H2 hi h y => hs i x D H1 H2 hi hD h.1 h.2 y) fun H1 h => hd D H1 hD h.1 h.2
abbrev accM (fV : Nat → V) : Nat → List V := fun i => (List.range i).map fV
abbrev accF (p : Nat → Bool) (fV : Nat → V) : Nat → List V := fun i => ((List.range i).filter p).map fV
theorem accM_succ {fV : Nat → V} {i : Nat} : accM fV (i + 1) = accM fV i ++ [fV i] := by
  unfold accM
  rw [List.range_succ, List.map_append]
  rfl
theorem accM_len {fV : Nat → V} {i : Nat} : (accM fV i).length = i := by unfold accM; simp
theorem accF_yes {p : Nat → Bool} {fV : Nat → V} {i : Nat} (h : p i = true) : accF p fV (i + 1) = accF p fV i ++ [fV i] := by
  unfold accF
  rw [List.range_succ, List.filter_append, List.map_append]
  simp [h]
theorem accF_no {p : Nat → Bool} {fV : Nat → V} {i : Nat} (h : p i = false) : accF p fV (i + 1) = accF p fV i := by
  unfold accF
  rw [List.range_succ, List.filter_append, List.map_append]
  simp [h]
theorem accF_len {p : Nat → Bool} {fV : Nat → V} {i : Nat} : (accF p fV i).length ≤ i := by
  unfold accF
  rw [List.length_map]
  exact Nat.le_trans (List.length_filter_le _ _) (by simp)
theorem lc_one {D : Addr} {fV : Nat → V} {i : Nat} {y : V} {H4 : Hp} (h : H4 D = some (.lst (accM fV i))) (e : Ext H H4) (n : H D = none) (hi : i < 16000000) (ha : y = fV i) : LcAdd D (PvE H D (accM fV)) i y H4 :=
  lc_add h e n (by rw [accM_succ, ha]) (by rw [accM_len]; exact Nat.lt_trans hi (by decide))
theorem lc_onef {D : Addr} {p : Nat → Bool} {fV : Nat → V} {i : Nat} {y : V} {H4 : Hp} (h : H4 D = some (.lst (accF p fV i))) (e : Ext H H4) (n : H D = none) (hi : i < 16000000) (hp : p i = true) (ha : y = fV i) : LcAdd D (PvE H D (accF p fV)) i y H4 :=
  lc_add h e n (by rw [accF_yes hp, ha]) (Nat.lt_of_le_of_lt accF_len (Nat.lt_trans hi (by decide)))
theorem lc_nonef {D : Addr} {p : Nat → Bool} {fV : Nat → V} {i : Nat} {H3 : Hp} (h : H3 D = some (.lst (accF p fV i))) (e : Ext H H3) (hp : p i = false) : PvE H D (accF p fV) (i + 1) H3 :=
  lc_skip h e (accF_no hp)
/-! the usual ones: one name -/
variable {v : Nat} {j lo hi : Int}
theorem lcR1 {n : Nat} (fV : Nat → V) (hj : j = (n : Int)) (hn : n < 16000000) (hs : ∀ (i : Nat) D H1, i < n → H D = none → Ext H H1 → H1 D = some (.lst (accM fV i)) → te ((σ.set v none).set v (some (.int (i : Int)))) H1 fun y H4 => LcAdd D (PvE H D (accM fV)) i y H4)
    (hd : ∀ D H1, H D = none → Ext H H1 → H1 D = some (.lst (accM fV n)) → Q (.ref D) H1) : rLcR1 (gName v) tYes te [v] σ Q [.int j] H := by
  subst hj
  refine ⟨(n : Int), rfl, by omega, by omega, lcE walk_range (accM fV) rfl (fun _ _ => trivial) ?_ (by rw [Int.toNat_natCast]; exact hd)⟩
  rintro i x D H1 H2 hi hD e hA ⟨rfl, rfl⟩
  refine ⟨wipe1, ?_⟩
  show te ((σ.set v none).set v (some (.int (0 + (i : Int))))) H2 _
  rw [Int.zero_add]
  exact hs i D H2 (by omega) hD e hA
theorem lcR2 (fV : Nat → V) (hn : -4000000000 < lo ∧ lo < 4000000000 ∧ -4000000000 < hi ∧ hi < 4000000000) (hn2 : hi - lo < 16000000) (hs : ∀ (i : Nat) D H1, lo + i < hi → H D = none → Ext H H1 → H1 D = some (.lst (accM fV i)) → te ((σ.set v none).set v (some (.int (lo + (i : Int))))) H1 fun y H4 => LcAdd D (PvE H D (accM fV)) i y H4)
    (hd : ∀ D H1, H D = none → Ext H H1 → H1 D = some (.lst (accM fV (hi - lo).toNat)) → Q (.ref D) H1) : rLcR2 (gName v) tYes te [v] σ Q [.int lo, .int hi] H := by
  refine ⟨lo, hi, rfl, ⟨by omega, by omega, by omega, by omega⟩, lcE walk_range (accM fV) rfl (fun _ _ => trivial) ?_ hd⟩
  rintro i x D H1 H2 hi hD e hA ⟨rfl, rfl⟩
  exact ⟨wipe1, hs i D H2 (by omega) hD e hA⟩
theorem lcL {a : Addr} {xs : List V} (fV : Nat → V) (hx : SqL K H a xs) (hn : xs.length < 16000000) (hs : ∀ (i : Nat) x D H1, xs[i]? = some x → H D = none → Ext H H1 → H1 D = some (.lst (accM fV i)) → te ((σ.set v none).set v (some x)) H1 fun y H4 => LcAdd D (PvE H D (accM fV)) i y H4)
    (hd : ∀ D H1, H D = none → Ext H H1 → H1 D = some (.lst (accM fV xs.length)) → Q (.ref D) H1) : rLcL K (gName v) tYes te [v] σ Q (.ref a) H := by
  refine ⟨a, rfl, ⟨_, hx⟩, lcE walk_list (accM fV) rfl (fun _ e => hx.ext e) ?_ hd⟩
  rintro i x D H1 H2 hi hD e hA ⟨rfl, hxi⟩
  exact ⟨wipe1, hs i x D H2 hxi hD e hA⟩
theorem lcLF {a : Addr} {xs : List V} (p : Nat → Bool) (fV : Nat → V) (hx : SqL K H a xs) (hn : xs.length < 16000000) (hs : ∀ (i : Nat) x D H1, xs[i]? = some x → H D = none → Ext H H1 → H1 D = some (.lst (accF p fV i)) →
      tt ((σ.set v none).set v (some x)) H1 fun b H3 => if b = true then te ((σ.set v none).set v (some x)) H3 fun y H4 => LcAdd D (PvE H D (accF p fV)) i y H4 else PvE H D (accF p fV) (i + 1) H3)
    (hd : ∀ D H1, H D = none → Ext H H1 → H1 D = some (.lst (accF p fV xs.length)) → Q (.ref D) H1) : rLcL K (gName v) tt te [v] σ Q (.ref a) H := by
  refine ⟨a, rfl, ⟨_, hx⟩, lcE walk_list (accF p fV) rfl (fun _ e => hx.ext e) ?_ hd⟩
  rintro i x D H1 H2 hi hD e hA ⟨rfl, hxi⟩
  exact ⟨wipe1, hs i x D H2 hxi hD e hA⟩
theorem lcT {a : Addr} {xs : List V} (fV : Nat → V) (hx : SqT K H a xs) (hn : xs.length < 16000000) (hs : ∀ (i : Nat) x D H1, xs[i]? = some x → H D = none → Ext H H1 → H1 D = some (.lst (accM fV i)) → te ((σ.set v none).set v (some x)) H1 fun y H4 => LcAdd D (PvE H D (accM fV)) i y H4)
    (hd : ∀ D H1, H D = none → Ext H H1 → H1 D = some (.lst (accM fV xs.length)) → Q (.ref D) H1) : rLcT K (gName v) tYes te [v] σ Q (.ref a) H := by
  refine ⟨a, rfl, ⟨_, hx⟩, lcE walk_tup (accM fV) rfl (fun _ e => hx.ext e) ?_ hd⟩
  rintro i x D H1 H2 hi hD e hA ⟨rfl, hxi⟩
  exact ⟨wipe1, hs i x D H2 hxi hD e hA⟩
end
/-! ### slices -/
section
variable {K : PySem.W.Frag} {σ : L2.St} {H : Hp} {Q : VK} {te : TE} {tl th : TO} {r : V → Option Int → Option Int → Hp → VK → Prop} {a : Addr} {xs : List V} {l h : Option Int} {i j : Int} {Qo : Option Int → Hp → Prop} {t : TE}
theorem w_sl (h : te σ H fun x H1 => tl σ H1 fun l H2 => th σ H2 fun u H3 => r x l u H3 Q) : tSl r te tl th σ H Q := h
theorem w_nopart (q : Qo none H) : tNoPart σ H Qo := q
theorem w_part (q : t σ H fun x H1 => ∃ i, x = .int i ∧ Qo (some i) H1) : tPart t σ H Qo := q
theorem w_pint {P : Int → Prop} (q : P i) : ∃ k, V.int i = .int k ∧ P k := ⟨i, rfl, q⟩
theorem w_slL (hx : SqL K H a xs) (q : ∀ p, H p = none → Q (.ref p) (upd H p (.lst (cutV xs l h)))) : rSlL K (.ref a) l h H Q := ⟨a, xs, rfl, hx, q⟩
theorem cut_from {xs : List V} (h0 : 0 ≤ i) : cutV xs (some i) none = xs.drop i.toNat := by
  obtain ⟨n, rfl⟩ := Int.eq_ofNat_of_zero_le h0
  unfold cutV
  rw [HT.sIx_nat, HT.sIx_none, Int.toNat_natCast]
  by_cases hn : n ≤ xs.length
  · rw [Nat.min_eq_left hn, List.take_of_length_le]
    rw [List.length_drop]
    omega
  · rw [Nat.min_eq_right (by omega), List.drop_eq_nil_of_le (Nat.le_refl _), List.drop_eq_nil_of_le (by omega)]
    simp
theorem cut_to {xs : List V} (h0 : 0 ≤ i) : cutV xs none (some i) = xs.take i.toNat := by
  obtain ⟨n, rfl⟩ := Int.eq_ofNat_of_zero_le h0
  unfold cutV
  rw [HT.sIx_nat, HT.sIx_none, Int.toNat_natCast, List.drop_zero, Nat.sub_zero]
  by_cases hn : n ≤ xs.length
  · rw [Nat.min_eq_left hn]
  · rw [Nat.min_eq_right (by omega), List.take_of_length_le (Nat.le_refl _), List.take_of_length_le (by omega)]
theorem cut_mid {xs : List V} (h0 : 0 ≤ i) (h1 : i ≤ j) : cutV xs (some i) (some j) = (xs.drop i.toNat).take (j - i).toNat := by
  obtain ⟨n, rfl⟩ := Int.eq_ofNat_of_zero_le h0
  obtain ⟨m, rfl⟩ := Int.eq_ofNat_of_zero_le (Int.le_trans h0 h1)
  unfold cutV
  rw [HT.sIx_nat, HT.sIx_nat, Int.toNat_natCast]
  have e : ((m : Int) - (n : Int)).toNat = m - n := by omega
  rw [e]
  by_cases hn : n ≤ xs.length
  · rw [Nat.min_eq_left hn]
    by_cases hm : m ≤ xs.length
    · rw [Nat.min_eq_left hm]
    · rw [Nat.min_eq_right (by omega), List.take_of_length_le (by rw [List.length_drop]; omega), List.take_of_length_le (by rw [List.length_drop]; omega)]
  · rw [Nat.min_eq_right (by omega : xs.length ≤ n), List.drop_eq_nil_of_le (Nat.le_refl _), List.drop_eq_nil_of_le (by omega)]
    simp
theorem w_slLfrom (hx : SqL K H a xs) (h0 : 0 ≤ i) (q : ∀ p, H p = none → Q (.ref p) (upd H p (.lst (xs.drop i.toNat)))) : rSlL K (.ref a) (some i) none H Q := w_slL hx fun p hp => by rw [cut_from h0]; exact q p hp
theorem w_slLto (hx : SqL K H a xs) (h0 : 0 ≤ i) (q : ∀ p, H p = none → Q (.ref p) (upd H p (.lst (xs.take i.toNat)))) : rSlL K (.ref a) none (some i) H Q := w_slL hx fun p hp => by rw [cut_to h0]; exact q p hp
theorem w_slLmid (hx : SqL K H a xs) (h0 : 0 ≤ i) (h1 : i ≤ j) (q : ∀ p, H p = none → Q (.ref p) (upd H p (.lst ((xs.drop i.toNat).take (j - i).toNat)))) : rSlL K (.ref a) (some i) (some j) H Q := w_slL hx fun p hp => by rw [cut_mid h0 h1]; exact q p hp
/-! ### more of lists -/
theorem small_le {n : Nat} (h : Nat.ble n 1000 = true) : n ≤ sizeLine := Nat.le_trans (Nat.le_of_ble_eq_true h) (by decide)
theorem w_cat {l b : Addr} {xs zs : List V} (h1 : H l = some (.lst xs)) (h2 : H b = some (.lst zs)) (hz : xs.length + zs.length ≤ sizeLine) (q : ∀ p, H p = none → Q (.ref p) (upd H p (.lst (xs ++ zs)))) : rCat (.ref l) (.ref b) H Q := ⟨l, b, xs, zs, rfl, rfl, h1, h2, hz, q⟩
end
end G

/-! grown, but for some -/
namespace G
open PySem PySem.Spec PyProof.Rows L2
structure ExtS (S : List Addr) (H H' : Hp) : Prop where
  get : ∀ a o, a ∉ S → H a = some o → H' a = some o
  dom : ∀ a, H' a = none → H a = none
/-- each of S' is one of S, or not there in H -/
def SubN (S' S : List Addr) (H : Hp) : Prop := ∀ x ∈ S', x ∈ S ∨ H x = none
section
variable {K : PySem.W.Frag} {H H1 H' : Hp} {a b p q x y : Addr} {o u o' : HO} {xs : List V} {S S' : List Addr}
theorem ext_none (e : Ext H H') (h : H' x = none) : H x = none := by
  cases hx : H x with
  | none => rfl
  | some u => rw [e x u hx] at h; cases h
theorem upd_none (h : upd H a o x = none) : H x = none := (up_none h).2
theorem ExtS.rfl' : ExtS S H H := ⟨fun _ _ _ h => h, fun _ h => h⟩
theorem exts_ext (e : Ext H H') : ExtS S H H' := ⟨fun a o _ h => e a o h, fun a h => ext_none e h⟩
theorem exts_of_p (e : ExtP p H H') (d : H' p = some o) : ExtS [p] H H' := ⟨fun a o n h => e a o (fun z => n (by rw [z]; exact List.mem_singleton.mpr rfl)) h, fun a h => by
  cases hx : H a with
  | none => rfl
  | some u =>
    by_cases z : a = p
    · subst z; rw [d] at h; cases h
    · rw [e a u z hx] at h; cases h⟩
theorem exts_nil (e : ExtS [] H H') : Ext H H' := fun a o h => e.get a o (fun z => nomatch z) h
theorem extp_of_s (e : ExtS [p] H H') : ExtP p H H' := fun a o n h => e.get a o (fun z => n (List.mem_singleton.mp z)) h
theorem exts_mono {S2 : List Addr} (e : ExtS S H H') (h : ∀ x ∈ S, x ∈ S2) : ExtS S2 H H' := ⟨fun a o n => e.get a o fun z => n (h a z), e.dom⟩
theorem SubN.nil : SubN [] S H := fun _ z => nomatch z
theorem SubN.inn (h : x ∈ S) (s : SubN S' S H) : SubN (x :: S') S H := fun y hy => by
  rcases List.mem_cons.mp hy with rfl | hy
  · exact .inl h
  · exact s y hy
theorem SubN.new (h : H x = none) (s : SubN S' S H) : SubN (x :: S') S H := fun y hy => by
  rcases List.mem_cons.mp hy with rfl | hy
  · exact .inr h
  · exact s y hy
theorem SubN.all (h : ∀ x ∈ S', H x = none) : SubN S' S H := fun y hy => .inr (h y hy)
theorem SubN.app {S1 S2 : List Addr} (h : SubN S1 S H) (h2 : SubN S2 S H) : SubN (S1 ++ S2) S H := fun y hy => (List.mem_append.mp hy).elim (h y) (h2 y)
theorem exts_thr (f : ExtS S' H1 H') (n : SubN S' S H) (e : ExtS S H H1) : ExtS S H H' := ⟨fun a o ha h => f.get a o (fun z => (n a z).elim ha (fun z => by rw [z] at h; cases h)) (e.get a o ha h), fun a h => e.dom a (f.dom a h)⟩
theorem exts_thrE (f : Ext H1 H') (e : ExtS S H H1) : ExtS S H H' := ⟨fun a o ha h => f a o (e.get a o ha h), fun a h => e.dom a (ext_none f h)⟩
theorem exts_thrP (f : ExtP p H1 H') (d : H' p = some o) (n : SubN [p] S H) (e : ExtS S H H1) : ExtS S H H' := exts_thr (exts_of_p f d) n e
theorem exts_up (n : H1 a = none) (e : ExtS S H H1) : ExtS S H (upd H1 a o) := ⟨fun b u hb h => up_n (e.get b u hb h) n, fun b h => e.dom b (upd_none h)⟩
theorem exts_put (n : SubN [a] S H) (e : ExtS S H H1) : ExtS S H (upd H1 a o) := ⟨fun b u hb h => up_k (e.get b u hb h) (fun z => (n b (by rw [z]; exact List.mem_singleton.mpr rfl)).elim hb (fun z => by rw [z] at h; cases h)), fun b h => e.dom b (upd_none h)⟩
theorem ni_nil : x ∉ ([] : List Addr) := fun z => nomatch z
theorem ni_cons (n : x ≠ y) (m : x ∉ S) : x ∉ y :: S := fun z => (List.mem_cons.mp z).elim n m
theorem ni_app {S2 : List Addr} (n : x ∉ S) (m : x ∉ S2) : x ∉ S ++ S2 := fun z => (List.mem_append.mp z).elim n m
theorem ni_new (h : H x = some u) (n : ∀ y ∈ S, H y = none) : x ∉ S := fun z => by
  rw [n x z] at h
  cases h
theorem exts_get (e : ExtS S H H') (n : x ∉ S) (h : H x = some u) : H' x = some u := e.get _ _ n h
theorem exts_none (e : ExtS S H H') (h : H' x = none) : H x = none := e.dom x h
theorem mem_hd : x ∈ x :: S := List.mem_cons_self
theorem mem_tl (h : x ∈ S) : x ∈ y :: S := List.mem_cons_of_mem _ h
theorem scr_exts (e : ExtS S H H') (n : ∀ y ∈ S, Thw H y) (h : Scr K H a xs) : Scr K H' a xs := h.frz fun b o u hb => e.get b _ (fun z => n b z o u hb) hb
theorem all_nil {P : Addr → Prop} : ∀ y ∈ ([] : List Addr), P y := fun _ z => nomatch z
theorem all_cons {P : Addr → Prop} (h : P x) (t : ∀ y ∈ S, P y) : ∀ y ∈ x :: S, P y := fun y hy => by
  rcases List.mem_cons.mp hy with rfl | hy
  · exact h
  · exact t y hy
theorem thw_none (h : H x = none) : Thw H x := fun o u z => by rw [h] at z; cases z
theorem sq_exts (e : ExtS S H H') (n : a ∉ S) (h : H a = some (.lst xs)) : SqL K H' a xs := SqL.of (e.get _ _ n h)
end
end G

/-! rows of lists of integers; more steps -/
namespace G
open PySem PySem.Spec PyProof.Rows L2
/-- the lists at these addresses -/
def Rows (H : Hp) (as : List Addr) (ms : List (List Int)) : Prop := as.length = ms.length ∧ ∀ (i : Nat) (a : Addr) (m : List Int), as[i]? = some a → ms[i]? = some m → H a = some (.lst (m.map V.int))
section
variable {K : PySem.W.Frag} {H H1 H' : Hp} {a b p q x y : Addr} {o u o' : HO} {xs zs : List V} {S S' as bs : List Addr} {ms : List (List Int)} {m : List Int} {Q : VK} {σ : L2.St} {i j k : Int}
theorem Rows.nil : Rows H [] [] := ⟨rfl, fun i a m h => by simp at h⟩
theorem Rows.at (h : Rows H as ms) {i : Nat} (hi : i < ms.length) : ∃ (a : Addr) (m : List Int), as[i]? = some a ∧ ms[i]? = some m ∧ H a = some (.lst (m.map V.int)) := by
  have h2 : i < as.length := by rw [h.1]; exact hi
  exact ⟨as[i], ms[i], List.getElem?_eq_getElem h2, List.getElem?_eq_getElem hi, h.2 i _ _ (List.getElem?_eq_getElem h2) (List.getElem?_eq_getElem hi)⟩
theorem Rows.mem (h : Rows H as ms) (ha : a ∈ as) : ∃ m : List Int, H a = some (.lst (m.map V.int)) := by
  obtain ⟨i, hi, e⟩ := List.mem_iff_getElem.mp ha
  obtain ⟨a', m, h1, h2, h3⟩ := h.at (i := i) (by rw [← h.1]; exact hi)
  rw [List.getElem?_eq_getElem hi, e] at h1
  cases h1
  exact ⟨m, h3⟩
theorem Rows.ext (h : Rows H as ms) (e : Ext H H') : Rows H' as ms := ⟨h.1, fun i a m h1 h2 => e _ _ (h.2 i a m h1 h2)⟩
theorem Rows.exts (h : Rows H as ms) (e : ExtS S H H') (n : ∀ a ∈ as, a ∉ S) : Rows H' as ms := ⟨h.1, fun i a m h1 h2 => e.get _ _ (n a (List.mem_of_getElem? h1)) (h.2 i a m h1 h2)⟩
theorem Rows.snoc (h : Rows H as ms) (h1 : H a = Option.some (.lst (m.map V.int))) : Rows H (as ++ [a]) (ms ++ [m]) := by
  refine ⟨by rw [List.length_append, List.length_append, h.1]; rfl, fun i b m' hb hm => ?_⟩
  by_cases hi : i < as.length
  · rw [List.getElem?_append_left hi] at hb
    rw [List.getElem?_append_left (by rw [← h.1]; exact hi)] at hm
    exact h.2 i b m' hb hm
  · rw [List.getElem?_append_right (by omega)] at hb
    rw [List.getElem?_append_right (by rw [← h.1]; omega), ← h.1] at hm
    have e : i - as.length = 0 := by
      have := (List.getElem?_eq_some_iff.mp hb).1
      simp at this
      omega
    rw [e] at hb hm
    cases hb
    cases hm
    exact h1
theorem Rows.new (h : Rows H as ms) (n : H x = none) : Rows (upd H x o) as ms := h.ext (ext_up n Ext.rfl')
theorem Rows.put (h : Rows H as ms) (n : x ∉ as) : Rows (upd H x o) as ms := ⟨h.1, fun i a m h1 h2 => up_k (h.2 i a m h1 h2) fun z => n (by rw [← z]; exact List.mem_of_getElem? h1)⟩
theorem Rows.no (h : Rows H as ms) (n : H x = none) : x ∉ as := fun z => by
  obtain ⟨m, e⟩ := h.mem z
  rw [n] at e
  cases e
theorem Rows.noi (h : Rows H as ms) {C dx : Addr} {fs : List (Str × V)} (n : H x = some (.ins C dx fs)) : x ∉ as := fun z => by
  obtain ⟨m, e⟩ := h.mem z
  rw [n] at e
  cases e
theorem nodup_snoc (h : as.Nodup) (n : x ∉ as) : (as ++ [x]).Nodup := List.nodup_append.mpr ⟨h, by simp, fun a ha b hb => by
  rw [List.mem_singleton.mp hb]
  intro z
  rw [z] at ha
  exact n ha⟩
theorem mem_snoc {P : Addr → Prop} (h : ∀ a ∈ as, P a) (n : P x) : ∀ a ∈ as ++ [x], P a := fun a ha => (List.mem_append.mp ha).elim (h a) fun z => by
  rw [List.mem_singleton.mp z]
  exact n
theorem ni_snoc (h : y ∉ as) (n : y ≠ x) : y ∉ as ++ [x] := fun z => (List.mem_append.mp z).elim h fun z => n (List.mem_singleton.mp z)
theorem Rows.take (h : Rows H as ms) (n : Nat) : Rows H (as.take n) (ms.take n) := ⟨by rw [List.length_take, List.length_take, h.1], fun i a m h1 h2 => by
  rw [List.getElem?_take] at h1 h2
  by_cases hi : i < n
  · rw [if_pos hi] at h1 h2
    exact h.2 i a m h1 h2
  · rw [if_neg hi] at h1
    cases h1⟩
theorem Rows.drop (h : Rows H as ms) (n : Nat) : Rows H (as.drop n) (ms.drop n) := ⟨by rw [List.length_drop, List.length_drop, h.1], fun i a m h1 h2 => by
  rw [List.getElem?_drop] at h1 h2
  exact h.2 _ a m h1 h2⟩
theorem w_sum {ns : List Int} {a : Addr} (h : SqL K H a (ns.map V.int)) (q : Q (.int ns.sum) H) : rSum K [.ref a] H Q := ⟨a, ns, rfl, h, q⟩
theorem w_extend {l b : Addr} (h1 : H l = some (.lst xs)) (h2 : H b = some (.lst zs)) (hz : xs.length + zs.length ≤ sizeLine) (q : Q .non (upd H l (.lst (xs ++ zs)))) : rExtend (.ref l) [.ref b] H Q := ⟨l, b, xs, zs, rfl, rfl, h1, h2, hz, q⟩
theorem w_rep {l : Addr} (h1 : H l = some (.lst xs)) (h0 : 0 ≤ k) (hk : k < 4611686018427387904) (hz : xs.length * k.toNat ≤ sizeLine) (q : ∀ p, H p = none → Q (.ref p) (upd H p (.lst (List.replicate k.toNat xs).flatten))) : rRep (.ref l) (.int k) H Q :=
  ⟨l, k, xs, rfl, rfl, h1, by omega, by omega, hz, q⟩
theorem w_intb {c : Bool} (q : Q (.int (if c then 1 else 0)) H) : gInt1 [.bl c] H Q := .inr ⟨c, rfl, q⟩
theorem w_tryas {tb : WX → TS} {c : Value} {n : Nat} {ts : Addr → Value → Option Addr → TS} {Wout : WX} {D : Ends} (h : tb (wAs K c n ts Wout D) D σ H) : (fun D σ H => (fun W1 : WX => tb W1) (wAs K c n ts Wout D) D σ H) D σ H := h
/-- while, the test's reading told by a fact of monotony -/
theorem w_while {c : TT} {tb : TS} {D : Ends} (Pv : L2.St → Hp → Prop) (μ : L2.St → Hp → Nat) (h0 : Pv σ H)
    (hs : ∀ σ H, Pv σ H → c σ H fun b H1 => if b = true then tb { D with nx := fun σ' H' => Pv σ' H' ∧ μ σ' H' < μ σ H, ct := fun σ' H' => Pv σ' H' ∧ μ σ' H' < μ σ H, bk := D.nx } σ H1 else D.nx σ H1)
    (mono : ∀ σ H Q Q', (∀ b H1, Q b H1 → Q' b H1) → c σ H Q → c σ H Q') : tWhile c tb D σ H := while_by Pv μ h0 hs mono
end
theorem small16 {n : Nat} (h : n ≤ 16000000) : n ≤ sizeLine := Nat.le_trans h (by decide)
theorem small16l {n : Nat} (h : n < 16000000) : n < sizeLine := Nat.lt_of_lt_of_le h (by decide)
theorem map_inj_int {xs ys : List Int} (h : xs.map V.int = ys.map V.int) : xs = ys := by
  induction xs generalizing ys with
  | nil => cases ys with
    | nil => rfl
    | cons y ys => simp at h
  | cons x xs ih => cases ys with
    | nil => simp at h
    | cons y ys =>
      simp only [List.map_cons, List.cons.injEq, V.int.injEq] at h
      rw [h.1, ih h.2]
theorem atI_int {L : List Int} {a : Nat} (h : a < L.length) {k : Int} (e : k = (a : Int)) : atI (L.map V.int) k = some (V.int (L.getD a 0)) := at_of e (by
  rw [List.getElem?_map, List.getElem?_eq_getElem h, List.getD_eq_getElem?_getD, List.getElem?_eq_getElem h]
  rfl)
theorem atI_ref {L : List Addr} {a : Nat} {r : Addr} (h : L[a]? = some r) {k : Int} (e : k = (a : Int)) : atI (L.map V.ref) k = some (V.ref r) := at_of e (by rw [List.getElem?_map, h]; rfl)
end G

namespace K39
open PySem PySem.Spec PyProof.Rows L2 G

def top (i : Nat) : Stmt := PySem.Challenge.pw_throughway_k39_messages.main.body.getD i (.Pass ⟨0, 0, 0, 0⟩)

abbrev s_frame_message : Stmt := top 6
abbrev N_frame_message : List Str := ["octets"]
abbrev P_frame_message : List Str := ["octets"]

theorem sc_frame_message : FnScope N_frame_message P_frame_message (defScope s_frame_message) := ⟨rfl, rfl, rfl, by decide +kernel, rfl, by decide +kernel, by decide +kernel⟩

abbrev D_frame_message : He.DefD := ⟨("frame_message", none), "frame_message", "frame_message", defArgs s_frame_message, defBody s_frame_message, defScope s_frame_message, [], []⟩

abbrev s_Messages_init : Stmt := inClass (top 7) 0
abbrev N_Messages_init : List Str := ["self"]
abbrev P_Messages_init : List Str := ["self"]

theorem sc_Messages_init : FnScope N_Messages_init P_Messages_init (defScope s_Messages_init) := ⟨rfl, rfl, rfl, by decide +kernel, rfl, by decide +kernel, by decide +kernel⟩

abbrev D_Messages_init : He.DefD := ⟨("Messages", some "__init__"), "__init__", "Messages.__init__", defArgs s_Messages_init, defBody s_Messages_init, defScope s_Messages_init, [], []⟩

abbrev s_Messages_pending : Stmt := inClass (top 7) 1
abbrev N_Messages_pending : List Str := ["self"]
abbrev P_Messages_pending : List Str := ["self"]

theorem sc_Messages_pending : FnScope N_Messages_pending P_Messages_pending (defScope s_Messages_pending) := ⟨rfl, rfl, rfl, by decide +kernel, rfl, by decide +kernel, by decide +kernel⟩

abbrev D_Messages_pending : He.DefD := ⟨("Messages", some "pending"), "pending", "Messages.pending", defArgs s_Messages_pending, defBody s_Messages_pending, defScope s_Messages_pending, [], []⟩

abbrev s_Messages_feed : Stmt := inClass (top 7) 2
abbrev N_Messages_feed : List Str := ["self", "octets", "messages", "at", "size"]
abbrev P_Messages_feed : List Str := ["self", "octets"]

theorem sc_Messages_feed : FnScope N_Messages_feed P_Messages_feed (defScope s_Messages_feed) := ⟨rfl, rfl, rfl, by decide +kernel, rfl, by decide +kernel, by decide +kernel⟩

abbrev D_Messages_feed : He.DefD := ⟨("Messages", some "feed"), "feed", "Messages.feed", defArgs s_Messages_feed, defBody s_Messages_feed, defScope s_Messages_feed, [], []⟩

abbrev s_Messages_size_at : Stmt := inClass (top 7) 3
abbrev N_Messages_size_at : List Str := ["self", "at", "size"]
abbrev P_Messages_size_at : List Str := ["self", "at"]

theorem sc_Messages_size_at : FnScope N_Messages_size_at P_Messages_size_at (defScope s_Messages_size_at) := ⟨rfl, rfl, rfl, by decide +kernel, rfl, by decide +kernel, by decide +kernel⟩

abbrev D_Messages_size_at : He.DefD := ⟨("Messages", some "_size_at"), "_size_at", "Messages._size_at", defArgs s_Messages_size_at, defBody s_Messages_size_at, defScope s_Messages_size_at, [], []⟩

abbrev s_law_cell : Stmt := top 9
abbrev N_law_cell : List Str := ["script", "k"]
abbrev P_law_cell : List Str := ["script", "k"]

theorem sc_law_cell : FnScope N_law_cell P_law_cell (defScope s_law_cell) := ⟨rfl, rfl, rfl, by decide +kernel, rfl, by decide +kernel, by decide +kernel⟩

abbrev D_law_cell : He.DefD := ⟨("_law_cell", none), "_law_cell", "_law_cell", defArgs s_law_cell, defBody s_law_cell, defScope s_law_cell, [], []⟩

abbrev s_law_is_integer : Stmt := top 10
abbrev N_law_is_integer : List Str := ["told"]
abbrev P_law_is_integer : List Str := ["told"]

theorem sc_law_is_integer : FnScope N_law_is_integer P_law_is_integer (defScope s_law_is_integer) := ⟨rfl, rfl, rfl, by decide +kernel, rfl, by decide +kernel, by decide +kernel⟩

abbrev D_law_is_integer : He.DefD := ⟨("_law_is_integer", none), "_law_is_integer", "_law_is_integer", defArgs s_law_is_integer, defBody s_law_is_integer, defScope s_law_is_integer, [], []⟩

abbrev s_law_start : Stmt := top 11
abbrev N_law_start : List Str := ["cell", "k", "prime", "mixed", "number", "turn"]
abbrev P_law_start : List Str := ["cell", "k"]

theorem sc_law_start : FnScope N_law_start P_law_start (defScope s_law_start) := ⟨rfl, rfl, rfl, by decide +kernel, rfl, by decide +kernel, by decide +kernel⟩

abbrev D_law_start : He.DefD := ⟨("_law_start", none), "_law_start", "_law_start", defArgs s_law_start, defBody s_law_start, defScope s_law_start, [], []⟩

abbrev s_law_digit : Stmt := top 12
abbrev N_law_digit : List Str := ["state", "many", "digit"]
abbrev P_law_digit : List Str := ["state", "many"]

theorem sc_law_digit : FnScope N_law_digit P_law_digit (defScope s_law_digit) := ⟨rfl, rfl, rfl, by decide +kernel, rfl, by decide +kernel, by decide +kernel⟩

abbrev D_law_digit : He.DefD := ⟨("_law_digit", none), "_law_digit", "_law_digit", defArgs s_law_digit, defBody s_law_digit, defScope s_law_digit, [], []⟩

abbrev s_law_message : Stmt := top 13
abbrev N_law_message : List Str := ["state", "many", "size", "base", "k"]
abbrev P_law_message : List Str := ["state", "many"]

theorem sc_law_message : FnScope N_law_message P_law_message (defScope s_law_message) := ⟨rfl, rfl, rfl, by decide +kernel, rfl, by decide +kernel, by decide +kernel⟩

abbrev D_law_message : He.DefD := ⟨("_law_message", none), "_law_message", "_law_message", defArgs s_law_message, defBody s_law_message, defScope s_law_message, [], []⟩

abbrev s_law_whole : Stmt := top 14
abbrev N_law_whole : List Str := ["messages", "count", "told", "at", "message"]
abbrev P_law_whole : List Str := ["messages", "count"]

theorem sc_law_whole : FnScope N_law_whole P_law_whole (defScope s_law_whole) := ⟨rfl, rfl, rfl, by decide +kernel, rfl, by decide +kernel, by decide +kernel⟩

abbrev D_law_whole : He.DefD := ⟨("_law_whole", none), "_law_whole", "_law_whole", defArgs s_law_whole, defBody s_law_whole, defScope s_law_whole, [], []⟩

abbrev s_law_same : Stmt := top 15
abbrev N_law_same : List Str := ["told", "due", "k", "octet"]
abbrev P_law_same : List Str := ["told", "due"]

theorem sc_law_same : FnScope N_law_same P_law_same (defScope s_law_same) := ⟨rfl, rfl, rfl, by decide +kernel, rfl, by decide +kernel, by decide +kernel⟩

abbrev D_law_same : He.DefD := ⟨("_law_same", none), "_law_same", "_law_same", defArgs s_law_same, defBody s_law_same, defScope s_law_same, [], []⟩

abbrev s_law_too_long : Stmt := top 16
abbrev N_law_too_long : List Str := ["state", "e"]
abbrev P_law_too_long : List Str := ["state"]

theorem sc_law_too_long : FnScope N_law_too_long P_law_too_long (defScope s_law_too_long) := ⟨rfl, rfl, rfl, by decide +kernel, rfl, by decide +kernel, by decide +kernel⟩

abbrev D_law_too_long : He.DefD := ⟨("_law_too_long", none), "_law_too_long", "_law_too_long", defArgs s_law_too_long, defBody s_law_too_long, defScope s_law_too_long, [], []⟩

abbrev s_law : Stmt := top 17
abbrev N_law : List Str := ["script", "state", "many", "messages", "octets", "k", "message", "given", "told", "end", "reader", "at", "size", "part", "before", "due", "left"]
abbrev P_law : List Str := ["script"]

theorem sc_law : FnScope N_law P_law (defScope s_law) := ⟨rfl, rfl, rfl, by decide +kernel, rfl, by decide +kernel, by decide +kernel⟩

abbrev D_law : He.DefD := ⟨("law", none), "law", "law", defArgs s_law, defBody s_law, defScope s_law, [], []⟩

abbrev fn : List He.DefD := [D_frame_message, D_Messages_init, D_Messages_feed, D_Messages_size_at, D_law_cell, D_law_is_integer, D_law_start, D_law_digit, D_law_message, D_law_whole, D_law_same, D_law_too_long, D_law]

abbrev fa : List He.Fa := [.exm "InvalidAmount" "InvalidAmount" true, .free "len", .int "MOST_OCTETS" 65535, .exc "InvalidAmount", .glo "InvalidAmount", .free "list", .free "int", .free "isinstance", .free "bool", .free "range", .glo "ThroughwayError", .glo "InvalidFrame", .free "min", .free "sum", .glo "frame_message", .glo "Messages", .mkr "Messages", .cls "Messages", .meth "Messages" "feed", .meth "Messages" "_size_at", .glo "_law_cell", .glo "_law_is_integer", .glo "_law_start", .glo "_law_digit", .glo "_law_message", .glo "_law_whole", .glo "_law_same", .glo "_law_too_long", .glo "law", .noat "Messages" "_waiting"]

abbrev pr : List Pr := [⟨"Messages", "pending", D_Messages_pending⟩]
abbrev ex : List Ex := [(excCB "InvalidAmount"), (kitOB "InvalidAmount" "ThroughwayError" true), (kitOB "InvalidAmount" "InvalidFrame" false)]
abbrev TX (K : PySem.W.Frag) (mg : Str → Option Value) (base : Heap) : Prop := TxB fa fn pr ex K mg base

section
variable {K : PySem.W.Frag} {mg : Str → Option Value} {base : Heap}

theorem cl_Messages (T : TX K mg base) : Cls K (He.ga K "Messages") := T.cls 17

theorem na_Messages__waiting (T : TX K mg base) : NoAttr K (He.ga K "Messages") "_waiting" := T.noat 29

/-- the attributes of a Messages, in the order of its __init__ -/
abbrev fMessages (x0 : V) : List (Str × V) := [("_waiting", x0)]

theorem lk_Messages__waiting {x0 : V} : (fMessages x0).lookup ("_waiting" : Str) = some x0 := by kernel_rfl

theorem pt_Messages__waiting {x0 y : V} : putF "_waiting" y (fMessages x0) = fMessages y := by kernel_rfl

theorem pn_Messages__waiting { y : V} : putF "_waiting" y ([] : List (Str × V)) = ([("_waiting", y)] : List (Str × V)) := by kernel_rfl

theorem ln_Messages_pending {x0 : V} : (fMessages x0).lookup ("pending" : Str) = none := by kernel_rfl

theorem ln_Messages_feed {x0 : V} : (fMessages x0).lookup ("feed" : Str) = none := by kernel_rfl

theorem ln_Messages__size_at {x0 : V} : (fMessages x0).lookup ("_size_at" : Str) = none := by kernel_rfl

end
end K39

namespace K39
open PySem PySem.Spec PyProof.Rows L2 G
abbrev cM (K : PySem.W.Frag) : Addr := He.ga K "Messages"
abbrev eA (K : PySem.W.Frag) : Value := .ref (He.ga K "InvalidAmount")
abbrev oM (K : PySem.W.Frag) (dx w : Addr) : HO := .ins (cM K) dx (fMessages (.ref w))
/-- a message's octets on the way -/
def fr (m : List Int) : List Int := (m.length : Int) / 256 :: (m.length : Int) % 256 :: m
def enc : List (List Int) → List Int
  | [] => []
  | m :: r => fr m ++ enc r
def sizeAt (L : List Int) (a : Nat) : Option Int := if L.length < a + 2 then none else if (L.length : Int) < a + 2 + (L.getD a 0 * 256 + L.getD (a + 1) 0) then none else some (L.getD a 0 * 256 + L.getD (a + 1) 0)
def oV : Option Int → V
  | none => .non
  | some s => .int s
inductive Parse (L : List Int) : Nat → List (List Int) → Nat → Prop
  | stop {a : Nat} (h : sizeAt L a = none) : Parse L a [] a
  | step {a s e : Nat} {ms : List (List Int)} (h : sizeAt L a = some (s : Int)) (t : Parse L (a + 2 + s) ms e) : Parse L a ((L.drop (a + 2)).take s :: ms) e
/-- how many messages lie wholly in the first c octets -/
def J : List (List Int) → Nat → Nat
  | [], _ => 0
  | m :: r, c => if m.length + 2 ≤ c then 1 + J r (c - (m.length + 2)) else 0
abbrev sp_law_cell := gsCell
abbrev sp_law_start := gsStart
abbrev sp_law_digit := gsDigit
abbrev sp_law_is_integer := gsIsInt
def sp_frame_message (K : PySem.W.Frag) : Sp := fun vs H Q E => ∃ (a : Addr) (xs : List Int), vs = [.ref a] ∧ SqL K H a (xs.map V.int) ∧ xs.length ≤ 1000000 ∧ (65535 < xs.length → E (eA K) none H) ∧
  (xs.length ≤ 65535 → ∀ p H', H p = none → Ext H H' → H' p = some (.lst ((fr xs).map V.int)) → Q (.ref p) H')
def sp_Messages_init (K : PySem.W.Frag) : Sp := fun vs H Q _ => ∃ (p dx : Addr), vs = [.ref p] ∧ H p = some (.ins (cM K) dx []) ∧ ∀ w, H w = none → Q .non (upd (upd H w (.lst [])) p (oM K dx w))
def sp_Messages_pending (K : PySem.W.Frag) : Sp := fun vs H Q _ => ∃ (p dx w : Addr) (ws : List Int), vs = [.ref p] ∧ H p = some (oM K dx w) ∧ H w = some (.lst (ws.map V.int)) ∧ Q (.int (ws.length : Int)) H
def sp_Messages_size_at (K : PySem.W.Frag) : Sp := fun vs H Q _ => ∃ (p dx w : Addr) (L : List Int) (a : Nat), vs = [.ref p, .int (a : Int)] ∧ H p = some (oM K dx w) ∧ H w = some (.lst (L.map V.int)) ∧ Q (oV (sizeAt L a)) H
def sp_Messages_feed (K : PySem.W.Frag) : Sp := fun vs H Q _ => ∃ (p dx w x : Addr) (ws xs : List Int) (ms : List (List Int)) (e : Nat), vs = [.ref p, .ref x] ∧ H p = some (oM K dx w) ∧ H w = some (.lst (ws.map V.int)) ∧ H x = some (.lst (xs.map V.int)) ∧ x ≠ w ∧ ws.length + xs.length ≤ 1000000 ∧
  Parse (ws ++ xs) 0 ms e ∧ ms.length ≤ 1000 ∧ ∀ H' t (as : List Addr) w', ExtS [p, w] H H' → H t = none → (∀ a ∈ as, H a = none) → as.Nodup → t ∉ as → H w' = none → H' t = some (.lst (as.map V.ref)) → Rows H' as ms → H' p = some (oM K dx w') → H' w' = some (.lst (((ws ++ xs).drop e).map V.int)) → w' ∉ as → Q (.ref t) H'
def sp_law_message (K : PySem.W.Frag) : Sp := fun vs H Q _ => ∃ (s : Addr) (n m : Int), vs = [.ref s, .int m] ∧ H s = some (.lst [.int n]) ∧ 0 < m ∧ m < 1000000 ∧
  ∀ (xs : List Int) n' p H', ExtP s H H' → H' s = some (.lst [.int n']) → H p = none → H' p = some (.lst (xs.map V.int)) → (xs.length : Int) < m → Q (.ref p) H'
def sp_law_whole (K : PySem.W.Frag) : Sp := fun vs H Q _ => ∃ (l : Addr) (rs : List Addr) (ms : List (List Int)) (c : Nat), vs = [.ref l, .int (c : Int)] ∧ H l = some (.lst (rs.map V.ref)) ∧ Rows H rs ms ∧ ms.length ≤ 1000 ∧
  ∀ t H', H t = none → Ext H H' → H' t = some (.lst ((rs.take (J ms c)).map V.ref)) → Q (.ref t) H'
def sp_law_same (K : PySem.W.Frag) : Sp := fun vs H Q _ => ∃ (t d : Addr) (as bs : List Addr) (ms : List (List Int)), vs = [.ref t, .ref d] ∧ H t = some (.lst (as.map V.ref)) ∧ H d = some (.lst (bs.map V.ref)) ∧ Rows H as ms ∧ Rows H bs ms ∧ as.Nodup ∧ t ∉ as ∧ d ∉ as ∧ (∀ b ∈ bs, b ∉ as) ∧
  ms.length ≤ 1000 ∧ (∀ m ∈ ms, m.length ≤ 100000) ∧ ∀ H', ExtS as H H' → Q (.bl true) H'
def sp_law_too_long (K : PySem.W.Frag) : Sp := fun vs H Q _ => ∃ (s : Addr) (n : Int), vs = [.ref s] ∧ H s = some (.lst [.int n]) ∧ ∀ H', Q (.bl true) H'
def sp_law (K : PySem.W.Frag) : Sp := fun vs H Q _ => ∃ (a : Addr) (ns : List Int), vs = [.ref a] ∧ Scr K H a (ns.map V.int) ∧ ∀ H', Q (.bl true) H'
theorem law_start {K : PySem.W.Frag} {H : Hp} {a : Addr} {ns : List Int} {E : XK} (hl : ns.length ≤ 63) (hb : ∀ z ∈ ns, Builtin.Int.intBits z ≤ 1048576) (hO : Only H) (hS : SqL K H a (ns.map V.int)) :
    sp_law K [.ref a] H (fun v _ => v = .bl true) E := ⟨a, ns, rfl, .of hO hS, fun _ => rfl⟩
/-! the same as steps -/
section
variable {K : PySem.W.Frag} {H : Hp} {Q : VK} {E : XK} {p w dx s a : Addr} {n m : Int} {xs ws : List Int}
theorem c_frame (h : SqL K H a (xs.map V.int)) (hl : xs.length ≤ 65535) (k : ∀ p H', H p = none → Ext H H' → H' p = some (.lst ((fr xs).map V.int)) → Q (.ref p) H') : sp_frame_message K [.ref a] H Q E :=
  ⟨a, xs, rfl, h, by omega, fun z => absurd hl (by omega), fun _ => k⟩
theorem c_pending (h : H p = some (oM K dx w)) (h2 : H w = some (.lst (ws.map V.int))) (k : Q (.int (ws.length : Int)) H) : sp_Messages_pending K [.ref p] H Q E := ⟨p, dx, w, ws, rfl, h, h2, k⟩
theorem c_message (h : H s = some (.lst [.int n])) (h0 : 0 < m) (h1 : m < 1000000) (k : ∀ (xs : List Int) n' p H', ExtP s H H' → H' s = some (.lst [.int n']) → H p = none → H' p = some (.lst (xs.map V.int)) → (xs.length : Int) < m → Q (.ref p) H') : sp_law_message K [.ref s, .int m] H Q E :=
  ⟨s, n, m, rfl, h, h0, h1, k⟩
end
end K39
namespace K39
open G
/-! plain mathematics -/
theorem fr_len (m : List Int) : (fr m).length = m.length + 2 := rfl
theorem enc_app : ∀ a b : List (List Int), enc (a ++ b) = enc a ++ enc b
  | [], b => rfl
  | m :: a, b => by
    show fr m ++ enc (a ++ b) = fr m ++ enc a ++ enc b
    rw [enc_app a b, List.append_assoc]
theorem getD_app_right (P L : List Int) (a : Nat) : (P ++ L).getD (P.length + a) 0 = L.getD a 0 := by
  rw [List.getD_eq_getElem?_getD, List.getD_eq_getElem?_getD, List.getElem?_append_right (by omega)]
  congr 2
  omega
theorem sizeAt_shift (P L : List Int) (a : Nat) : sizeAt (P ++ L) (P.length + a) = sizeAt L a := by
  unfold sizeAt
  have e : P.length + a + 1 = P.length + (a + 1) := by omega
  rw [e, getD_app_right, getD_app_right, List.length_append]
  by_cases h : L.length < a + 2
  · rw [if_pos h, if_pos (by omega)]
  · rw [if_neg h, if_neg (by omega)]
    by_cases h2 : (L.length : Int) < a + 2 + (L.getD a 0 * 256 + L.getD (a + 1) 0)
    · rw [if_pos h2, if_pos (by omega)]
    · rw [if_neg h2, if_neg (by omega)]
theorem sizeAt_fr (m R : List Int) : sizeAt (fr m ++ R) 0 = some (m.length : Int) := by
  have e : (fr m ++ R).getD 0 0 * 256 + (fr m ++ R).getD (0 + 1) 0 = (m.length : Int) := by
    show (m.length : Int) / 256 * 256 + (m.length : Int) % 256 = _
    omega
  unfold sizeAt
  rw [e, List.length_append, fr_len, if_neg (by omega), if_neg (by omega)]
theorem parse_enc : ∀ (ms : List (List Int)) (P T : List Int), sizeAt T 0 = none → Parse (P ++ (enc ms ++ T)) P.length ms (P.length + (enc ms).length)
  | [], P, T, h => .stop (by
    have := sizeAt_shift P T 0
    exact this.trans h)
  | m :: r, P, T, h => by
    have ih := parse_enc r (P ++ fr m) T h
    have e1 : P ++ (enc (m :: r) ++ T) = (P ++ fr m) ++ (enc r ++ T) := by
      show P ++ ((fr m ++ enc r) ++ T) = _
      simp only [List.append_assoc]
    have e2 : (P ++ (enc (m :: r) ++ T)).drop (P.length + 2) = m ++ (enc r ++ T) := by
      rw [e1, ← List.drop_drop, List.append_assoc, List.drop_left]
      rfl
    have e3 : ((P ++ (enc (m :: r) ++ T)).drop (P.length + 2)).take m.length = m := by rw [e2, List.take_left]
    have e4 : P.length + 2 + m.length = (P ++ fr m).length := by rw [List.length_append, fr_len]; omega
    have e5 : P.length + (enc (m :: r)).length = (P ++ fr m).length + (enc r).length := by
      show P.length + (fr m ++ enc r).length = _
      rw [List.length_append, List.length_append]
      omega
    have h1 : sizeAt (P ++ (enc (m :: r) ++ T)) P.length = some (m.length : Int) := by
      have z := sizeAt_shift P (enc (m :: r) ++ T) 0
      rw [Nat.add_zero] at z
      rw [z]
      show sizeAt ((fr m ++ enc r) ++ T) 0 = _
      rw [List.append_assoc]
      exact sizeAt_fr m _
    have z := Parse.step (s := m.length) h1 (by rw [e4, e1]; exact ih)
    rw [e3] at z
    rw [e5]
    exact z
theorem J_le : ∀ (ms : List (List Int)) (c : Nat), J ms c ≤ ms.length
  | [], _ => Nat.le_refl _
  | m :: r, c => by
    unfold J
    split
    · have := J_le r (c - (m.length + 2))
      rw [List.length_cons]
      omega
    · omega
theorem J_mono : ∀ (ms : List (List Int)) (c d : Nat), c ≤ d → J ms c ≤ J ms d
  | [], _, _, _ => Nat.le_refl _
  | m :: r, c, d, h => by
    have := J_mono r (c - (m.length + 2)) (d - (m.length + 2)) (by omega)
    unfold J
    split
    · rw [if_pos (by omega)]
      omega
    · omega
theorem J_iff : ∀ (ms : List (List Int)) (c i : Nat), i < ms.length → ((enc (ms.take (i + 1))).length ≤ c ↔ i < J ms c)
  | [], _, _, h => absurd h (Nat.not_lt_zero _)
  | m :: r, c, 0, _ => by
    have e : (enc ((m :: r).take (0 + 1))).length = m.length + 2 := by
      show (fr m ++ enc (r.take 0)).length = _
      rw [List.take_zero]
      show (fr m ++ []).length = _
      rw [List.append_nil, fr_len]
    rw [e]
    unfold J
    split <;> omega
  | m :: r, c, i + 1, h => by
    have ih := J_iff r (c - (m.length + 2)) i (by rw [List.length_cons] at h; omega)
    have e : (enc ((m :: r).take (i + 1 + 1))).length = m.length + 2 + (enc (r.take (i + 1))).length := by
      show (fr m ++ enc (r.take (i + 1))).length = _
      rw [List.length_append, fr_len]
    rw [e]
    unfold J
    split <;> omega
theorem split_at : ∀ (ms : List (List Int)) (c : Nat), ∃ T, (enc ms).take c = enc (ms.take (J ms c)) ++ T ∧ sizeAt T 0 = none
  | [], c => ⟨[], by simp [enc, J], rfl⟩
  | m :: r, c => by
    by_cases h : m.length + 2 ≤ c
    · obtain ⟨T, e, z⟩ := split_at r (c - (m.length + 2))
      refine ⟨T, ?_, z⟩
      have e2 : J (m :: r) c = J r (c - (m.length + 2)) + 1 := by
        rw [J, if_pos h, Nat.add_comm]
      rw [e2]
      show (fr m ++ enc r).take c = fr m ++ enc (r.take _) ++ T
      rw [List.take_append, fr_len, e, List.take_of_length_le (by rw [fr_len]; exact h), List.append_assoc]
    · have e2 : J (m :: r) c = 0 := by rw [J, if_neg h]
      rw [e2]
      refine ⟨(fr m).take c, ?_, ?_⟩
      · show (fr m ++ enc r).take c = _
        rw [List.take_append_of_le_length (by rw [fr_len]; omega)]
        rfl
      · match c, h with
        | 0, _ => rfl
        | 1, _ => rfl
        | c + 2, h =>
          have hl : ((fr m).take (c + 2)).length = c + 2 := by rw [List.length_take, fr_len]; omega
          have e : ((fr m).take (c + 2)).getD 0 0 * 256 + ((fr m).take (c + 2)).getD (0 + 1) 0 = (m.length : Int) := by
            show (m.length : Int) / 256 * 256 + (m.length : Int) % 256 = _
            omega
          unfold sizeAt
          rw [e, hl, if_neg (by omega), if_pos (by omega)]
/-- what a part more brings -/
theorem feed_more {ms : List (List Int)} {c d : Nat} (h : c ≤ d) {T T' : List Int} (e : (enc ms).take c = enc (ms.take (J ms c)) ++ T) (e' : (enc ms).take d = enc (ms.take (J ms d)) ++ T') :
    T ++ ((enc ms).drop c).take (d - c) = enc ((ms.take (J ms d)).drop (J ms c)) ++ T' := by
  have hj := J_mono ms c d h
  have a1 : (enc ms).take d = (enc ms).take c ++ ((enc ms).drop c).take (d - c) := by
    have z := List.take_add (l := enc ms) (i := c) (j := d - c)
    rw [Nat.add_sub_cancel' h] at z
    exact z
  have a2 : ms.take (J ms d) = ms.take (J ms c) ++ (ms.take (J ms d)).drop (J ms c) := by
    have z := List.take_append_drop (J ms c) (ms.take (J ms d))
    rw [List.take_take, Nat.min_eq_left hj] at z
    exact z.symm
  rw [e, List.append_assoc, e', a2, enc_app, List.append_assoc] at a1
  exact (List.append_cancel_left a1).symm
theorem enc_sum : ∀ ms : List (List Int), (ms.map fun m => (m.length : Int) + 2).sum = ((enc ms).length : Int)
  | [] => rfl
  | m :: r => by
    rw [List.map_cons, List.sum_cons, enc_sum r]
    show _ = ((fr m ++ enc r).length : Int)
    rw [List.length_append, fr_len]
    omega
theorem enc_small : ∀ (ms : List (List Int)) (B : Nat), (∀ m ∈ ms, m.length ≤ B) → (enc ms).length ≤ ms.length * (B + 2)
  | [], B, _ => by simp [enc]
  | m :: r, B, h => by
    have ih := enc_small r B fun x hx => h x (List.mem_cons_of_mem _ hx)
    have h1 := h m List.mem_cons_self
    show (fr m ++ enc r).length ≤ _
    rw [List.length_append, fr_len, List.length_cons, Nat.succ_mul]
    omega
end K39

namespace K39
open PySem PySem.Spec PyProof.Rows L2 G

/-- frame_message -/
def t_frame_message (K : PySem.W.Frag) (E : XK) : TS :=
  (tSeq (tIfS (tTest (tOp gGt (tCB (gLen K) (tCons (tVar 0) tNil)) (tC (.int 65535))))
  (tRs (He.ga K "InvalidAmount") (wB E))
  tNext)
  (tRet (tOp rCat (tLst (tCons (tOp gDiv (tCB (gLen K) (tCons (tVar 0) tNil)) (tC (.int 256))) (tCons (tOp gMod (tCB (gLen K) (tCons (tVar 0) tNil)) (tC (.int 256))) tNil))) (tCB (gListOf K) (tCons (tVar 0) tNil)))))

/-- Messages.__init__ -/
def t_Messages_init (K : PySem.W.Frag) (E : XK) : TS :=
  (sFld K (tVar 0) (tLst tNil) "_waiting")

/-- Messages.pending -/
def t_Messages_pending (K : PySem.W.Frag) (E : XK) : TS :=
  (tRet (tCB (gLen K) (tCons (tFld K (tVar 0) "_waiting") tNil)))

/-- Messages.feed -/
def t_Messages_feed (K : PySem.W.Frag) (E : XK) : TS :=
  (tSeq (tDrop (tBM K "list" rExtend (tFld K (tVar 0) "_waiting") (tCons (tVar 1) tNil)))
  (tSeq (tAsg (tLst tNil) (gName 2))
  (tSeq (tAsg (tC (.int 0)) (gName 3))
  (tSeq (tAsg (tMt (He.ga K "Messages") "_size_at" (sp_Messages_size_at K) (WE (wB E)) (tVar 0) (tCons (tVar 3) tNil)) (gName 4))
  (tSeq (tWhile (tTest (tOp rNotN (tVar 4) (tC .non)))
  (tSeq (tDrop (tBM K "list" rAppend (tVar 2) (tCons (tSl (rSlL K) (tFld K (tVar 0) "_waiting") (tPart (tOp gAdd (tVar 3) (tC (.int 2)))) (tPart (tOp gAdd (tOp gAdd (tVar 3) (tC (.int 2))) (tVar 4)))) tNil)))
  (tSeq (tAug 3 (tOp gAdd (tC (.int 2)) (tVar 4)) (ipI fun i j => i + j))
  (tAsg (tMt (He.ga K "Messages") "_size_at" (sp_Messages_size_at K) (WE (wB E)) (tVar 0) (tCons (tVar 3) tNil)) (gName 4)))))
  (tSeq (sFld K (tVar 0) (tSl (rSlL K) (tFld K (tVar 0) "_waiting") (tPart (tVar 3)) tNoPart) "_waiting")
  (tRet (tVar 2))))))))

/-- Messages._size_at -/
def t_Messages_size_at (K : PySem.W.Frag) (E : XK) : TS :=
  (tSeq (tIfS (tTest (tOp gLt (tCB (gLen K) (tCons (tFld K (tVar 0) "_waiting") tNil)) (tOp gAdd (tVar 1) (tC (.int 2)))))
  (tRet (tC .non))
  tNext)
  (tSeq (tAsg (tOp gAdd (tOp gMul (tOp (rIxL K) (tFld K (tVar 0) "_waiting") (tVar 1)) (tC (.int 256))) (tOp (rIxL K) (tFld K (tVar 0) "_waiting") (tOp gAdd (tVar 1) (tC (.int 1))))) (gName 2))
  (tSeq (tIfS (tTest (tOp gLt (tCB (gLen K) (tCons (tFld K (tVar 0) "_waiting") tNil)) (tOp gAdd (tOp gAdd (tVar 1) (tC (.int 2))) (tVar 2))))
  (tRet (tC .non))
  tNext)
  (tRet (tVar 2)))))

/-- _law_cell -/
def t_law_cell (K : PySem.W.Frag) (E : XK) : TS :=
  (tSeq (tIfS (tTest (tOp gLt (tVar 1) (tCB (gLen K) (tCons (tVar 0) tNil))))
  (tRet (tOp (rIxL K) (tVar 0) (tVar 1)))
  tNext)
  (tRet (tC (.int 0))))

/-- _law_is_integer -/
def t_law_is_integer (K : PySem.W.Frag) (E : XK) : TS :=
  (tRet (tAndV (tCB (rIsi K) (tCons (tVar 0) (tCons (tC (.ty "int")) tNil))) (tNotV (tCB (rIsi K) (tCons (tVar 0) (tCons (tC (.ty "bool")) tNil))))))

/-- _law_start -/
def t_law_start (K : PySem.W.Frag) (E : XK) : TS :=
  (tSeq (tAsg (tC (.int 618970019642690137449562111)) (gName 2))
  (tSeq (tIfS (tTest (tChain gLt gLt (tUn gNeg (tC (.int 1000000000000000000))) (tVar 0) (tC (.int 1000000000000000000))))
  (tSeq (tAsg (tOp gMod (tCB gInt1 (tCons (tOp gAdd (tOp gMul (tVar 0) (tC (.int 2654435761))) (tOp gMul (tOp gAdd (tVar 1) (tC (.int 1))) (tC (.int 6700417)))) tNil)) (tVar 2)) (gName 3))
  (tSeq (tAsg (tC (.int 0)) (gName 4))
  (tSeq (tFor (iRng1 (tCons (tC (.int 4)) tNil)) (gName 5)
  (tSeq (tAsg (tOp gMod (tCB gInt1 (tCons (tOp gAdd (tOp gAdd (tOp gAdd (tOp gMulW (tVar 3) (tVar 3)) (tOp gMul (tC (.int 7)) (tVar 3))) (tVar 1)) (tVar 5)) tNil)) (tVar 2)) (gName 3))
  (tAsg (tOp gAdd (tOp gMulW (tVar 4) (tVar 2)) (tVar 3)) (gName 4))))
  (tRet (tLst (tCons (tVar 4) tNil))))))
  tNext)
  (tRet (tLst (tCons (tVar 0) tNil)))))

/-- _law_digit -/
def t_law_digit (K : PySem.W.Frag) (E : XK) : TS :=
  (tSeq (tAsg (tOp gMod (tCB gInt1 (tCons (tOp (rIxL K) (tVar 0) (tC (.int 0))) tNil)) (tVar 1)) (gName 2))
  (tSeq (tAsg (tOp gDivW (tOp (rIxL K) (tVar 0) (tC (.int 0))) (tVar 1)) (gSub (tVar 0) (tC (.int 0)) rSetL))
  (tRet (tVar 2))))

/-- _law_message -/
def t_law_message (K : PySem.W.Frag) (E : XK) : TS :=
  (tSeq (tAsg (tCallS (sp_law_digit K) (WE (wB E)) (tCons (tVar 0) (tCons (tVar 1) tNil))) (gName 2))
  (tSeq (tAsg (tCallS (sp_law_digit K) (WE (wB E)) (tCons (tVar 0) (tCons (tC (.int 256)) tNil))) (gName 3))
  (tRet (tLc (iRng1 (tCons (tVar 2) tNil)) (gName 4) tYes (tOp gMod (tCB gInt1 (tCons (tOp gAdd (tOp gAdd (tVar 3) (tOp gMul (tC (.int 3)) (tVar 4))) (tOp gDiv (tVar 4) (tC (.int 7)))) tNil)) (tC (.int 256))) [4]))))

/-- _law_whole -/
def t_law_whole (K : PySem.W.Frag) (E : XK) : TS :=
  (tSeq (tAsg (tLst tNil) (gName 2))
  (tSeq (tAsg (tC (.int 0)) (gName 3))
  (tSeq (tFor (iList K (tVar 0)) (gName 4)
  (tSeq (tAsg (tOp gAdd (tOp gAdd (tVar 3) (tC (.int 2))) (tCB (gLen K) (tCons (tVar 4) tNil))) (gName 3))
  (tIfS (tTest (tOp gLe (tVar 3) (tVar 1)))
  (tDrop (tBM K "list" rAppend (tVar 2) (tCons (tVar 4) tNil)))
  tNext)))
  (tRet (tVar 2)))))

/-- _law_same -/
def t_law_same (K : PySem.W.Frag) (E : XK) : TS :=
  (tSeq (tIfS (tOr (tNot (tB (tCB (rIsi K) (tCons (tVar 0) (tCons (tC (.ty "list")) tNil))))) (tTest (tOp rNe (tCB (gLen K) (tCons (tVar 0) tNil)) (tCB (gLen K) (tCons (tVar 1) tNil)))))
  (tRet (tC (.bl false)))
  tNext)
  (tSeq (tFor (iRng1 (tCons (tCB (gLen K) (tCons (tVar 1) tNil)) tNil)) (gName 2)
  (tSeq (tIfS (tOr (tNot (tB (tCB (rIsi K) (tCons (tOp (rIxL K) (tVar 0) (tVar 2)) (tCons (tC (.ty "list")) tNil))))) (tTest (tOp (rNeD K) (tOp (rIxL K) (tVar 0) (tVar 2)) (tOp (rIxL K) (tVar 1) (tVar 2)))))
  (tRet (tC (.bl false)))
  tNext)
  (tSeq (tFor (iList K (tOp (rIxL K) (tVar 0) (tVar 2))) (gName 3)
  (tIfS (tNot (tB (tCallS (sp_law_is_integer K) (WE (wB E)) (tCons (tVar 3) tNil))))
  (tRet (tC (.bl false)))
  tNext))
  (tDrop (tBM K "list" rAppend (tOp (rIxL K) (tVar 0) (tVar 2)) (tCons (tC (.int 300)) tNil))))))
  (tRet (tC (.bl true)))))

/-- _law_too_long -/
def t_law_too_long (K : PySem.W.Frag) (E : XK) : TS :=
  (tSeq (fun D σ H => (fun W1 : WX => (tDrop (tCallS (sp_frame_message K) (WE W1) (tCons (tOp rRep (tLst (tCons (tC (.int 1)) tNil)) (tOp gAdd (tC (.int 65536)) (tCallS (sp_law_digit K) (WE W1) (tCons (tVar 0) (tCons (tC (.int 3)) tNil))))) tNil)))) (wAs K (.ref (He.ga K "InvalidAmount")) 1 (fun (aX : Addr) (clX : Value) (dX : Option Addr) => (tRet (tAndV (tCB (rIsX K aX clX dX) (tCons (tVar 1) (tCons (tC (.ref (He.ga K "ThroughwayError"))) tNil))) (tNotV (tCB (rIsX K aX clX dX) (tCons (tVar 1) (tCons (tC (.ref (He.ga K "InvalidFrame"))) tNil))))))) (wB E) D) D σ H)
  (tRet (tC (.bl false))))

/-- law -/
def t_law (K : PySem.W.Frag) (E : XK) : TS :=
  (tSeq (tAsg (tCallS (sp_law_start K) (WE (wB E)) (tCons (tCallS (sp_law_cell K) (WE (wB E)) (tCons (tVar 0) (tCons (tC (.int 0)) tNil))) (tCons (tC (.int 0)) tNil))) (gName 1))
  (tSeq (tAsg (tOp (rIxT K) (tTup (tCons (tC (.int 10)) (tCons (tC (.int 701)) tNil))) (tCB gInt1 (tCons (tOp rEq (tCallS (sp_law_digit K) (WE (wB E)) (tCons (tVar 1) (tCons (tC (.int 4)) tNil))) (tC (.int 0))) tNil))) (gName 2))
  (tSeq (tAsg (tLst tNil) (gName 3))
  (Evl.tCut (tAsg (tLst tNil) (gName 4))
  (tSeq (tFor (iRng1 (tCons (tCallS (sp_law_digit K) (WE (wB E)) (tCons (tVar 1) (tCons (tC (.int 13)) tNil))) tNil)) (gName 5)
  (tSeq (tAsg (tCallS (sp_law_message K) (WE (wB E)) (tCons (tCallS (sp_law_start K) (WE (wB E)) (tCons (tCallS (sp_law_cell K) (WE (wB E)) (tCons (tVar 0) (tCons (tOp gAdd (tC (.int 2)) (tVar 5)) tNil))) (tCons (tVar 5) tNil))) (tCons (tVar 2) tNil))) (gName 6))
  (tSeq (tAsg (tCB (gListOf K) (tCons (tVar 6) tNil)) (gName 7))
  (tSeq (tAsg (tCallS (sp_frame_message K) (WE (wB E)) (tCons (tVar 7) tNil)) (gName 8))
  (tSeq (tDrop (tBM K "list" rAppend (tVar 7) (tCons (tC (.int 1)) tNil)))
  (tSeq (tIfS (tOr (tNot (tB (tCB (rIsi K) (tCons (tVar 8) (tCons (tC (.ty "list")) tNil))))) (tTest (tOp (rNeD K) (tVar 8) (tOp rCat (tLst (tCons (tOp gDiv (tCB (gLen K) (tCons (tVar 6) tNil)) (tC (.int 256))) (tCons (tOp gMod (tCB gInt1 (tCons (tCB (gLen K) (tCons (tVar 6) tNil)) tNil)) (tC (.int 256))) tNil))) (tVar 6)))))
  (tRet (tC (.bl false)))
  tNext)
  (tSeq (tDrop (tBM K "list" rAppend (tVar 3) (tCons (tVar 6) tNil)))
  (tAsg (tOp rCat (tVar 4) (tVar 8)) (gName 4)))))))))
  (tSeq (tAsg (tCB (gLen K) (tCons (tVar 4) tNil)) (gName 9))
  (Evl.tCut (tIfS (tTest (tOp rEq (tCallS (sp_law_digit K) (WE (wB E)) (tCons (tVar 1) (tCons (tC (.int 3)) tNil))) (tC (.int 0))))
  (tAsg (tCallS (sp_law_digit K) (WE (wB E)) (tCons (tVar 1) (tCons (tOp gAdd (tCB (gLen K) (tCons (tVar 4) tNil)) (tC (.int 1))) tNil))) (gName 9))
  tNext)
  (tSeq (tAsg (tMk (He.ga K "Messages") (sp_Messages_init K) (WE (wB E)) tNil) (gName 10))
  (tSeq (tAsg (tCallS (sp_law_start K) (WE (wB E)) (tCons (tCallS (sp_law_cell K) (WE (wB E)) (tCons (tVar 0) (tCons (tC (.int 1)) tNil))) (tCons (tC (.int 1)) tNil))) (gName 1))
  (Evl.tCut (tAsg (tC (.int 0)) (gName 11))
  (tSeq (tFor (iRng1 (tCons (tC (.int 21)) tNil)) (gName 5)
  (tSeq (tAsg (tCallS (sp_law_digit K) (WE (wB E)) (tCons (tVar 1) (tCons (tOp (rIxT K) (tTup (tCons (tC (.int 3)) (tCons (tC (.int 9)) (tCons (tOp gAdd (tOp gMinus (tVar 9) (tVar 11)) (tC (.int 1))) tNil)))) (tCallS (sp_law_digit K) (WE (wB E)) (tCons (tVar 1) (tCons (tC (.int 3)) tNil)))) tNil))) (gName 12))
  (Evl.tCut (tIfS (tTest (tOp rEq (tVar 5) (tC (.int 20))))
  (tAsg (tOp gMinus (tVar 9) (tVar 11)) (gName 12))
  tNext)
  (tSeq (tAsg (tSl (rSlL K) (tVar 4) (tPart (tVar 11)) (tPart (tCB gMin2 (tCons (tOp gAdd (tVar 11) (tVar 12)) (tCons (tVar 9) tNil))))) (gName 13))
  (tSeq (tAsg (tCallS (sp_law_whole K) (WE (wB E)) (tCons (tVar 3) (tCons (tVar 11) tNil))) (gName 14))
  (tSeq (tAsg (tOp gAdd (tVar 11) (tCB (gLen K) (tCons (tVar 13) tNil))) (gName 11))
  (tSeq (tAsg (tSl (rSlL K) (tCallS (sp_law_whole K) (WE (wB E)) (tCons (tVar 3) (tCons (tVar 11) tNil))) (tPart (tCB (gLen K) (tCons (tVar 14) tNil))) tNoPart) (gName 15))
  (tSeq (tAsg (tMt (He.ga K "Messages") "feed" (sp_Messages_feed K) (WE (wB E)) (tVar 10) (tCons (tVar 13) tNil)) (gName 8))
  (tSeq (tDrop (tBM K "list" rAppend (tVar 13) (tCons (tC (.int 5)) tNil)))
  (tSeq (tAsg (tOp gMinus (tVar 11) (tCB (rSum K) (tCons (tLc (iList K (tCallS (sp_law_whole K) (WE (wB E)) (tCons (tVar 3) (tCons (tVar 11) tNil)))) (gName 6) tYes (tOp gAdd (tCB (gLen K) (tCons (tVar 6) tNil)) (tC (.int 2))) [6]) tNil))) (gName 16))
  (tIfS (tOr (tNot (tB (tCallS (sp_law_same K) (WE (wB E)) (tCons (tVar 8) (tCons (tVar 15) tNil))))) (tOr (tNot (tB (tCallS (sp_law_is_integer K) (WE (wB E)) (tCons (tPr (He.ga K "Messages") (sp_Messages_pending K) (tVar 10)) tNil)))) (tTest (tOp rNe (tPr (He.ga K "Messages") (sp_Messages_pending K) (tVar 10)) (tVar 16)))))
  (tRet (tC (.bl false)))
  tNext)))))))))))
  (tRet (tOrV (tOp gGt (tCallS (sp_law_digit K) (WE (wB E)) (tCons (tVar 1) (tCons (tC (.int 8)) tNil))) (tC (.int 0))) (tCallS (sp_law_too_long K) (WE (wB E)) (tCons (tVar 1) tNil)))))))))))))))

end K39

namespace K39
open PySem PySem.Spec PyProof.Rows L2 G
section
variable {P : Program} {w : World} {K : PySem.W.Frag} {mg : Str → Option Value} {base : Heap}

theorem d_frame_message (T : TX K mg base)  {cdv : Value} {A : Around} {outer : List Env} {s : Shared} {H : Hp} {E : XK} (hr : Room 0 (A.deeper (envOfC "frame_message" (defScope s_frame_message) s.heap.objs.size (He.ga K "frame_message") cdv))) :
    PSs (cxOf (L2.CX P w) P w K mg base N_frame_message "frame_message" (defScope s_frame_message) (He.ga K "frame_message") cdv A outer s H E) (defBody s_frame_message) (t_frame_message K E) := by
  have tk : Takes (cxOf (L2.CX P w) P w K mg base N_frame_message "frame_message" (defScope s_frame_message) (He.ga K "frame_message") cdv A outer s H E) (wB E) := takes_of rfl rfl rfl rfl
  exact (pss_cons (ps_if (pt_cmpR op_gt (pe_callB call_len (by rfl) (T.free 1) PySem.boot_len (pa_cons (pv 0) pa_nil)) (pe_gint rfl (T.int 2)) (nomark _))
  (pss_one (ps_rs rfl tk (T.exc 3 4) rfl))
  pss_nil)
  (pss_one (ps_ret (pe_op op_cat (pe_lst (pa_cons (pe_op op_fdiv (pe_callB call_len (by rfl) (T.free 1) PySem.boot_len (pa_cons (pv 0) pa_nil)) pe_int) (pa_cons (pe_op op_mod (pe_callB call_len (by rfl) (T.free 1) PySem.boot_len (pa_cons (pv 0) pa_nil)) pe_int) pa_nil))) (pe_callTy call_list_of (by rfl) (T.free 5) (by decide +kernel) (pa_cons (pv 0) pa_nil))))))

theorem d_Messages_init (T : TX K mg base)  {cdv : Value} {A : Around} {outer : List Env} {s : Shared} {H : Hp} {E : XK} (hr : Room 0 (A.deeper (envOfC "Messages.__init__" (defScope s_Messages_init) s.heap.objs.size (He.ma K (He.ga K "Messages") "__init__") cdv))) :
    PSs (cxOf (L2.CX P w) P w K mg base N_Messages_init "Messages.__init__" (defScope s_Messages_init) (He.ma K (He.ga K "Messages") "__init__") cdv A outer s H E) (defBody s_Messages_init) (t_Messages_init K E) := by
  have tk : Takes (cxOf (L2.CX P w) P w K mg base N_Messages_init "Messages.__init__" (defScope s_Messages_init) (He.ma K (He.ga K "Messages") "__init__") cdv A outer s H E) (wB E) := takes_of rfl rfl rfl rfl
  exact (pss_one (ps_fld (pv 0) (pe_lst pa_nil) rfl))

theorem d_Messages_pending (T : TX K mg base)  {cdv : Value} {A : Around} {outer : List Env} {s : Shared} {H : Hp} {E : XK} (hr : Room 0 (A.deeper (envOfC "Messages.pending" (defScope s_Messages_pending) s.heap.objs.size (prA K "Messages" "pending") cdv))) :
    PSs (cxOf (L2.CX P w) P w K mg base N_Messages_pending "Messages.pending" (defScope s_Messages_pending) (prA K "Messages" "pending") cdv A outer s H E) (defBody s_Messages_pending) (t_Messages_pending K E) := by
  have tk : Takes (cxOf (L2.CX P w) P w K mg base N_Messages_pending "Messages.pending" (defScope s_Messages_pending) (prA K "Messages" "pending") cdv A outer s H E) (wB E) := takes_of rfl rfl rfl rfl
  exact (pss_one (ps_ret (pe_callB call_len (by rfl) (T.free 1) PySem.boot_len (pa_cons (pe_fld (pv 0) rfl) pa_nil))))

theorem d_Messages_feed (T : TX K mg base) (h_Messages_size_at : HasM P w K mg base 1 "Messages" "_size_at" P_Messages_size_at (sp_Messages_size_at K)) {cdv : Value} {A : Around} {outer : List Env} {s : Shared} {H : Hp} {E : XK} (hr : Room 1 (A.deeper (envOfC "Messages.feed" (defScope s_Messages_feed) s.heap.objs.size (He.ma K (He.ga K "Messages") "feed") cdv))) :
    PSs (cxOf (L2.CX P w) P w K mg base N_Messages_feed "Messages.feed" (defScope s_Messages_feed) (He.ma K (He.ga K "Messages") "feed") cdv A outer s H E) (defBody s_Messages_feed) (t_Messages_feed K E) := by
  have tk : Takes (cxOf (L2.CX P w) P w K mg base N_Messages_feed "Messages.feed" (defScope s_Messages_feed) (He.ma K (He.ga K "Messages") "feed") cdv A outer s H E) (wB E) := takes_of rfl rfl rfl rfl
  have po : PassesOwn (model P w) (cxOf (L2.CX P w) P w K mg base N_Messages_feed "Messages.feed" (defScope s_Messages_feed) (He.ma K (He.ga K "Messages") "feed") cdv A outer s H E).A (cxOf (L2.CX P w) P w K mg base N_Messages_feed "Messages.feed" (defScope s_Messages_feed) (He.ma K (He.ga K "Messages") "feed") cdv A outer s H E).env (cxOf (L2.CX P w) P w K mg base N_Messages_feed "Messages.feed" (defScope s_Messages_feed) (He.ma K (He.ga K "Messages") "feed") cdv A outer s H E).xe := passes_of rfl
  exact (pss_cons (ps_expr (pe_bm PySem.F.plainAttrs_list PySem.F.slot_list_extend PySem.F.type_list_extend mt_extend (pe_fld (pv 0) rfl) (pa_cons (pv 1) pa_nil)))
  (pss_cons (ps_set (i := 2) sc_Messages_feed.nd rfl (Or.inl rfl) (pe_lst pa_nil))
  (pss_cons (ps_set (i := 3) sc_Messages_feed.nd rfl (Or.inl rfl) pe_int)
  (pss_cons (ps_set (i := 4) sc_Messages_feed.nd rfl (Or.inl rfl) (pe_m (pv 0) h_Messages_size_at (hr.mono (by decide)) (fun σ => passAt tk σ) (pa_cons (pv 3) pa_nil)))
  (pss_cons (ps_while po (pt_cmpR op_notN1 (pv 4) pe_non (nomark _))
  (pss_cons (ps_expr (pe_bm PySem.F.plainAttrs_list PySem.F.slot_list_append PySem.F.type_list_append mt_append (pv 2) (pa_cons (pe_slice sl_list (pe_fld (pv 0) rfl) (po_some (pe_op op_add (pv 3) pe_int)) (po_some (pe_op op_add (pe_op op_add (pv 3) pe_int) (pv 4)))) pa_nil)))
  (pss_cons (ps_aug (i := 3) sc_Messages_feed.nd rfl (Or.inl rfl) (pe_op op_add pe_int (pv 4)) ip_add)
  (pss_one (ps_set (i := 4) sc_Messages_feed.nd rfl (Or.inl rfl) (pe_m (pv 0) h_Messages_size_at (hr.mono (by decide)) (fun σ => passAt tk σ) (pa_cons (pv 3) pa_nil)))))))
  (pss_cons (ps_fld (pv 0) (pe_slice sl_list (pe_fld (pv 0) rfl) (po_some (pv 3)) po_none) rfl)
  (pss_one (ps_ret (pv 2)))))))))

theorem d_Messages_size_at (T : TX K mg base)  {cdv : Value} {A : Around} {outer : List Env} {s : Shared} {H : Hp} {E : XK} (hr : Room 0 (A.deeper (envOfC "Messages._size_at" (defScope s_Messages_size_at) s.heap.objs.size (He.ma K (He.ga K "Messages") "_size_at") cdv))) :
    PSs (cxOf (L2.CX P w) P w K mg base N_Messages_size_at "Messages._size_at" (defScope s_Messages_size_at) (He.ma K (He.ga K "Messages") "_size_at") cdv A outer s H E) (defBody s_Messages_size_at) (t_Messages_size_at K E) := by
  have tk : Takes (cxOf (L2.CX P w) P w K mg base N_Messages_size_at "Messages._size_at" (defScope s_Messages_size_at) (He.ma K (He.ga K "Messages") "_size_at") cdv A outer s H E) (wB E) := takes_of rfl rfl rfl rfl
  exact (pss_cons (ps_if (pt_cmpR op_lt (pe_callB call_len (by rfl) (T.free 1) PySem.boot_len (pa_cons (pe_fld (pv 0) rfl) pa_nil)) (pe_op op_add (pv 1) pe_int) (nomark _))
  (pss_one (ps_ret pe_non))
  pss_nil)
  (pss_cons (ps_set (i := 2) sc_Messages_size_at.nd rfl (Or.inl rfl) (pe_op op_add (pe_op op_mul (pe_ix ix_list (pe_fld (pv 0) rfl) (pv 1) (fun _ _ => rfl)) pe_int) (pe_ix ix_list (pe_fld (pv 0) rfl) (pe_op op_add (pv 1) pe_int) (fun _ _ => rfl))))
  (pss_cons (ps_if (pt_cmpR op_lt (pe_callB call_len (by rfl) (T.free 1) PySem.boot_len (pa_cons (pe_fld (pv 0) rfl) pa_nil)) (pe_op op_add (pe_op op_add (pv 1) pe_int) (pv 2)) (nomark _))
  (pss_one (ps_ret pe_non))
  pss_nil)
  (pss_one (ps_ret (pv 2))))))

theorem d_law_cell (T : TX K mg base)  {cdv : Value} {A : Around} {outer : List Env} {s : Shared} {H : Hp} {E : XK} (hr : Room 0 (A.deeper (envOfC "_law_cell" (defScope s_law_cell) s.heap.objs.size (He.ga K "_law_cell") cdv))) :
    PSs (cxOf (L2.CX P w) P w K mg base N_law_cell "_law_cell" (defScope s_law_cell) (He.ga K "_law_cell") cdv A outer s H E) (defBody s_law_cell) (t_law_cell K E) := by
  have tk : Takes (cxOf (L2.CX P w) P w K mg base N_law_cell "_law_cell" (defScope s_law_cell) (He.ga K "_law_cell") cdv A outer s H E) (wB E) := takes_of rfl rfl rfl rfl
  exact (pss_cons (ps_if (pt_cmpR op_lt (pv 1) (pe_callB call_len (by rfl) (T.free 1) PySem.boot_len (pa_cons (pv 0) pa_nil)) (nomark _))
  (pss_one (ps_ret (pe_ix ix_list (pv 0) (pv 1) (fun _ _ => rfl))))
  pss_nil)
  (pss_one (ps_ret pe_int)))

theorem d_law_is_integer (T : TX K mg base)  {cdv : Value} {A : Around} {outer : List Env} {s : Shared} {H : Hp} {E : XK} (hr : Room 0 (A.deeper (envOfC "_law_is_integer" (defScope s_law_is_integer) s.heap.objs.size (He.ga K "_law_is_integer") cdv))) :
    PSs (cxOf (L2.CX P w) P w K mg base N_law_is_integer "_law_is_integer" (defScope s_law_is_integer) (He.ga K "_law_is_integer") cdv A outer s H E) (defBody s_law_is_integer) (t_law_is_integer K E) := by
  have tk : Takes (cxOf (L2.CX P w) P w K mg base N_law_is_integer "_law_is_integer" (defScope s_law_is_integer) (He.ga K "_law_is_integer") cdv A outer s H E) (wB E) := takes_of rfl rfl rfl rfl
  exact (pss_one (ps_ret (pe_and (pe_callB call_isi (by rfl) (T.free 7) (by decide +kernel) (pa_cons (pv 0) (pa_cons (pe_bltn (v := .ty "int") rfl (T.free 6) (by decide +kernel) rfl) pa_nil))) (pe_one (pe_not (pe_callB call_isi (by rfl) (T.free 7) (by decide +kernel) (pa_cons (pv 0) (pa_cons (pe_bltn (v := .ty "bool") rfl (T.free 8) (by decide +kernel) rfl) pa_nil))))))))

theorem d_law_start (T : TX K mg base)  {cdv : Value} {A : Around} {outer : List Env} {s : Shared} {H : Hp} {E : XK} (hr : Room 0 (A.deeper (envOfC "_law_start" (defScope s_law_start) s.heap.objs.size (He.ga K "_law_start") cdv))) :
    PSs (cxOf (L2.CX P w) P w K mg base N_law_start "_law_start" (defScope s_law_start) (He.ga K "_law_start") cdv A outer s H E) (defBody s_law_start) (t_law_start K E) := by
  have tk : Takes (cxOf (L2.CX P w) P w K mg base N_law_start "_law_start" (defScope s_law_start) (He.ga K "_law_start") cdv A outer s H E) (wB E) := takes_of rfl rfl rfl rfl
  have po : PassesOwn (model P w) (cxOf (L2.CX P w) P w K mg base N_law_start "_law_start" (defScope s_law_start) (He.ga K "_law_start") cdv A outer s H E).A (cxOf (L2.CX P w) P w K mg base N_law_start "_law_start" (defScope s_law_start) (He.ga K "_law_start") cdv A outer s H E).env (cxOf (L2.CX P w) P w K mg base N_law_start "_law_start" (defScope s_law_start) (He.ga K "_law_start") cdv A outer s H E).xe := passes_of rfl
  exact (pss_cons (ps_set (i := 2) sc_law_start.nd rfl (Or.inl rfl) pe_int)
  (pss_cons (ps_if (pt_chain op_lt op_lt (pe_un un_neg pe_int) (pv 0) pe_int)
  (pss_cons (ps_set (i := 3) sc_law_start.nd rfl (Or.inl rfl) (pe_op op_mod (pe_callTy call_int1 (by rfl) (T.free 6) (by decide +kernel) (pa_cons (pe_op op_add (pe_op op_mul (pv 0) pe_int) (pe_op op_mul (pe_op op_add (pv 1) pe_int) pe_int)) pa_nil)) (pv 2)))
  (pss_cons (ps_set (i := 4) sc_law_start.nd rfl (Or.inl rfl) pe_int)
  (pss_cons (ps_for po rfl (pi_range1 rfl (T.free 9) (pa_cons pe_int pa_nil)) (pg_name (i := 5) sc_law_start.nd rfl (Or.inl rfl))
  (pss_cons (ps_set (i := 3) sc_law_start.nd rfl (Or.inl rfl) (pe_op op_mod (pe_callTy call_int1 (by rfl) (T.free 6) (by decide +kernel) (pa_cons (pe_op op_add (pe_op op_add (pe_op op_add (pe_op op_mulW (pv 3) (pv 3)) (pe_op op_mul pe_int (pv 3))) (pv 1)) (pv 5)) pa_nil)) (pv 2)))
  (pss_one (ps_set (i := 4) sc_law_start.nd rfl (Or.inl rfl) (pe_op op_add (pe_op op_mulW (pv 4) (pv 2)) (pv 3))))))
  (pss_one (ps_ret (pe_lst (pa_cons (pv 4) pa_nil)))))))
  pss_nil)
  (pss_one (ps_ret (pe_lst (pa_cons (pv 0) pa_nil))))))

theorem d_law_digit (T : TX K mg base)  {cdv : Value} {A : Around} {outer : List Env} {s : Shared} {H : Hp} {E : XK} (hr : Room 0 (A.deeper (envOfC "_law_digit" (defScope s_law_digit) s.heap.objs.size (He.ga K "_law_digit") cdv))) :
    PSs (cxOf (L2.CX P w) P w K mg base N_law_digit "_law_digit" (defScope s_law_digit) (He.ga K "_law_digit") cdv A outer s H E) (defBody s_law_digit) (t_law_digit K E) := by
  have tk : Takes (cxOf (L2.CX P w) P w K mg base N_law_digit "_law_digit" (defScope s_law_digit) (He.ga K "_law_digit") cdv A outer s H E) (wB E) := takes_of rfl rfl rfl rfl
  exact (pss_cons (ps_set (i := 2) sc_law_digit.nd rfl (Or.inl rfl) (pe_op op_mod (pe_callTy call_int1 (by rfl) (T.free 6) (by decide +kernel) (pa_cons (pe_ix ix_list (pv 0) pe_int (fun _ _ => rfl)) pa_nil)) (pv 1)))
  (pss_cons (ps_asg (pe_op op_fdivW (pe_ix ix_list (pv 0) pe_int (fun _ _ => rfl)) (pv 1)) (pg_sub (pv 0) pe_int set_list))
  (pss_one (ps_ret (pv 2)))))

theorem d_law_message (T : TX K mg base) (h_law_digit : Has P w K mg base 1 "_law_digit" P_law_digit (sp_law_digit K)) {cdv : Value} {A : Around} {outer : List Env} {s : Shared} {H : Hp} {E : XK} (hr : Room 1 (A.deeper (envOfC "_law_message" (defScope s_law_message) s.heap.objs.size (He.ga K "_law_message") cdv))) :
    PSs (cxOf (L2.CX P w) P w K mg base N_law_message "_law_message" (defScope s_law_message) (He.ga K "_law_message") cdv A outer s H E) (defBody s_law_message) (t_law_message K E) := by
  have tk : Takes (cxOf (L2.CX P w) P w K mg base N_law_message "_law_message" (defScope s_law_message) (He.ga K "_law_message") cdv A outer s H E) (wB E) := takes_of rfl rfl rfl rfl
  exact (pss_cons (ps_set (i := 2) sc_law_message.nd rfl (Or.inl rfl) (pe_h h_law_digit (hr.mono (by decide)) rfl (fun σ => passAt tk σ) (pa_cons (pv 0) (pa_cons (pv 1) pa_nil))))
  (pss_cons (ps_set (i := 3) sc_law_message.nd rfl (Or.inr rfl) (pe_h h_law_digit (hr.mono (by decide)) rfl (fun σ => passAt tk σ) (pa_cons (pv 0) (pa_cons pe_int pa_nil))))
  (pss_one (ps_ret (pe_lc (own := [("k", 4)]) (g := (gName 4)) (tt := tYes) rfl sc_law_message.nd (pi_range1 rfl (T.free 9) (pa_cons (pv 2) pa_nil)) (blkOk_by (own := [("k", 4)]) (N := N_law_message) (sc := defScope s_law_message) (by decide +kernel)) (fun _ _ _ _ _ => (pg_name (i := 4) sc_law_message.nd rfl (Or.inl rfl))) (fun _ _ _ _ _ => pts_nil) (fun _ _ _ _ _ => (pe_op op_mod (pe_callTy call_int1 (by rfl) (T.free 6) (by decide +kernel) (pa_cons (pe_op op_add (pe_op op_add (pv 3) (pe_op op_mul pe_int (pv 4))) (pe_op op_fdiv (pv 4) pe_int)) pa_nil)) pe_int)))))))

theorem d_law_whole (T : TX K mg base)  {cdv : Value} {A : Around} {outer : List Env} {s : Shared} {H : Hp} {E : XK} (hr : Room 0 (A.deeper (envOfC "_law_whole" (defScope s_law_whole) s.heap.objs.size (He.ga K "_law_whole") cdv))) :
    PSs (cxOf (L2.CX P w) P w K mg base N_law_whole "_law_whole" (defScope s_law_whole) (He.ga K "_law_whole") cdv A outer s H E) (defBody s_law_whole) (t_law_whole K E) := by
  have tk : Takes (cxOf (L2.CX P w) P w K mg base N_law_whole "_law_whole" (defScope s_law_whole) (He.ga K "_law_whole") cdv A outer s H E) (wB E) := takes_of rfl rfl rfl rfl
  have po : PassesOwn (model P w) (cxOf (L2.CX P w) P w K mg base N_law_whole "_law_whole" (defScope s_law_whole) (He.ga K "_law_whole") cdv A outer s H E).A (cxOf (L2.CX P w) P w K mg base N_law_whole "_law_whole" (defScope s_law_whole) (He.ga K "_law_whole") cdv A outer s H E).env (cxOf (L2.CX P w) P w K mg base N_law_whole "_law_whole" (defScope s_law_whole) (He.ga K "_law_whole") cdv A outer s H E).xe := passes_of rfl
  exact (pss_cons (ps_set (i := 2) sc_law_whole.nd rfl (Or.inl rfl) (pe_lst pa_nil))
  (pss_cons (ps_set (i := 3) sc_law_whole.nd rfl (Or.inl rfl) pe_int)
  (pss_cons (ps_for po rfl (pi_list (pv 0)) (pg_name (i := 4) sc_law_whole.nd rfl (Or.inl rfl))
  (pss_cons (ps_set (i := 3) sc_law_whole.nd rfl (Or.inl rfl) (pe_op op_add (pe_op op_add (pv 3) pe_int) (pe_callB call_len (by rfl) (T.free 1) PySem.boot_len (pa_cons (pv 4) pa_nil))))
  (pss_one (ps_if (pt_cmpR op_le (pv 3) (pv 1) (nomark _))
  (pss_one (ps_expr (pe_bm PySem.F.plainAttrs_list PySem.F.slot_list_append PySem.F.type_list_append mt_append (pv 2) (pa_cons (pv 4) pa_nil))))
  pss_nil))))
  (pss_one (ps_ret (pv 2))))))

theorem d_law_same (T : TX K mg base) (h_law_is_integer : Has P w K mg base 1 "_law_is_integer" P_law_is_integer (sp_law_is_integer K)) {cdv : Value} {A : Around} {outer : List Env} {s : Shared} {H : Hp} {E : XK} (hr : Room 1 (A.deeper (envOfC "_law_same" (defScope s_law_same) s.heap.objs.size (He.ga K "_law_same") cdv))) :
    PSs (cxOf (L2.CX P w) P w K mg base N_law_same "_law_same" (defScope s_law_same) (He.ga K "_law_same") cdv A outer s H E) (defBody s_law_same) (t_law_same K E) := by
  have tk : Takes (cxOf (L2.CX P w) P w K mg base N_law_same "_law_same" (defScope s_law_same) (He.ga K "_law_same") cdv A outer s H E) (wB E) := takes_of rfl rfl rfl rfl
  have po : PassesOwn (model P w) (cxOf (L2.CX P w) P w K mg base N_law_same "_law_same" (defScope s_law_same) (He.ga K "_law_same") cdv A outer s H E).A (cxOf (L2.CX P w) P w K mg base N_law_same "_law_same" (defScope s_law_same) (He.ga K "_law_same") cdv A outer s H E).env (cxOf (L2.CX P w) P w K mg base N_law_same "_law_same" (defScope s_law_same) (He.ga K "_law_same") cdv A outer s H E).xe := passes_of rfl
  exact (pss_cons (ps_if (PW.pt (pw_or (pt_not (pt_val (pe_callB call_isi (by rfl) (T.free 7) (by decide +kernel) (pa_cons (pv 0) (pa_cons (pe_bltn (v := .ty "list") rfl (T.free 5) (by decide +kernel) rfl) pa_nil))))) (pw_or1 (pt_cmpR op_ne (pe_callB call_len (by rfl) (T.free 1) PySem.boot_len (pa_cons (pv 0) pa_nil)) (pe_callB call_len (by rfl) (T.free 1) PySem.boot_len (pa_cons (pv 1) pa_nil)) (nomark _)))))
  (pss_one (ps_ret pe_bl))
  pss_nil)
  (pss_cons (ps_for po rfl (pi_range1 rfl (T.free 9) (pa_cons (pe_callB call_len (by rfl) (T.free 1) PySem.boot_len (pa_cons (pv 1) pa_nil)) pa_nil)) (pg_name (i := 2) sc_law_same.nd rfl (Or.inl rfl))
  (pss_cons (ps_if (PW.pt (pw_or (pt_not (pt_val (pe_callB call_isi (by rfl) (T.free 7) (by decide +kernel) (pa_cons (pe_ix ix_list (pv 0) (pv 2) (fun _ _ => rfl)) (pa_cons (pe_bltn (v := .ty "list") rfl (T.free 5) (by decide +kernel) rfl) pa_nil))))) (pw_or1 (pt_cmpR (op_neD hr.units) (pe_ix ix_list (pv 0) (pv 2) (fun _ _ => rfl)) (pe_ix ix_list (pv 1) (pv 2) (fun _ _ => rfl)) (nomark _)))))
  (pss_one (ps_ret pe_bl))
  pss_nil)
  (pss_cons (ps_for po rfl (pi_list (pe_ix ix_list (pv 0) (pv 2) (fun _ _ => rfl))) (pg_name (i := 3) sc_law_same.nd rfl (Or.inl rfl))
  (pss_one (ps_if (pt_not (pt_val (pe_h h_law_is_integer (hr.mono (by decide)) rfl (fun σ => passAt tk σ) (pa_cons (pv 3) pa_nil))))
  (pss_one (ps_ret pe_bl))
  pss_nil)))
  (pss_one (ps_expr (pe_bm PySem.F.plainAttrs_list PySem.F.slot_list_append PySem.F.type_list_append mt_append (pe_ix ix_list (pv 0) (pv 2) (fun _ _ => rfl)) (pa_cons pe_int pa_nil)))))))
  (pss_one (ps_ret pe_bl))))

theorem d_law_too_long (T : TX K mg base) (h_frame_message : Has P w K mg base 1 "frame_message" P_frame_message (sp_frame_message K)) (h_law_digit : Has P w K mg base 1 "_law_digit" P_law_digit (sp_law_digit K)) {cdv : Value} {A : Around} {outer : List Env} {s : Shared} {H : Hp} {E : XK} (hr : Room 1 (A.deeper (envOfC "_law_too_long" (defScope s_law_too_long) s.heap.objs.size (He.ga K "_law_too_long") cdv))) :
    PSs (cxOf (L2.CX P w) P w K mg base N_law_too_long "_law_too_long" (defScope s_law_too_long) (He.ga K "_law_too_long") cdv A outer s H E) (defBody s_law_too_long) (t_law_too_long K E) := by
  have tk : Takes (cxOf (L2.CX P w) P w K mg base N_law_too_long "_law_too_long" (defScope s_law_too_long) (He.ga K "_law_too_long") cdv A outer s H E) (wB E) := takes_of rfl rfl rfl rfl
  exact (pss_cons (ps_try_as (i := 1) (tb := fun W1 => (tDrop (tCallS (sp_frame_message K) (WE W1) (tCons (tOp rRep (tLst (tCons (tC (.int 1)) tNil)) (tOp gAdd (tC (.int 65536)) (tCallS (sp_law_digit K) (WE W1) (tCons (tVar 0) (tCons (tC (.int 3)) tNil))))) tNil)))) (ts := (fun (aX : Addr) (clX : Value) (dX : Option Addr) => (tRet (tAndV (tCB (rIsX K aX clX dX) (tCons (tVar 1) (tCons (tC (.ref (He.ga K "ThroughwayError"))) tNil))) (tNotV (tCB (rIsX K aX clX dX) (tCons (tVar 1) (tCons (tC (.ref (He.ga K "InvalidFrame"))) tNil)))))))) (Wout := (wB E)) rfl rfl sc_law_too_long.nd rfl rfl ⟨rfl, by decide, .inl (T.glo 4)⟩ tk (fun W1 pn xe tk1 po1 => (pss_one (ps_expr (pe_h h_frame_message (hr.mono (by decide)) rfl (fun σ => passAt tk1 σ) (pa_cons (pe_op op_rep (pe_lst (pa_cons pe_int pa_nil)) (pe_op op_add pe_int (pe_h h_law_digit (hr.mono (by decide)) rfl (fun σ => passAt tk1 σ) (pa_cons (pv 0) (pa_cons pe_int pa_nil))))) pa_nil))))) (fun aX oX clX dX pn hzX hfX => (pss_one (ps_ret (pe_and (pe_callB (call_isX hzX hfX) (by rfl) (T.free 7) (by decide +kernel) (pa_cons (pv 1) (pa_cons (pe_gref rfl (T.glo 10)) pa_nil))) (pe_one (pe_not (pe_callB (call_isX hzX hfX) (by rfl) (T.free 7) (by decide +kernel) (pa_cons (pv 1) (pa_cons (pe_gref rfl (T.glo 11)) pa_nil))))))))))
  (pss_one (ps_ret pe_bl)))

theorem d_law (T : TX K mg base) (h_law_start : Has P w K mg base 1 "_law_start" P_law_start (sp_law_start K)) (h_law_cell : Has P w K mg base 1 "_law_cell" P_law_cell (sp_law_cell K)) (h_law_digit : Has P w K mg base 1 "_law_digit" P_law_digit (sp_law_digit K)) (h_law_message : Has P w K mg base 2 "_law_message" P_law_message (sp_law_message K)) (h_frame_message : Has P w K mg base 1 "frame_message" P_frame_message (sp_frame_message K)) (h_Messages_init : HasI P w K mg base 1 "Messages" P_Messages_init (sp_Messages_init K)) (h_law_whole : Has P w K mg base 1 "_law_whole" P_law_whole (sp_law_whole K)) (h_Messages_feed : HasM P w K mg base 2 "Messages" "feed" P_Messages_feed (sp_Messages_feed K)) (h_law_same : Has P w K mg base 2 "_law_same" P_law_same (sp_law_same K)) (h_law_is_integer : Has P w K mg base 1 "_law_is_integer" P_law_is_integer (sp_law_is_integer K)) (h_Messages_pending : HasP P w K mg base 1 "Messages" "pending" P_Messages_pending (sp_Messages_pending K)) (h_law_too_long : Has P w K mg base 2 "_law_too_long" P_law_too_long (sp_law_too_long K)) {cdv : Value} {A : Around} {outer : List Env} {s : Shared} {H : Hp} {E : XK} (hr : Room 2 (A.deeper (envOfC "law" (defScope s_law) s.heap.objs.size (He.ga K "law") cdv))) :
    PSs (cxOf (L2.CX P w) P w K mg base N_law "law" (defScope s_law) (He.ga K "law") cdv A outer s H E) (defBody s_law) (t_law K E) := by
  have tk : Takes (cxOf (L2.CX P w) P w K mg base N_law "law" (defScope s_law) (He.ga K "law") cdv A outer s H E) (wB E) := takes_of rfl rfl rfl rfl
  have po : PassesOwn (model P w) (cxOf (L2.CX P w) P w K mg base N_law "law" (defScope s_law) (He.ga K "law") cdv A outer s H E).A (cxOf (L2.CX P w) P w K mg base N_law "law" (defScope s_law) (He.ga K "law") cdv A outer s H E).env (cxOf (L2.CX P w) P w K mg base N_law "law" (defScope s_law) (He.ga K "law") cdv A outer s H E).xe := passes_of rfl
  exact (pss_cons (ps_set (i := 1) sc_law.nd rfl (Or.inl rfl) (pe_h h_law_start (hr.mono (by decide)) rfl (fun σ => passAt tk σ) (pa_cons (pe_h h_law_cell (hr.mono (by decide)) rfl (fun σ => passAt tk σ) (pa_cons (pv 0) (pa_cons pe_int pa_nil))) (pa_cons pe_int pa_nil))))
  (pss_cons (ps_set (i := 2) sc_law.nd rfl (Or.inl rfl) (pe_ix ix_tup (pe_tup (pa_cons pe_int (pa_cons pe_int pa_nil))) (pe_callTy call_int1 (by rfl) (T.free 6) (by decide +kernel) (pa_cons (pe_cmpR op_eq (pe_h h_law_digit (hr.mono (by decide)) rfl (fun σ => passAt tk σ) (pa_cons (pv 1) (pa_cons pe_int pa_nil))) pe_int (nomark _)) pa_nil)) (fun _ _ => rfl)))
  (pss_cons (ps_set (i := 3) sc_law.nd rfl (Or.inl rfl) (pe_lst pa_nil))
  (Evl.pss_cut (ps_set (i := 4) sc_law.nd rfl (Or.inl rfl) (pe_lst pa_nil))
  (pss_cons (ps_for po rfl (pi_range1 rfl (T.free 9) (pa_cons (pe_h h_law_digit (hr.mono (by decide)) rfl (fun σ => passAt tk σ) (pa_cons (pv 1) (pa_cons pe_int pa_nil))) pa_nil)) (pg_name (i := 5) sc_law.nd rfl (Or.inl rfl))
  (pss_cons (ps_set (i := 6) sc_law.nd rfl (Or.inl rfl) (pe_h h_law_message (hr.mono (by decide)) rfl (fun σ => passAt tk σ) (pa_cons (pe_h h_law_start (hr.mono (by decide)) rfl (fun σ => passAt tk σ) (pa_cons (pe_h h_law_cell (hr.mono (by decide)) rfl (fun σ => passAt tk σ) (pa_cons (pv 0) (pa_cons (pe_op op_add pe_int (pv 5)) pa_nil))) (pa_cons (pv 5) pa_nil))) (pa_cons (pv 2) pa_nil))))
  (pss_cons (ps_set (i := 7) sc_law.nd rfl (Or.inl rfl) (pe_callTy call_list_of (by rfl) (T.free 5) (by decide +kernel) (pa_cons (pv 6) pa_nil)))
  (pss_cons (ps_set (i := 8) sc_law.nd rfl (Or.inl rfl) (pe_h h_frame_message (hr.mono (by decide)) rfl (fun σ => passAt tk σ) (pa_cons (pv 7) pa_nil)))
  (pss_cons (ps_expr (pe_bm PySem.F.plainAttrs_list PySem.F.slot_list_append PySem.F.type_list_append mt_append (pv 7) (pa_cons pe_int pa_nil)))
  (pss_cons (ps_if (PW.pt (pw_or (pt_not (pt_val (pe_callB call_isi (by rfl) (T.free 7) (by decide +kernel) (pa_cons (pv 8) (pa_cons (pe_bltn (v := .ty "list") rfl (T.free 5) (by decide +kernel) rfl) pa_nil))))) (pw_or1 (pt_cmpR (op_neD hr.units) (pv 8) (pe_op op_cat (pe_lst (pa_cons (pe_op op_fdiv (pe_callB call_len (by rfl) (T.free 1) PySem.boot_len (pa_cons (pv 6) pa_nil)) pe_int) (pa_cons (pe_op op_mod (pe_callTy call_int1 (by rfl) (T.free 6) (by decide +kernel) (pa_cons (pe_callB call_len (by rfl) (T.free 1) PySem.boot_len (pa_cons (pv 6) pa_nil)) pa_nil)) pe_int) pa_nil))) (pv 6)) (nomark _)))))
  (pss_one (ps_ret pe_bl))
  pss_nil)
  (pss_cons (ps_expr (pe_bm PySem.F.plainAttrs_list PySem.F.slot_list_append PySem.F.type_list_append mt_append (pv 3) (pa_cons (pv 6) pa_nil)))
  (pss_one (ps_set (i := 4) sc_law.nd rfl (Or.inl rfl) (pe_op op_cat (pv 4) (pv 8)))))))))))
  (pss_cons (ps_set (i := 9) sc_law.nd rfl (Or.inl rfl) (pe_callB call_len (by rfl) (T.free 1) PySem.boot_len (pa_cons (pv 4) pa_nil)))
  (Evl.pss_cut (ps_if (pt_cmpR op_eq (pe_h h_law_digit (hr.mono (by decide)) rfl (fun σ => passAt tk σ) (pa_cons (pv 1) (pa_cons pe_int pa_nil))) pe_int (nomark _))
  (pss_one (ps_set (i := 9) sc_law.nd rfl (Or.inl rfl) (pe_h h_law_digit (hr.mono (by decide)) rfl (fun σ => passAt tk σ) (pa_cons (pv 1) (pa_cons (pe_op op_add (pe_callB call_len (by rfl) (T.free 1) PySem.boot_len (pa_cons (pv 4) pa_nil)) pe_int) pa_nil)))))
  pss_nil)
  (pss_cons (ps_set (i := 10) sc_law.nd rfl (Or.inl rfl) (pe_i0 h_Messages_init (hr.mono (by decide)) rfl (fun σ => passAt tk σ)))
  (pss_cons (ps_set (i := 1) sc_law.nd rfl (Or.inl rfl) (pe_h h_law_start (hr.mono (by decide)) rfl (fun σ => passAt tk σ) (pa_cons (pe_h h_law_cell (hr.mono (by decide)) rfl (fun σ => passAt tk σ) (pa_cons (pv 0) (pa_cons pe_int pa_nil))) (pa_cons pe_int pa_nil))))
  (Evl.pss_cut (ps_set (i := 11) sc_law.nd rfl (Or.inl rfl) pe_int)
  (pss_cons (ps_for po rfl (pi_range1 rfl (T.free 9) (pa_cons pe_int pa_nil)) (pg_name (i := 5) sc_law.nd rfl (Or.inl rfl))
  (pss_cons (ps_set (i := 12) sc_law.nd rfl (Or.inl rfl) (pe_h h_law_digit (hr.mono (by decide)) rfl (fun σ => passAt tk σ) (pa_cons (pv 1) (pa_cons (pe_ix ix_tup (pe_tup (pa_cons pe_int (pa_cons pe_int (pa_cons (pe_op op_add (pe_op op_sub (pv 9) (pv 11)) pe_int) pa_nil)))) (pe_h h_law_digit (hr.mono (by decide)) rfl (fun σ => passAt tk σ) (pa_cons (pv 1) (pa_cons pe_int pa_nil))) (fun _ _ => rfl)) pa_nil))))
  (Evl.pss_cut (ps_if (pt_cmpR op_eq (pv 5) pe_int (nomark _))
  (pss_one (ps_set (i := 12) sc_law.nd rfl (Or.inl rfl) (pe_op op_sub (pv 9) (pv 11))))
  pss_nil)
  (pss_cons (ps_set (i := 13) sc_law.nd rfl (Or.inl rfl) (pe_slice sl_list (pv 4) (po_some (pv 11)) (po_some (pe_callB (call_min2 rfl) (by rfl) (T.free 12) (by decide +kernel) (pa_cons (pe_op op_add (pv 11) (pv 12)) (pa_cons (pv 9) pa_nil))))))
  (pss_cons (ps_set (i := 14) sc_law.nd rfl (Or.inl rfl) (pe_h h_law_whole (hr.mono (by decide)) rfl (fun σ => passAt tk σ) (pa_cons (pv 3) (pa_cons (pv 11) pa_nil))))
  (pss_cons (ps_set (i := 11) sc_law.nd rfl (Or.inl rfl) (pe_op op_add (pv 11) (pe_callB call_len (by rfl) (T.free 1) PySem.boot_len (pa_cons (pv 13) pa_nil))))
  (pss_cons (ps_set (i := 15) sc_law.nd rfl (Or.inl rfl) (pe_slice sl_list (pe_h h_law_whole (hr.mono (by decide)) rfl (fun σ => passAt tk σ) (pa_cons (pv 3) (pa_cons (pv 11) pa_nil))) (po_some (pe_callB call_len (by rfl) (T.free 1) PySem.boot_len (pa_cons (pv 14) pa_nil))) po_none))
  (pss_cons (ps_set (i := 8) sc_law.nd rfl (Or.inl rfl) (pe_m (pv 10) h_Messages_feed (hr.mono (by decide)) (fun σ => passAt tk σ) (pa_cons (pv 13) pa_nil)))
  (pss_cons (ps_expr (pe_bm PySem.F.plainAttrs_list PySem.F.slot_list_append PySem.F.type_list_append mt_append (pv 13) (pa_cons pe_int pa_nil)))
  (pss_cons (ps_set (i := 16) sc_law.nd rfl (Or.inl rfl) (pe_op op_sub (pv 11) (pe_callB (cr_sum rfl) (by rfl) (T.free 13) (by decide +kernel) (pa_cons (pe_lc (own := [("message", 6)]) (g := (gName 6)) (tt := tYes) rfl sc_law.nd (pi_list (pe_h h_law_whole (hr.mono (by decide)) rfl (fun σ => passAt tk σ) (pa_cons (pv 3) (pa_cons (pv 11) pa_nil)))) (blkOk_by (own := [("message", 6)]) (N := N_law) (sc := defScope s_law) (by decide +kernel)) (fun _ _ _ _ _ => (pg_name (i := 6) sc_law.nd rfl (Or.inl rfl))) (fun _ _ _ _ _ => pts_nil) (fun _ _ _ _ _ => (pe_op op_add (pe_callB call_len (by rfl) (T.free 1) PySem.boot_len (pa_cons (pv 6) pa_nil)) pe_int))) pa_nil))))
  (pss_one (ps_if (PW.pt (pw_or (pt_not (pt_val (pe_h h_law_same (hr.mono (by decide)) rfl (fun σ => passAt tk σ) (pa_cons (pv 8) (pa_cons (pv 15) pa_nil))))) (pw_or (pt_not (pt_val (pe_h h_law_is_integer (hr.mono (by decide)) rfl (fun σ => passAt tk σ) (pa_cons (pe_pr (pv 10) h_Messages_pending (hr.mono (by decide))) pa_nil)))) (pw_or1 (pt_cmpR op_ne (pe_pr (pv 10) h_Messages_pending (hr.mono (by decide))) (pv 16) (nomark _))))))
  (pss_one (ps_ret pe_bl))
  pss_nil))))))))))))
  (pss_one (ps_ret (pe_or (pe_cmpR op_gt (pe_h h_law_digit (hr.mono (by decide)) rfl (fun σ => passAt tk σ) (pa_cons (pv 1) (pa_cons pe_int pa_nil))) pe_int (nomark _)) (pe_one (pe_h h_law_too_long (hr.mono (by decide)) rfl (fun σ => passAt tk σ) (pa_cons (pv 1) pa_nil)))))))))))))))))

end
end K39

namespace K39
open PySem PySem.Spec PyProof.Rows L2 G
local macro_rules | `(tactic| wtm_at "g_get") => `(tactic| first
  | ((with_reducible refine' w_fld ?k1 (cl_Messages (by assumption)) (na_Messages__waiting (by assumption)) lk_Messages__waiting ?_); (case k1 => wtm_at "g_hp"))
  | fail)
local macro_rules | `(tactic| wtm_at "g_set") => `(tactic| first
  | ((with_reducible refine' w_sput ?k1 (cl_Messages (by assumption)) (na_Messages__waiting (by assumption)) pt_Messages__waiting rfl ?_); (case k1 => wtm_at "g_hp"))
  | ((with_reducible refine' w_sput ?k1 (cl_Messages (by assumption)) (na_Messages__waiting (by assumption)) pn_Messages__waiting rfl ?_); (case k1 => wtm_at "g_hp"))
  | fail)
local macro_rules | `(tactic| wtm_at "g_set2") => `(tactic| first
  | ((with_reducible refine' w_sput2 ?k1 pt_Messages__waiting rfl ?_); (case k1 => wtm_at "g_hp"))
  | fail)
local macro_rules | `(tactic| wtm_at "g_mt") => `(tactic| first
  | ((with_reducible refine' w_mt1 ?k1 ln_Messages_pending ?_); (case k1 => wtm_at "g_hp"))
  | ((with_reducible refine' w_mt1 ?k1 ln_Messages_feed ?_); (case k1 => wtm_at "g_hp"))
  | ((with_reducible refine' w_mt1 ?k1 ln_Messages__size_at ?_); (case k1 => wtm_at "g_hp"))
  | fail)
local macro_rules | `(tactic| wtm_at "g_call") => `(tactic| first
  | ((with_reducible refine' c_digit ?k1 ?k2 ?k3 ?_); (case k1 => wtm_at "g_hp"); (case k2 => omega); (case k3 => omega); intro _ _ _ _)
  | ((with_reducible refine' c_start ?_); intro _ _ _)
  | ((with_reducible refine' c_isint ?_))
  | ((with_reducible refine' c_cell ?k1 ?k2 ?_); (case k1 => wtm_at "g_sq"); (case k2 => omega); intro _)
  | ((with_reducible refine' c_pending ?k1 ?k2 ?_); (case k1 => wtm_at "g_hp"); (case k2 => wtm_at "g_hp"))
  | ((with_reducible refine' c_message ?k1 ?k2 ?k3 ?_); (case k1 => wtm_at "g_hp"); (case k2 => omega); (case k3 => omega); intro _ _ _ _ _ _ _ _ _)
  | ((with_reducible refine' w_pr1 ?k1 ?_); (case k1 => wtm_at "g_hp"))
  | fail)
local macro_rules | `(tactic| wtm_at "g_ne") => `(tactic| first
  | (with_reducible assumption) | (with_reducible exact Ne.symm (by assumption)) | (with_reducible exact ne_of_none (by assumption) (by assumption)) | (with_reducible exact (ne_of_none (by assumption) (by assumption)).symm)
  | fail)
local macro_rules | `(tactic| wtm_at "g_hp") => `(tactic| first
  | (with_reducible assumption) | (with_reducible exact upd_same) | ((with_reducible refine' up_nn ?k1 ?k2); (case k1 => with_reducible assumption); (case k2 => wtm_at "g_hp")) | ((with_reducible refine' up_k' ?k1 ?k2); (case k1 => wtm_at "g_ne"); (case k2 => wtm_at "g_hp"))
  | ((with_reducible refine' up_ko ?k1 ?k2 ?k3); (case k1 => wtm_at "g_hp"); (case k2 => wtm_at "g_hp"); (case k3 => (intro z; cases z)))
  | ((with_reducible refine' ext_get ?k1 ?k2); (case k1 => assumption); (case k2 => wtm_at "g_hp"))
  | ((with_reducible refine' extp_get ?k1 ?k2 ?k3); (case k1 => assumption); (case k2 => wtm_at "g_ne"); (case k3 => wtm_at "g_hp"))
  | ((with_reducible refine' exts_get ?k1 ?k2 ?k3); (case k1 => assumption); (case k2 => wtm_at "g_ni"); (case k3 => wtm_at "g_hp"))
  | fail)
local macro_rules | `(tactic| wtm_at "g_ni") => `(tactic| first
  | (with_reducible assumption) | (with_reducible exact ni_nil)
  | ((with_reducible refine' ni_cons ?k1 ?k2); (case k1 => wtm_at "g_ne"); (case k2 => wtm_at "g_ni"))
  | fail)
local macro_rules | `(tactic| wtm_at "g_mem") => `(tactic| first
  | (with_reducible assumption) | (with_reducible exact mem_hd)
  | ((with_reducible refine' mem_tl ?k1); (case k1 => wtm_at "g_mem"))
  | fail)
local macro_rules | `(tactic| wtm_at "g_sub") => `(tactic| first
  | (with_reducible assumption) | (with_reducible exact SubN.nil)
  | ((with_reducible refine' SubN.inn ?k1 ?k2); (case k1 => wtm_at "g_mem"); (case k2 => wtm_at "g_sub"))
  | ((with_reducible refine' SubN.new ?k1 ?k2); (case k1 => wtm_at "g_nn"); (case k2 => wtm_at "g_sub"))
  | fail)
local macro_rules | `(tactic| wtm_at "g_nn") => `(tactic| first
  | (with_reducible assumption) | ((with_reducible refine' none_up ?k1 ?k2); (case k1 => wtm_at "g_ne"); (case k2 => wtm_at "g_nn")) | ((with_reducible refine' none_dn ?k1); (case k1 => with_reducible assumption))
  | ((with_reducible refine' exts_none ?k1 ?k2); (case k1 => assumption); (case k2 => with_reducible assumption)) | ((with_reducible refine' ext_none ?k1 ?k2); (case k1 => assumption); (case k2 => with_reducible assumption))
  | fail)
local macro_rules | `(tactic| wtm_at "g_ex") => `(tactic| first
  | (with_reducible assumption) | (with_reducible exact Ext.rfl') | (with_reducible exact ExtP.rfl')
  | ((with_reducible refine' ext_up ?k1 ?k2); (case k1 => wtm_at "g_nn"); (case k2 => wtm_at "g_ex"))
  | ((with_reducible refine' ext_put ?k1 ?k2); (case k1 => wtm_at "g_nn"); (case k2 => wtm_at "g_ex"))
  | ((with_reducible refine' ext_via ?k1 ?k2); (case k1 => assumption); (case k2 => wtm_at "g_ex"))
  | ((with_reducible refine' ext_thr ?k1 ?k2 ?k3); (case k2 => assumption); (case k1 => wtm_at "g_nn"); (case k3 => wtm_at "g_ex"))
  | ((with_reducible refine' extp_put ?k1); (case k1 => wtm_at "g_ex"))
  | ((with_reducible refine' extp_up ?k1 ?k2); (case k1 => wtm_at "g_nn"); (case k2 => wtm_at "g_ex"))
  | ((with_reducible refine' extp_putn ?k1 ?k2); (case k1 => wtm_at "g_nn"); (case k2 => wtm_at "g_ex"))
  | ((with_reducible refine' extp_via ?k1 ?k2); (case k1 => assumption); (case k2 => wtm_at "g_ex"))
  | ((with_reducible refine' extp_viae ?k1 ?k2); (case k1 => assumption); (case k2 => wtm_at "g_ex"))
  | ((with_reducible refine' extp_thr ?k1 ?k2 ?k3); (case k2 => assumption); (case k1 => wtm_at "g_nn"); (case k3 => wtm_at "g_ex"))
  | (with_reducible exact ExtS.rfl')
  | ((with_reducible refine' exts_up ?k1 ?k2); (case k1 => wtm_at "g_nn"); (case k2 => wtm_at "g_ex"))
  | ((with_reducible refine' exts_put ?k1 ?k2); (case k1 => wtm_at "g_sub"); (case k2 => wtm_at "g_ex"))
  | ((with_reducible refine' exts_thrE ?k1 ?k2); (case k1 => assumption); (case k2 => wtm_at "g_ex"))
  | ((with_reducible refine' exts_thrP ?k1 ?k2 ?k3 ?k4); (case k1 => assumption); (case k2 => assumption); (case k3 => wtm_at "g_sub"); (case k4 => wtm_at "g_ex"))
  | ((with_reducible refine' exts_thr ?k1 ?k2 ?k3); (case k1 => assumption); (case k2 => wtm_at "g_sub"); (case k3 => wtm_at "g_ex"))
  | fail)
local macro_rules | `(tactic| wtm_at "g_thw") => `(tactic| first
  | (with_reducible assumption) | ((with_reducible refine' Thw.lst ?k1); (case k1 => wtm_at "g_hp")) | ((with_reducible refine' Thw.ins ?k1); (case k1 => wtm_at "g_hp"))
  | fail)
local macro_rules | `(tactic| wtm_at "g_sc") => `(tactic| first
  | (with_reducible assumption) | ((with_reducible refine' scr_new' ?k1 ?k2); (case k1 => wtm_at "g_nn"); (case k2 => wtm_at "g_sc")) | ((with_reducible refine' scr_put' ?k1 ?k2); (case k1 => wtm_at "g_thw"); (case k2 => wtm_at "g_sc"))
  | ((with_reducible refine' scr_ext ?k1 ?k2); (case k1 => assumption); (case k2 => wtm_at "g_sc")) | ((with_reducible refine' scr_extp ?k1 ?k2 ?k3); (case k1 => assumption); (case k2 => wtm_at "g_thw"); (case k3 => wtm_at "g_sc")) | ((with_reducible refine' scr_extn ?k1 ?k2 ?k3); (case k1 => assumption); (case k2 => wtm_at "g_nn"); (case k3 => wtm_at "g_sc"))
  | fail)
local macro_rules | `(tactic| wtm_at "g_sq") => `(tactic| first
  | (with_reducible assumption) | ((with_reducible refine' SqL.of ?k1); (case k1 => wtm_at "g_hp")) | ((with_reducible refine' Scr.sq ?k1); (case k1 => wtm_at "g_sc")) | ((with_reducible refine' sq_new' ?k1 ?k2); (case k1 => wtm_at "g_nn"); (case k2 => wtm_at "g_sq")) | ((with_reducible refine' sq_put' ?k1 ?k2); (case k1 => wtm_at "g_ne"); (case k2 => wtm_at "g_sq"))
  | ((with_reducible refine' sq_ext ?k1 ?k2); (case k1 => assumption); (case k2 => wtm_at "g_sq"))
  | fail)
local macro_rules | `(tactic| wtm_at "g_sqt") => `(tactic| first
  | (with_reducible assumption) | ((with_reducible refine' SqT.of' ?k1); (case k1 => wtm_at "g_hp")) | ((with_reducible refine' sqt_ext ?k1 ?k2); (case k1 => assumption); (case k2 => wtm_at "g_sqt"))
  | fail)
local macro_rules | `(tactic| wtm_at "g_st") => `(tactic| first
  | (with_reducible first
      | refine w_seq ?_ | refine w_asg ?_ | refine w_nm ?_ | refine w_next ?_ | refine w_if ?_ | refine w_ret ?_ | refine w_retN ?_ | refine w_drop ?_
      | refine w_var rfl ?_ | refine w_c ?_ | refine w_op ?_ | refine w_I0 ?_
      | refine w_eqI ?_ | refine w_neI ?_ | refine w_eqB ?_ | refine w_neB ?_ | refine w_eqS ?_ | refine w_neS ?_ | refine w_isN0 ?_ | refine w_isNi ?_ | refine w_isNr ?_ | refine w_isNb ?_ | refine w_isNs ?_ | refine w_notN0 ?_ | refine w_notNi ?_ | refine w_notNr ?_ | refine w_notNb ?_ | refine w_notNs ?_ | refine w_isN ?_ | refine w_notN ?_ | refine w_isB ?_ | refine w_notB ?_
      | refine w_un ?_ | refine w_U ?_ | refine w_chain ?_ | refine w_k ?_ | refine w_test ?_ | refine w_tB ?_ | refine w_tru ?_ | refine w_not ?_ | refine w_and ?_ | refine w_or ?_
      | refine w_andV ?_ | refine w_orV ?_ | refine w_notV ?_ | refine w_ife ?_ | refine w_nil ?_ | refine w_cons ?_ | refine w_tup ?_ | refine w_lst ?_ | refine w_small rfl ?_
      | refine w_call ?_ | refine w_mk ?_ | refine w_mt ?_ | refine w_cb ?_ | refine w_min2 ?_ | refine w_max2 ?_ | refine w_abs ?_ | refine w_int ?_
      | refine w_fld0 ?_ | refine w_bm ?_ | refine w_bm0 ?_ | refine w_sub ?_ | refine w_sfld ?_ | refine w_sfa ?_ | refine w_radd ?_ | refine w_rsub ?_ | refine w_ip ?_ | refine w_rs ?_ | refine w_pr ?_
      | refine w_lcR1 ?_ | refine w_lcR2 ?_ | refine w_lcL ?_ | refine w_lcT ?_ | refine w_sl ?_ | refine w_nopart ?_ | refine w_part ?_ | refine w_pint ?_
      | refine w_forR1 ?_ | refine w_forR2 ?_ | refine w_forL ?_ | refine w_forT ?_ | refine w_aug rfl ?_ | refine w_par ?_ | refine w_brk ?_ | refine w_cont ?_
      | refine w_isi_ii ?_ | refine w_isi_ib ?_ | refine w_isi_bi ?_ | refine w_isi_bb ?_ | refine w_isi_ss ?_ | refine w_isi_is ?_ | refine w_isi_il ?_ | refine w_isi_it ?_ | refine w_isi_sl ?_ | refine w_isi_st ?_ | refine w_isi_nl ?_ | refine w_isi_nt ?_
      | refine if_T ?_ | refine if_F ?_ | refine if_nT ?_ | refine if_nF ?_)
  | ((with_reducible refine' w_lenL ?k1 ?_); (case k1 => wtm_at "g_sq"))
  | ((with_reducible refine' w_lenT ?k1 ?_); (case k1 => wtm_at "g_sqt"))
  | ((with_reducible refine' w_isi_ll ?k1 ?_); (case k1 => wtm_at "g_hp"))
  | ((with_reducible refine' w_isi_tt ?k1 ?_); (case k1 => wtm_at "g_hp"))
  | ((with_reducible refine' w_isi_lt ?k1 ?_); (case k1 => wtm_at "g_hp"))
  | ((with_reducible refine' w_isi_tl ?k1 ?_); (case k1 => wtm_at "g_hp"))
  | wtm_at "g_get"
  | wtm_at "g_mt"
  | wtm_at "g_set"
  | wtm_at "g_set2"
  | wtm_at "g_call"
  | fail)
local macro_rules | `(tactic| wtm_at "g_go") => `(tactic| repeat wtm_at "g_st")
local macro_rules | `(tactic| wtm_at "g_ifo") => `(tactic| first
  | (refine if_nno rfl ?_) | (refine if_yes rfl ?_)
  | (refine if_no (by omega) ?_)
  | (refine if_yes (by omega) ?_)
  | (refine if_nno (by omega) ?_)
  | (refine if_nyes (by omega) ?_)
  | (refine if_nno (decide_eq_false (by omega)).symm ?_)
  | (refine if_nno (decide_eq_true (by omega)).symm ?_)
  | fail)
local macro_rules | `(tactic| wtm_at "g_goo") => `(tactic| repeat (first | wtm_at "g_st" | wtm_at "g_ifo"))
section
variable {K : PySem.W.Frag} {mg : Str → Option Value} {base : Heap}
theorem pure_law_cell (T : TX K mg base) (vs : List V) (H : Hp) (Q : VK) (E : XK) (h : sp_law_cell K vs H Q E) : t_law_cell K E { nx := fun _ H' => Q .non H', rt := Q } (start N_law_cell vs) H := by
  obtain ⟨a, ns, k, rfl, hS, h0, q⟩ := h
  unfold t_law_cell
  wtm_at "g_go"
  rw [List.length_map]
  refine if_d (fun hk => ?_) (fun hk => ?_)
  · wtm_at "g_go"
    obtain ⟨z, hz⟩ : ∃ z, ns[k.toNat]? = some z := ⟨ns[k.toNat], List.getElem?_eq_getElem (by omega)⟩
    refine w_ixL hS (at_of (j := k.toNat) (v := V.int z) (by omega) (by rw [List.getElem?_map, hz]; rfl)) (q z)
  · wtm_at "g_go"
    exact q 0
theorem pure_law_digit (T : TX K mg base) (vs : List V) (H : Hp) (Q : VK) (E : XK) (h : sp_law_digit K vs H Q E) : t_law_digit K E { nx := fun _ H' => Q .non H', rt := Q } (start N_law_digit vs) H := by
  obtain ⟨p, n, m, rfl, hp, h0, h1, q⟩ := h
  unfold t_law_digit
  wtm_at "g_go"
  refine w_ixL (SqL.of hp) (v := .int n) rfl ?_
  wtm_at "g_go"
  refine w_I h0 ?_
  wtm_at "g_go"
  refine w_ixL (SqL.of hp) (v := .int n) rfl ?_
  wtm_at "g_go"
  refine w_I (digit_div h0 h1 _) ?_
  wtm_at "g_go"
  refine w_setL hp (j := 0) rfl ?_
  wtm_at "g_go"
  exact q _ _ (Int.emod_nonneg _ (by omega)) (Int.emod_lt_of_pos _ h0)
theorem pure_law_start (T : TX K mg base) (vs : List V) (H : Hp) (Q : VK) (E : XK) (h : sp_law_start K vs H Q E) : t_law_start K E { nx := fun _ H' => Q .non H', rt := Q } (start N_law_start vs) H := by
  obtain ⟨c, k, rfl, q⟩ := h
  unfold t_law_start
  wtm_at "g_go"
  refine if_d (fun h1 => ?_) (fun h1 => ?_)
  · wtm_at "g_go"
    refine if_d (fun h2 => ?_) (fun h2 => ?_)
    · wtm_at "g_go"
      refine w_I (.inr (by decide)) ?_
      wtm_at "g_go"
      refine w_I (.inr (by decide)) ?_
      wtm_at "g_go"
      refine w_I (by decide) ?_
      wtm_at "g_go"
      refine loop1 (n := 4) (fun i σ H' => H' = H ∧ ∃ (m n : Int) (v : Option V), σ = [some (.int c), some (.int k), some (.int 618970019642690137449562111), some (.int m), some (.int n), v] ∧ 0 ≤ m ∧ m < 618970019642690137449562111 ∧ 0 ≤ n ∧ n < (618970019642690137449562111 : Int) ^ i) rfl (by decide)
        ⟨rfl, _, _, _, rfl, Int.emod_nonneg _ (by decide), Int.emod_lt_of_pos _ (by decide), by decide, by decide⟩ ?_ ?_
      · rintro i σ H' hi ⟨rfl, m, n, v, rfl, m0, m1, n0, n1⟩
        obtain ⟨b1, b2⟩ := pr_pow i hi
        have e3 : (618970019642690137449562111 : Int) < 618970019642690137449562111 ^ 3 + 1 := by decide +kernel
        wtm_at "g_go"
        refine w_I (wide_mul (a := 300) (b := 300) (small_w m0 (Int.lt_trans m1 e3)) (small_w m0 (Int.lt_trans m1 e3)) (by decide) (by decide) (by decide)) ?_
        wtm_at "g_go"
        refine w_I (.inl (by decide)) ?_
        wtm_at "g_go"
        refine w_I (by decide) ?_
        wtm_at "g_go"
        refine w_I (wide_mul (a := 300) (b := 300) (small_w n0 (Int.lt_trans n1 b1)) (small_w (by decide) e3) (by decide) (by decide) (by decide)) ?_
        wtm_at "g_go"
        refine ⟨rfl, _, _, _, rfl, Int.emod_nonneg _ (by decide), Int.emod_lt_of_pos _ (by decide), ?_⟩
        rw [Int.pow_succ]
        exact num_step n0 n1 (Int.emod_nonneg _ (by decide)) (Int.emod_lt_of_pos _ (by decide))
      · rintro σ H' ⟨rfl, m, n, v, rfl, m0, m1, n0, n1⟩
        wtm_at "g_go"
        exact q n
    · wtm_at "g_go"
      exact q c
  · wtm_at "g_go"
    exact q c
end
section
variable {K : PySem.W.Frag} {mg : Str → Option Value} {base : Heap}
theorem pure_law_is_integer (T : TX K mg base) (vs : List V) (H : Hp) (Q : VK) (E : XK) (h : sp_law_is_integer K vs H Q E) : t_law_is_integer K E { nx := fun _ H' => Q .non H', rt := Q } (start N_law_is_integer vs) H := by
  obtain ⟨x, rfl, ⟨i, rfl, q⟩ | ⟨i, rfl, q⟩⟩ := h
  · unfold t_law_is_integer
    wtm_at "g_go"
    exact q
  · unfold t_law_is_integer
    wtm_at "g_go"
    exact q
end
section
variable {K : PySem.W.Frag} {mg : Str → Option Value} {base : Heap}
theorem pure_frame_message (T : TX K mg base) (vs : List V) (H : Hp) (Q : VK) (E : XK) (h : sp_frame_message K vs H Q E) : t_frame_message K E { nx := fun _ H' => Q .non H', rt := Q } (start N_frame_message vs) H := by
  obtain ⟨a, xs, rfl, ha, hl, q1, q2⟩ := h
  unfold t_frame_message
  wtm_at "g_go"
  rw [List.length_map]
  refine if_d (fun h1 => ?_) (fun h1 => ?_)
  · wtm_at "g_go"
    exact q1 (by omega)
  · wtm_at "g_go"
    refine w_I ⟨by decide, by decide⟩ ?_
    wtm_at "g_go"
    refine w_I (by decide) ?_
    wtm_at "g_go"
    intro t ht
    wtm_at "g_go"
    refine w_listL (xs := xs.map V.int) (by wtm_at "g_sq") fun l hl2 => ?_
    refine w_cat (by wtm_at "g_hp") upd_same (by rw [List.length_map]; exact small16 (by show 2 + xs.length ≤ _; omega)) fun p hp => ?_
    refine q2 (by omega) p _ (none_dn (none_dn hp)) (by wtm_at "g_ex") ?_
    rw [upd_same, List.length_map]
    rfl
theorem pure_Messages_init (T : TX K mg base) (vs : List V) (H : Hp) (Q : VK) (E : XK) (h : sp_Messages_init K vs H Q E) : t_Messages_init K E { nx := fun _ H' => Q .non H', rt := Q } (start N_Messages_init vs) H := by
  obtain ⟨p, dx, rfl, hp, q⟩ := h
  unfold t_Messages_init
  wtm_at "g_go"
  intro w hw
  wtm_at "g_go"
  exact q w hw
theorem pure_Messages_pending (T : TX K mg base) (vs : List V) (H : Hp) (Q : VK) (E : XK) (h : sp_Messages_pending K vs H Q E) : t_Messages_pending K E { nx := fun _ H' => Q .non H', rt := Q } (start N_Messages_pending vs) H := by
  obtain ⟨p, dx, w, ws, rfl, hp, hw, q⟩ := h
  unfold t_Messages_pending
  wtm_at "g_go"
  rw [List.length_map]
  exact q
theorem pure_Messages_size_at (T : TX K mg base) (vs : List V) (H : Hp) (Q : VK) (E : XK) (h : sp_Messages_size_at K vs H Q E) : t_Messages_size_at K E { nx := fun _ H' => Q .non H', rt := Q } (start N_Messages_size_at vs) H := by
  obtain ⟨p, dx, w, L, a, rfl, hp, hw, q⟩ := h
  unfold t_Messages_size_at
  unfold sizeAt at q
  wtm_at "g_go"
  rw [List.length_map]
  refine if_d (fun h1 => ?_) (fun h1 => ?_)
  · wtm_at "g_go"
    rw [if_pos (by omega)] at q
    exact q
  · wtm_at "g_go"
    refine w_ixL (SqL.of hw) (atI_int (a := a) (by omega) rfl) ?_
    wtm_at "g_go"
    refine w_I (.inr (by decide)) ?_
    wtm_at "g_go"
    refine w_ixL (SqL.of hw) (atI_int (a := a + 1) (by omega) (by omega)) ?_
    wtm_at "g_go"
    rw [List.length_map]
    rw [if_neg (by omega)] at q
    refine if_d (fun h2 => ?_) (fun h2 => ?_)
    · wtm_at "g_go"
      rw [if_pos h2] at q
      exact q
    · wtm_at "g_go"
      rw [if_neg h2] at q
      exact q
end
end K39

namespace K39
open PySem PySem.Spec PyProof.Rows L2 G
local macro_rules | `(tactic| wtm_at "g_get") => `(tactic| first
  | ((with_reducible refine' w_fld ?k1 (cl_Messages (by assumption)) (na_Messages__waiting (by assumption)) lk_Messages__waiting ?_); (case k1 => wtm_at "g_hp"))
  | fail)
local macro_rules | `(tactic| wtm_at "g_set") => `(tactic| first
  | ((with_reducible refine' w_sput ?k1 (cl_Messages (by assumption)) (na_Messages__waiting (by assumption)) pt_Messages__waiting rfl ?_); (case k1 => wtm_at "g_hp"))
  | ((with_reducible refine' w_sput ?k1 (cl_Messages (by assumption)) (na_Messages__waiting (by assumption)) pn_Messages__waiting rfl ?_); (case k1 => wtm_at "g_hp"))
  | fail)
local macro_rules | `(tactic| wtm_at "g_set2") => `(tactic| first
  | ((with_reducible refine' w_sput2 ?k1 pt_Messages__waiting rfl ?_); (case k1 => wtm_at "g_hp"))
  | fail)
local macro_rules | `(tactic| wtm_at "g_mt") => `(tactic| first
  | ((with_reducible refine' w_mt1 ?k1 ln_Messages_pending ?_); (case k1 => wtm_at "g_hp"))
  | ((with_reducible refine' w_mt1 ?k1 ln_Messages_feed ?_); (case k1 => wtm_at "g_hp"))
  | ((with_reducible refine' w_mt1 ?k1 ln_Messages__size_at ?_); (case k1 => wtm_at "g_hp"))
  | fail)
local macro_rules | `(tactic| wtm_at "g_call") => `(tactic| first
  | ((with_reducible refine' c_digit ?k1 ?k2 ?k3 ?_); (case k1 => wtm_at "g_hp"); (case k2 => omega); (case k3 => omega); intro _ _ _ _)
  | ((with_reducible refine' c_start ?_); intro _ _ _)
  | ((with_reducible refine' c_isint ?_))
  | ((with_reducible refine' c_cell ?k1 ?k2 ?_); (case k1 => wtm_at "g_sq"); (case k2 => omega); intro _)
  | ((with_reducible refine' c_pending ?k1 ?k2 ?_); (case k1 => wtm_at "g_hp"); (case k2 => wtm_at "g_hp"))
  | ((with_reducible refine' c_message ?k1 ?k2 ?k3 ?_); (case k1 => wtm_at "g_hp"); (case k2 => omega); (case k3 => omega); intro _ _ _ _ _ _ _ _ _)
  | ((with_reducible refine' w_pr1 ?k1 ?_); (case k1 => wtm_at "g_hp"))
  | fail)
local macro_rules | `(tactic| wtm_at "g_ne") => `(tactic| first
  | (with_reducible assumption) | (with_reducible exact Ne.symm (by assumption)) | (with_reducible exact ne_of_none (by assumption) (by assumption)) | (with_reducible exact (ne_of_none (by assumption) (by assumption)).symm)
  | fail)
local macro_rules | `(tactic| wtm_at "g_hp") => `(tactic| first
  | (with_reducible assumption) | (with_reducible exact upd_same) | ((with_reducible refine' up_nn ?k1 ?k2); (case k1 => with_reducible assumption); (case k2 => wtm_at "g_hp")) | ((with_reducible refine' up_k' ?k1 ?k2); (case k1 => wtm_at "g_ne"); (case k2 => wtm_at "g_hp"))
  | ((with_reducible refine' up_ko ?k1 ?k2 ?k3); (case k1 => wtm_at "g_hp"); (case k2 => wtm_at "g_hp"); (case k3 => (intro z; cases z)))
  | ((with_reducible refine' ext_get ?k1 ?k2); (case k1 => assumption); (case k2 => wtm_at "g_hp"))
  | ((with_reducible refine' extp_get ?k1 ?k2 ?k3); (case k1 => assumption); (case k2 => wtm_at "g_ne"); (case k3 => wtm_at "g_hp"))
  | ((with_reducible refine' exts_get ?k1 ?k2 ?k3); (case k1 => assumption); (case k2 => wtm_at "g_ni"); (case k3 => wtm_at "g_hp"))
  | fail)
local macro_rules | `(tactic| wtm_at "g_ni") => `(tactic| first
  | (with_reducible assumption) | (with_reducible exact ni_nil)
  | ((with_reducible refine' ni_cons ?k1 ?k2); (case k1 => wtm_at "g_ne"); (case k2 => wtm_at "g_ni"))
  | fail)
local macro_rules | `(tactic| wtm_at "g_mem") => `(tactic| first
  | (with_reducible assumption) | (with_reducible exact mem_hd)
  | ((with_reducible refine' mem_tl ?k1); (case k1 => wtm_at "g_mem"))
  | fail)
local macro_rules | `(tactic| wtm_at "g_sub") => `(tactic| first
  | (with_reducible assumption) | (with_reducible exact SubN.nil)
  | ((with_reducible refine' SubN.inn ?k1 ?k2); (case k1 => wtm_at "g_mem"); (case k2 => wtm_at "g_sub"))
  | ((with_reducible refine' SubN.new ?k1 ?k2); (case k1 => wtm_at "g_nn"); (case k2 => wtm_at "g_sub"))
  | fail)
local macro_rules | `(tactic| wtm_at "g_nn") => `(tactic| first
  | (with_reducible assumption) | ((with_reducible refine' none_up ?k1 ?k2); (case k1 => wtm_at "g_ne"); (case k2 => wtm_at "g_nn")) | ((with_reducible refine' none_dn ?k1); (case k1 => with_reducible assumption))
  | ((with_reducible refine' exts_none ?k1 ?k2); (case k1 => assumption); (case k2 => with_reducible assumption)) | ((with_reducible refine' ext_none ?k1 ?k2); (case k1 => assumption); (case k2 => with_reducible assumption))
  | fail)
local macro_rules | `(tactic| wtm_at "g_ex") => `(tactic| first
  | (with_reducible assumption) | (with_reducible exact Ext.rfl') | (with_reducible exact ExtP.rfl')
  | ((with_reducible refine' ext_up ?k1 ?k2); (case k1 => wtm_at "g_nn"); (case k2 => wtm_at "g_ex"))
  | ((with_reducible refine' ext_put ?k1 ?k2); (case k1 => wtm_at "g_nn"); (case k2 => wtm_at "g_ex"))
  | ((with_reducible refine' ext_via ?k1 ?k2); (case k1 => assumption); (case k2 => wtm_at "g_ex"))
  | ((with_reducible refine' ext_thr ?k1 ?k2 ?k3); (case k2 => assumption); (case k1 => wtm_at "g_nn"); (case k3 => wtm_at "g_ex"))
  | ((with_reducible refine' extp_put ?k1); (case k1 => wtm_at "g_ex"))
  | ((with_reducible refine' extp_up ?k1 ?k2); (case k1 => wtm_at "g_nn"); (case k2 => wtm_at "g_ex"))
  | ((with_reducible refine' extp_putn ?k1 ?k2); (case k1 => wtm_at "g_nn"); (case k2 => wtm_at "g_ex"))
  | ((with_reducible refine' extp_via ?k1 ?k2); (case k1 => assumption); (case k2 => wtm_at "g_ex"))
  | ((with_reducible refine' extp_viae ?k1 ?k2); (case k1 => assumption); (case k2 => wtm_at "g_ex"))
  | ((with_reducible refine' extp_thr ?k1 ?k2 ?k3); (case k2 => assumption); (case k1 => wtm_at "g_nn"); (case k3 => wtm_at "g_ex"))
  | (with_reducible exact ExtS.rfl')
  | ((with_reducible refine' exts_up ?k1 ?k2); (case k1 => wtm_at "g_nn"); (case k2 => wtm_at "g_ex"))
  | ((with_reducible refine' exts_put ?k1 ?k2); (case k1 => wtm_at "g_sub"); (case k2 => wtm_at "g_ex"))
  | ((with_reducible refine' exts_thrE ?k1 ?k2); (case k1 => assumption); (case k2 => wtm_at "g_ex"))
  | ((with_reducible refine' exts_thrP ?k1 ?k2 ?k3 ?k4); (case k1 => assumption); (case k2 => assumption); (case k3 => wtm_at "g_sub"); (case k4 => wtm_at "g_ex"))
  | ((with_reducible refine' exts_thr ?k1 ?k2 ?k3); (case k1 => assumption); (case k2 => wtm_at "g_sub"); (case k3 => wtm_at "g_ex"))
  | fail)
local macro_rules | `(tactic| wtm_at "g_thw") => `(tactic| first
  | (with_reducible assumption) | ((with_reducible refine' Thw.lst ?k1); (case k1 => wtm_at "g_hp")) | ((with_reducible refine' Thw.ins ?k1); (case k1 => wtm_at "g_hp"))
  | fail)
local macro_rules | `(tactic| wtm_at "g_sc") => `(tactic| first
  | (with_reducible assumption) | ((with_reducible refine' scr_new' ?k1 ?k2); (case k1 => wtm_at "g_nn"); (case k2 => wtm_at "g_sc")) | ((with_reducible refine' scr_put' ?k1 ?k2); (case k1 => wtm_at "g_thw"); (case k2 => wtm_at "g_sc"))
  | ((with_reducible refine' scr_ext ?k1 ?k2); (case k1 => assumption); (case k2 => wtm_at "g_sc")) | ((with_reducible refine' scr_extp ?k1 ?k2 ?k3); (case k1 => assumption); (case k2 => wtm_at "g_thw"); (case k3 => wtm_at "g_sc")) | ((with_reducible refine' scr_extn ?k1 ?k2 ?k3); (case k1 => assumption); (case k2 => wtm_at "g_nn"); (case k3 => wtm_at "g_sc"))
  | fail)
local macro_rules | `(tactic| wtm_at "g_sq") => `(tactic| first
  | (with_reducible assumption) | ((with_reducible refine' SqL.of ?k1); (case k1 => wtm_at "g_hp")) | ((with_reducible refine' Scr.sq ?k1); (case k1 => wtm_at "g_sc")) | ((with_reducible refine' sq_new' ?k1 ?k2); (case k1 => wtm_at "g_nn"); (case k2 => wtm_at "g_sq")) | ((with_reducible refine' sq_put' ?k1 ?k2); (case k1 => wtm_at "g_ne"); (case k2 => wtm_at "g_sq"))
  | ((with_reducible refine' sq_ext ?k1 ?k2); (case k1 => assumption); (case k2 => wtm_at "g_sq"))
  | fail)
local macro_rules | `(tactic| wtm_at "g_sqt") => `(tactic| first
  | (with_reducible assumption) | ((with_reducible refine' SqT.of' ?k1); (case k1 => wtm_at "g_hp")) | ((with_reducible refine' sqt_ext ?k1 ?k2); (case k1 => assumption); (case k2 => wtm_at "g_sqt"))
  | fail)
local macro_rules | `(tactic| wtm_at "g_st") => `(tactic| first
  | (with_reducible first
      | refine w_seq ?_ | refine w_asg ?_ | refine w_nm ?_ | refine w_next ?_ | refine w_if ?_ | refine w_ret ?_ | refine w_retN ?_ | refine w_drop ?_
      | refine w_var rfl ?_ | refine w_c ?_ | refine w_op ?_ | refine w_I0 ?_
      | refine w_eqI ?_ | refine w_neI ?_ | refine w_eqB ?_ | refine w_neB ?_ | refine w_eqS ?_ | refine w_neS ?_ | refine w_isN0 ?_ | refine w_isNi ?_ | refine w_isNr ?_ | refine w_isNb ?_ | refine w_isNs ?_ | refine w_notN0 ?_ | refine w_notNi ?_ | refine w_notNr ?_ | refine w_notNb ?_ | refine w_notNs ?_ | refine w_isN ?_ | refine w_notN ?_ | refine w_isB ?_ | refine w_notB ?_
      | refine w_un ?_ | refine w_U ?_ | refine w_chain ?_ | refine w_k ?_ | refine w_test ?_ | refine w_tB ?_ | refine w_tru ?_ | refine w_not ?_ | refine w_and ?_ | refine w_or ?_
      | refine w_andV ?_ | refine w_orV ?_ | refine w_notV ?_ | refine w_ife ?_ | refine w_nil ?_ | refine w_cons ?_ | refine w_tup ?_ | refine w_lst ?_ | refine w_small rfl ?_
      | refine w_call ?_ | refine w_mk ?_ | refine w_mt ?_ | refine w_cb ?_ | refine w_min2 ?_ | refine w_max2 ?_ | refine w_abs ?_ | refine w_int ?_
      | refine w_fld0 ?_ | refine w_bm ?_ | refine w_bm0 ?_ | refine w_sub ?_ | refine w_sfld ?_ | refine w_sfa ?_ | refine w_radd ?_ | refine w_rsub ?_ | refine w_ip ?_ | refine w_rs ?_ | refine w_pr ?_
      | refine w_lcR1 ?_ | refine w_lcR2 ?_ | refine w_lcL ?_ | refine w_lcT ?_ | refine w_sl ?_ | refine w_nopart ?_ | refine w_part ?_ | refine w_pint ?_
      | refine w_forR1 ?_ | refine w_forR2 ?_ | refine w_forL ?_ | refine w_forT ?_ | refine w_aug rfl ?_ | refine w_par ?_ | refine w_brk ?_ | refine w_cont ?_
      | refine w_isi_ii ?_ | refine w_isi_ib ?_ | refine w_isi_bi ?_ | refine w_isi_bb ?_ | refine w_isi_ss ?_ | refine w_isi_is ?_ | refine w_isi_il ?_ | refine w_isi_it ?_ | refine w_isi_sl ?_ | refine w_isi_st ?_ | refine w_isi_nl ?_ | refine w_isi_nt ?_
      | refine if_T ?_ | refine if_F ?_ | refine if_nT ?_ | refine if_nF ?_)
  | ((with_reducible refine' w_lenL ?k1 ?_); (case k1 => wtm_at "g_sq"))
  | ((with_reducible refine' w_lenT ?k1 ?_); (case k1 => wtm_at "g_sqt"))
  | ((with_reducible refine' w_isi_ll ?k1 ?_); (case k1 => wtm_at "g_hp"))
  | ((with_reducible refine' w_isi_tt ?k1 ?_); (case k1 => wtm_at "g_hp"))
  | ((with_reducible refine' w_isi_lt ?k1 ?_); (case k1 => wtm_at "g_hp"))
  | ((with_reducible refine' w_isi_tl ?k1 ?_); (case k1 => wtm_at "g_hp"))
  | wtm_at "g_get"
  | wtm_at "g_mt"
  | wtm_at "g_set"
  | wtm_at "g_set2"
  | wtm_at "g_call"
  | fail)
local macro_rules | `(tactic| wtm_at "g_go") => `(tactic| repeat wtm_at "g_st")
local macro_rules | `(tactic| wtm_at "g_ifo") => `(tactic| first
  | (refine if_nno rfl ?_) | (refine if_yes rfl ?_)
  | (refine if_no (by omega) ?_)
  | (refine if_yes (by omega) ?_)
  | (refine if_nno (by omega) ?_)
  | (refine if_nyes (by omega) ?_)
  | (refine if_nno (decide_eq_false (by omega)).symm ?_)
  | (refine if_nno (decide_eq_true (by omega)).symm ?_)
  | fail)
local macro_rules | `(tactic| wtm_at "g_goo") => `(tactic| repeat (first | wtm_at "g_st" | wtm_at "g_ifo"))
section
variable {K : PySem.W.Frag} {mg : Str → Option Value} {base : Heap}
theorem pure_Messages_feed (T : TX K mg base) (vs : List V) (H : Hp) (Q : VK) (E : XK) (h : sp_Messages_feed K vs H Q E) : t_Messages_feed K E { nx := fun _ H' => Q .non H', rt := Q } (start N_Messages_feed vs) H := by
  obtain ⟨p, dx, w, x, ws, xs, ms, e, rfl, hp, hw, hx, nxw, hl, hP, hms, q⟩ := h
  have npw : p ≠ w := ne_of' hp hw (fun z => nomatch z)
  unfold t_Messages_feed
  wtm_at "g_go"
  refine ty_list hw ?_
  wtm_at "g_go"
  refine w_extend hw hx (by rw [List.length_map, List.length_map]; exact small16 (by omega)) ?_
  rw [← List.map_append]
  wtm_at "g_go"
  intro t ht
  obtain ⟨ntw, ht0⟩ := up_none ht
  have ntp : p ≠ t := ne_of_none hp ht0
  wtm_at "g_go"
  have hp1 : (upd (upd H w (.lst ((ws ++ xs).map V.int))) t (.lst [])) p = some (oM K dx w) := by wtm_at "g_hp"
  have hw1 : (upd (upd H w (.lst ((ws ++ xs).map V.int))) t (.lst [])) w = some (.lst ((ws ++ xs).map V.int)) := by wtm_at "g_hp"
  refine ⟨p, dx, w, ws ++ xs, 0, rfl, hp1, hw1, ?_⟩
  wtm_at "g_go"
  refine w_while (fun σ H' => ∃ (at_ : Nat) (done rest : List (List Int)) (as : List Addr), σ = [some (.ref p), some (.ref x), some (.ref t), some (.int (at_ : Int)), some (oV (sizeAt (ws ++ xs) at_))] ∧ done ++ rest = ms ∧ Parse (ws ++ xs) at_ rest e ∧
    ExtS [w] H H' ∧ H' p = some (oM K dx w) ∧ H' w = some (.lst ((ws ++ xs).map V.int)) ∧ H' t = some (.lst (as.map V.ref)) ∧ Rows H' as done ∧ as.Nodup ∧ (∀ a ∈ as, H a = none) ∧ t ∉ as)
    (fun σ H' => match σ with | [_, _, _, some (.int a), _] => (ws ++ xs).length + 2 - a.toNat | _ => 0) ?_ ?_ ?_
  · exact ⟨0, [], ms, [], rfl, rfl, hP, by wtm_at "g_ex", hp1, hw1, upd_same, .nil, List.nodup_nil, all_nil, ni_nil⟩
  · rintro σ H1 ⟨a, done, rest, as, rfl, hd, hPr, e1, hp2, hw2, ht2, hR, hN, hF, hT⟩
    cases hPr with
    | stop hs =>
      rw [hs]
      have e0 : oV none = V.non := rfl
      rw [e0]
      wtm_at "g_go"
      refine w_slLfrom (SqL.of hw2) (by omega) fun w2 hn => ?_
      wtm_at "g_go"
      have nw : w2 ≠ w := (ne_of_none hw2 hn).symm
      have n0 : H w2 = none := exts_none e1 hn
      have nt : t ≠ w2 := ne_of_none ht2 hn
      have np : p ≠ w2 := ne_of_none hp2 hn
      rw [List.append_nil] at hd
      subst hd
      refine q _ t as w2 ?_ ht0 hF hN hT n0 (by wtm_at "g_hp") ((hR.new hn).put (hR.noi hp2)) upd_same ?_ (hR.no hn)
      · refine exts_put (SubN.inn mem_hd SubN.nil) (exts_up hn ?_)
        exact exts_mono e1 fun x hx => mem_tl hx
      · rw [upd_ne np.symm, upd_same, ← List.map_drop]
        rfl
    | @step _ s _ rest' hs tl =>
      rw [hs]
      have e0 : oV (some (s : Int)) = V.int (s : Int) := rfl
      rw [e0]
      have hsz : a + 2 + s ≤ (ws ++ xs).length := by
        unfold sizeAt at hs
        split at hs
        · cases hs
        · split at hs
          · cases hs
          · have := Option.some.inj hs
            omega
      wtm_at "g_go"
      refine ty_list ht2 ?_
      wtm_at "g_go"
      refine w_slLmid (SqL.of hw2) (by omega) (by omega) fun m2 hn => ?_
      wtm_at "g_go"
      have nt : t ≠ m2 := ne_of_none ht2 hn
      have np : p ≠ m2 := ne_of_none hp2 hn
      have nw : w ≠ m2 := ne_of_none hw2 hn
      have n0 : H m2 = none := exts_none e1 hn
      have hla : as.length ≤ 1000 := by
        rw [hR.1]
        have := congrArg List.length hd
        rw [List.length_append] at this
        omega
      refine w_app (xs := as.map V.ref) (by wtm_at "g_hp") (by rw [List.length_map]; exact small16l (by omega)) ?_
      wtm_at "g_go"
      have ea : (a : Int) + (2 + (s : Int)) = ((a + 2 + s : Nat) : Int) := by omega
      rw [ea]
      refine ⟨p, dx, w, ws ++ xs, a + 2 + s, rfl, by wtm_at "g_hp", by wtm_at "g_hp", ?_⟩
      wtm_at "g_go"
      refine ⟨⟨a + 2 + s, done ++ [((ws ++ xs).drop (a + 2)).take s], rest', as ++ [m2], rfl, by rw [List.append_assoc]; exact hd, tl, ?_, by wtm_at "g_hp", by wtm_at "g_hp", by rw [upd_same, List.map_append]; rfl, ?_, nodup_snoc hN (hR.no hn), mem_snoc hF n0, ni_snoc hT nt⟩, ?_⟩
      · exact exts_put (SubN.new ht0 SubN.nil) (exts_up hn e1)
      · refine ((hR.new hn).snoc (a := m2) ?_).put (ni_snoc hT nt)
        rw [upd_same]
        have e3 : ((a : Int) + 2).toNat = a + 2 := by omega
        have e4 : ((a : Int) + 2 + (s : Int) - ((a : Int) + 2)).toNat = s := by omega
        rw [e3, e4, List.map_take, List.map_drop]
      · show (ws ++ xs).length + 2 - ((a + 2 + s : Nat) : Int).toNat < (ws ++ xs).length + 2 - (a : Int).toNat
        omega
  · intro σ H Q Q' hQ h
    obtain ⟨v, hv, u, k, hk, z⟩ := h
    exact ⟨v, hv, u, k, hk, hQ _ _ z⟩
end
end K39

namespace K39
open PySem PySem.Spec PyProof.Rows L2 G
local macro_rules | `(tactic| wtm_at "g_get") => `(tactic| first
  | ((with_reducible refine' w_fld ?k1 (cl_Messages (by assumption)) (na_Messages__waiting (by assumption)) lk_Messages__waiting ?_); (case k1 => wtm_at "g_hp"))
  | fail)
local macro_rules | `(tactic| wtm_at "g_set") => `(tactic| first
  | ((with_reducible refine' w_sput ?k1 (cl_Messages (by assumption)) (na_Messages__waiting (by assumption)) pt_Messages__waiting rfl ?_); (case k1 => wtm_at "g_hp"))
  | ((with_reducible refine' w_sput ?k1 (cl_Messages (by assumption)) (na_Messages__waiting (by assumption)) pn_Messages__waiting rfl ?_); (case k1 => wtm_at "g_hp"))
  | fail)
local macro_rules | `(tactic| wtm_at "g_set2") => `(tactic| first
  | ((with_reducible refine' w_sput2 ?k1 pt_Messages__waiting rfl ?_); (case k1 => wtm_at "g_hp"))
  | fail)
local macro_rules | `(tactic| wtm_at "g_mt") => `(tactic| first
  | ((with_reducible refine' w_mt1 ?k1 ln_Messages_pending ?_); (case k1 => wtm_at "g_hp"))
  | ((with_reducible refine' w_mt1 ?k1 ln_Messages_feed ?_); (case k1 => wtm_at "g_hp"))
  | ((with_reducible refine' w_mt1 ?k1 ln_Messages__size_at ?_); (case k1 => wtm_at "g_hp"))
  | fail)
local macro_rules | `(tactic| wtm_at "g_call") => `(tactic| first
  | ((with_reducible refine' c_digit ?k1 ?k2 ?k3 ?_); (case k1 => wtm_at "g_hp"); (case k2 => omega); (case k3 => omega); intro _ _ _ _)
  | ((with_reducible refine' c_start ?_); intro _ _ _)
  | ((with_reducible refine' c_isint ?_))
  | ((with_reducible refine' c_cell ?k1 ?k2 ?_); (case k1 => wtm_at "g_sq"); (case k2 => omega); intro _)
  | ((with_reducible refine' c_pending ?k1 ?k2 ?_); (case k1 => wtm_at "g_hp"); (case k2 => wtm_at "g_hp"))
  | ((with_reducible refine' c_message ?k1 ?k2 ?k3 ?_); (case k1 => wtm_at "g_hp"); (case k2 => omega); (case k3 => omega); intro _ _ _ _ _ _ _ _ _)
  | ((with_reducible refine' w_pr1 ?k1 ?_); (case k1 => wtm_at "g_hp"))
  | fail)
local macro_rules | `(tactic| wtm_at "g_ne") => `(tactic| first
  | (with_reducible assumption) | (with_reducible exact Ne.symm (by assumption)) | (with_reducible exact ne_of_none (by assumption) (by assumption)) | (with_reducible exact (ne_of_none (by assumption) (by assumption)).symm)
  | fail)
local macro_rules | `(tactic| wtm_at "g_hp") => `(tactic| first
  | (with_reducible assumption) | (with_reducible exact upd_same) | ((with_reducible refine' up_nn ?k1 ?k2); (case k1 => with_reducible assumption); (case k2 => wtm_at "g_hp")) | ((with_reducible refine' up_k' ?k1 ?k2); (case k1 => wtm_at "g_ne"); (case k2 => wtm_at "g_hp"))
  | ((with_reducible refine' up_ko ?k1 ?k2 ?k3); (case k1 => wtm_at "g_hp"); (case k2 => wtm_at "g_hp"); (case k3 => (intro z; cases z)))
  | ((with_reducible refine' ext_get ?k1 ?k2); (case k1 => assumption); (case k2 => wtm_at "g_hp"))
  | ((with_reducible refine' extp_get ?k1 ?k2 ?k3); (case k1 => assumption); (case k2 => wtm_at "g_ne"); (case k3 => wtm_at "g_hp"))
  | ((with_reducible refine' exts_get ?k1 ?k2 ?k3); (case k1 => assumption); (case k2 => wtm_at "g_ni"); (case k3 => wtm_at "g_hp"))
  | fail)
local macro_rules | `(tactic| wtm_at "g_ni") => `(tactic| first
  | (with_reducible assumption) | (with_reducible exact ni_nil)
  | ((with_reducible refine' ni_cons ?k1 ?k2); (case k1 => wtm_at "g_ne"); (case k2 => wtm_at "g_ni"))
  | fail)
local macro_rules | `(tactic| wtm_at "g_mem") => `(tactic| first
  | (with_reducible assumption) | (with_reducible exact mem_hd)
  | ((with_reducible refine' mem_tl ?k1); (case k1 => wtm_at "g_mem"))
  | fail)
local macro_rules | `(tactic| wtm_at "g_sub") => `(tactic| first
  | (with_reducible assumption) | (with_reducible exact SubN.nil)
  | ((with_reducible refine' SubN.inn ?k1 ?k2); (case k1 => wtm_at "g_mem"); (case k2 => wtm_at "g_sub"))
  | ((with_reducible refine' SubN.new ?k1 ?k2); (case k1 => wtm_at "g_nn"); (case k2 => wtm_at "g_sub"))
  | fail)
local macro_rules | `(tactic| wtm_at "g_nn") => `(tactic| first
  | (with_reducible assumption) | ((with_reducible refine' none_up ?k1 ?k2); (case k1 => wtm_at "g_ne"); (case k2 => wtm_at "g_nn")) | ((with_reducible refine' none_dn ?k1); (case k1 => with_reducible assumption))
  | ((with_reducible refine' exts_none ?k1 ?k2); (case k1 => assumption); (case k2 => with_reducible assumption)) | ((with_reducible refine' ext_none ?k1 ?k2); (case k1 => assumption); (case k2 => with_reducible assumption))
  | fail)
local macro_rules | `(tactic| wtm_at "g_ex") => `(tactic| first
  | (with_reducible assumption) | (with_reducible exact Ext.rfl') | (with_reducible exact ExtP.rfl')
  | ((with_reducible refine' ext_up ?k1 ?k2); (case k1 => wtm_at "g_nn"); (case k2 => wtm_at "g_ex"))
  | ((with_reducible refine' ext_put ?k1 ?k2); (case k1 => wtm_at "g_nn"); (case k2 => wtm_at "g_ex"))
  | ((with_reducible refine' ext_via ?k1 ?k2); (case k1 => assumption); (case k2 => wtm_at "g_ex"))
  | ((with_reducible refine' ext_thr ?k1 ?k2 ?k3); (case k2 => assumption); (case k1 => wtm_at "g_nn"); (case k3 => wtm_at "g_ex"))
  | ((with_reducible refine' extp_put ?k1); (case k1 => wtm_at "g_ex"))
  | ((with_reducible refine' extp_up ?k1 ?k2); (case k1 => wtm_at "g_nn"); (case k2 => wtm_at "g_ex"))
  | ((with_reducible refine' extp_putn ?k1 ?k2); (case k1 => wtm_at "g_nn"); (case k2 => wtm_at "g_ex"))
  | ((with_reducible refine' extp_via ?k1 ?k2); (case k1 => assumption); (case k2 => wtm_at "g_ex"))
  | ((with_reducible refine' extp_viae ?k1 ?k2); (case k1 => assumption); (case k2 => wtm_at "g_ex"))
  | ((with_reducible refine' extp_thr ?k1 ?k2 ?k3); (case k2 => assumption); (case k1 => wtm_at "g_nn"); (case k3 => wtm_at "g_ex"))
  | (with_reducible exact ExtS.rfl')
  | ((with_reducible refine' exts_up ?k1 ?k2); (case k1 => wtm_at "g_nn"); (case k2 => wtm_at "g_ex"))
  | ((with_reducible refine' exts_put ?k1 ?k2); (case k1 => wtm_at "g_sub"); (case k2 => wtm_at "g_ex"))
  | ((with_reducible refine' exts_thrE ?k1 ?k2); (case k1 => assumption); (case k2 => wtm_at "g_ex"))
  | ((with_reducible refine' exts_thrP ?k1 ?k2 ?k3 ?k4); (case k1 => assumption); (case k2 => assumption); (case k3 => wtm_at "g_sub"); (case k4 => wtm_at "g_ex"))
  | ((with_reducible refine' exts_thr ?k1 ?k2 ?k3); (case k1 => assumption); (case k2 => wtm_at "g_sub"); (case k3 => wtm_at "g_ex"))
  | fail)
local macro_rules | `(tactic| wtm_at "g_thw") => `(tactic| first
  | (with_reducible assumption) | ((with_reducible refine' Thw.lst ?k1); (case k1 => wtm_at "g_hp")) | ((with_reducible refine' Thw.ins ?k1); (case k1 => wtm_at "g_hp"))
  | fail)
local macro_rules | `(tactic| wtm_at "g_sc") => `(tactic| first
  | (with_reducible assumption) | ((with_reducible refine' scr_new' ?k1 ?k2); (case k1 => wtm_at "g_nn"); (case k2 => wtm_at "g_sc")) | ((with_reducible refine' scr_put' ?k1 ?k2); (case k1 => wtm_at "g_thw"); (case k2 => wtm_at "g_sc"))
  | ((with_reducible refine' scr_ext ?k1 ?k2); (case k1 => assumption); (case k2 => wtm_at "g_sc")) | ((with_reducible refine' scr_extp ?k1 ?k2 ?k3); (case k1 => assumption); (case k2 => wtm_at "g_thw"); (case k3 => wtm_at "g_sc")) | ((with_reducible refine' scr_extn ?k1 ?k2 ?k3); (case k1 => assumption); (case k2 => wtm_at "g_nn"); (case k3 => wtm_at "g_sc"))
  | fail)
local macro_rules | `(tactic| wtm_at "g_sq") => `(tactic| first
  | (with_reducible assumption) | ((with_reducible refine' SqL.of ?k1); (case k1 => wtm_at "g_hp")) | ((with_reducible refine' Scr.sq ?k1); (case k1 => wtm_at "g_sc")) | ((with_reducible refine' sq_new' ?k1 ?k2); (case k1 => wtm_at "g_nn"); (case k2 => wtm_at "g_sq")) | ((with_reducible refine' sq_put' ?k1 ?k2); (case k1 => wtm_at "g_ne"); (case k2 => wtm_at "g_sq"))
  | ((with_reducible refine' sq_ext ?k1 ?k2); (case k1 => assumption); (case k2 => wtm_at "g_sq"))
  | fail)
local macro_rules | `(tactic| wtm_at "g_sqt") => `(tactic| first
  | (with_reducible assumption) | ((with_reducible refine' SqT.of' ?k1); (case k1 => wtm_at "g_hp")) | ((with_reducible refine' sqt_ext ?k1 ?k2); (case k1 => assumption); (case k2 => wtm_at "g_sqt"))
  | fail)
local macro_rules | `(tactic| wtm_at "g_st") => `(tactic| first
  | (with_reducible first
      | refine w_seq ?_ | refine w_asg ?_ | refine w_nm ?_ | refine w_next ?_ | refine w_if ?_ | refine w_ret ?_ | refine w_retN ?_ | refine w_drop ?_
      | refine w_var rfl ?_ | refine w_c ?_ | refine w_op ?_ | refine w_I0 ?_
      | refine w_eqI ?_ | refine w_neI ?_ | refine w_eqB ?_ | refine w_neB ?_ | refine w_eqS ?_ | refine w_neS ?_ | refine w_isN0 ?_ | refine w_isNi ?_ | refine w_isNr ?_ | refine w_isNb ?_ | refine w_isNs ?_ | refine w_notN0 ?_ | refine w_notNi ?_ | refine w_notNr ?_ | refine w_notNb ?_ | refine w_notNs ?_ | refine w_isN ?_ | refine w_notN ?_ | refine w_isB ?_ | refine w_notB ?_
      | refine w_un ?_ | refine w_U ?_ | refine w_chain ?_ | refine w_k ?_ | refine w_test ?_ | refine w_tB ?_ | refine w_tru ?_ | refine w_not ?_ | refine w_and ?_ | refine w_or ?_
      | refine w_andV ?_ | refine w_orV ?_ | refine w_notV ?_ | refine w_ife ?_ | refine w_nil ?_ | refine w_cons ?_ | refine w_tup ?_ | refine w_lst ?_ | refine w_small rfl ?_
      | refine w_call ?_ | refine w_mk ?_ | refine w_mt ?_ | refine w_cb ?_ | refine w_min2 ?_ | refine w_max2 ?_ | refine w_abs ?_ | refine w_int ?_
      | refine w_fld0 ?_ | refine w_bm ?_ | refine w_bm0 ?_ | refine w_sub ?_ | refine w_sfld ?_ | refine w_sfa ?_ | refine w_radd ?_ | refine w_rsub ?_ | refine w_ip ?_ | refine w_rs ?_ | refine w_pr ?_
      | refine w_lcR1 ?_ | refine w_lcR2 ?_ | refine w_lcL ?_ | refine w_lcT ?_ | refine w_sl ?_ | refine w_nopart ?_ | refine w_part ?_ | refine w_pint ?_
      | refine w_forR1 ?_ | refine w_forR2 ?_ | refine w_forL ?_ | refine w_forT ?_ | refine w_aug rfl ?_ | refine w_par ?_ | refine w_brk ?_ | refine w_cont ?_
      | refine w_isi_ii ?_ | refine w_isi_ib ?_ | refine w_isi_bi ?_ | refine w_isi_bb ?_ | refine w_isi_ss ?_ | refine w_isi_is ?_ | refine w_isi_il ?_ | refine w_isi_it ?_ | refine w_isi_sl ?_ | refine w_isi_st ?_ | refine w_isi_nl ?_ | refine w_isi_nt ?_
      | refine if_T ?_ | refine if_F ?_ | refine if_nT ?_ | refine if_nF ?_)
  | ((with_reducible refine' w_lenL ?k1 ?_); (case k1 => wtm_at "g_sq"))
  | ((with_reducible refine' w_lenT ?k1 ?_); (case k1 => wtm_at "g_sqt"))
  | ((with_reducible refine' w_isi_ll ?k1 ?_); (case k1 => wtm_at "g_hp"))
  | ((with_reducible refine' w_isi_tt ?k1 ?_); (case k1 => wtm_at "g_hp"))
  | ((with_reducible refine' w_isi_lt ?k1 ?_); (case k1 => wtm_at "g_hp"))
  | ((with_reducible refine' w_isi_tl ?k1 ?_); (case k1 => wtm_at "g_hp"))
  | wtm_at "g_get"
  | wtm_at "g_mt"
  | wtm_at "g_set"
  | wtm_at "g_set2"
  | wtm_at "g_call"
  | fail)
local macro_rules | `(tactic| wtm_at "g_go") => `(tactic| repeat wtm_at "g_st")
local macro_rules | `(tactic| wtm_at "g_ifo") => `(tactic| first
  | (refine if_nno rfl ?_) | (refine if_yes rfl ?_)
  | (refine if_no (by omega) ?_)
  | (refine if_yes (by omega) ?_)
  | (refine if_nno (by omega) ?_)
  | (refine if_nyes (by omega) ?_)
  | (refine if_nno (decide_eq_false (by omega)).symm ?_)
  | (refine if_nno (decide_eq_true (by omega)).symm ?_)
  | fail)
local macro_rules | `(tactic| wtm_at "g_goo") => `(tactic| repeat (first | wtm_at "g_st" | wtm_at "g_ifo"))
section
variable {K : PySem.W.Frag} {mg : Str → Option Value} {base : Heap}
theorem accM_ints {f : Nat → Int} {n : Nat} : accM (fun i => V.int (f i)) n = ((List.range n).map f).map V.int := by
  unfold accM
  rw [List.map_map]
  rfl
theorem pure_law_message (T : TX K mg base) (vs : List V) (H : Hp) (Q : VK) (E : XK) (h : sp_law_message K vs H Q E) : t_law_message K E { nx := fun _ H' => Q .non H', rt := Q } (start N_law_message vs) H := by
  obtain ⟨s, n, m, rfl, hs, h0, h1, q⟩ := h
  unfold t_law_message
  wtm_at "g_go"
  rename_i d n1 d0 d1 b n2 b0 b1
  obtain ⟨z, rfl⟩ := Int.eq_ofNat_of_zero_le d0
  refine lcR1 (n := z) (fun k => V.int ((b + 3 * (k : Int) + (k : Int) / 7) % 256)) rfl (by omega) (fun i D H1 hi hD e hA => ?_) (fun D H1 hD e hA => ?_)
  · wtm_at "g_go"
    refine w_I (.inl (by decide)) ?_
    wtm_at "g_go"
    refine w_I ⟨by decide, by decide⟩ ?_
    wtm_at "g_go"
    refine w_I (by decide) ?_
    exact lc_one (by wtm_at "g_hp") (by wtm_at "g_ex") hD (by omega) rfl
  · have hD0 : H D = none := none_dn (none_dn hD)
    refine q ((List.range z).map fun (k : Nat) => (b + 3 * (k : Int) + (k : Int) / 7) % 256) n2 D H1 (by wtm_at "g_ex") (by wtm_at "g_hp") hD0 ?_ ?_
    · rw [hA]
      exact congrArg (fun z => some (HO.lst z)) accM_ints
    · rw [List.length_map, List.length_range]
      exact d1
theorem pure_law_whole (T : TX K mg base) (vs : List V) (H : Hp) (Q : VK) (E : XK) (h : sp_law_whole K vs H Q E) : t_law_whole K E { nx := fun _ H' => Q .non H', rt := Q } (start N_law_whole vs) H := by
  obtain ⟨l, rs, ms, c, rfl, hl, hR, hms, q⟩ := h
  unfold t_law_whole
  wtm_at "g_go"
  intro t ht
  wtm_at "g_go"
  have hJ := J_le ms c
  have hlen := hR.1
  refine loopL (xs := rs.map V.ref) (fun i σ H' => ∃ v4, σ = [some (.ref l), some (.int (c : Int)), some (.ref t), some (.int ((enc (ms.take i)).length : Int)), v4] ∧ Ext H H' ∧ H' t = some (.lst ((rs.take (min i (J ms c))).map V.ref))) (SqL.of (by wtm_at "g_hp")) ⟨_, rfl, by wtm_at "g_ex", upd_same⟩
    (fun i σ H' _ ⟨_, _, e, _⟩ => SqL.of (e _ _ hl)) ?_ ?_
  · rintro i x σ H1 hx ⟨v4, rfl, e, ht1⟩
    have hi : i < rs.length := by
      have := (List.getElem?_eq_some_iff.mp hx).1
      rw [List.length_map] at this
      exact this
    obtain ⟨a, m, ha, hm, hma⟩ := (hR.ext e).at (i := i) (by omega)
    have ex : x = .ref a := by
      rw [List.getElem?_map, ha] at hx
      exact (Option.some.inj hx).symm
    subst ex
    have hstep : (enc (ms.take (i + 1))).length = (enc (ms.take i)).length + (m.length + 2) := by
      rw [List.take_add_one, hm, enc_app, List.length_append]
      show _ + (fr m ++ []).length = _
      rw [List.append_nil, fr_len]
    have hiff := J_iff ms c i (by omega)
    wtm_at "g_go"
    rw [List.length_map]
    have en : ((enc (ms.take i)).length : Int) + 2 + (m.length : Int) = ((enc (ms.take (i + 1))).length : Int) := by omega
    rw [en]
    refine if_d (fun h1 => ?_) (fun h1 => ?_)
    · have hij : i < J ms c := hiff.mp (by omega)
      wtm_at "g_go"
      refine ty_list ht1 ?_
      wtm_at "g_go"
      refine w_app ht1 (by rw [List.length_map, List.length_take]; exact small16l (by omega)) ?_
      wtm_at "g_go"
      refine ⟨_, rfl, by wtm_at "g_ex", ?_⟩
      have e1 : min i (J ms c) = i := by omega
      have e2 : min (i + 1) (J ms c) = i + 1 := by omega
      rw [upd_same, e1, e2, List.take_add_one, ha, List.map_append]
      rfl
    · have hij : ¬ i < J ms c := fun z => h1 (by have := hiff.mpr z; omega)
      wtm_at "g_go"
      refine ⟨_, rfl, e, ?_⟩
      have e1 : min i (J ms c) = J ms c := by omega
      have e2 : min (i + 1) (J ms c) = J ms c := by omega
      rw [e2, ← e1]
      exact ht1
  · rintro σ H1 ⟨v4, rfl, e, ht1⟩
    wtm_at "g_go"
    refine q t H1 ht e ?_
    have e1 : min (rs.map V.ref).length (J ms c) = J ms c := by rw [List.length_map]; omega
    rw [← e1]
    exact ht1
theorem nodup_at {as : List Addr} (h : as.Nodup) {i j : Nat} {a : Addr} (h1 : as[i]? = some a) (h2 : as[j]? = some a) : i = j := by
  obtain ⟨l1, e1⟩ := List.getElem?_eq_some_iff.mp h1
  obtain ⟨l2, e2⟩ := List.getElem?_eq_some_iff.mp h2
  exact (List.getElem_inj h).mp (e1.trans e2.symm)
theorem pure_law_same (T : TX K mg base) (vs : List V) (H : Hp) (Q : VK) (E : XK) (h : sp_law_same K vs H Q E) : t_law_same K E { nx := fun _ H' => Q .non H', rt := Q } (start N_law_same vs) H := by
  obtain ⟨t, d, as, bs, ms, rfl, ht, hd, hA, hB, hN, htn, hdn, hbn, hms, hml, q⟩ := h
  unfold t_law_same
  wtm_at "g_go"
  rw [List.length_map, List.length_map, hA.1, hB.1, decide_eq_true rfl]
  wtm_at "g_go"
  rw [List.length_map, hB.1]
  refine loop1 (n := ms.length) (fun i σ H' => ∃ v2 v3, σ = [some (.ref t), some (.ref d), v2, v3] ∧ ExtS as H H' ∧ ∀ (j : Nat) (a : Addr) (m : List Int), i ≤ j → as[j]? = some a → ms[j]? = some m → H' a = some (.lst (m.map V.int))) rfl (by omega) ⟨_, _, rfl, ExtS.rfl', fun j a m _ h1 h2 => hA.2 j a m h1 h2⟩ ?_ ?_
  · rintro i σ H1 hi ⟨v2, v3, rfl, e, hr⟩
    obtain ⟨a, m, ha, hm, _⟩ := hA.at hi
    obtain ⟨b, m', hb, hm', hmb⟩ := hB.at hi
    rw [hm] at hm'
    cases hm'
    have ham := hr i a m (Nat.le_refl _) ha hm
    have hbm : H1 b = some (.lst (m.map V.int)) := e.get _ _ (hbn b (List.mem_of_getElem? hb)) hmb
    have ht1 : H1 t = some (.lst (as.map V.ref)) := e.get _ _ htn ht
    have hd1 : H1 d = some (.lst (bs.map V.ref)) := e.get _ _ hdn hd
    have hlm := hml m (List.mem_of_getElem? hm)
    wtm_at "g_go"
    refine w_ixL (SqL.of ht1) (atI_ref ha rfl) ?_
    wtm_at "g_go"
    refine w_ixL (SqL.of ht1) (atI_ref ha rfl) ?_
    wtm_at "g_go"
    refine w_ixL (SqL.of hd1) (atI_ref hb rfl) ?_
    wtm_at "g_go"
    refine w_neLI (SqL.of ham) (SqL.of hbm) ?_
    rw [decide_eq_true rfl]
    wtm_at "g_go"
    refine w_ixL (SqL.of ht1) (atI_ref ha rfl) ?_
    refine loopL (xs := m.map V.int) (fun k σ H' => H' = H1 ∧ ∃ v3, σ = [some (.ref t), some (.ref d), some (.int (i : Int)), v3]) (SqL.of ham) ⟨rfl, _, rfl⟩ (fun k σ H' _ ⟨z, _⟩ => by rw [z]; exact SqL.of ham) ?_ ?_
    · rintro k x σ H2 hx ⟨rfl, v3, rfl⟩
      obtain ⟨z, _, rfl⟩ : ∃ z, m[k]? = some z ∧ x = .int z := by
        rw [List.getElem?_map] at hx
        cases hz : m[k]? with
        | none => rw [hz] at hx; cases hx
        | some z => rw [hz] at hx; cases hx; exact ⟨z, rfl, rfl⟩
      wtm_at "g_go"
      exact ⟨rfl, _, rfl⟩
    · rintro σ H2 ⟨rfl, v3, rfl⟩
      wtm_at "g_go"
      refine w_ixL (SqL.of ht1) (atI_ref ha rfl) ?_
      refine ty_list ham ?_
      wtm_at "g_go"
      refine w_app ham (by rw [List.length_map]; exact small16l (by omega)) ?_
      wtm_at "g_go"
      refine ⟨_, _, rfl, ?_, ?_⟩
      · exact exts_put (SubN.inn (List.mem_of_getElem? ha) SubN.nil) e
      · intro j a2 m2 hj ha2 hm2
        refine up_k (hr j a2 m2 (by omega) ha2 hm2) ?_
        intro z
        subst z
        have := nodup_at hN ha ha2
        omega
  · rintro σ H1 ⟨v2, v3, rfl, e, _⟩
    wtm_at "g_go"
    exact q _ e
theorem pure_law_too_long (T : TX K mg base) (vs : List V) (H : Hp) (Q : VK) (E : XK) (h : sp_law_too_long K vs H Q E) : t_law_too_long K E { nx := fun _ H' => Q .non H', rt := Q } (start N_law_too_long vs) H := by
  obtain ⟨s, n, rfl, hs, q⟩ := h
  unfold t_law_too_long
  wtm_at "g_go"
  intro l hl
  have nsl : s ≠ l := ne_of_none hs hl
  wtm_at "g_go"
  rename_i d n' d0 d1
  refine w_rep (xs := [.int 1]) (by wtm_at "g_hp") (by omega) (by omega) (by show 1 * _ ≤ _; exact small16 (by omega)) fun p hp => ?_
  have er : (List.replicate (65536 + d).toNat [V.int 1]).flatten = (List.replicate (65536 + d).toNat (1 : Int)).map V.int := by
    rw [List.map_replicate]
    generalize (65536 + d).toNat = k
    induction k with
    | zero => rfl
    | succ k ih => rw [List.replicate_succ, List.replicate_succ, List.flatten_cons, ih]; rfl
  rw [er]
  wtm_at "g_go"
  refine ⟨p, List.replicate (65536 + d).toNat (1 : Int), rfl, SqL.of upd_same, by rw [List.length_replicate]; omega, fun _ => ⟨true, T.exm 0, fun _ a ha => ?_, fun z => Bool.noConfusion z⟩, fun z => by rw [List.length_replicate] at z; omega⟩
  wtm_at "g_go"
  refine w_isX (excCB_ok (T.b.ex_ 0)) (.own _) (of_decide_eq_true (T.b.ex_ 1)) ?_
  wtm_at "g_go"
  refine w_isX (excCB_ok (T.b.ex_ 0)) (.own _) (of_decide_eq_true (T.b.ex_ 2)) ?_
  wtm_at "g_go"
  exact q _
end
end K39

namespace K39
open PySem PySem.Spec PyProof.Rows L2 G
local macro_rules | `(tactic| wtm_at "g_get") => `(tactic| first
  | ((with_reducible refine' w_fld ?k1 (cl_Messages (by assumption)) (na_Messages__waiting (by assumption)) lk_Messages__waiting ?_); (case k1 => wtm_at "g_hp"))
  | fail)
local macro_rules | `(tactic| wtm_at "g_set") => `(tactic| first
  | ((with_reducible refine' w_sput ?k1 (cl_Messages (by assumption)) (na_Messages__waiting (by assumption)) pt_Messages__waiting rfl ?_); (case k1 => wtm_at "g_hp"))
  | ((with_reducible refine' w_sput ?k1 (cl_Messages (by assumption)) (na_Messages__waiting (by assumption)) pn_Messages__waiting rfl ?_); (case k1 => wtm_at "g_hp"))
  | fail)
local macro_rules | `(tactic| wtm_at "g_set2") => `(tactic| first
  | ((with_reducible refine' w_sput2 ?k1 pt_Messages__waiting rfl ?_); (case k1 => wtm_at "g_hp"))
  | fail)
local macro_rules | `(tactic| wtm_at "g_mt") => `(tactic| first
  | ((with_reducible refine' w_mt1 ?k1 ln_Messages_pending ?_); (case k1 => wtm_at "g_hp"))
  | ((with_reducible refine' w_mt1 ?k1 ln_Messages_feed ?_); (case k1 => wtm_at "g_hp"))
  | ((with_reducible refine' w_mt1 ?k1 ln_Messages__size_at ?_); (case k1 => wtm_at "g_hp"))
  | fail)
local macro_rules | `(tactic| wtm_at "g_call") => `(tactic| first
  | ((with_reducible refine' c_digit ?k1 ?k2 ?k3 ?_); (case k1 => wtm_at "g_hp"); (case k2 => omega); (case k3 => omega); intro _ _ _ _)
  | ((with_reducible refine' c_start ?_); intro _ _ _)
  | ((with_reducible refine' c_isint ?_))
  | ((with_reducible refine' c_cell ?k1 ?k2 ?_); (case k1 => wtm_at "g_sq"); (case k2 => omega); intro _)
  | ((with_reducible refine' c_pending ?k1 ?k2 ?_); (case k1 => wtm_at "g_hp"); (case k2 => wtm_at "g_hp"))
  | ((with_reducible refine' c_message ?k1 ?k2 ?k3 ?_); (case k1 => wtm_at "g_hp"); (case k2 => omega); (case k3 => omega); intro _ _ _ _ _ _ _ _ _)
  | ((with_reducible refine' w_pr1 ?k1 ?_); (case k1 => wtm_at "g_hp"))
  | fail)
local macro_rules | `(tactic| wtm_at "g_ne") => `(tactic| first
  | (with_reducible assumption) | (with_reducible exact Ne.symm (by assumption)) | (with_reducible exact ne_of_none (by assumption) (by assumption)) | (with_reducible exact (ne_of_none (by assumption) (by assumption)).symm)
  | fail)
local macro_rules | `(tactic| wtm_at "g_hp") => `(tactic| first
  | (with_reducible assumption) | (with_reducible exact upd_same) | ((with_reducible refine' up_nn ?k1 ?k2); (case k1 => with_reducible assumption); (case k2 => wtm_at "g_hp")) | ((with_reducible refine' up_k' ?k1 ?k2); (case k1 => wtm_at "g_ne"); (case k2 => wtm_at "g_hp"))
  | ((with_reducible refine' up_ko ?k1 ?k2 ?k3); (case k1 => wtm_at "g_hp"); (case k2 => wtm_at "g_hp"); (case k3 => (intro z; cases z)))
  | ((with_reducible refine' ext_get ?k1 ?k2); (case k1 => assumption); (case k2 => wtm_at "g_hp"))
  | ((with_reducible refine' extp_get ?k1 ?k2 ?k3); (case k1 => assumption); (case k2 => wtm_at "g_ne"); (case k3 => wtm_at "g_hp"))
  | ((with_reducible refine' exts_get ?k1 ?k2 ?k3); (case k1 => assumption); (case k2 => wtm_at "g_ni"); (case k3 => wtm_at "g_hp"))
  | fail)
local macro_rules | `(tactic| wtm_at "g_ni") => `(tactic| first
  | (with_reducible assumption) | (with_reducible exact ni_nil)
  | ((with_reducible refine' ni_cons ?k1 ?k2); (case k1 => wtm_at "g_ne"); (case k2 => wtm_at "g_ni"))
  | fail)
local macro_rules | `(tactic| wtm_at "g_mem") => `(tactic| first
  | (with_reducible assumption) | (with_reducible exact mem_hd)
  | ((with_reducible refine' mem_tl ?k1); (case k1 => wtm_at "g_mem"))
  | fail)
local macro_rules | `(tactic| wtm_at "g_sub") => `(tactic| first
  | (with_reducible assumption) | (with_reducible exact SubN.nil)
  | ((with_reducible refine' SubN.inn ?k1 ?k2); (case k1 => wtm_at "g_mem"); (case k2 => wtm_at "g_sub"))
  | ((with_reducible refine' SubN.new ?k1 ?k2); (case k1 => wtm_at "g_nn"); (case k2 => wtm_at "g_sub"))
  | fail)
local macro_rules | `(tactic| wtm_at "g_nn") => `(tactic| first
  | (with_reducible assumption) | ((with_reducible refine' none_up ?k1 ?k2); (case k1 => wtm_at "g_ne"); (case k2 => wtm_at "g_nn")) | ((with_reducible refine' none_dn ?k1); (case k1 => with_reducible assumption))
  | ((with_reducible refine' exts_none ?k1 ?k2); (case k1 => assumption); (case k2 => with_reducible assumption)) | ((with_reducible refine' ext_none ?k1 ?k2); (case k1 => assumption); (case k2 => with_reducible assumption))
  | fail)
local macro_rules | `(tactic| wtm_at "g_ex") => `(tactic| first
  | (with_reducible assumption) | (with_reducible exact Ext.rfl') | (with_reducible exact ExtP.rfl')
  | ((with_reducible refine' ext_up ?k1 ?k2); (case k1 => wtm_at "g_nn"); (case k2 => wtm_at "g_ex"))
  | ((with_reducible refine' ext_put ?k1 ?k2); (case k1 => wtm_at "g_nn"); (case k2 => wtm_at "g_ex"))
  | ((with_reducible refine' ext_via ?k1 ?k2); (case k1 => assumption); (case k2 => wtm_at "g_ex"))
  | ((with_reducible refine' ext_thr ?k1 ?k2 ?k3); (case k2 => assumption); (case k1 => wtm_at "g_nn"); (case k3 => wtm_at "g_ex"))
  | ((with_reducible refine' extp_put ?k1); (case k1 => wtm_at "g_ex"))
  | ((with_reducible refine' extp_up ?k1 ?k2); (case k1 => wtm_at "g_nn"); (case k2 => wtm_at "g_ex"))
  | ((with_reducible refine' extp_putn ?k1 ?k2); (case k1 => wtm_at "g_nn"); (case k2 => wtm_at "g_ex"))
  | ((with_reducible refine' extp_via ?k1 ?k2); (case k1 => assumption); (case k2 => wtm_at "g_ex"))
  | ((with_reducible refine' extp_viae ?k1 ?k2); (case k1 => assumption); (case k2 => wtm_at "g_ex"))
  | ((with_reducible refine' extp_thr ?k1 ?k2 ?k3); (case k2 => assumption); (case k1 => wtm_at "g_nn"); (case k3 => wtm_at "g_ex"))
  | (with_reducible exact ExtS.rfl')
  | ((with_reducible refine' exts_up ?k1 ?k2); (case k1 => wtm_at "g_nn"); (case k2 => wtm_at "g_ex"))
  | ((with_reducible refine' exts_put ?k1 ?k2); (case k1 => wtm_at "g_sub"); (case k2 => wtm_at "g_ex"))
  | ((with_reducible refine' exts_thrE ?k1 ?k2); (case k1 => assumption); (case k2 => wtm_at "g_ex"))
  | ((with_reducible refine' exts_thrP ?k1 ?k2 ?k3 ?k4); (case k1 => assumption); (case k2 => assumption); (case k3 => wtm_at "g_sub"); (case k4 => wtm_at "g_ex"))
  | ((with_reducible refine' exts_thr ?k1 ?k2 ?k3); (case k1 => assumption); (case k2 => wtm_at "g_sub"); (case k3 => wtm_at "g_ex"))
  | fail)
local macro_rules | `(tactic| wtm_at "g_thw") => `(tactic| first
  | (with_reducible assumption) | ((with_reducible refine' Thw.lst ?k1); (case k1 => wtm_at "g_hp")) | ((with_reducible refine' Thw.ins ?k1); (case k1 => wtm_at "g_hp"))
  | fail)
local macro_rules | `(tactic| wtm_at "g_sc") => `(tactic| first
  | (with_reducible assumption) | ((with_reducible refine' scr_new' ?k1 ?k2); (case k1 => wtm_at "g_nn"); (case k2 => wtm_at "g_sc")) | ((with_reducible refine' scr_put' ?k1 ?k2); (case k1 => wtm_at "g_thw"); (case k2 => wtm_at "g_sc"))
  | ((with_reducible refine' scr_ext ?k1 ?k2); (case k1 => assumption); (case k2 => wtm_at "g_sc")) | ((with_reducible refine' scr_extp ?k1 ?k2 ?k3); (case k1 => assumption); (case k2 => wtm_at "g_thw"); (case k3 => wtm_at "g_sc")) | ((with_reducible refine' scr_extn ?k1 ?k2 ?k3); (case k1 => assumption); (case k2 => wtm_at "g_nn"); (case k3 => wtm_at "g_sc"))
  | fail)
local macro_rules | `(tactic| wtm_at "g_sq") => `(tactic| first
  | (with_reducible assumption) | ((with_reducible refine' SqL.of ?k1); (case k1 => wtm_at "g_hp")) | ((with_reducible refine' Scr.sq ?k1); (case k1 => wtm_at "g_sc")) | ((with_reducible refine' sq_new' ?k1 ?k2); (case k1 => wtm_at "g_nn"); (case k2 => wtm_at "g_sq")) | ((with_reducible refine' sq_put' ?k1 ?k2); (case k1 => wtm_at "g_ne"); (case k2 => wtm_at "g_sq"))
  | ((with_reducible refine' sq_ext ?k1 ?k2); (case k1 => assumption); (case k2 => wtm_at "g_sq"))
  | fail)
local macro_rules | `(tactic| wtm_at "g_sqt") => `(tactic| first
  | (with_reducible assumption) | ((with_reducible refine' SqT.of' ?k1); (case k1 => wtm_at "g_hp")) | ((with_reducible refine' sqt_ext ?k1 ?k2); (case k1 => assumption); (case k2 => wtm_at "g_sqt"))
  | fail)
local macro_rules | `(tactic| wtm_at "g_st") => `(tactic| first
  | (with_reducible first
      | refine w_seq ?_ | refine w_asg ?_ | refine w_nm ?_ | refine w_next ?_ | refine w_if ?_ | refine w_ret ?_ | refine w_retN ?_ | refine w_drop ?_
      | refine w_var rfl ?_ | refine w_c ?_ | refine w_op ?_ | refine w_I0 ?_
      | refine w_eqI ?_ | refine w_neI ?_ | refine w_eqB ?_ | refine w_neB ?_ | refine w_eqS ?_ | refine w_neS ?_ | refine w_isN0 ?_ | refine w_isNi ?_ | refine w_isNr ?_ | refine w_isNb ?_ | refine w_isNs ?_ | refine w_notN0 ?_ | refine w_notNi ?_ | refine w_notNr ?_ | refine w_notNb ?_ | refine w_notNs ?_ | refine w_isN ?_ | refine w_notN ?_ | refine w_isB ?_ | refine w_notB ?_
      | refine w_un ?_ | refine w_U ?_ | refine w_chain ?_ | refine w_k ?_ | refine w_test ?_ | refine w_tB ?_ | refine w_tru ?_ | refine w_not ?_ | refine w_and ?_ | refine w_or ?_
      | refine w_andV ?_ | refine w_orV ?_ | refine w_notV ?_ | refine w_ife ?_ | refine w_nil ?_ | refine w_cons ?_ | refine w_tup ?_ | refine w_lst ?_ | refine w_small rfl ?_
      | refine w_call ?_ | refine w_mk ?_ | refine w_mt ?_ | refine w_cb ?_ | refine w_min2 ?_ | refine w_max2 ?_ | refine w_abs ?_ | refine w_int ?_
      | refine w_fld0 ?_ | refine w_bm ?_ | refine w_bm0 ?_ | refine w_sub ?_ | refine w_sfld ?_ | refine w_sfa ?_ | refine w_radd ?_ | refine w_rsub ?_ | refine w_ip ?_ | refine w_rs ?_ | refine w_pr ?_
      | refine w_lcR1 ?_ | refine w_lcR2 ?_ | refine w_lcL ?_ | refine w_lcT ?_ | refine w_sl ?_ | refine w_nopart ?_ | refine w_part ?_ | refine w_pint ?_
      | refine w_forR1 ?_ | refine w_forR2 ?_ | refine w_forL ?_ | refine w_forT ?_ | refine w_aug rfl ?_ | refine w_par ?_ | refine w_brk ?_ | refine w_cont ?_
      | refine w_isi_ii ?_ | refine w_isi_ib ?_ | refine w_isi_bi ?_ | refine w_isi_bb ?_ | refine w_isi_ss ?_ | refine w_isi_is ?_ | refine w_isi_il ?_ | refine w_isi_it ?_ | refine w_isi_sl ?_ | refine w_isi_st ?_ | refine w_isi_nl ?_ | refine w_isi_nt ?_
      | refine if_T ?_ | refine if_F ?_ | refine if_nT ?_ | refine if_nF ?_)
  | ((with_reducible refine' w_lenL ?k1 ?_); (case k1 => wtm_at "g_sq"))
  | ((with_reducible refine' w_lenT ?k1 ?_); (case k1 => wtm_at "g_sqt"))
  | ((with_reducible refine' w_isi_ll ?k1 ?_); (case k1 => wtm_at "g_hp"))
  | ((with_reducible refine' w_isi_tt ?k1 ?_); (case k1 => wtm_at "g_hp"))
  | ((with_reducible refine' w_isi_lt ?k1 ?_); (case k1 => wtm_at "g_hp"))
  | ((with_reducible refine' w_isi_tl ?k1 ?_); (case k1 => wtm_at "g_hp"))
  | wtm_at "g_get"
  | wtm_at "g_mt"
  | wtm_at "g_set"
  | wtm_at "g_set2"
  | wtm_at "g_call"
  | fail)
local macro_rules | `(tactic| wtm_at "g_go") => `(tactic| repeat wtm_at "g_st")
local macro_rules | `(tactic| wtm_at "g_ifo") => `(tactic| first
  | (refine if_nno rfl ?_) | (refine if_yes rfl ?_)
  | (refine if_no (by omega) ?_)
  | (refine if_yes (by omega) ?_)
  | (refine if_nno (by omega) ?_)
  | (refine if_nyes (by omega) ?_)
  | (refine if_nno (decide_eq_false (by omega)).symm ?_)
  | (refine if_nno (decide_eq_true (by omega)).symm ?_)
  | fail)
local macro_rules | `(tactic| wtm_at "g_goo") => `(tactic| repeat (first | wtm_at "g_st" | wtm_at "g_ifo"))
section
variable {K : PySem.W.Frag} {mg : Str → Option Value} {base : Heap}
theorem mem_snocL {α : Type} {P : α → Prop} {as : List α} {x : α} (h : ∀ a ∈ as, P a) (n : P x) : ∀ a ∈ as ++ [x], P a := fun a ha => (List.mem_append.mp ha).elim (h a) fun z => by
  rw [List.mem_singleton.mp z]
  exact n
theorem pure_law (T : TX K mg base) (vs : List V) (H : Hp) (Q : VK) (E : XK) (h : sp_law K vs H Q E) : t_law K E { nx := fun _ H' => Q .non H', rt := Q } (start N_law vs) H := by
  obtain ⟨a, ns, rfl, hS, q⟩ := h
  unfold t_law
  wtm_at "g_go"
  rename_i c0 n0 s hs0
  intro tp htp
  have nstp : s ≠ tp := ne_of_none (H := upd H s (.lst [.int n0])) upd_same htp
  wtm_at "g_go"
  rename_i d n1 d0 d1
  refine w_intb ?_
  obtain ⟨many, hmany, hm2⟩ : ∃ many, atI [V.int 10, V.int 701] (if decide (d = 0) then 1 else 0) = some (V.int many) ∧ (many = 10 ∨ many = 701) := by
    by_cases h : d = 0
    · rw [if_pos (decide_eq_true h)]; exact ⟨701, rfl, .inr rfl⟩
    · rw [if_neg (by simp [h])]; exact ⟨10, rfl, .inl rfl⟩
  refine w_ixT (xs := [V.int 10, V.int 701]) (by wtm_at "g_sqt") hmany ?_
  wtm_at "g_go"
  intro ml hml0
  wtm_at "g_go"
  refine w_cut (fun σ H0 => ∃ oc n, σ = [some (.ref a), some (.ref s), some (.int many), some (.ref ml), some (.ref oc), none, none, none, none, none, none, none, none, none, none, none, none] ∧ H0 s = some (.lst [.int n]) ∧ H0 ml = some (.lst []) ∧ H0 oc = some (.lst []) ∧ s ≠ ml ∧ oc ≠ ml ∧ oc ≠ s ∧ Scr K H0 a (ns.map V.int)) ?_ ?_
  · wtm_at "g_go"
    intro oc hoc
    wtm_at "g_go"
    have nsm : s ≠ ml := ne_of_none (H := upd (upd (upd H s (.lst [.int n0])) tp (.tup [.int 10, .int 701])) s (.lst [.int n1])) upd_same hml0
    have hs1 : (upd (upd (upd (upd H s (.lst [.int n0])) tp (.tup [.int 10, .int 701])) s (.lst [.int n1])) ml (.lst [])) s = some (.lst [.int n1]) := by wtm_at "g_hp"
    exact ⟨oc, n1, rfl, by wtm_at "g_hp", by wtm_at "g_hp", upd_same, nsm, (ne_of_none (H := upd (upd (upd (upd H s (.lst [.int n0])) tp (.tup [.int 10, .int 701])) s (.lst [.int n1])) ml (.lst [])) upd_same hoc).symm, (ne_of_none hs1 hoc).symm, by wtm_at "g_sc"⟩
  rintro σ H0 ⟨oc, n, rfl, hs, hml, hoc, nsm, nom, nos, hS0⟩
  wtm_at "g_go"
  rename_i nn n2 nn0 nn1
  obtain ⟨z, rfl⟩ := Int.eq_ofNat_of_zero_le nn0
  have hS00 : Scr K (upd H0 s (.lst [.int n2])) a (ns.map V.int) := by wtm_at "g_sc"
  have hml00 : (upd H0 s (.lst [.int n2])) ml = some (.lst []) := by wtm_at "g_hp"
  have hoc00 : (upd H0 s (.lst [.int n2])) oc = some (.lst []) := by wtm_at "g_hp"
  have hs00 : (upd H0 s (.lst [.int n2])) s = some (.lst [.int n2]) := upd_same
  generalize upd H0 s (.lst [.int n2]) = H00 at *
  refine loop1 (n := z) (fun i σ H' => ∃ v5 v6 v7 v8 oc mr ms, σ = [some (.ref a), some (.ref s), some (.int many), some (.ref ml), some (.ref oc), v5, v6, v7, v8, none, none, none, none, none, none, none, none] ∧ ExtS [ml] H00 H' ∧ H' ml = some (.lst (mr.map V.ref)) ∧ Rows H' mr ms ∧
    (∀ x ∈ mr, H00 x = none) ∧ H' oc = some (.lst ((enc ms).map V.int)) ∧ oc ≠ ml ∧ oc ≠ s ∧ ms.length = i ∧ (∀ m ∈ ms, m.length < 701) ∧ Scr K H' a (ns.map V.int)) rfl (by omega) ⟨_, _, _, _, oc, [], [], rfl, ExtS.rfl', hml00, .nil, all_nil, hoc00, nom, nos, rfl, (fun m hm => by cases hm), hS00⟩ ?_ ?_
  · rintro i σ H1 hi ⟨v5, v6, v7, v8, oc, mr, ms, rfl, e1, hml1, hR, hF, hoc1, nom, nos, hlen, hsm, hS1⟩
    have hs1 : H1 s = some (.lst [.int n2]) := by wtm_at "g_hp"
    wtm_at "g_go"
    rename_i n3 n4 st hst xs n5 p H2 e2 hst2 hp0 hp2 hlx
    have npm : p ≠ ml := (ne_of_none hml1 (none_dn hp0)).symm
    have nst : st ≠ ml := (ne_of_none hml1 hst).symm
    have nso : st ≠ oc := (ne_of_none hoc1 hst).symm
    have hml2 : H2 ml = some (.lst (mr.map V.ref)) := by wtm_at "g_hp"
    have hoc2 : H2 oc = some (.lst ((enc ms).map V.int)) := by wtm_at "g_hp"
    have e12 : Ext H1 H2 := by wtm_at "g_ex"
    refine w_listL (xs := xs.map V.int) (by wtm_at "g_sq") fun g hg => ?_
    wtm_at "g_go"
    refine c_frame (SqL.of upd_same) (by omega) fun f H3 hf0 e3 hf3 => ?_
    have hg3 : H3 g = some (.lst (xs.map V.int)) := by wtm_at "g_hp"
    have e23 : Ext H2 H3 := by wtm_at "g_ex"
    have ngf : g ≠ f := ne_of_none (H := upd H2 g (.lst (xs.map V.int))) upd_same hf0
    have npg : p ≠ g := ne_of_none hp2 hg
    have nmg : ml ≠ g := ne_of_none hml2 hg
    have nog : oc ≠ g := ne_of_none hoc2 hg
    have nof : oc ≠ f := ne_of_none hoc2 (none_dn hf0)
    have nmf : ml ≠ f := ne_of_none hml2 (none_dn hf0)
    wtm_at "g_go"
    refine ty_list hg3 ?_
    wtm_at "g_go"
    refine w_app hg3 (by rw [List.length_map]; exact small16l (by omega)) ?_
    have hp3 : H3 p = some (.lst (xs.map V.int)) := by wtm_at "g_hp"
    have hml3 : H3 ml = some (.lst (mr.map V.ref)) := by wtm_at "g_hp"
    have hoc3 : H3 oc = some (.lst ((enc ms).map V.int)) := by wtm_at "g_hp"
    have e14 : ExtS [ml] H00 (upd H3 g (.lst (xs.map V.int ++ [V.int 1]))) := by
      have hg00 : H00 g = none := exts_none e1 (ext_none e12 hg)
      exact exts_put (SubN.new hg00 SubN.nil) (exts_thrE e23 (exts_thrE e12 e1))
    have hf4 : (upd H3 g (.lst (xs.map V.int ++ [V.int 1]))) f = some (.lst ((fr xs).map V.int)) := by wtm_at "g_hp"
    have hp4 : (upd H3 g (.lst (xs.map V.int ++ [V.int 1]))) p = some (.lst (xs.map V.int)) := by wtm_at "g_hp"
    have hml4 : (upd H3 g (.lst (xs.map V.int ++ [V.int 1]))) ml = some (.lst (mr.map V.ref)) := by wtm_at "g_hp"
    have hoc4 : (upd H3 g (.lst (xs.map V.int ++ [V.int 1]))) oc = some (.lst ((enc ms).map V.int)) := by wtm_at "g_hp"
    have hS4 : Scr K (upd H3 g (.lst (xs.map V.int ++ [V.int 1]))) a (ns.map V.int) := ((hS1.ext e12).ext e23).put (Thw.lst hg3)
    have hR4 : Rows (upd H3 g (.lst (xs.map V.int ++ [V.int 1]))) mr ms := ((hR.ext e12).ext e23).put fun hz => by
      obtain ⟨m, hm⟩ := hR.mem hz
      rw [ext_none e12 hg] at hm
      cases hm
    have hp00 : H00 p = none := exts_none e1 (none_dn hp0)
    generalize upd H3 g (.lst (xs.map V.int ++ [V.int 1])) = H4 at *
    wtm_at "g_go"
    rw [List.length_map]
    refine w_I ⟨by decide, by decide⟩ ?_
    wtm_at "g_go"
    rw [List.length_map]
    refine w_I (by decide) ?_
    wtm_at "g_go"
    intro t2 ht2
    wtm_at "g_go"
    refine w_cat (xs := [V.int ((xs.length : Int) / 256), V.int ((xs.length : Int) % 256)]) (zs := xs.map V.int) (by wtm_at "g_hp") (by wtm_at "g_hp") (by rw [List.length_map]; exact small16 (by show 2 + xs.length ≤ _; omega)) fun t3 ht3 => ?_
    refine w_neL' (fr xs) (fr xs) (by wtm_at "g_sq") (by wtm_at "g_sq") ?_ rfl (by rfl)
    rw [decide_eq_true rfl]
    wtm_at "g_go"
    have e5 : Ext H4 (upd (upd H4 t2 (.lst [V.int ((xs.length : Int) / 256), V.int ((xs.length : Int) % 256)])) t3 (.lst ([V.int ((xs.length : Int) / 256), V.int ((xs.length : Int) % 256)] ++ xs.map V.int))) := by wtm_at "g_ex"
    generalize upd (upd H4 t2 (.lst [V.int ((xs.length : Int) / 256), V.int ((xs.length : Int) % 256)])) t3 (.lst ([V.int ((xs.length : Int) / 256), V.int ((xs.length : Int) % 256)] ++ xs.map V.int)) = H5 at *
    have hml5 : H5 ml = some (.lst (mr.map V.ref)) := e5 _ _ hml4
    have hmr : mr.length = i := by rw [hR.1, hlen]
    refine ty_list hml5 ?_
    wtm_at "g_go"
    refine w_app hml5 (by rw [List.length_map]; exact small16l (by omega)) ?_
    wtm_at "g_go"
    have hel := enc_small ms 700 fun m hm => by have := hsm m hm; omega
    have hel2 : (enc ms).length ≤ 13 * 702 := Nat.le_trans hel (Nat.mul_le_mul_right _ (by omega))
    refine w_cat (xs := (enc ms).map V.int) (zs := (fr xs).map V.int) (up_k (e5 _ _ hoc4) nom) (up_k (e5 _ _ hf4) nmf.symm) (by rw [List.length_map, List.length_map, fr_len]; exact small16 (by omega)) fun o2 ho2 => ?_
    wtm_at "g_go"
    have hmlx : (upd H5 ml (.lst (mr.map V.ref ++ [V.ref p]))) ml = some (.lst (mr.map V.ref ++ [V.ref p])) := upd_same
    have nol : o2 ≠ ml := (ne_of_none hmlx ho2).symm
    have hs5 : (upd H5 ml (.lst (mr.map V.ref ++ [V.ref p]))) s = some (.lst [.int n2]) := up_k ((exts_thrE e5 e14).get _ _ (ni_cons nsm ni_nil) hs00) nsm
    refine ⟨_, _, _, _, o2, mr ++ [p], ms ++ [xs], rfl, ?_, ?_, ?_, mem_snoc hF hp00, ?_, nol, (ne_of_none hs5 ho2).symm, by rw [List.length_append, hlen]; rfl, mem_snocL hsm (by omega), ?_⟩
    · exact exts_up ho2 (exts_put (SubN.inn mem_hd SubN.nil) (exts_thrE e5 e14))
    · rw [upd_ne nol.symm, upd_same, List.map_append]
      rfl
    · exact ((((hR4.ext e5).snoc (e5 _ _ hp4)).put (ni_snoc (fun z => by have := hF ml z; rw [hml00] at this; cases this) npm.symm)).new ho2)
    · rw [upd_same, ← List.map_append, enc_app]
      show _ = some (HO.lst ((enc ms ++ (fr xs ++ [])).map V.int))
      rw [List.append_nil]
    · exact ((hS4.ext e5).put (Thw.lst hml5)).new ho2
  rintro σ H1 ⟨v5, v6, v7, v8, oc, mr, ms, rfl, e1, hml1, hR, hF, hoc1, nom, nos, hlen, hsm, hS1⟩
  have hs1 : H1 s = some (.lst [.int n2]) := by wtm_at "g_hp"
  have nsr : s ∉ mr := fun z => by have := hF s z; rw [hs00] at this; cases this
  have nmr : ml ∉ mr := fun z => by have := hF ml z; rw [hml00] at this; cases this
  have hel := enc_small ms 700 fun m hm => by have := hsm m hm; omega
  have hel2 : (enc ms).length ≤ 13 * 702 := Nat.le_trans hel (Nat.mul_le_mul_right _ (by omega))
  wtm_at "g_go"
  rw [List.length_map]
  refine w_cut (fun σ H' => ∃ (en : Nat) (n' : Int), σ = [some (.ref a), some (.ref s), some (.int many), some (.ref ml), some (.ref oc), v5, v6, v7, v8, some (.int (en : Int)), none, none, none, none, none, none, none] ∧ en ≤ (enc ms).length ∧ H' = upd H1 s (.lst [.int n'])) ?_ ?_
  · wtm_at "g_go"
    refine if_d (fun h1 => ?_) (fun h1 => ?_)
    · wtm_at "g_go"
      rw [List.length_map]
      wtm_at "g_go"
      rename_i d3 n3 d30 d31 d4 n4 d40 d41
      refine ⟨d4.toNat, n4, ?_, by omega, by rw [upd_upd]⟩
      have ed : ((d4.toNat : Nat) : Int) = d4 := by omega
      rw [ed]
      rfl
    · wtm_at "g_go"
      exact ⟨(enc ms).length, _, rfl, Nat.le_refl _, rfl⟩
  rintro σ H2 ⟨en, n3, rfl, hen, rfl⟩
  have hml2 : (upd H1 s (.lst [.int n3])) ml = some (.lst (mr.map V.ref)) := by wtm_at "g_hp"
  have hoc2 : (upd H1 s (.lst [.int n3])) oc = some (.lst ((enc ms).map V.int)) := by wtm_at "g_hp"
  have hR2 : Rows (upd H1 s (.lst [.int n3])) mr ms := hR.put nsr
  have hS2 : Scr K (upd H1 s (.lst [.int n3])) a (ns.map V.int) := by wtm_at "g_sc"
  generalize upd H1 s (.lst [.int n3]) = H2 at *
  wtm_at "g_go"
  intro rd dx hrd hdx nrd
  refine ⟨rd, dx, rfl, upd_same, fun w0 hw0 => ⟨rfl, ?_⟩⟩
  obtain ⟨nw1, hw1⟩ := up_none hw0
  obtain ⟨nw2, hw2⟩ := up_none hw1
  have eA : Ext H2 (upd (upd (upd (upd H2 dx (.own rd)) rd (.ins (cM K) dx [])) w0 (.lst [])) rd (oM K dx w0)) := by wtm_at "g_ex"
  have hrdA : (upd (upd (upd (upd H2 dx (.own rd)) rd (.ins (cM K) dx [])) w0 (.lst [])) rd (oM K dx w0)) rd = some (oM K dx w0) := upd_same
  have hwA : (upd (upd (upd (upd H2 dx (.own rd)) rd (.ins (cM K) dx [])) w0 (.lst [])) rd (oM K dx w0)) w0 = some (.lst []) := by rw [upd_ne nw1, upd_same]
  generalize upd (upd (upd (upd H2 dx (.own rd)) rd (.ins (cM K) dx [])) w0 (.lst [])) rd (oM K dx w0) = HA at *
  have hSA : Scr K HA a (ns.map V.int) := hS2.ext eA
  wtm_at "g_go"
  rename_i n5 n6 s2 hs2n
  refine w_cut (fun σ H' => σ = [some (.ref a), some (.ref s2), some (.int many), some (.ref ml), some (.ref oc), v5, v6, v7, v8, some (.int (en : Int)), some (.ref rd), some (.int 0), none, none, none, none, none] ∧ H' = upd HA s2 (.lst [.int n6])) ?_ ?_
  · wtm_at "g_go"
    exact ⟨rfl, rfl⟩
  rintro σ HB ⟨rfl, rfl⟩
  have eB : Ext HA (upd HA s2 (.lst [.int n6])) := by wtm_at "g_ex"
  have hs2B : (upd HA s2 (.lst [.int n6])) s2 = some (.lst [.int n6]) := upd_same
  have hmlA : HA ml = some (.lst (mr.map V.ref)) := eA _ _ hml2
  have hocA : HA oc = some (.lst ((enc ms).map V.int)) := eA _ _ hoc2
  have hRA : Rows HA mr ms := hR2.ext eA
  have n2m : ml ≠ s2 := ne_of_none hmlA hs2n
  have n2o : oc ≠ s2 := ne_of_none hocA hs2n
  have n2r : s2 ∉ mr := hRA.no hs2n
  have n2w : w0 ≠ s2 := ne_of_none hwA hs2n
  have n2d : rd ≠ s2 := ne_of_none hrdA hs2n
  have nwm : ml ≠ w0 := ne_of_none hml2 hw2
  have nwo : oc ≠ w0 := ne_of_none hoc2 hw2
  have nwr : w0 ∉ mr := hR2.no hw2
  have nrm : ml ≠ rd := ne_of_none hml2 hrd
  have nro : oc ≠ rd := ne_of_none hoc2 hrd
  have nrr : rd ∉ mr := hR2.no hrd
  have hSB := hSA.ext eB
  have hrdB := eB _ _ hrdA
  have hwB := eB _ _ hwA
  have hmlB := eB _ _ hmlA
  have hocB := eB _ _ hocA
  have hRB := hRA.ext eB
  generalize upd HA s2 (.lst [.int n6]) = HB at *
  wtm_at "g_go"
  refine loop1 (n := 21) (fun i σ H' => ∃ (c : Nat) (v5 v6 v8 v12 v13 v14 v15 v16 : Option V) (w : Addr) (n' : Int) (T : List Int), σ = [some (.ref a), some (.ref s2), some (.int many), some (.ref ml), some (.ref oc), v5, v6, v7, v8, some (.int (en : Int)), some (.ref rd), some (.int (c : Int)), v12, v13, v14, v15, v16] ∧
      ExtS [s2, rd, w0] HB H' ∧ H' s2 = some (.lst [.int n']) ∧ H' rd = some (oM K dx w) ∧ H' w = some (.lst (T.map V.int)) ∧ c ≤ en ∧ (enc ms).take c = enc (ms.take (J ms c)) ++ T ∧ sizeAt T 0 = none ∧ ml ≠ w ∧ oc ≠ w ∧ w ∉ mr ∧ w ≠ s2 ∧ (w = w0 ∨ HB w = none)) rfl (by omega)
    ⟨0, _, _, _, _, _, _, _, _, w0, n6, [], rfl, ExtS.rfl', hs2B, hrdB, hwB, Nat.zero_le _, ?_, rfl, nwm, nwo, nwr, n2w, .inl rfl⟩ ?_ ?_
  · have e0 : J ms 0 = 0 := by
      cases ms with
      | nil => rfl
      | cons m r => rw [J, if_neg (by omega)]
    rw [e0]
    rfl
  · rintro i σ H3 hi ⟨c, v5, v6, v8, v12, v13, v14, v15, v16, w, n', T, rfl, e3, hs3, hrd3, hw3, hc, hT, hT0, qm, qo, qr, q2, qw⟩
    have hml3 : H3 ml = some (.lst (mr.map V.ref)) := e3.get _ _ (ni_cons n2m (ni_cons nrm (ni_cons nwm ni_nil))) hmlB
    have hoc3 : H3 oc = some (.lst ((enc ms).map V.int)) := e3.get _ _ (ni_cons n2o (ni_cons nro (ni_cons nwo ni_nil))) hocB
    have hR3 : Rows H3 mr ms := hRB.exts e3 fun x hx => ni_cons (fun z => n2r (by rw [← z]; exact hx)) (ni_cons (fun z => nrr (by rw [← z]; exact hx)) (ni_cons (fun z => nwr (by rw [← z]; exact hx)) ni_nil))
    wtm_at "g_go"
    intro tp htp
    have ntp : s2 ≠ tp := ne_of_none hs3 htp
    wtm_at "g_go"
    rename_i d3 n7 d30 d31
    obtain ⟨X, hX, hX0, hX1⟩ : ∃ X : Int, atI [V.int 3, V.int 9, V.int ((en : Int) - (c : Int) + 1)] d3 = some (V.int X) ∧ 0 < X ∧ X ≤ 10000 := by
      have h3 : d3 = 0 ∨ d3 = 1 ∨ d3 = 2 := by omega
      rcases h3 with rfl | rfl | rfl
      · exact ⟨3, rfl, by omega, by omega⟩
      · exact ⟨9, rfl, by omega, by omega⟩
      · exact ⟨(en : Int) - (c : Int) + 1, rfl, by omega, by omega⟩
    refine w_ixT (xs := [V.int 3, V.int 9, V.int ((en : Int) - (c : Int) + 1)]) (by wtm_at "g_sqt") hX ?_
    wtm_at "g_go"
    rename_i sz0 n8 sz00 sz01
    have e4 : ExtP s2 H3 (upd (upd (upd H3 tp (.tup [V.int 3, V.int 9, V.int ((en : Int) - (c : Int) + 1)])) s2 (.lst [.int n7])) s2 (.lst [.int n8])) := by wtm_at "g_ex"
    have hs4 : (upd (upd (upd H3 tp (.tup [V.int 3, V.int 9, V.int ((en : Int) - (c : Int) + 1)])) s2 (.lst [.int n7])) s2 (.lst [.int n8])) s2 = some (.lst [.int n8]) := upd_same
    generalize upd (upd (upd H3 tp (.tup [V.int 3, V.int 9, V.int ((en : Int) - (c : Int) + 1)])) s2 (.lst [.int n7])) s2 (.lst [.int n8]) = H4 at *
    refine w_cut (fun σ H' => ∃ sz : Int, σ = [some (.ref a), some (.ref s2), some (.int many), some (.ref ml), some (.ref oc), some (.int (i : Int)), v6, v7, v8, some (.int (en : Int)), some (.ref rd), some (.int (c : Int)), some (.int sz), v13, v14, v15, v16] ∧ 0 ≤ sz ∧ H' = H4) ?_ ?_
    · wtm_at "g_go"
      refine if_d (fun h1 => ?_) (fun h1 => ?_)
      · wtm_at "g_go"
        exact ⟨_, rfl, by omega, rfl⟩
      · wtm_at "g_go"
        exact ⟨_, rfl, sz00, rfl⟩
    rintro σ H5 ⟨sz, rfl, hsz, rfl⟩
    have hml4 : H5 ml = some (.lst (mr.map V.ref)) := e4 _ _ n2m hml3
    have hoc4 : H5 oc = some (.lst ((enc ms).map V.int)) := e4 _ _ n2o hoc3
    have hR4 : Rows H5 mr ms := ⟨hR3.1, fun j x m h1 h2 => e4 _ _ (fun z => n2r (by rw [← z]; exact List.mem_of_getElem? h1)) (hR3.2 j x m h1 h2)⟩
    have hrd4 : H5 rd = some (oM K dx w) := e4 _ _ n2d hrd3
    have hw4 : H5 w = some (.lst (T.map V.int)) := e4 _ _ q2 hw3
    have e5 : ExtS [s2, rd, w0] HB H5 := exts_thrP e4 hs4 (SubN.inn mem_hd SubN.nil) e3
    wtm_at "g_go"
    obtain ⟨d, hd, hcd, hden⟩ : ∃ d : Nat, (if (en : Int) < (c : Int) + sz then (en : Int) else (c : Int) + sz) = (d : Int) ∧ c ≤ d ∧ d ≤ en := by
      refine ⟨(if (en : Int) < (c : Int) + sz then (en : Int) else (c : Int) + sz).toNat, ?_, ?_, ?_⟩
      · split <;> omega
      · split <;> omega
      · split <;> omega
    rw [hd]
    refine w_slLmid (SqL.of hoc4) (by omega) (by omega) fun pt hpt => ?_
    have e6 : Ext H5 (upd H5 pt (.lst ((((enc ms).map V.int).drop (c : Int).toNat).take ((d : Int) - (c : Int)).toNat))) := by wtm_at "g_ex"
    have hpt6 : (upd H5 pt (.lst ((((enc ms).map V.int).drop (c : Int).toNat).take ((d : Int) - (c : Int)).toNat))) pt = some (.lst ((((enc ms).drop c).take (d - c)).map V.int)) := by
      rw [upd_same, List.map_take, List.map_drop]
      have z1 : ((d : Int) - (c : Int)).toNat = d - c := by omega
      rw [z1]
      rfl
    generalize upd H5 pt (.lst ((((enc ms).map V.int).drop (c : Int).toNat).take ((d : Int) - (c : Int)).toNat)) = H6 at *
    obtain ⟨T', hT', hT0'⟩ := split_at ms d
    have hpl : (((enc ms).drop c).take (d - c)).length = d - c := by rw [List.length_take, List.length_drop]; omega
    wtm_at "g_go"
    refine ⟨ml, mr, ms, c, rfl, e6 _ _ hml4, hR4.ext e6, by omega, fun t1 H7 ht1 e7 ht17 => ?_⟩
    wtm_at "g_go"
    rw [List.length_map, hpl]
    have ecd : (c : Int) + ((d - c : Nat) : Int) = (d : Int) := by omega
    rw [ecd]
    refine ⟨ml, mr, ms, d, rfl, e7 _ _ (e6 _ _ hml4), (hR4.ext e6).ext e7, by omega, fun t2 H8 ht2 e8 ht28 => ?_⟩
    have hjl := J_le ms c
    have hjl2 := J_le ms d
    have hmrl : mr.length = ms.length := hR.1
    wtm_at "g_go"
    rw [List.length_map]
    refine w_slLfrom (SqL.of ht28) (by omega) fun t3 ht3 => ?_
    have e58 : Ext H5 H8 := (e6.trans e7).trans e8
    have e9 : Ext H5 (upd H8 t3 (.lst (((mr.take (J ms d)).map V.ref).drop (((mr.take (J ms c)).length : Nat) : Int).toNat))) := ext_up ht3 e58
    have hpt9 : (upd H8 t3 (.lst (((mr.take (J ms d)).map V.ref).drop (((mr.take (J ms c)).length : Nat) : Int).toNat))) pt = some (.lst ((((enc ms).drop c).take (d - c)).map V.int)) := up_n (e8 _ _ (e7 _ _ hpt6)) ht3
    have ht39 : (upd H8 t3 (.lst (((mr.take (J ms d)).map V.ref).drop (((mr.take (J ms c)).length : Nat) : Int).toNat))) t3 = some (.lst (((mr.take (J ms d)).drop (J ms c)).map V.ref)) := by
      rw [upd_same, List.map_drop]
      have z1 : (((mr.take (J ms c)).length : Nat) : Int).toNat = J ms c := by
        rw [List.length_take]
        omega
      rw [z1]
    have n3pt : pt ≠ t3 := ne_of_none (e8 _ _ (e7 _ _ hpt6)) ht3
    have n3w : w ≠ t3 := ne_of_none (e58 _ _ hw4) ht3
    have n3s : s2 ≠ t3 := ne_of_none (e58 _ _ hs4) ht3
    have n3r : rd ≠ t3 := ne_of_none (e58 _ _ hrd4) ht3
    have npw : pt ≠ w := (ne_of_none hw4 hpt).symm
    have nps : pt ≠ s2 := (ne_of_none hs4 hpt).symm
    have npo : pt ≠ oc := (ne_of_none hoc4 hpt).symm
    have npm : pt ≠ ml := (ne_of_none hml4 hpt).symm
    have npr : pt ∉ mr := hR4.no hpt
    have npB : HB pt = none := e5.dom _ hpt
    have nwB : w = w0 ∨ HB w = none := qw
    have hmf := feed_more hcd hT hT'
    generalize upd H8 t3 (.lst (((mr.take (J ms d)).map V.ref).drop (((mr.take (J ms c)).length : Nat) : Int).toNat)) = H9 at *
    have hml9 : H9 ml = some (.lst (mr.map V.ref)) := e9 _ _ hml4
    have hoc9 : H9 oc = some (.lst ((enc ms).map V.int)) := e9 _ _ hoc4
    have hR9 : Rows H9 mr ms := hR4.ext e9
    have hrd9 : H9 rd = some (oM K dx w) := e9 _ _ hrd4
    have hw9 : H9 w = some (.lst (T.map V.int)) := e9 _ _ hw4
    have hs9 : H9 s2 = some (.lst [.int n8]) := e9 _ _ hs4
    have E9 : ExtS [s2, rd, w0] HB H9 := exts_thrE e9 e5
    have hTl : T.length ≤ (enc ms).length := by
      have z := congrArg List.length hT
      rw [List.length_append, List.length_take] at z
      omega
    have hTl' : (enc (ms.take (J ms d))).length + T'.length = d := by
      have z := congrArg List.length hT'
      rw [List.length_append, List.length_take] at z
      omega
    wtm_at "g_go"
    refine ⟨rd, dx, w, pt, T, ((enc ms).drop c).take (d - c), (ms.take (J ms d)).drop (J ms c), (enc ((ms.take (J ms d)).drop (J ms c))).length, rfl, hrd9, hw9, hpt9, npw, by rw [hpl]; omega, ?_, by rw [List.length_drop, List.length_take]; omega, fun H10 t as w' e10 ht0 has hN htn hw'0 ht10 hR10 hrd10 hw10 hwn => ?_⟩
    · rw [hmf]
      have z := parse_enc ((ms.take (J ms d)).drop (J ms c)) [] T' hT0'
      rw [List.length_nil, Nat.zero_add] at z
      exact z
    rw [hmf, List.drop_left] at hw10
    have npr2 : pt ≠ rd := fun z => by subst z; rw [hrd4] at hpt; cases hpt
    have nmw : ml ≠ rd := nrm
    have hpt10 := e10.get _ _ (ni_cons npr2 (ni_cons npw ni_nil)) hpt9
    have nsw : s2 ≠ rd := n2d.symm
    have hs10 := e10.get _ _ (ni_cons nsw (ni_cons q2.symm ni_nil)) hs9
    have hml10 := e10.get _ _ (ni_cons nrm (ni_cons qm ni_nil)) hml9
    have hoc10 := e10.get _ _ (ni_cons nro (ni_cons qo ni_nil)) hoc9
    have hRm10 : Rows H10 mr ms := hR9.exts e10 fun x hx => ni_cons (fun z => nrr (by rw [← z]; exact hx)) (ni_cons (fun z => qr (by rw [← z]; exact hx)) ni_nil)
    have ht310 : H10 t3 = some (.lst (((mr.take (J ms d)).drop (J ms c)).map V.ref)) := e10.get _ _ (ni_cons n3r.symm (ni_cons n3w.symm ni_nil)) ht39
    have E10 : ExtS [s2, rd, w0] HB H10 := exts_thr e10 (SubN.inn (mem_tl mem_hd) ((qw.elim (fun z => SubN.inn (by rw [z]; exact mem_tl (mem_tl mem_hd)) SubN.nil) fun z => SubN.new z SubN.nil))) E9
    have npt : pt ≠ t := ne_of_none hpt9 ht0
    have npas : pt ∉ as := ni_new hpt9 has
    have npw' : pt ≠ w' := ne_of_none hpt9 hw'0
    wtm_at "g_go"
    refine ty_list hpt10 ?_
    wtm_at "g_go"
    refine w_app hpt10 (by rw [List.length_map, hpl]; exact small16l (by omega)) ?_
    have E11 : ExtS [s2, rd, w0] HB (upd H10 pt (.lst ((((enc ms).drop c).take (d - c)).map V.int ++ [V.int 5]))) := exts_put (SubN.new npB SubN.nil) E10
    have hs11 : (upd H10 pt (.lst ((((enc ms).drop c).take (d - c)).map V.int ++ [V.int 5]))) s2 = some (.lst [.int n8]) := up_k hs10 nps.symm
    have hml11 : (upd H10 pt (.lst ((((enc ms).drop c).take (d - c)).map V.int ++ [V.int 5]))) ml = some (.lst (mr.map V.ref)) := up_k hml10 npm.symm
    have hR11 : Rows (upd H10 pt (.lst ((((enc ms).drop c).take (d - c)).map V.int ++ [V.int 5]))) mr ms := hRm10.put npr
    have ht311 : (upd H10 pt (.lst ((((enc ms).drop c).take (d - c)).map V.int ++ [V.int 5]))) t3 = some (.lst (((mr.take (J ms d)).drop (J ms c)).map V.ref)) := up_k ht310 n3pt.symm
    have ht11 : (upd H10 pt (.lst ((((enc ms).drop c).take (d - c)).map V.int ++ [V.int 5]))) t = some (.lst (as.map V.ref)) := up_k ht10 npt.symm
    have hRa11 : Rows (upd H10 pt (.lst ((((enc ms).drop c).take (d - c)).map V.int ++ [V.int 5]))) as ((ms.take (J ms d)).drop (J ms c)) := hR10.put npas
    have hrd11 : (upd H10 pt (.lst ((((enc ms).drop c).take (d - c)).map V.int ++ [V.int 5]))) rd = some (oM K dx w') := up_k hrd10 npr2.symm
    have hw11 : (upd H10 pt (.lst ((((enc ms).drop c).take (d - c)).map V.int ++ [V.int 5]))) w' = some (.lst (T'.map V.int)) := up_k hw10 npw'.symm
    generalize upd H10 pt (.lst ((((enc ms).drop c).take (d - c)).map V.int ++ [V.int 5])) = H11 at *
    wtm_at "g_go"
    refine ⟨ml, mr, ms, d, rfl, hml11, hR11, by omega, fun t4 H12 ht4 e12 ht412 => ?_⟩
    have hR12 : Rows H12 (mr.take (J ms d)) (ms.take (J ms d)) := (hR11.ext e12).take _
    have hsl : (ms.take (J ms d)).length = (mr.take (J ms d)).length := hR12.1.symm
    refine lcL (xs := (mr.take (J ms d)).map V.ref) (fun k => V.int ((((ms.take (J ms d)).getD k []).length : Int) + 2)) (SqL.of ht412) (by rw [List.length_map, List.length_take]; omega) (fun k x D H13 hx hD e13 hAc => ?_) (fun D H13 hD e13 hAc => ?_)
    · have hk : k < (ms.take (J ms d)).length := by
        have z := (List.getElem?_eq_some_iff.mp hx).1
        rw [List.length_map] at z
        omega
      obtain ⟨r, m, hr, hm, hrm⟩ := hR12.at hk
      have ex : x = .ref r := by
        rw [List.getElem?_map, hr] at hx
        exact (Option.some.inj hx).symm
      subst ex
      have em : (ms.take (J ms d)).getD k [] = m := by rw [List.getD_eq_getElem?_getD, hm]; rfl
      wtm_at "g_go"
      exact lc_one hAc (by wtm_at "g_ex") hD (by rw [List.length_take] at hk; omega) (by rw [List.length_map, em])
    wtm_at "g_go"
    have e13' : H13 D = some (.lst (((ms.take (J ms d)).map fun m => (m.length : Int) + 2).map V.int)) := by
      rw [hAc]
      congr 2
      refine List.ext_getElem? fun k => ?_
      unfold accM
      rw [List.map_map, List.getElem?_map, List.getElem?_map]
      rw [List.length_map]
      by_cases hk : k < (mr.take (J ms d)).length
      · rw [List.getElem?_range hk]
        have hk2 : k < (ms.take (J ms d)).length := by omega
        rw [List.getElem?_eq_getElem hk2]
        show some (V.int ((((ms.take (J ms d)).getD k []).length : Int) + 2)) = some (V.int ((((ms.take (J ms d))[k]).length : Int) + 2))
        rw [List.getD_eq_getElem?_getD, List.getElem?_eq_getElem hk2]
        rfl
      · rw [List.getElem?_eq_none (by rw [List.length_range]; omega), List.getElem?_eq_none (by omega)]
        rfl
    refine w_sum (SqL.of e13') ?_
    rw [enc_sum]
    wtm_at "g_go"
    have e1113 : Ext H11 H13 := e12.trans e13
    have hml13 := e1113 _ _ hml11
    refine ⟨t, t3, as, (mr.take (J ms d)).drop (J ms c), (ms.take (J ms d)).drop (J ms c), rfl, e1113 _ _ ht11, e1113 _ _ ht311, hRa11.ext e1113, ((hR11.ext e1113).take _).drop _, hN, htn, ni_new ht39 has, ?_, by rw [List.length_drop, List.length_take]; omega, ?_, fun H14 e14 => ?_⟩
    · intro b hb
      obtain ⟨m, hm⟩ := ((hR9.take (J ms d)).drop (J ms c)).mem hb
      exact ni_new hm has
    · intro m hm
      have := hsm m (List.mem_of_mem_take (List.mem_of_mem_drop hm))
      omega
    have hrd14 : H14 rd = some (oM K dx w') := e14.get _ _ (ni_new hrd9 has) (e1113 _ _ hrd11)
    have hw14 : H14 w' = some (.lst (T'.map V.int)) := e14.get _ _ hwn (e1113 _ _ hw11)
    wtm_at "g_go"
    have el : ((T'.length : Nat) : Int) = (d : Int) - ((enc (ms.take (J ms d))).length : Int) := by omega
    rw [← el, decide_eq_true rfl]
    wtm_at "g_go"
    refine ⟨d, _, _, _, _, _, _, _, _, w', n8, T', rfl, ?_, e14.get _ _ (ni_new hs9 has) (e1113 _ _ hs11), hrd14, hw14, hden, hT', hT0', ne_of_none hml9 hw'0, ne_of_none hoc9 hw'0, hR9.no hw'0, (ne_of_none hs9 hw'0).symm, .inr (E9.dom _ hw'0)⟩
    exact exts_thr e14 (SubN.all fun x hx => E9.dom _ (has x hx)) (exts_thrE e1113 E11)
  · rintro σ H3 ⟨c, v5, v6, v8, v12, v13, v14, v15, v16, w, n', T, rfl, e3, hs3, hrd3, hw3, hc, hT, hT0, qm, qo, qr, q2, qw⟩
    wtm_at "g_go"
    refine if_d (fun h1 => ?_) (fun h1 => ?_)
    · exact q _
    · wtm_at "g_go"
      exact ⟨s2, _, rfl, upd_same, q⟩
end
end K39

namespace K39
open PySem PySem.Spec PyProof.Rows L2 G
section
variable {P : Program} {w : World} {K : PySem.W.Frag} {mg : Str → Option Value} {base : Heap}

theorem len_frame_message {K : PySem.W.Frag} : ∀ vs H Q E, sp_frame_message K vs H Q E → vs.length = (P_frame_message : List Str).length := by
  intro vs H Q E h
  repeat first | (obtain ⟨rfl, _⟩ := h; rfl) | obtain ⟨_, h⟩ := h
theorem has_frame_message (T : TX K mg base) : Has P w K mg base 1 "frame_message" P_frame_message (sp_frame_message K) :=
  mk_has (T.glo 14) (T.says.def_ 0) sc_frame_message (fun _ _ _ _ _ _ us hl => match us, hl with | [_], _ => rfl) len_frame_message
    fun cdv A outer s H vs Q E hr h => ⟨t_frame_message K E, d_frame_message T  hr, pure_frame_message T vs H Q E h⟩

theorem len_Messages_init {K : PySem.W.Frag} : ∀ vs H Q E, sp_Messages_init K vs H Q E → vs.length = (P_Messages_init : List Str).length := by
  intro vs H Q E h
  repeat first | (obtain ⟨rfl, _⟩ := h; rfl) | obtain ⟨_, h⟩ := h
theorem has_Messages_init (T : TX K mg base) : HasI P w K mg base 1 "Messages" P_Messages_init (sp_Messages_init K) :=
  mk_hasI (T.glo 15) (T.mkr 16) (T.says.def_ 1) sc_Messages_init (fun _ _ _ _ _ _ us hl => match us, hl with | [_], _ => rfl) len_Messages_init
    fun cdv A outer s H vs Q E hr h => ⟨t_Messages_init K E, d_Messages_init T  hr, pure_Messages_init T vs H Q E h⟩

theorem len_Messages_pending {K : PySem.W.Frag} : ∀ vs H Q E, sp_Messages_pending K vs H Q E → vs.length = (P_Messages_pending : List Str).length := by
  intro vs H Q E h
  repeat first | (obtain ⟨rfl, _⟩ := h; rfl) | obtain ⟨_, h⟩ := h
theorem has_Messages_pending (T : TX K mg base) : HasP P w K mg base 1 "Messages" "pending" P_Messages_pending (sp_Messages_pending K) :=
  mk_hasP (T.cls 17) (T.b.pr_ 0) sc_Messages_pending (fun _ _ _ _ _ _ us hl => match us, hl with | [_], _ => rfl) len_Messages_pending
    fun cdv A outer s H vs Q E hr h => ⟨t_Messages_pending K E, d_Messages_pending T  hr, pure_Messages_pending T vs H Q E h⟩

theorem len_Messages_size_at {K : PySem.W.Frag} : ∀ vs H Q E, sp_Messages_size_at K vs H Q E → vs.length = (P_Messages_size_at : List Str).length := by
  intro vs H Q E h
  repeat first | (obtain ⟨rfl, _⟩ := h; rfl) | obtain ⟨_, h⟩ := h
theorem has_Messages_size_at (T : TX K mg base) : HasM P w K mg base 1 "Messages" "_size_at" P_Messages_size_at (sp_Messages_size_at K) :=
  mk_hasM (T.cls 17) (T.meth 19) (T.says.def_ 3) sc_Messages_size_at (fun _ _ _ _ _ _ us hl => match us, hl with | [_, _], _ => rfl) len_Messages_size_at
    fun cdv A outer s H vs Q E hr h => ⟨t_Messages_size_at K E, d_Messages_size_at T  hr, pure_Messages_size_at T vs H Q E h⟩

theorem len_Messages_feed {K : PySem.W.Frag} : ∀ vs H Q E, sp_Messages_feed K vs H Q E → vs.length = (P_Messages_feed : List Str).length := by
  intro vs H Q E h
  repeat first | (obtain ⟨rfl, _⟩ := h; rfl) | obtain ⟨_, h⟩ := h
theorem has_Messages_feed (T : TX K mg base) : HasM P w K mg base 2 "Messages" "feed" P_Messages_feed (sp_Messages_feed K) :=
  mk_hasM (T.cls 17) (T.meth 18) (T.says.def_ 2) sc_Messages_feed (fun _ _ _ _ _ _ us hl => match us, hl with | [_, _], _ => rfl) len_Messages_feed
    fun cdv A outer s H vs Q E hr h => ⟨t_Messages_feed K E, d_Messages_feed T (has_Messages_size_at T) hr, pure_Messages_feed T vs H Q E h⟩

theorem len_law_cell {K : PySem.W.Frag} : ∀ vs H Q E, sp_law_cell K vs H Q E → vs.length = (P_law_cell : List Str).length := by
  intro vs H Q E h
  repeat first | (obtain ⟨rfl, _⟩ := h; rfl) | obtain ⟨_, h⟩ := h
theorem has_law_cell (T : TX K mg base) : Has P w K mg base 1 "_law_cell" P_law_cell (sp_law_cell K) :=
  mk_has (T.glo 20) (T.says.def_ 4) sc_law_cell (fun _ _ _ _ _ _ us hl => match us, hl with | [_, _], _ => rfl) len_law_cell
    fun cdv A outer s H vs Q E hr h => ⟨t_law_cell K E, d_law_cell T  hr, pure_law_cell T vs H Q E h⟩

theorem len_law_is_integer {K : PySem.W.Frag} : ∀ vs H Q E, sp_law_is_integer K vs H Q E → vs.length = (P_law_is_integer : List Str).length := by
  intro vs H Q E h
  repeat first | (obtain ⟨rfl, _⟩ := h; rfl) | obtain ⟨_, h⟩ := h
theorem has_law_is_integer (T : TX K mg base) : Has P w K mg base 1 "_law_is_integer" P_law_is_integer (sp_law_is_integer K) :=
  mk_has (T.glo 21) (T.says.def_ 5) sc_law_is_integer (fun _ _ _ _ _ _ us hl => match us, hl with | [_], _ => rfl) len_law_is_integer
    fun cdv A outer s H vs Q E hr h => ⟨t_law_is_integer K E, d_law_is_integer T  hr, pure_law_is_integer T vs H Q E h⟩

theorem len_law_start {K : PySem.W.Frag} : ∀ vs H Q E, sp_law_start K vs H Q E → vs.length = (P_law_start : List Str).length := by
  intro vs H Q E h
  repeat first | (obtain ⟨rfl, _⟩ := h; rfl) | obtain ⟨_, h⟩ := h
theorem has_law_start (T : TX K mg base) : Has P w K mg base 1 "_law_start" P_law_start (sp_law_start K) :=
  mk_has (T.glo 22) (T.says.def_ 6) sc_law_start (fun _ _ _ _ _ _ us hl => match us, hl with | [_, _], _ => rfl) len_law_start
    fun cdv A outer s H vs Q E hr h => ⟨t_law_start K E, d_law_start T  hr, pure_law_start T vs H Q E h⟩

theorem len_law_digit {K : PySem.W.Frag} : ∀ vs H Q E, sp_law_digit K vs H Q E → vs.length = (P_law_digit : List Str).length := by
  intro vs H Q E h
  repeat first | (obtain ⟨rfl, _⟩ := h; rfl) | obtain ⟨_, h⟩ := h
theorem has_law_digit (T : TX K mg base) : Has P w K mg base 1 "_law_digit" P_law_digit (sp_law_digit K) :=
  mk_has (T.glo 23) (T.says.def_ 7) sc_law_digit (fun _ _ _ _ _ _ us hl => match us, hl with | [_, _], _ => rfl) len_law_digit
    fun cdv A outer s H vs Q E hr h => ⟨t_law_digit K E, d_law_digit T  hr, pure_law_digit T vs H Q E h⟩

theorem len_law_message {K : PySem.W.Frag} : ∀ vs H Q E, sp_law_message K vs H Q E → vs.length = (P_law_message : List Str).length := by
  intro vs H Q E h
  repeat first | (obtain ⟨rfl, _⟩ := h; rfl) | obtain ⟨_, h⟩ := h
theorem has_law_message (T : TX K mg base) : Has P w K mg base 2 "_law_message" P_law_message (sp_law_message K) :=
  mk_has (T.glo 24) (T.says.def_ 8) sc_law_message (fun _ _ _ _ _ _ us hl => match us, hl with | [_, _], _ => rfl) len_law_message
    fun cdv A outer s H vs Q E hr h => ⟨t_law_message K E, d_law_message T (has_law_digit T) hr, pure_law_message T vs H Q E h⟩

theorem len_law_whole {K : PySem.W.Frag} : ∀ vs H Q E, sp_law_whole K vs H Q E → vs.length = (P_law_whole : List Str).length := by
  intro vs H Q E h
  repeat first | (obtain ⟨rfl, _⟩ := h; rfl) | obtain ⟨_, h⟩ := h
theorem has_law_whole (T : TX K mg base) : Has P w K mg base 1 "_law_whole" P_law_whole (sp_law_whole K) :=
  mk_has (T.glo 25) (T.says.def_ 9) sc_law_whole (fun _ _ _ _ _ _ us hl => match us, hl with | [_, _], _ => rfl) len_law_whole
    fun cdv A outer s H vs Q E hr h => ⟨t_law_whole K E, d_law_whole T  hr, pure_law_whole T vs H Q E h⟩

theorem len_law_same {K : PySem.W.Frag} : ∀ vs H Q E, sp_law_same K vs H Q E → vs.length = (P_law_same : List Str).length := by
  intro vs H Q E h
  repeat first | (obtain ⟨rfl, _⟩ := h; rfl) | obtain ⟨_, h⟩ := h
theorem has_law_same (T : TX K mg base) : Has P w K mg base 2 "_law_same" P_law_same (sp_law_same K) :=
  mk_has (T.glo 26) (T.says.def_ 10) sc_law_same (fun _ _ _ _ _ _ us hl => match us, hl with | [_, _], _ => rfl) len_law_same
    fun cdv A outer s H vs Q E hr h => ⟨t_law_same K E, d_law_same T (has_law_is_integer T) hr, pure_law_same T vs H Q E h⟩

theorem len_law_too_long {K : PySem.W.Frag} : ∀ vs H Q E, sp_law_too_long K vs H Q E → vs.length = (P_law_too_long : List Str).length := by
  intro vs H Q E h
  repeat first | (obtain ⟨rfl, _⟩ := h; rfl) | obtain ⟨_, h⟩ := h
theorem has_law_too_long (T : TX K mg base) : Has P w K mg base 2 "_law_too_long" P_law_too_long (sp_law_too_long K) :=
  mk_has (T.glo 27) (T.says.def_ 11) sc_law_too_long (fun _ _ _ _ _ _ us hl => match us, hl with | [_], _ => rfl) len_law_too_long
    fun cdv A outer s H vs Q E hr h => ⟨t_law_too_long K E, d_law_too_long T (has_frame_message T) (has_law_digit T) hr, pure_law_too_long T vs H Q E h⟩

theorem len_law {K : PySem.W.Frag} : ∀ vs H Q E, sp_law K vs H Q E → vs.length = (P_law : List Str).length := by
  intro vs H Q E h
  repeat first | (obtain ⟨rfl, _⟩ := h; rfl) | obtain ⟨_, h⟩ := h
theorem has_law (T : TX K mg base) : Has P w K mg base 3 "law" P_law (sp_law K) :=
  mk_has (T.glo 28) (T.says.def_ 12) sc_law (fun _ _ _ _ _ _ us hl => match us, hl with | [_], _ => rfl) len_law
    fun cdv A outer s H vs Q E hr h => ⟨t_law K E, d_law T (has_law_start T) (has_law_cell T) (has_law_digit T) (has_law_message T) (has_frame_message T) (has_Messages_init T) (has_law_whole T) (has_Messages_feed T) (has_law_same T) (has_law_is_integer T) (has_Messages_pending T) (has_law_too_long T) hr, pure_law T vs H Q E h⟩

theorem ok_law (T : TX K mg base) {fd : FuncData} (F : FunD K "law" "law" (defArgs s_law) (defBody s_law) (defScope s_law) [] [] (He.ga K "law") fd) : FnOk P w K mg base (L2.CX P w) 3 (He.ga K "law") fd P_law (sp_law K) :=
  FunD.ok (CX := L2.CX P w) F sc_law len_law fun cdv A outer s H vs Q E hr h => ⟨t_law K E, d_law T (has_law_start T) (has_law_cell T) (has_law_digit T) (has_law_message T) (has_frame_message T) (has_Messages_init T) (has_law_whole T) (has_Messages_feed T) (has_law_same T) (has_law_is_integer T) (has_Messages_pending T) (has_law_too_long T) hr, pure_law T vs H Q E h⟩

end

abbrev R : PySem.W.OpenRow := PySem.W.OpenLaw.row PySem.Challenge.rw_throughway_k39_messages
abbrev hk : PySem.W.Hook := hookB 5 fa fn pr ex
def ob (s : PySem.W.SharedT) : AlB := obsBG 5 fa fn pr ex (HandSHeadRun.getT s)
theorem ob_eq (s : PySem.W.SharedT) : ob s = hk.obs s.abs := obsBG_eq (HandSHeadRun.getT_eq s)
def names : List PySem.Str := (["ThroughwayError", "InvalidAmount", "InvalidFrame", "frame_message", "Messages", "_law_cell", "_law_is_integer", "_law_start", "_law_digit", "_law_message", "_law_whole", "_law_same", "_law_too_long", "MOST_OCTETS"] : List PySem.Str)
theorem run (w : World) : HandSHeadRun.RunEq R (PySem.W.view R.prog [17]) hk ob 4000 names w := by
  intro os
  kernel_rfl
end K39

open PySem PySem.W PySem.Calls PyProof.Rows
theorem PySem.Challenge.cw_throughway_k39_messages_holds : PySem.Challenge.rw_throughway_k39_messages.Holds := by
  w_on; o_law
  refine HandSHeadRun.head_any (r := OpenLaw.row PySem.Challenge.rw_throughway_k39_messages) (q := view (OpenLaw.row PySem.Challenge.rw_throughway_k39_messages).prog [17]) (H := K39.hk) (ob := K39.ob) (M := 4000) (loose := K39.names) (d := HandSHeadRun.topDef (OpenLaw.row PySem.Challenge.rw_throughway_k39_messages).prog 17) (kwd := []) K39.ob_eq
    (by kernel_rfl) (fun s => by kernel_rfl) K39.run (by kernel_rfl) (by kernel_rfl) (by kernel_rfl) (by rfl) (by first | assumption | decide +kernel) (by decide +kernel) ⟨rfl, rfl, rfl, rfl, rfl, by decide +kernel⟩ ?hw ?hc
  case hw => w_witness2
  case hc =>
    refine G.walk_ofEB (l := PySem.Challenge.rw_throughway_k39_messages) (n := 63) (k := 3) (x := "script") (CX := fun w => L2.CX (PySem.Challenge.rw_throughway_k39_messages).prog w) rfl (by decide) (by kernel_rfl) ⟨rfl, by decide, by decide⟩ ?F ?X
    case X =>
      intro w H s e s' z
      obtain ⟨_, _, _, _, _, _, _, _, _, _, _, _, z⟩ := z
      exact z.elim
    case F =>
      intro w mg fa h Y G hmg0
      obtain ⟨K, KX, c⟩ := Y
      have hmg : mg ("law" : PySem.Str) = some (.ref fa) := by
        have e : (HandSHeadRun.topDef (OpenLaw.row PySem.Challenge.rw_throughway_k39_messages).prog 17).name = ("law" : PySem.Str) := by kernel_rfl
        rw [← e]
        exact hmg0
      obtain ⟨fd, FD⟩ := He.SaysD.def_ c.d 12 (d := K39.D_law) rfl
      have b := L2.FunD.bindsA (ps := ["script"]) FD fun _ _ _ _ _ _ us hl => match us, hl with | [_], _ => rfl
      have eg : fa = He.ga K "law" := by
        have e := hmg.symm.trans (He.glo_ok KX G (He.SaysD.fact c.d 28 (f := .glo "law") rfl))
        cases e
        rfl
      subst eg
      exact ⟨K, fd, K39.sp_law K, KX, fun s v => b s [v] rfl, fun H a ns hl hb hO hS => K39.law_start hl hb hO hS, fun base kin hns => K39.ok_law ⟨⟨kin, hns, c.d⟩, c⟩ FD⟩
