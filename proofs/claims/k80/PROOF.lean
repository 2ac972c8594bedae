import PyProof.Rows.All
import Wide.All
import OpenK.AllK
import Wide.FinOn
import HandS.ForMost
import HandS.ForExc
import HandS.Wide
import HandS.Steps
import HandS.Evl
import HandS.Defaults
import HandS.IsInst
import HandS.Head0
import HandS.Head1
import HandS.Head2
import HandS.HeadEnd
import HandS.EndBits
import HandS.HeadHook1
import HandS.HeadHook2
import PySem.Challenge.RW_throughway_k80_buckets_of_tokens
set_option Elab.async false
set_option linter.all false
set_option maxRecDepth 100000
set_option maxHeartbeats 4000000
/-! My own words over the hand layer: a def of the module, a method, a class, by names (Has, HasM, HasI); their calls; readings step by step. -/
namespace G
open PySem PySem.Spec PyProof.Rows L2

/-! ### a call that may let an exception out, at the slots -/
section
variable {X : Cx} {k : Nat} {f C : Addr} {fd : FuncData} {ps : List Str} {sp : Sp} {E : L2.St → XK} {x m : Str} {p pos apos : Pos} {e o : Expr} {es : List Expr} {ta : TE} {t : TA}
abbrev XC (X : Cx) : CXT := L2.CX X.prog X.w
/-- nothing is let out -/
theorem passZ (σ : L2.St) : PassesAt (XC X) X σ E0 := fun _ _ _ _ _ _ c => by
  obtain ⟨_, _, _, _, _, _, _, _, _, _, _, _, z⟩ := c
  exact z.elim
theorem pe_callS0 (F : FnOk X.prog X.w X.K X.mg X.base (XC X) k f fd ps sp) (hr : Room k X.A) (hg : Gl X x) (hm : X.mg x = some (.ref f)) (hk : PySem.W.keepIn X.K (.ref f) = true) (hb : Binds X.K fd ps []) (hx : ∀ σ, PassesAt (XC X) X σ (E σ))
    (hdb : (x == ("__debug__" : Str)) = false := by decide) : PE X (.Call (.Name x p) [] [] pos) (tCallS sp E tNil) := by
  refine ⟨fun pz s σ H Q I h => ?_⟩
  refine wpAny_Call_Name_kw ?_
  refine ld_glob I hg hm ?_ hdb
  exact PySem.W.callWith_K0 I.kIn hk (run_fnS (us := []) F hr hb (hx σ) I .nil h)
/-- o.m(..) -/
def tMt (C : Addr) (m : Str) (sp : Sp) (E : L2.St → XK) (ta : TE) (t : TA) : TE := fun σ H Q => ta σ H fun x H1 => ∃ a dx fs, x = .ref a ∧ H1 a = some (.ins C dx fs) ∧ fs.lookup m = none ∧
  t σ H1 fun vs H2 => sp (x :: vs) H2 Q (E σ)
theorem pe_mt {pl : Sem Bool} (he : PE X o ta) (c : Cls X.K C) (hm : Meth X.K C m f) (F : FnOk X.prog X.w X.K X.mg X.base (XC X) k f fd ps sp) (hr : Room k X.A) (hb : Binds X.K fd ps []) (hx : ∀ σ, PassesAt (XC X) X σ (E σ)) (ha : PA X (e :: es) t)
    (hst : starEach (e :: es) X.env = (false, eval e X.env) :: starEach es X.env := by rfl) (hpl : (backTo pos (starEach es X.env)).any (·.1) = false := by rfl)
    (ht : eval (.Call (.Attribute o m apos) (e :: es) [] pos) X.env = (do
      let ov ← eval o X.env
      standAt apos.atName
      let (f, first) ← holding [ov] (getMethod ov m pl)
      callWith pos f first (backTo pos (starEach (e :: es) X.env)) (backToKw pos (keywordEach [] X.env))) := by rfl) :
    PE X (.Call (.Attribute o m apos) (e :: es) [] pos) (tMt C m sp E ta t) := by
  refine ⟨fun pz s σ H Q I h => ?_⟩
  refine PySem.W.methodCall_KW (pl := pl) (thn (he.run pz s σ H _ I h) fun u z1 ⟨x, H1, J1, rq, a, dx, fs, ex, ea, l, q⟩ => ?_) ht
  subst ex
  obtain rfl : u = Value.ref a := rq
  refine getmeth_ok J1 ea c hm l ?_
  refine PySem.W.callWith_K (first := [.ref a]) (h₀ := X.base) I.ok.mod.kin hm.kp (thn (ha.run pos pz z1 σ H1 _ J1 q) fun us s2 ⟨vs, H2, J2, r, qb⟩ => ⟨J2.kIn, ?_⟩) hst hpl
  exact run_fnS (us := .ref a :: us) (vs := .ref a :: vs) F hr hb (hx σ) J2 (.cons rfl r) qb
theorem pe_mt0 {pl : Sem Bool} (he : PE X o ta) (c : Cls X.K C) (hm : Meth X.K C m f) (F : FnOk X.prog X.w X.K X.mg X.base (XC X) k f fd ps sp) (hr : Room k X.A) (hb : Binds X.K fd ps []) (hx : ∀ σ, PassesAt (XC X) X σ (E σ))
    (ht : eval (.Call (.Attribute o m apos) [] [] pos) X.env = (do
      let ov ← eval o X.env
      standAt apos.atName
      let (f, first) ← holding [ov] (getMethod ov m pl)
      callWith pos f first (backTo pos (starEach [] X.env)) (backToKw pos (keywordEach [] X.env))) := by rfl) :
    PE X (.Call (.Attribute o m apos) [] [] pos) (tMt C m sp E ta tNil) := by
  refine ⟨fun pz s σ H Q I h => ?_⟩
  refine PySem.W.methodCall_KW (pl := pl) (thn (he.run pz s σ H _ I h) fun u z1 ⟨x, H1, J1, rq, a, dx, fs, ex, ea, l, q⟩ => ?_) ht
  subst ex
  obtain rfl : u = Value.ref a := rq
  refine getmeth_ok J1 ea c hm l ?_
  exact PySem.W.callWith_K0 (first := [.ref a]) J1.kIn hm.kp (run_fnS (us := [.ref a]) (vs := [.ref a]) F hr hb (hx σ) J1 (.cons rfl .nil) q)
/-- C(..) -/
def tMk (C : Addr) (sp : Sp) (E : L2.St → XK) (t : TA) : TE := fun σ H Q => t σ H fun vs H1 => ∀ x dx, H1 x = none → H1 dx = none → dx ≠ x →
  sp (.ref x :: vs) (upd (upd H1 dx (.own x)) x (.ins C dx [])) (fun v H2 => v = .non ∧ Q (.ref x) H2) (E σ)
theorem run_mk {pz : List (Addr × Obj)} {σ : L2.St} {H : Hp} {s : Shared} {Q : VK} {us : List Value} {vs : List V} (M : Mk X.K C f) (F : FnOk X.prog X.w X.K X.mg X.base (XC X) k f fd ps sp) (hr : Room (k + 1) X.A) (hb : Binds X.K fd ps [])
    (hx : PassesAt (XC X) X σ (E σ)) (I : Inv X pz σ H s) (r : Vals vs us)
    (h : ∀ x dx, H x = none → H dx = none → dx ≠ x → sp (.ref x :: vs) (upd (upd H dx (.own x)) x (.ins C dx [])) (fun v H2 => v = .non ∧ Q (.ref x) H2) (E σ)) :
    wpAny (model X.prog X.w) X.A (call (.ref C) us) (EP X pz σ Q) X.xe s := by
  have hqa := h (s.heap.objs.size + 1) s.heap.objs.size (I.hok.fresh (Nat.le_succ _)) (I.hok.fresh (Nat.le_refl _)) (Nat.ne_of_lt (Nat.lt_succ_self _))
  have J2 := Inv.made (C := C) I
  have rr2 : Vals (V.ref (s.heap.objs.size + 1) :: vs) (Value.ref (s.heap.objs.size + 1) :: us) := .cons rfl r
  have hl : (Value.ref (s.heap.objs.size + 1) :: us).length = ps.length := by
    have e := rr2.length
    rw [F.len _ _ _ _ hqa] at e
    exact e.symm
  have b := hb _ (Value.ref (s.heap.objs.size + 1) :: us) J2.kIn (by rw [List.append_nil]; exact hl)
  rw [List.append_nil] at b
  refine wpAny_call (make_map (f := f) I.kIn M.makes M.init (beq_iff_eq.mp M.fn) (codeAny_mono (F.run _ X.stack _ _ ⟨Value.ref (s.heap.objs.size + 1) :: us, []⟩ (Value.ref (s.heap.objs.size + 1) :: us) _ _ (E σ) (hr.make C us [])
    (J2.env0.make C us []) b rr2 hqa) fun r s' hqb => ?_))
  cases r with
  | error e => exact hx pz _ _ e s' J2 hqb
  | ok fl =>
    cases fl with
    | ret u =>
      obtain ⟨v, H', J3, rv, ev, qc⟩ := J2.after hqb
      subst ev
      exact ⟨rv, ⟨V.ref (s.heap.objs.size + 1), H', J3, rfl, qc⟩⟩
    | next => exact False.elim hqb
    | brk => exact False.elim hqb
    | cont => exact False.elim hqb
theorem pe_mk (M : Mk X.K C f) (F : FnOk X.prog X.w X.K X.mg X.base (XC X) k f fd ps sp) (hr : Room (k + 1) X.A) (hg : Gl X x) (hm : X.mg x = some (.ref C)) (hb : Binds X.K fd ps []) (hx : ∀ σ, PassesAt (XC X) X σ (E σ))
    (ha : PA X (e :: es) t) (hdb : (x == ("__debug__" : Str)) = false := by decide) (he : starEach (e :: es) X.env = (false, eval e X.env) :: starEach es X.env := by rfl) (hpl : (backTo pos (starEach es X.env)).any (·.1) = false := by rfl) :
    PE X (.Call (.Name x p) (e :: es) [] pos) (tMk C sp E t) := by
  refine ⟨fun pz s σ H Q I h => ?_⟩
  refine wpAny_Call_Name_kw ?_
  refine ld_glob I hg hm ?_ hdb
  refine PySem.W.callWith_K (h₀ := X.base) I.ok.mod.kin M.kp (thn (ha.run pos pz s σ H _ I h) fun us z1 ⟨vs, H1, J1, r, q⟩ => ⟨J1.kIn, ?_⟩) he hpl
  exact run_mk M F hr hb (hx σ) J1 r q
theorem pe_mk0 (M : Mk X.K C f) (F : FnOk X.prog X.w X.K X.mg X.base (XC X) k f fd ps sp) (hr : Room (k + 1) X.A) (hg : Gl X x) (hm : X.mg x = some (.ref C)) (hb : Binds X.K fd ps []) (hx : ∀ σ, PassesAt (XC X) X σ (E σ))
    (hdb : (x == ("__debug__" : Str)) = false := by decide) : PE X (.Call (.Name x p) [] [] pos) (tMk C sp E tNil) := by
  refine ⟨fun pz s σ H Q I h => ?_⟩
  refine wpAny_Call_Name_kw ?_
  refine ld_glob I hg hm ?_ hdb
  exact PySem.W.callWith_K0 I.kIn M.kp (run_mk (us := []) M F hr hb (hx σ) I .nil h)
end

/-! ### by names -/
section
variable (P : Program) (w : World) (K : PySem.W.Frag) (mg : Str → Option Value) (base : Heap)
/-- a def of the module -/
structure Has (k : Nat) (x : Str) (ps : List Str) (sp : Sp) : Prop where
  gl : mg x = some (.ref (He.ga K x))
  kp : PySem.W.keepIn K (.ref (He.ga K x)) = true
  ex : ∃ fd, FnOk P w K mg base (L2.CX P w) k (He.ga K x) fd ps sp ∧ Binds K fd ps []
/-- a method -/
structure HasM (k : Nat) (c m : Str) (ps : List Str) (sp : Sp) : Prop where
  cl : Cls K (He.ga K c)
  me : Meth K (He.ga K c) m (He.ma K (He.ga K c) m)
  ex : ∃ fd, FnOk P w K mg base (L2.CX P w) k (He.ma K (He.ga K c) m) fd ps sp ∧ Binds K fd ps []
/-- a class that is made by its __init__ -/
structure HasI (k : Nat) (c : Str) (ps : List Str) (sp : Sp) : Prop where
  gl : mg c = some (.ref (He.ga K c))
  mkr : Mk K (He.ga K c) (He.ma K (He.ga K c) "__init__")
  ex : ∃ fd, FnOk P w K mg base (L2.CX P w) k (He.ma K (He.ga K c) "__init__") fd ps sp ∧ Binds K fd ps []
end
section
variable {P : Program} {w : World} {K : PySem.W.Frag} {mg : Str → Option Value} {base : Heap}
theorem Has.mono {j k : Nat} {x : Str} {ps : List Str} {sp : Sp} (h : Has P w K mg base j x ps sp) (l : j ≤ k) : Has P w K mg base k x ps sp :=
  ⟨h.gl, h.kp, let ⟨fd, F, b⟩ := h.ex; ⟨fd, F.mono l, b⟩⟩
theorem HasM.mono {j k : Nat} {c m : Str} {ps : List Str} {sp : Sp} (h : HasM P w K mg base j c m ps sp) (l : j ≤ k) : HasM P w K mg base k c m ps sp :=
  ⟨h.cl, h.me, let ⟨fd, F, b⟩ := h.ex; ⟨fd, F.mono l, b⟩⟩
theorem HasI.mono {j k : Nat} {c : Str} {ps : List Str} {sp : Sp} (h : HasI P w K mg base j c ps sp) (l : j ≤ k) : HasI P w K mg base k c ps sp :=
  ⟨h.gl, h.mkr, let ⟨fd, F, b⟩ := h.ex; ⟨fd, F.mono l, b⟩⟩
end
section
variable {X : Cx} {k : Nat} {ps : List Str} {sp : Sp} {E : L2.St → XK} {x c m : Str} {p pos apos : Pos} {e o : Expr} {es : List Expr} {ta : TE} {t : TA}
theorem pe_h (h : Has X.prog X.w X.K X.mg X.base k x ps sp) (hr : Room k X.A) (hg : Gl X x) (hx : ∀ σ, PassesAt (XC X) X σ (E σ)) (ha : PA X (e :: es) t) (hdb : (x == ("__debug__" : Str)) = false := by decide)
    (he : starEach (e :: es) X.env = (false, eval e X.env) :: starEach es X.env := by rfl) (hpl : (backTo pos (starEach es X.env)).any (·.1) = false := by rfl) : PE X (.Call (.Name x p) (e :: es) [] pos) (tCallS sp E t) := by
  obtain ⟨fd, F, b⟩ := h.ex
  exact pe_callS F hr hg h.gl h.kp b hx ha hdb he hpl
theorem pe_h0 (h : Has X.prog X.w X.K X.mg X.base k x ps sp) (hr : Room k X.A) (hg : Gl X x) (hx : ∀ σ, PassesAt (XC X) X σ (E σ)) (hdb : (x == ("__debug__" : Str)) = false := by decide) : PE X (.Call (.Name x p) [] [] pos) (tCallS sp E tNil) := by
  obtain ⟨fd, F, b⟩ := h.ex
  exact pe_callS0 F hr hg h.gl h.kp b hx hdb
theorem pe_i (h : HasI X.prog X.w X.K X.mg X.base k c ps sp) (hr : Room (k + 1) X.A) (hg : Gl X c) (hx : ∀ σ, PassesAt (XC X) X σ (E σ)) (ha : PA X (e :: es) t) (hdb : (c == ("__debug__" : Str)) = false := by decide)
    (he : starEach (e :: es) X.env = (false, eval e X.env) :: starEach es X.env := by rfl) (hpl : (backTo pos (starEach es X.env)).any (·.1) = false := by rfl) : PE X (.Call (.Name c p) (e :: es) [] pos) (tMk (He.ga X.K c) sp E t) := by
  obtain ⟨fd, F, b⟩ := h.ex
  exact pe_mk h.mkr F hr hg h.gl b hx ha hdb he hpl
theorem pe_i0 (h : HasI X.prog X.w X.K X.mg X.base k c ps sp) (hr : Room (k + 1) X.A) (hg : Gl X c) (hx : ∀ σ, PassesAt (XC X) X σ (E σ)) (hdb : (c == ("__debug__" : Str)) = false := by decide) : PE X (.Call (.Name c p) [] [] pos) (tMk (He.ga X.K c) sp E tNil) := by
  obtain ⟨fd, F, b⟩ := h.ex
  exact pe_mk0 h.mkr F hr hg h.gl b hx hdb
theorem pe_m {pl : Sem Bool} (he : PE X o ta) (h : HasM X.prog X.w X.K X.mg X.base k c m ps sp) (hr : Room k X.A) (hx : ∀ σ, PassesAt (XC X) X σ (E σ)) (ha : PA X (e :: es) t)
    (hst : starEach (e :: es) X.env = (false, eval e X.env) :: starEach es X.env := by rfl) (hpl : (backTo pos (starEach es X.env)).any (·.1) = false := by rfl)
    (ht : eval (.Call (.Attribute o m apos) (e :: es) [] pos) X.env = (do
      let ov ← eval o X.env
      standAt apos.atName
      let (f, first) ← holding [ov] (getMethod ov m pl)
      callWith pos f first (backTo pos (starEach (e :: es) X.env)) (backToKw pos (keywordEach [] X.env))) := by rfl) :
    PE X (.Call (.Attribute o m apos) (e :: es) [] pos) (tMt (He.ga X.K c) m sp E ta t) := by
  obtain ⟨fd, F, b⟩ := h.ex
  exact pe_mt he h.cl h.me F hr b hx ha hst hpl ht
theorem pe_m0 {pl : Sem Bool} (he : PE X o ta) (h : HasM X.prog X.w X.K X.mg X.base k c m ps sp) (hr : Room k X.A) (hx : ∀ σ, PassesAt (XC X) X σ (E σ))
    (ht : eval (.Call (.Attribute o m apos) [] [] pos) X.env = (do
      let ov ← eval o X.env
      standAt apos.atName
      let (f, first) ← holding [ov] (getMethod ov m pl)
      callWith pos f first (backTo pos (starEach [] X.env)) (backToKw pos (keywordEach [] X.env))) := by rfl) :
    PE X (.Call (.Attribute o m apos) [] [] pos) (tMt (He.ga X.K c) m sp E ta tNil) := by
  obtain ⟨fd, F, b⟩ := h.ex
  exact pe_mt0 he h.cl h.me F hr b hx ht
/-- raise X('..'), X without an __init__ -/
def tRs (C : Addr) (W : WX) : TS := fun _ σ H => W (.ref C) none σ H
/-- what the class of an own exception must have -/
structure HasX (K : PySem.W.Frag) (mg : Str → Option Value) (c : Str) : Prop where
  gl : mg c = some (.ref (He.ga K c))
  ex : PySem.W.excIn K (He.ga K c) He.veBase "ValueError.__new__" = true
  kp : PySem.W.keepIn K (.ref (He.ga K c)) = true
  sb : PySem.W.subIn K (.ref (He.ga K c)) (.type "BaseException") = some true
  ty : PySem.W.typeIn K (.ref (He.ga K c)) = some (.type "type")
theorem ps_rs {W : WX} {msg : Str} {j : Nat} {p2 pos2 : Pos} (hc : X.calm = true) (tk : Takes X W) (h : HasX X.K X.mg c) (hg : Gl X c) (hdb : (c == ("__debug__" : Str)) = false := by decide) :
    PS X (.Raise (some (.Call (.Name c p) [.Constant (.str msg) j p2] [] pos)) none pos2) (tRs (He.ga X.K c) W) :=
  ps_raise hc tk (pmk_own PySem.F.excBase_ValueError h.ex h.gl h.kp (raises_own h.sb h.ty) hg hdb)
end

/-! ### a def of the text keeps its promise -/
section
variable {P : Program} {w : World} {K : PySem.W.Frag} {mg : Str → Option Value} {base : Heap}
/-- what the body's term and its reading are to give -/
abbrev Body (P : Program) (w : World) (K : PySem.W.Frag) (mg : Str → Option Value) (base : Heap) (k : Nat) (N : List Str) (qual : Str) (scope : Scope) (f : Addr) (body : List Stmt) (sp : Sp) : Prop :=
  ∀ (cdv : Value) (A : Around) (outer : List Env) (s : Shared) (H : Hp) (vs : List V) (Q : VK) (E : XK), Room k (A.deeper (envOfC qual scope s.heap.objs.size f cdv)) → sp vs H Q E →
      ∃ t, PSs (cxOf (L2.CX P w) P w K mg base N qual scope f cdv A outer s H E) body t ∧ t { nx := fun _ H' => Q .non H', rt := Q } (start N vs) H
theorem mk_has {k : Nat} {x qual : Str} {params : Arguments} {body : List Stmt} {scope : Scope} {N ps : List Str} {sp : Sp} (gl : mg x = some (.ref (He.ga K x)))
    (F : ∃ fd, FunD K x qual params body scope [] [] (He.fAd K (x, none)) fd) (S : FnScope N ps scope)
    (hb : ∀ (kV doc pm : Value) (an : Option Addr) (cdv ct : Value) (us : List Value), us.length = ps.length → bindArgs (PySem.W.fnOf x qual params body scope .none kV doc pm an cdv ct) ⟨us, []⟩ = pure (ps.zip us))
    (len : ∀ vs H Q E, sp vs H Q E → vs.length = ps.length) (hbody : Body P w K mg base k N qual scope (He.ga K x) body sp) : Has P w K mg base (k + 1) x ps sp := by
  obtain ⟨fd, F⟩ := F
  exact ⟨gl, F.kp, fd, FunD.ok (CX := L2.CX P w) F S len hbody, F.bindsN hb⟩
theorem mk_hasM {k : Nat} {c m qual : Str} {params : Arguments} {body : List Stmt} {scope : Scope} {N ps : List Str} {sp : Sp} (cl : Cls K (He.ga K c)) (me : Meth K (He.ga K c) m (He.ma K (He.ga K c) m))
    (F : ∃ fd, FunD K m qual params body scope [] [] (He.fAd K (c, some m)) fd) (S : FnScope N ps scope)
    (hb : ∀ (kV doc pm : Value) (an : Option Addr) (cdv ct : Value) (us : List Value), us.length = ps.length → bindArgs (PySem.W.fnOf m qual params body scope .none kV doc pm an cdv ct) ⟨us, []⟩ = pure (ps.zip us))
    (len : ∀ vs H Q E, sp vs H Q E → vs.length = ps.length) (hbody : Body P w K mg base k N qual scope (He.ma K (He.ga K c) m) body sp) : HasM P w K mg base (k + 1) c m ps sp := by
  obtain ⟨fd, F⟩ := F
  exact ⟨cl, me, fd, FunD.ok (CX := L2.CX P w) F S len hbody, F.bindsN hb⟩
theorem mk_hasI {k : Nat} {c qual : Str} {params : Arguments} {body : List Stmt} {scope : Scope} {N ps : List Str} {sp : Sp} (gl : mg c = some (.ref (He.ga K c))) (mk : Mk K (He.ga K c) (He.ma K (He.ga K c) "__init__"))
    (F : ∃ fd, FunD K "__init__" qual params body scope [] [] (He.fAd K (c, some "__init__")) fd) (S : FnScope N ps scope)
    (hb : ∀ (kV doc pm : Value) (an : Option Addr) (cdv ct : Value) (us : List Value), us.length = ps.length → bindArgs (PySem.W.fnOf "__init__" qual params body scope .none kV doc pm an cdv ct) ⟨us, []⟩ = pure (ps.zip us))
    (len : ∀ vs H Q E, sp vs H Q E → vs.length = ps.length) (hbody : Body P w K mg base k N qual scope (He.ma K (He.ga K c) "__init__") body sp) : HasI P w K mg base (k + 1) c ps sp := by
  obtain ⟨fd, F⟩ := F
  exact ⟨gl, mk, fd, FunD.ok (CX := L2.CX P w) F S len hbody, F.bindsN hb⟩
/-- the head's facts -/
structure Tx (fa : List He.Fa) (fn : List He.DefD) (K : PySem.W.Frag) (mg : Str → Option Value) (base : Heap) : Prop where
  kin : K.In base
  ns : base.Ns mainGlobals mg
  says : He.SaysD fa fn K
variable {fa : List He.Fa} {fn : List He.DefD}
theorem Tx.glo (T : Tx fa fn K mg base) {x : Str} (i : Nat) (h : fa[i]? = some (.glo x) := by rfl) : mg x = some (.ref (He.ga K x)) := He.glo_ok T.kin T.ns (T.says.fact i h)
theorem Tx.free (T : Tx fa fn K mg base) {x : Str} (i : Nat) (h : fa[i]? = some (.free x) := by rfl) : mg x = none := He.free_ok T.kin T.ns (T.says.fact i h)
theorem Tx.cls (T : Tx fa fn K mg base) {x : Str} (i : Nat) (h : fa[i]? = some (.cls x) := by rfl) : Cls K (He.ga K x) := He.cls_ok (T.says.fact i h)
theorem Tx.noat (T : Tx fa fn K mg base) {x f : Str} (i : Nat) (h : fa[i]? = some (.noat x f) := by rfl) : NoAttr K (He.ga K x) f := He.noat_ok (T.says.fact i h)
theorem Tx.meth (T : Tx fa fn K mg base) {x m : Str} (i : Nat) (h : fa[i]? = some (.meth x m) := by rfl) : Meth K (He.ga K x) m (He.ma K (He.ga K x) m) := He.meth_ok (T.says.fact i h)
theorem Tx.mkr (T : Tx fa fn K mg base) {x : Str} (i : Nat) (h : fa[i]? = some (.mkr x) := by rfl) : Mk K (He.ga K x) (He.ma K (He.ga K x) "__init__") := He.mkr_ok (T.says.fact i h)
theorem Tx.exm (T : Tx fa fn K mg base) {x y : Str} {b : Bool} (i : Nat) (h : fa[i]? = some (.exm x y b) := by rfl) : PySem.W.exmOne K (.ref (He.ga K x)) (.ref (He.ga K y)) = some b := He.exm_ok (T.says.fact i h)
theorem Tx.exc (T : Tx fa fn K mg base) {x : Str} (i j : Nat) (h : fa[i]? = some (.exc x) := by rfl) (h2 : fa[j]? = some (.glo x) := by rfl) : HasX K mg x :=
  let ⟨a, b, c, d⟩ := He.exc_ok (T.says.fact i h)
  ⟨T.glo j h2, a, b, c, d⟩
end

/-! ### the end, with the script's bits told -/
theorem walk_ofEB {l : PySem.W.OpenLaw} {n k : Nat} {q : Program} {loose : List Str} {XP : (Str → Option Value) → Heap → Prop} {YP : World → Heap → Prop} {d : DefRec} {CX : World → CXT} {x : Str}
    (hn : l.most = some n) (hn2 : n ≤ sizeLine) (hdf : d.params.defaults = []) (hr : Room k callerA)
    (F : ∀ (w : World) (mg : Str → Option Value) (fa : Addr) (h : Heap), YP w h → h.Ns mainGlobals mg → mg d.name = some (.ref fa) →
      ∃ (K : PySem.W.Frag) (fd : FuncData) (sp : Sp), K.In h ∧ (∀ (s : Shared) (u : Value), BindsTo s fd ⟨[u], []⟩ [(x, u)]) ∧
        (∀ (H : Hp) (a : Addr) (ns : List Int), ns.length ≤ n → (∀ z ∈ ns, Builtin.Int.intBits z ≤ 1048576) → Only H → SqL K H a (ns.map V.int) → sp [.ref a] H (fun v _ => v = .bl true) fun _ _ _ => False) ∧
        ∀ base : Heap, K.In base → base.Ns mainGlobals mg → FnOk l.prog w K mg base (CX w) k fa fd [x] sp)
    (hCX : ∀ (w : World) (H : Hp) (s : Shared) (e : Value) (s' : Shared), CX w [] H s (fun _ _ _ => False) e s' → False) :
    PySem.W.WalkO q loose XP YP l.row.toRowW d [] (fun f vs => PySem.call f vs) := by
  refine Att.attach_callB hn hdf fun w sA sB mg mb fa o pm cd doc a vs ns G Y ho hd hcd hmg hobj hints hlen hbits hg => ?_
  obtain ⟨K, fd, sp, kx, bd, sh, FF⟩ := F w mg fa _ Y G.T.g hmg
  exact law_call kx G.T.g G.T.b G.T.builtins G.T.nolimit hg hobj hints (Nat.le_trans hlen hn2) hr FF bd (fun H hO hS => sh H a ns hlen hbits hO hS) fun H e s' => hCX w H sB e s'
end G

/-! readings, step by step -/
namespace G
open PySem PySem.Spec PyProof.Rows L2
/-! ### names of the rules' relations -/
abbrev wB (E : XK) : WX := fun cls d _ H => E cls d H
abbrev gAdd : R2 := rI0 fun i j => .int (i + j)
abbrev gMinus : R2 := rI0 fun i j => .int (i - j)
abbrev gMul : R2 := rI CMul fun i j => .int (i * j)
abbrev gMulW : R2 := rI CMulW fun i j => .int (i * j)
abbrev gDiv : R2 := rI CDiv fun i j => .int (i / j)
abbrev gDivW : R2 := rI CDivW fun i j => .int (i / j)
abbrev gMod : R2 := rI (fun _ j => 0 < j) fun i j => .int (i % j)
abbrev gPow : R2 := rI CPow fun i j => .int (i ^ j.toNat)
abbrev gShl : R2 := rI CPow fun i j => .int (i * 2 ^ j.toNat)
abbrev gShr : R2 := rI (fun _ j => 0 ≤ j) fun i j => .int (i / 2 ^ j.toNat)
abbrev gAnd : R2 := rI0 fun i j => .int (Builtin.bitAnd i j)
abbrev gOr : R2 := rI0 fun i j => .int (Builtin.bitOr i j)
abbrev gXor : R2 := rI0 fun i j => .int (Builtin.bitXor i j)
abbrev gLt : R2 := rI0 fun i j => .bl (decide (i < j))
abbrev gLte : R2 := rI0 fun i j => .bl (decide (i ≤ j))
abbrev gGt : R2 := rI0 fun i j => .bl (decide (j < i))
abbrev gGte : R2 := rI0 fun i j => .bl (decide (j ≤ i))
abbrev gLe : R2 := gLte
abbrev gGe : R2 := gGte
abbrev gNeg : V → Hp → VK → Prop := rU fun i => .int (-i)
abbrev gCatS : R2 := fun x y H Q => ∃ i j, x = .str i ∧ y = .str j ∧ i.length + j.length ≤ sizeLine ∧ Q (.str (i ++ j)) H
abbrev gInS : R2 := rInS
abbrev gNotInS : R2 := rNotInS
abbrev gLen (K : PySem.W.Frag) : List V → Hp → VK → Prop := fun xs H Q => ∃ x n, xs = [x] ∧ LenV K x H n ∧ Q (.int (n : Nat)) H
abbrev gMin2 : List V → Hp → VK → Prop := fun xs H Q => ∃ i j, xs = [.int i, .int j] ∧ Q (.int (if j < i then j else i)) H
abbrev gMax2 : List V → Hp → VK → Prop := fun xs H Q => ∃ i j, xs = [.int i, .int j] ∧ Q (.int (if j > i then j else i)) H
abbrev gAbs : List V → Hp → VK → Prop := fun xs H Q => ∃ i, xs = [.int i] ∧ Q (.int (if i < 0 then -i else i)) H
abbrev gInt1 : List V → Hp → VK → Prop := fun xs H Q => (∃ i, xs = [.int i] ∧ Q (.int i) H) ∨ ∃ k, xs = [.bl k] ∧ Q (.int (if k then 1 else 0)) H
abbrev gBool1 : List V → Hp → VK → Prop := fun xs H Q => (∃ i, xs = [.int i] ∧ Q (.bl (i != 0)) H) ∨ ∃ k, xs = [.bl k] ∧ Q (.bl k) H
abbrev gStr1 : List V → Hp → VK → Prop := fun xs H Q => ∃ i, xs = [.int i] ∧ i.natAbs.log2 < 1920 ∧ Q (.str (toString i)) H
abbrev gListOf (K : PySem.W.Frag) : List V → Hp → VK → Prop := fun xs H Q => ∃ p ys, xs = [.ref p] ∧ (SqL K H p ys ∨ SqT K H p ys) ∧ ∀ l, H l = none → Q (.ref l) (upd H l (.lst ys))
abbrev gTupOf (K : PySem.W.Frag) : List V → Hp → VK → Prop := fun xs H Q => ∃ p ys, xs = [.ref p] ∧ ((SqL K H p ys ∧ ∀ l, H l = none → Q (.ref l) (upd H l (.tup ys))) ∨ (SqT K H p ys ∧ Q (.ref p) H))
section
variable {X : Cx} {x : Str} {pos : Pos}
theorem pe_gint {i : Int} (hg : Gl X x) (hm : ∃ t, X.mg x = some (.int i t)) (hd : (x == ("__debug__" : Str)) = false := by decide) : PE X (.Name x pos) (tC (.int i)) := by
  obtain ⟨t, hm⟩ := hm
  exact pe_glob hg hm ⟨t, rfl⟩ hd
theorem pe_gstr {z : Str} (hg : Gl X x) (hm : ∃ t, X.mg x = some (.str z t)) (hd : (x == ("__debug__" : Str)) = false := by decide) : PE X (.Name x pos) (tC (.str z)) := by
  obtain ⟨t, hm⟩ := hm
  exact pe_glob hg hm ⟨t, rfl⟩ hd
theorem pe_gref {a : Addr} (hg : Gl X x) (hm : X.mg x = some (.ref a)) (hd : (x == ("__debug__" : Str)) = false := by decide) : PE X (.Name x pos) (tC (.ref a)) := pe_glob hg hm rfl hd
end
section
variable {K : PySem.W.Frag} {mg : Str → Option Value} {base : Heap} {fa : List He.Fa} {fn : List He.DefD}
theorem Tx.int (T : Tx fa fn K mg base) {x : Str} {n : Int} (i : Nat) (h : fa[i]? = some (.int x n) := by rfl) : ∃ t, mg x = some (.int n t) := He.int_ok T.kin T.ns (T.says.fact i h)
theorem Tx.str (T : Tx fa fn K mg base) {x z : Str} (i : Nat) (h : fa[i]? = some (.str x z) := by rfl) : ∃ t, mg x = some (.str z t) := He.str_ok T.kin T.ns (T.says.fact i h)
end

/-! ### steps -/
section
variable {K : PySem.W.Frag} {σ : L2.St} {H : Hp} {Q : VK} {v x y : V} {i j : Int} {n : Nat} {ta tb tc te : TE} {r r' : R2} {g : Int → Int → V} {C : Int → Int → Prop} {tA : TA}
theorem w_var (h : σ[n]? = some (some v)) (q : Q v H) : tVar n σ H Q := ⟨v, h, q⟩
theorem w_c (q : Q v H) : tC v σ H Q := q
theorem w_op (h : ta σ H fun x H1 => tb σ H1 fun y H2 => r x y H2 Q) : tOp r ta tb σ H Q := h
theorem w_I0 (q : Q (g i j) H) : rI0 g (.int i) (.int j) H Q := ⟨i, j, rfl, rfl, q⟩
theorem w_I (c : C i j) (q : Q (g i j) H) : rI C g (.int i) (.int j) H Q := ⟨i, j, rfl, rfl, c, q⟩
theorem w_eqI (q : Q (.bl (decide (i = j))) H) : rEq (.int i) (.int j) H Q := ⟨rfl, by
  have e : decide (V.int i = V.int j) = decide (i = j) := by simp
  show Q (.bl (decide (V.int i = V.int j))) H
  rw [e]; exact q⟩
theorem w_neI (q : Q (.bl (!decide (i = j))) H) : rNe (.int i) (.int j) H Q := ⟨rfl, by
  have e : decide (V.int i = V.int j) = decide (i = j) := by simp
  show Q (.bl (!decide (V.int i = V.int j))) H
  rw [e]; exact q⟩
theorem w_eqB {a b : Bool} (q : Q (.bl (decide (a = b))) H) : rEq (.bl a) (.bl b) H Q := ⟨rfl, by
  have e : decide (V.bl a = V.bl b) = decide (a = b) := by simp
  show Q (.bl (decide (V.bl a = V.bl b))) H
  rw [e]; exact q⟩
theorem w_neB {a b : Bool} (q : Q (.bl (!decide (a = b))) H) : rNe (.bl a) (.bl b) H Q := ⟨rfl, by
  have e : decide (V.bl a = V.bl b) = decide (a = b) := by simp
  show Q (.bl (!decide (V.bl a = V.bl b))) H
  rw [e]; exact q⟩
theorem w_eqS {a b : Str} (q : Q (.bl (decide (a = b))) H) : rEq (.str a) (.str b) H Q := ⟨rfl, by
  have e : decide (V.str a = V.str b) = decide (a = b) := by simp
  show Q (.bl (decide (V.str a = V.str b))) H
  rw [e]; exact q⟩
theorem w_neS {a b : Str} (q : Q (.bl (!decide (a = b))) H) : rNe (.str a) (.str b) H Q := ⟨rfl, by
  have e : decide (V.str a = V.str b) = decide (a = b) := by simp
  show Q (.bl (!decide (V.str a = V.str b))) H
  rw [e]; exact q⟩
theorem w_isN (q : Q (.bl (decide (x = .non))) H) : rIsN x .non H Q := ⟨rfl, q⟩
theorem w_notN (q : Q (.bl (!decide (x = .non))) H) : rNotN x .non H Q := ⟨rfl, q⟩
theorem w_un {rr : V → Hp → VK → Prop} (h : ta σ H fun x H1 => rr x H1 Q) : tUn rr ta σ H Q := h
theorem w_U {f : Int → V} (q : Q (f i) H) : rU f (.int i) H Q := ⟨i, rfl, q⟩
theorem w_chain (h : ta σ H fun x H1 => tb σ H1 fun y H2 => r x y H2 fun z H3 => ∃ k, z = .bl k ∧ (if k = true then tc σ H3 fun w' H4 => r' y w' H4 Q else Q (.bl false) H3)) : tChain r r' ta tb tc σ H Q := h
theorem w_k {b : Bool} {P : Bool → Prop} (h : P b) : ∃ k, V.bl b = .bl k ∧ P k := ⟨b, rfl, h⟩
theorem w_test {Q : Bool → Hp → Prop} (h : te σ H fun x H' => ∃ k, x = .bl k ∧ Q k H') : tTest te σ H Q := h
theorem w_tB {Q : Bool → Hp → Prop} (h : te σ H fun x H' => ∃ k, x = .bl k ∧ Q k H') : tB te σ H Q := h
theorem w_tru {Q : Bool → Hp → Prop} (h : te σ H fun x H' => ∃ k, TruV K x H' k ∧ Q k H') : tTru K te σ H Q := h
theorem w_not {Q : Bool → Hp → Prop} {t : TT} (h : t σ H fun c H1 => Q (!c) H1) : tNot t σ H Q := h
theorem w_and {Q : Bool → Hp → Prop} {t u : TT} (h : t σ H fun c H1 => if c = true then u σ H1 Q else Q false H1) : tAnd t u σ H Q := h
theorem w_or {Q : Bool → Hp → Prop} {t u : TT} (h : t σ H fun c H1 => if c = true then Q true H1 else u σ H1 Q) : tOr t u σ H Q := h
theorem w_andV (h : ta σ H fun x H1 => ∃ c, x = .bl c ∧ if c = true then tb σ H1 Q else Q (.bl false) H1) : tAndV ta tb σ H Q := h
theorem w_orV (h : ta σ H fun x H1 => ∃ c, x = .bl c ∧ if c = true then Q (.bl true) H1 else tb σ H1 Q) : tOrV ta tb σ H Q := h
theorem w_notV (h : ta σ H fun x H1 => ∃ c, x = .bl c ∧ Q (.bl (!c)) H1) : tNotV ta σ H Q := h
theorem w_ife {t : TT} (h : t σ H fun c H1 => if c = true then ta σ H1 Q else tb σ H1 Q) : tIf t ta tb σ H Q := h
theorem w_nil {Q : List V → Hp → Prop} (q : Q [] H) : tNil σ H Q := q
theorem w_cons {Q : List V → Hp → Prop} (h : te σ H fun x H1 => tA σ H1 fun xs H2 => Q (x :: xs) H2) : tCons te tA σ H Q := h
theorem w_tup (h : tA σ H fun xs H1 => xs.length ≤ sizeLine ∧ ∀ p, H1 p = none → Q (.ref p) (upd H1 p (.tup xs))) : tTup tA σ H Q := h
theorem w_lst (h : tA σ H fun xs H1 => xs.length ≤ sizeLine ∧ ∀ p, H1 p = none → Q (.ref p) (upd H1 p (.lst xs))) : tLst tA σ H Q := h
theorem w_small {xs : List V} {P : Prop} (hl : Nat.ble xs.length 1000 = true) (h : P) : xs.length ≤ sizeLine ∧ P := ⟨Nat.le_trans (Nat.le_of_ble_eq_true hl) (by decide), h⟩
theorem w_call {sp : Sp} {E : L2.St → XK} (h : tA σ H fun vs H1 => sp vs H1 Q (E σ)) : tCallS sp E tA σ H Q := h
theorem w_mk {Cc : Addr} {sp : Sp} {E : L2.St → XK} (h : tA σ H fun vs H1 => ∀ x dx, H1 x = none → H1 dx = none → dx ≠ x → sp (.ref x :: vs) (upd (upd H1 dx (.own x)) x (.ins Cc dx [])) (fun v H2 => v = .non ∧ Q (.ref x) H2) (E σ)) : tMk Cc sp E tA σ H Q := h
theorem w_mt {Cc : Addr} {m : Str} {sp : Sp} {E : L2.St → XK} (h : ta σ H fun x H1 => ∃ a dx fs, x = .ref a ∧ H1 a = some (.ins Cc dx fs) ∧ fs.lookup m = none ∧ tA σ H1 fun vs H2 => sp (x :: vs) H2 Q (E σ)) : tMt Cc m sp E ta tA σ H Q := h
theorem w_cb {rr : List V → Hp → VK → Prop} (h : tA σ H fun vs H1 => rr vs H1 Q) : tCB rr tA σ H Q := h
theorem w_min2 (q : Q (.int (if j < i then j else i)) H) : gMin2 [.int i, .int j] H Q := ⟨i, j, rfl, q⟩
theorem w_max2 (q : Q (.int (if j > i then j else i)) H) : gMax2 [.int i, .int j] H Q := ⟨i, j, rfl, q⟩
theorem w_abs (q : Q (.int (if i < 0 then -i else i)) H) : gAbs [.int i] H Q := ⟨i, rfl, q⟩
theorem w_int (q : Q (.int i) H) : gInt1 [.int i] H Q := .inl ⟨i, rfl, q⟩
theorem w_lenL {p : Addr} {xs : List V} (h : SqL K H p xs) (q : Q (.int (xs.length : Int)) H) : gLen K [.ref p] H Q := ⟨_, xs.length, rfl, .inl ⟨xs, h, rfl⟩, q⟩
theorem w_lenT {p : Addr} {xs : List V} (h : SqT K H p xs) (q : Q (.int (xs.length : Int)) H) : gLen K [.ref p] H Q := ⟨_, xs.length, rfl, .inr ⟨xs, h, rfl⟩, q⟩
theorem w_lenS {z : Str} (h : z.length ≤ sizeLine) (q : Q (.int (z.length : Int)) H) : gLen K [.str z] H Q := ⟨_, z.length, rfl, ⟨h, rfl⟩, q⟩
theorem w_listL {p : Addr} {xs : List V} (h : SqL K H p xs) (q : ∀ l, H l = none → Q (.ref l) (upd H l (.lst xs))) : gListOf K [.ref p] H Q := ⟨p, xs, rfl, .inl h, q⟩
theorem w_listT {p : Addr} {xs : List V} (h : SqT K H p xs) (q : ∀ l, H l = none → Q (.ref l) (upd H l (.lst xs))) : gListOf K [.ref p] H Q := ⟨p, xs, rfl, .inr h, q⟩
theorem w_ixL {p : Addr} {xs : List V} (h : SqL K H p xs) (ha : atI xs i = some v) (q : Q v H) : rIxL K (.ref p) (.int i) H Q := ⟨p, xs, i, v, rfl, rfl, h, ha, q⟩
theorem w_ixT {p : Addr} {xs : List V} (h : SqT K H p xs) (ha : atI xs i = some v) (q : Q v H) : rIxT K (.ref p) (.int i) H Q := ⟨p, xs, i, v, rfl, rfl, h, ha, q⟩
theorem w_fld {f : Str} {a Cc dx : Addr} {fs : List (Str × V)} {P : Addr → Addr → Addr → List (Str × V) → V → Prop} (h : H a = some (.ins Cc dx fs)) (c : Cls K Cc) (na : NoAttr K Cc f) (l : fs.lookup f = some v) (q : P a Cc dx fs v) :
    ∃ a' C' dx' fs' v', V.ref a = .ref a' ∧ H a' = some (.ins C' dx' fs') ∧ Cls K C' ∧ NoAttr K C' f ∧ fs'.lookup f = some v' ∧ P a' C' dx' fs' v' := ⟨a, Cc, dx, fs, v, rfl, h, c, na, l, q⟩
theorem w_mt1 {m : Str} {a Cc dx : Addr} {fs : List (Str × V)} {P : Addr → Prop} (h : H a = some (.ins Cc dx fs)) (l : fs.lookup m = none) (q : P a) :
    ∃ a' dx' fs', V.ref a = .ref a' ∧ H a' = some (.ins Cc dx' fs') ∧ fs'.lookup m = none ∧ P a' := ⟨a, dx, fs, rfl, h, l, q⟩
theorem w_fld0 {f : Str} (h : ta σ H fun x H1 => ∃ a C dx fs v, x = .ref a ∧ H1 a = some (.ins C dx fs) ∧ Cls K C ∧ NoAttr K C f ∧ fs.lookup f = some v ∧ Q v H1) : tFld K ta f σ H Q := h
theorem w_bm {T : String} {rr : V → List V → Hp → VK → Prop} (h : ta σ H fun x H1 => tyV K T x H1 ∧ tA σ H1 fun xs H2 => rr x xs H2 Q) : tBM K T rr ta tA σ H Q := h
theorem w_bm0 {T : String} {rr : V → List V → Hp → VK → Prop} (h : ta σ H fun x H1 => tyV K T x H1 ∧ rr x [] H1 Q) : tBM0 K T rr ta σ H Q := h
theorem w_app {l : Addr} {xs : List V} (h : H l = some (.lst xs)) (hz : xs.length < sizeLine) (q : Q .non (upd H l (.lst (xs ++ [v])))) : rAppend (.ref l) [v] H Q := ⟨l, xs, v, rfl, rfl, h, hz, q⟩
theorem ty_list {l : Addr} {xs : List V} {P : Prop} (h : H l = some (.lst xs)) (q : P) : tyV K "list" (.ref l) H ∧ P := ⟨.inl ⟨rfl, xs, .inl (.inl h)⟩, q⟩
end
section
variable {K : PySem.W.Frag} {σ : L2.St} {H : Hp} {D : Ends} {v x y : V} {n : Nat} {ta tb te : TE} {t u : TS} {tt : TT}
theorem w_seq (h : t { D with nx := u D } σ H) : tSeq t u D σ H := h
theorem w_next (h : D.nx σ H) : tNext D σ H := h
theorem w_brk (h : D.bk σ H) : tBreak D σ H := h
theorem w_cont (h : D.ct σ H) : tCont D σ H := h
theorem w_drop (h : te σ H fun _ H1 => D.nx σ H1) : tDrop te D σ H := h
theorem w_ret (h : te σ H D.rt) : tRet te D σ H := h
theorem w_retN (h : D.rt .non H) : tRetN D σ H := h
theorem w_if (h : tt σ H fun b H1 => if b = true then t D σ H1 else u D σ H1) : tIfS tt t u D σ H := h
theorem w_asg {g : TG} (h : te σ H fun x H1 => g x σ H1 D.nx) : tAsg te g D σ H := h
theorem w_nm {Q : L2.St → Hp → Prop} (h : Q (σ.set n (some v)) H) : gName n v σ H Q := h
theorem w_sub {to ti : TE} {ts : TSet} {Q : L2.St → Hp → Prop} (h : to σ H fun o H1 => ti σ H1 fun i H2 => ts o i v H2 fun H3 => Q σ H3) : gSub to ti ts v σ H Q := h
theorem w_setL {l : Addr} {xs : List V} {k : Int} {j : Nat} {Q : Hp → Prop} (h : H l = some (.lst xs)) (hj : ixN xs.length k = some j) (q : Q (upd H l (.lst (xs.set j v)))) : rSetL (.ref l) (.int k) v H Q := ⟨l, xs, k, j, rfl, rfl, h, hj, q⟩
theorem w_sfld {f : Str} (h : tb σ H fun y H1 => ta σ H1 fun x H2 => ∃ a C dx fs, x = .ref a ∧ H2 a = some (.ins C dx fs) ∧ Cls K C ∧ NoAttr K C f ∧ fs.length < 1000 ∧ D.nx σ (upd H2 a (.ins C dx (putF f y fs)))) : sFld K ta tb f D σ H := h
theorem w_sput {f : Str} {a C dx : Addr} {fs fs' : List (Str × V)} (h : H a = some (.ins C dx fs)) (c : Cls K C) (na : NoAttr K C f) (e : putF f y fs = fs') (l : Nat.blt fs.length 1000 = true) (q : D.nx σ (upd H a (.ins C dx fs'))) :
    ∃ a' C' dx' fs0, V.ref a = .ref a' ∧ H a' = some (.ins C' dx' fs0) ∧ Cls K C' ∧ NoAttr K C' f ∧ fs0.length < 1000 ∧ D.nx σ (upd H a' (.ins C' dx' (putF f y fs0))) := ⟨a, C, dx, fs, rfl, h, c, na, Nat.le_of_ble_eq_true l, by rw [e]; exact q⟩
theorem w_sfa {f : Str} {rd : V → V → Hp → VK → Prop} (h : ta σ H fun x H1 => ∃ a C dx fs v, x = .ref a ∧ H1 a = some (.ins C dx fs) ∧ Cls K C ∧ NoAttr K C f ∧ fs.lookup f = some v ∧
  tb σ H1 fun y H2 => rd v y H2 fun z H3 => ∃ dx' fs', H3 a = some (.ins C dx' fs') ∧ fs'.length < 1000 ∧ D.nx σ (upd H3 a (.ins C dx' (putF f z fs')))) : sFldAug K ta tb rd f D σ H := h
theorem w_sput2 {f : Str} {a C dx : Addr} {fs fs' : List (Str × V)} (h : H a = some (.ins C dx fs)) (e : putF f y fs = fs') (l : Nat.blt fs.length 1000 = true) (q : D.nx σ (upd H a (.ins C dx fs'))) :
    ∃ dx' fs0, H a = some (.ins C dx' fs0) ∧ fs0.length < 1000 ∧ D.nx σ (upd H a (.ins C dx' (putF f y fs0))) := ⟨dx, fs, h, Nat.le_of_ble_eq_true l, by rw [e]; exact q⟩
theorem w_radd {i j : Int} {Q : VK} (q : Q (.int (i + j)) H) : L2.rAdd (.int i) (.int j) H Q := ⟨i, j, rfl, rfl, q⟩
theorem w_rsub {i j : Int} {Q : VK} (q : Q (.int (i - j)) H) : L2.rSub (.int i) (.int j) H Q := ⟨i, j, rfl, rfl, q⟩
theorem w_aug {te : TE} {ti : TIp} (hx : σ[n]? = some (some x)) (h : te σ H fun y H1 => ti x y H1 fun z H2 => D.nx (σ.set n (some z)) H2) : tAug n te ti D σ H := ⟨x, hx, h⟩
theorem w_ip {f : Int → Int → Int} {i j : Int} {Q : VK} (q : Q (.int (f i j)) H) : ipI f (.int i) (.int j) H Q := ⟨i, j, rfl, rfl, q⟩
theorem w_rs {C : Addr} {W : WX} (h : W (.ref C) none σ H) : tRs C W D σ H := h
theorem w_par {i j : Nat} {tA : TA} (h : tA σ H fun vs H1 => ∃ v w, vs = [v, w] ∧ D.nx ((σ.set i (some v)).set j (some w)) H1) : tPar i j tA D σ H := h
/-! ### ifs -/
theorem if_d {p : Prop} [Decidable p] {A B : Prop} (h1 : p → A) (h2 : ¬ p → B) : if decide p = true then A else B := by
  by_cases h : p
  · rw [decide_eq_true h]; exact h1 h
  · rw [decide_eq_false h]; exact h2 h
theorem if_nd {p : Prop} [Decidable p] {A B : Prop} (h1 : ¬ p → A) (h2 : p → B) : if (!decide p) = true then A else B := by
  by_cases h : p
  · rw [decide_eq_true h]; exact h2 h
  · rw [decide_eq_false h]; exact h1 h
theorem if_T {A B : Prop} (h : A) : if true = true then A else B := h
theorem if_F {A B : Prop} (h : B) : if false = true then A else B := h
theorem if_nT {A B : Prop} (h : B) : if (!true) = true then A else B := h
theorem if_nF {A B : Prop} (h : A) : if (!false) = true then A else B := h
theorem if_b {b : Bool} {A B : Prop} (h1 : b = true → A) (h2 : b = false → B) : if b = true then A else B := by
  cases b
  · exact h2 rfl
  · exact h1 rfl
end
/-! ### loops -/
section
variable {K : PySem.W.Frag} {g : TG} {tb : TS} {D : Ends} {σ : L2.St} {H : Hp} {tA : TA} {tl : TE}
def LoopL (K : PySem.W.Frag) (a : Addr) (g : TG) (tb : TS) (D : Ends) (σ : L2.St) (H : Hp) : Prop := (∃ xs, SqL K H a xs) ∧ ∃ W : Nat → Nat → L2.St → Hp → Prop, (∃ m, W 0 m σ H) ∧ ∀ i m σ H, W i m σ H →
  ((Itl K a).stop i H ∧ D.nx σ H) ∨ ((Itl K a).go i H ∧ ∃ N : L2.St → Hp → Prop, (∀ σ' H', N σ' H' → ∃ m', m' < m ∧ W (i + 1) m' σ' H') ∧ ∀ x H', (Itl K a).yld i H x H' → g x σ H' fun σ2 H2 => tb { D with nx := N, ct := N, bk := D.nx } σ2 H2)
def LoopT (K : PySem.W.Frag) (a : Addr) (g : TG) (tb : TS) (D : Ends) (σ : L2.St) (H : Hp) : Prop := (∃ xs, SqT K H a xs) ∧ ∃ W : Nat → Nat → L2.St → Hp → Prop, (∃ m, W 0 m σ H) ∧ ∀ i m σ H, W i m σ H →
  ((Itt K a).stop i H ∧ D.nx σ H) ∨ ((Itt K a).go i H ∧ ∃ N : L2.St → Hp → Prop, (∀ σ' H', N σ' H' → ∃ m', m' < m ∧ W (i + 1) m' σ' H') ∧ ∀ x H', (Itt K a).yld i H x H' → g x σ H' fun σ2 H2 => tb { D with nx := N, ct := N, bk := D.nx } σ2 H2)
/-- the same words by names -/
def rLoop1 (g : TG) (tb : TS) (D : Ends) (σ : L2.St) (vs : List V) (H1 : Hp) : Prop := ∃ j : Int, vs = [.int j] ∧ -(2 ^ 62) ≤ j ∧ j < 2 ^ 62 ∧ ∃ W : Nat → Nat → L2.St → Hp → Prop, (∃ m, W 0 m σ H1) ∧ ∀ i m σ H, W i m σ H →
  ((Itr 0 j.toNat).stop i H ∧ D.nx σ H) ∨ ((Itr 0 j.toNat).go i H ∧ ∃ N : L2.St → Hp → Prop, (∀ σ' H', N σ' H' → ∃ m', m' < m ∧ W (i + 1) m' σ' H') ∧ ∀ x H', (Itr 0 j.toNat).yld i H x H' → g x σ H' fun σ2 H2 => tb { D with nx := N, ct := N, bk := D.nx } σ2 H2)
def rLoop2 (g : TG) (tb : TS) (D : Ends) (σ : L2.St) (vs : List V) (H1 : Hp) : Prop := ∃ i j : Int, vs = [.int i, .int j] ∧ (-(2 ^ 62) ≤ i ∧ i < 2 ^ 62 ∧ -(2 ^ 62) ≤ j ∧ j < 2 ^ 62) ∧ ∃ W : Nat → Nat → L2.St → Hp → Prop, (∃ m, W 0 m σ H1) ∧ ∀ k m σ H, W k m σ H →
  ((Itr i (j - i).toNat).stop k H ∧ D.nx σ H) ∨ ((Itr i (j - i).toNat).go k H ∧ ∃ N : L2.St → Hp → Prop, (∀ σ' H', N σ' H' → ∃ m', m' < m ∧ W (k + 1) m' σ' H') ∧ ∀ x H', (Itr i (j - i).toNat).yld k H x H' → g x σ H' fun σ2 H2 => tb { D with nx := N, ct := N, bk := D.nx } σ2 H2)
def rLoopL (K : PySem.W.Frag) (g : TG) (tb : TS) (D : Ends) (σ : L2.St) (x : V) (H1 : Hp) : Prop := ∃ a, x = .ref a ∧ LoopL K a g tb D σ H1
def rLoopT (K : PySem.W.Frag) (g : TG) (tb : TS) (D : Ends) (σ : L2.St) (x : V) (H1 : Hp) : Prop := ∃ a, x = .ref a ∧ LoopT K a g tb D σ H1
theorem w_forR1 (h : tA σ H fun vs H1 => rLoop1 g tb D σ vs H1) : tFor (iRng1 tA) g tb D σ H := h
theorem w_forR2 (h : tA σ H fun vs H1 => rLoop2 g tb D σ vs H1) : tFor (iRng2 tA) g tb D σ H := h
theorem w_forL (h : tl σ H fun x H1 => rLoopL K g tb D σ x H1) : tFor (iList K tl) g tb D σ H := h
theorem w_forT (h : tl σ H fun x H1 => rLoopT K g tb D σ x H1) : tFor (iTup K tl) g tb D σ H := h
/-- for i in range(n), n a Nat -/
theorem loop1 {n : Nat} (Pv : Nat → L2.St → Hp → Prop) {j : Int} (hj : j = (n : Int)) (hn : n < 4000000000) (h0 : Pv 0 σ H)
    (hs : ∀ i σ H, i < n → Pv i σ H → g (.int (i : Int)) σ H fun σ2 H2 => tb { D with nx := Pv (i + 1), ct := Pv (i + 1), bk := D.nx } σ2 H2) (hd : ∀ σ H, Pv n σ H → D.nx σ H) : rLoop1 g tb D σ [.int j] H := by
  subst hj
  refine ⟨(n : Int), rfl, by omega, by omega, for_range (lo := 0) (n := (n : Int).toNat) Pv h0 (fun i σ H hi p => ?_) (fun σ H p => hd σ H ?_)⟩
  · have e : (0 : Int) + (i : Int) = (i : Int) := Int.zero_add _
    rw [e]
    exact hs i σ H (by omega) p
  · have e : (n : Int).toNat = n := Int.toNat_natCast n
    rw [e] at p
    exact p
theorem loop2 {lo hi : Int} (Pv : Nat → L2.St → Hp → Prop) (hn : -4000000000 < lo ∧ lo < 4000000000 ∧ -4000000000 < hi ∧ hi < 4000000000) (h0 : Pv 0 σ H)
    (hs : ∀ (i : Nat) σ H, lo + i < hi → Pv i σ H → g (.int (lo + i)) σ H fun σ2 H2 => tb { D with nx := Pv (i + 1), ct := Pv (i + 1), bk := D.nx } σ2 H2) (hd : ∀ σ H, Pv (hi - lo).toNat σ H → D.nx σ H) : rLoop2 g tb D σ [.int lo, .int hi] H := by
  refine ⟨lo, hi, rfl, ⟨by omega, by omega, by omega, by omega⟩, for_range (lo := lo) (n := (hi - lo).toNat) Pv h0 (fun i σ H hi' p => hs i σ H (by omega) p) (fun σ H p => hd σ H p)⟩
theorem loopL {a : Addr} {xs : List V} (Pv : Nat → L2.St → Hp → Prop) (hx : SqL K H a xs) (h0 : Pv 0 σ H) (hl : ∀ i σ H, i ≤ xs.length → Pv i σ H → SqL K H a xs)
    (hs : ∀ i x σ H, xs[i]? = some x → Pv i σ H → g x σ H fun σ2 H2 => tb { D with nx := Pv (i + 1), ct := Pv (i + 1), bk := D.nx } σ2 H2) (hd : ∀ σ H, Pv xs.length σ H → D.nx σ H) : rLoopL K g tb D σ (.ref a) H := ⟨a, rfl, ⟨_, hx⟩, for_list Pv h0 hl hs hd⟩
theorem loopT {a : Addr} {xs : List V} (Pv : Nat → L2.St → Hp → Prop) (hx : SqT K H a xs) (h0 : Pv 0 σ H) (hl : ∀ i σ H, i ≤ xs.length → Pv i σ H → SqT K H a xs)
    (hs : ∀ i x σ H, xs[i]? = some x → Pv i σ H → g x σ H fun σ2 H2 => tb { D with nx := Pv (i + 1), ct := Pv (i + 1), bk := D.nx } σ2 H2) (hd : ∀ σ H, Pv xs.length σ H → D.nx σ H) : rLoopT K g tb D σ (.ref a) H := ⟨a, rfl, ⟨_, hx⟩, for_tup Pv h0 hl hs hd⟩
end
/-! ### heaps -/
theorem up_k {H : Hp} {a b : Addr} {o u : HO} (h : H b = some u) (n : b ≠ a) : upd H a o b = some u := (upd_ne n).trans h
theorem up_n {H : Hp} {a b : Addr} {o u : HO} (h : H b = some u) (n : H a = none) : upd H a o b = some u := up_k h (ne_of_none h n)
theorem same_new {H : Hp} {a : Addr} {o : HO} (n : H a = none) : Same H (upd H a o) := fun _ _ e => up_n e n
theorem same_trans_new {H H1 : Hp} {a : Addr} {o : HO} (s : Same H H1) (n : H1 a = none) : Same H (upd H1 a o) := fun b u e => up_n (s b u e) n
theorem seqL_new {K : PySem.W.Frag} {H : Hp} {a b : Addr} {o : HO} {xs : List V} (h : SqL K H b xs) (n : H a = none) : SqL K (upd H a o) b xs := (same_new n).seq h
theorem seqL_put {K : PySem.W.Frag} {H : Hp} {a b : Addr} {o : HO} {xs : List V} (h : SqL K H b xs) (n : a ≠ b) : SqL K (upd H a o) b xs := by
  rcases h with (h | ⟨u, h⟩) | h
  · exact .inl (.inl (up_k h n.symm))
  · exact .inl (.inr ⟨u, up_k h n.symm⟩)
  · exact .inr h
end G
namespace G
open PySem PySem.Spec PyProof.Rows L2
/-! ### the script, which nobody writes -/
/-- a list that stands still: frozen, or of the written part -/
def Scr (K : PySem.W.Frag) (H : Hp) (a : Addr) (xs : List V) : Prop := (∃ o, H a = some (.frz o (.lst xs))) ∨
    ∃ (o : Obj) (its : Array Value) (n : Nat), K.lookup a = some o ∧ o.cls = .type "list" ∧ o.dict = none ∧ o.data = .seq its n ∧ its.size ≤ sizeLine ∧ Vals xs its.toList
section
variable {K : PySem.W.Frag} {H H' : Hp} {a q : Addr} {xs : List V} {o : HO}
theorem Scr.sq (h : Scr K H a xs) : SqL K H a xs := by
  rcases h with ⟨o, h⟩ | h
  · exact .inl (.inr ⟨o, h⟩)
  · exact .inr h
theorem Scr.same (h : Scr K H a xs) (s : Same H H') : Scr K H' a xs := by
  rcases h with ⟨o, h⟩ | h
  · exact .inl ⟨o, s _ _ h⟩
  · exact .inr h
theorem Scr.of (hO : Only H) (h : SqL K H a xs) : Scr K H a xs := by
  rcases h with (h | ⟨o, h⟩) | h
  · rcases hO a with e | ⟨o, ys, e⟩
    · rw [e] at h; cases h
    · rw [e] at h; cases h
  · exact .inl ⟨o, h⟩
  · exact .inr h
theorem Scr.new (h : Scr K H a xs) (n : H q = none) : Scr K (upd H q o) a xs := h.same (same_new n)
/-- not frozen -/
def Thw (H : Hp) (q : Addr) : Prop := ∀ o u, H q ≠ some (.frz o u)
theorem Thw.lst {xs : List V} (h : H q = some (.lst xs)) : Thw H q := fun _ _ e => by rw [h] at e; cases e
theorem Thw.ins {C dx : Addr} {fs : List (Str × V)} (h : H q = some (.ins C dx fs)) : Thw H q := fun _ _ e => by rw [h] at e; cases e
theorem Scr.put (h : Scr K H a xs) (n : Thw H q) : Scr K (upd H q o) a xs := by
  rcases h with ⟨u, h⟩ | h
  · refine .inl ⟨u, up_k h ?_⟩
    intro e
    subst e
    exact n _ _ h
  · exact .inr h
/-- written objects are not frozen: what was frozen stays so -/
def FrzIn (H H' : Hp) : Prop := ∀ b o u, H b = some (.frz o u) → H' b = some (.frz o u)
theorem Scr.frz (h : Scr K H a xs) (s : FrzIn H H') : Scr K H' a xs := by
  rcases h with ⟨o, h⟩ | h
  · exact .inl ⟨o, s _ _ _ h⟩
  · exact .inr h
end
theorem up_none {H : Hp} {a b : Addr} {o : HO} (h : upd H a o b = none) : b ≠ a ∧ H b = none := by
  by_cases e : b = a
  · subst e; rw [upd_same] at h; cases h
  · rw [upd_ne e] at h; exact ⟨e, h⟩
theorem none_up {H : Hp} {a b : Addr} {o : HO} (n : b ≠ a) (h : H b = none) : upd H a o b = none := (upd_ne n).trans h
theorem if_yes {p : Prop} [Decidable p] {A B : Prop} (h : p) (q : A) : if decide p = true then A else B := by rw [decide_eq_true h]; exact q
theorem if_no {p : Prop} [Decidable p] {A B : Prop} (h : ¬ p) (q : B) : if decide p = true then A else B := by rw [decide_eq_false h]; exact q
theorem if_nyes {p : Prop} [Decidable p] {A B : Prop} (h : ¬ p) (q : A) : if (!decide p) = true then A else B := by rw [decide_eq_false h]; exact q
theorem if_nno {p : Prop} [Decidable p] {A B : Prop} (h : p) (q : B) : if (!decide p) = true then A else B := by rw [decide_eq_true h]; exact q
end G

namespace G
open PySem PySem.Spec PyProof.Rows L2
theorem w_cut {t u : TS} {D : Ends} {σ : L2.St} {H : Hp} (Mid : L2.St → Hp → Prop) (h : t { D with nx := Mid } σ H) (k : ∀ σ' H', Mid σ' H' → u D σ' H') : Evl.tCut t u D σ H := ⟨Mid, h, k⟩
theorem ixN_of {n j : Nat} {k : Int} (e : k = (j : Int)) (h : j < n) : ixN n k = some j := by
  subst e
  unfold ixN
  rw [if_pos (by omega), if_pos (by omega)]; simp
end G

namespace G
open PySem PySem.Spec PyProof.Rows L2
/-! the same, the cheap question first -/
section
variable {K : PySem.W.Frag} {H : Hp} {a b q : Addr} {o u : HO} {xs : List V}
theorem up_k' (n : b ≠ a) (h : H b = some u) : upd H a o b = some u := up_k h n
theorem scr_new' (n : H q = none) (h : Scr K H a xs) : Scr K (upd H q o) a xs := h.new n
theorem scr_put' (n : Thw H q) (h : Scr K H a xs) : Scr K (upd H q o) a xs := h.put n
theorem sq_new' (n : H a = none) (h : SqL K H b xs) : SqL K (upd H a o) b xs := seqL_new h n
theorem sq_put' (n : a ≠ b) (h : SqL K H b xs) : SqL K (upd H a o) b xs := seqL_put h n
end
end G

namespace G
open PySem PySem.Spec PyProof.Rows L2
section
variable {H : Hp} {Q : VK} {i : Int} {a : Addr} {b : Bool} {z : Str}
theorem w_isN0 (q : Q (.bl true) H) : rIsN .non .non H Q := ⟨rfl, q⟩
theorem w_isNi (q : Q (.bl false) H) : rIsN (.int i) .non H Q := ⟨rfl, q⟩
theorem w_isNr (q : Q (.bl false) H) : rIsN (.ref a) .non H Q := ⟨rfl, q⟩
theorem w_isNb (q : Q (.bl false) H) : rIsN (.bl b) .non H Q := ⟨rfl, q⟩
theorem w_isNs (q : Q (.bl false) H) : rIsN (.str z) .non H Q := ⟨rfl, q⟩
theorem w_notN0 (q : Q (.bl false) H) : rNotN .non .non H Q := ⟨rfl, q⟩
theorem w_notNi (q : Q (.bl true) H) : rNotN (.int i) .non H Q := ⟨rfl, q⟩
theorem w_notNr (q : Q (.bl true) H) : rNotN (.ref a) .non H Q := ⟨rfl, q⟩
theorem w_notNb (q : Q (.bl true) H) : rNotN (.bl b) .non H Q := ⟨rfl, q⟩
theorem w_notNs (q : Q (.bl true) H) : rNotN (.str z) .non H Q := ⟨rfl, q⟩
end
end G

namespace K80
open PySem PySem.Spec PyProof.Rows L2 G

def top (i : Nat) : Stmt := PySem.Challenge.pw_throughway_k80_buckets_of_tokens.main.body.getD i (.Pass ⟨0, 0, 0, 0⟩)

abbrev s_Bucket_init : Stmt := inClass (top 4) 0
abbrev N_Bucket_init : List Str := ["self", "rate", "depth"]
abbrev P_Bucket_init : List Str := ["self", "rate", "depth"]

theorem sc_Bucket_init : FnScope N_Bucket_init P_Bucket_init (defScope s_Bucket_init) := ⟨rfl, rfl, rfl, by decide +kernel, rfl, by decide +kernel, by decide +kernel⟩

abbrev D_Bucket_init : He.DefD := ⟨("Bucket", some "__init__"), "__init__", "Bucket.__init__", defArgs s_Bucket_init, defBody s_Bucket_init, defScope s_Bucket_init, [], []⟩

abbrev s_Bucket_tick : Stmt := inClass (top 4) 1
abbrev N_Bucket_tick : List Str := ["self"]
abbrev P_Bucket_tick : List Str := ["self"]

theorem sc_Bucket_tick : FnScope N_Bucket_tick P_Bucket_tick (defScope s_Bucket_tick) := ⟨rfl, rfl, rfl, by decide +kernel, rfl, by decide +kernel, by decide +kernel⟩

abbrev D_Bucket_tick : He.DefD := ⟨("Bucket", some "tick"), "tick", "Bucket.tick", defArgs s_Bucket_tick, defBody s_Bucket_tick, defScope s_Bucket_tick, [], []⟩

abbrev s_Bucket_can_take : Stmt := inClass (top 4) 2
abbrev N_Bucket_can_take : List Str := ["self", "size"]
abbrev P_Bucket_can_take : List Str := ["self", "size"]

theorem sc_Bucket_can_take : FnScope N_Bucket_can_take P_Bucket_can_take (defScope s_Bucket_can_take) := ⟨rfl, rfl, rfl, by decide +kernel, rfl, by decide +kernel, by decide +kernel⟩

abbrev D_Bucket_can_take : He.DefD := ⟨("Bucket", some "can_take"), "can_take", "Bucket.can_take", defArgs s_Bucket_can_take, defBody s_Bucket_can_take, defScope s_Bucket_can_take, [], []⟩

abbrev s_Bucket_take : Stmt := inClass (top 4) 3
abbrev N_Bucket_take : List Str := ["self", "size"]
abbrev P_Bucket_take : List Str := ["self", "size"]

theorem sc_Bucket_take : FnScope N_Bucket_take P_Bucket_take (defScope s_Bucket_take) := ⟨rfl, rfl, rfl, by decide +kernel, rfl, by decide +kernel, by decide +kernel⟩

abbrev D_Bucket_take : He.DefD := ⟨("Bucket", some "take"), "take", "Bucket.take", defArgs s_Bucket_take, defBody s_Bucket_take, defScope s_Bucket_take, [], []⟩

abbrev s_Bucket_fork : Stmt := inClass (top 4) 4
abbrev N_Bucket_fork : List Str := ["self", "double"]
abbrev P_Bucket_fork : List Str := ["self"]

theorem sc_Bucket_fork : FnScope N_Bucket_fork P_Bucket_fork (defScope s_Bucket_fork) := ⟨rfl, rfl, rfl, by decide +kernel, rfl, by decide +kernel, by decide +kernel⟩

abbrev D_Bucket_fork : He.DefD := ⟨("Bucket", some "fork"), "fork", "Bucket.fork", defArgs s_Bucket_fork, defBody s_Bucket_fork, defScope s_Bucket_fork, [], []⟩

abbrev s_law_cell : Stmt := top 6
abbrev N_law_cell : List Str := ["script", "k"]
abbrev P_law_cell : List Str := ["script", "k"]

theorem sc_law_cell : FnScope N_law_cell P_law_cell (defScope s_law_cell) := ⟨rfl, rfl, rfl, by decide +kernel, rfl, by decide +kernel, by decide +kernel⟩

abbrev D_law_cell : He.DefD := ⟨("_law_cell", none), "_law_cell", "_law_cell", defArgs s_law_cell, defBody s_law_cell, defScope s_law_cell, [], []⟩

abbrev s_law_start : Stmt := top 7
abbrev N_law_start : List Str := ["cell", "k", "prime", "mixed", "number", "turn"]
abbrev P_law_start : List Str := ["cell", "k"]

theorem sc_law_start : FnScope N_law_start P_law_start (defScope s_law_start) := ⟨rfl, rfl, rfl, by decide +kernel, rfl, by decide +kernel, by decide +kernel⟩

abbrev D_law_start : He.DefD := ⟨("_law_start", none), "_law_start", "_law_start", defArgs s_law_start, defBody s_law_start, defScope s_law_start, [], []⟩

abbrev s_law_digit : Stmt := top 8
abbrev N_law_digit : List Str := ["state", "many", "digit"]
abbrev P_law_digit : List Str := ["state", "many"]

theorem sc_law_digit : FnScope N_law_digit P_law_digit (defScope s_law_digit) := ⟨rfl, rfl, rfl, by decide +kernel, rfl, by decide +kernel, by decide +kernel⟩

abbrev D_law_digit : He.DefD := ⟨("_law_digit", none), "_law_digit", "_law_digit", defArgs s_law_digit, defBody s_law_digit, defScope s_law_digit, [], []⟩

abbrev s_law_made : Stmt := top 9
abbrev N_law_made : List Str := ["rate", "depth"]
abbrev P_law_made : List Str := ["rate", "depth"]

theorem sc_law_made : FnScope N_law_made P_law_made (defScope s_law_made) := ⟨rfl, rfl, rfl, by decide +kernel, rfl, by decide +kernel, by decide +kernel⟩

abbrev D_law_made : He.DefD := ⟨("_law_made", none), "_law_made", "_law_made", defArgs s_law_made, defBody s_law_made, defScope s_law_made, [], []⟩

abbrev s_law_spend : Stmt := top 10
abbrev N_law_spend : List Str := ["bucket", "tokens", "size", "may"]
abbrev P_law_spend : List Str := ["bucket", "tokens", "size"]

theorem sc_law_spend : FnScope N_law_spend P_law_spend (defScope s_law_spend) := ⟨rfl, rfl, rfl, by decide +kernel, rfl, by decide +kernel, by decide +kernel⟩

abbrev D_law_spend : He.DefD := ⟨("_law_spend", none), "_law_spend", "_law_spend", defArgs s_law_spend, defBody s_law_spend, defScope s_law_spend, [], []⟩

abbrev s_law_bounded : Stmt := top 11
abbrev N_law_bounded : List Str := ["rate", "depth", "gone", "first", "total", "last"]
abbrev P_law_bounded : List Str := ["rate", "depth", "gone"]

theorem sc_law_bounded : FnScope N_law_bounded P_law_bounded (defScope s_law_bounded) := ⟨rfl, rfl, rfl, by decide +kernel, rfl, by decide +kernel, by decide +kernel⟩

abbrev D_law_bounded : He.DefD := ⟨("_law_bounded", none), "_law_bounded", "_law_bounded", defArgs s_law_bounded, defBody s_law_bounded, defScope s_law_bounded, [], []⟩

abbrev s_law_play : Stmt := top 12
abbrev N_law_play : List Str := ["script", "rate", "depth", "bucket", "tokens", "gone", "beside", "kept", "k", "state", "size", "left"]
abbrev P_law_play : List Str := ["script", "rate", "depth", "bucket"]

theorem sc_law_play : FnScope N_law_play P_law_play (defScope s_law_play) := ⟨rfl, rfl, rfl, by decide +kernel, rfl, by decide +kernel, by decide +kernel⟩

abbrev D_law_play : He.DefD := ⟨("_law_play", none), "_law_play", "_law_play", defArgs s_law_play, defBody s_law_play, defScope s_law_play, [], []⟩

abbrev s_law : Stmt := top 13
abbrev N_law : List Str := ["script", "state", "rate", "depth", "bucket"]
abbrev P_law : List Str := ["script"]

theorem sc_law : FnScope N_law P_law (defScope s_law) := ⟨rfl, rfl, rfl, by decide +kernel, rfl, by decide +kernel, by decide +kernel⟩

abbrev D_law : He.DefD := ⟨("law", none), "law", "law", defArgs s_law, defBody s_law, defScope s_law, [], []⟩

abbrev fn : List He.DefD := [D_Bucket_init, D_Bucket_tick, D_Bucket_can_take, D_Bucket_take, D_Bucket_fork, D_law_cell, D_law_start, D_law_digit, D_law_made, D_law_spend, D_law_bounded, D_law_play, D_law]

abbrev fa : List He.Fa := [.exm "InvalidAmount" "InvalidAmount" true, .exc "InvalidAmount", .glo "InvalidAmount", .free "min", .free "len", .free "int", .free "range", .glo "Bucket", .mkr "Bucket", .cls "Bucket", .meth "Bucket" "tick", .meth "Bucket" "can_take", .meth "Bucket" "take", .meth "Bucket" "fork", .glo "_law_cell", .glo "_law_start", .glo "_law_digit", .glo "_law_made", .glo "_law_spend", .glo "_law_bounded", .glo "_law_play", .glo "law", .noat "Bucket" "rate", .noat "Bucket" "depth", .noat "Bucket" "tokens"]

abbrev TX (K : PySem.W.Frag) (mg : Str → Option Value) (base : Heap) : Prop := Tx fa fn K mg base

section
variable {K : PySem.W.Frag} {mg : Str → Option Value} {base : Heap}

theorem cl_Bucket (T : TX K mg base) : Cls K (He.ga K "Bucket") := T.cls 9

theorem na_Bucket_rate (T : TX K mg base) : NoAttr K (He.ga K "Bucket") "rate" := T.noat 22

theorem na_Bucket_depth (T : TX K mg base) : NoAttr K (He.ga K "Bucket") "depth" := T.noat 23

theorem na_Bucket_tokens (T : TX K mg base) : NoAttr K (He.ga K "Bucket") "tokens" := T.noat 24

/-- the attributes of a Bucket, in the order of its __init__ -/
abbrev fBucket (x0 x1 x2 : V) : List (Str × V) := [("rate", x0), ("depth", x1), ("tokens", x2)]

theorem lk_Bucket_rate {x0 x1 x2 : V} : (fBucket x0 x1 x2).lookup ("rate" : Str) = some x0 := by kernel_rfl

theorem pt_Bucket_rate {x0 x1 x2 y : V} : putF "rate" y (fBucket x0 x1 x2) = fBucket y x1 x2 := by kernel_rfl

theorem pn_Bucket_rate { y : V} : putF "rate" y ([] : List (Str × V)) = ([("rate", y)] : List (Str × V)) := by kernel_rfl

theorem lk_Bucket_depth {x0 x1 x2 : V} : (fBucket x0 x1 x2).lookup ("depth" : Str) = some x1 := by kernel_rfl

theorem pt_Bucket_depth {x0 x1 x2 y : V} : putF "depth" y (fBucket x0 x1 x2) = fBucket x0 y x2 := by kernel_rfl

theorem pn_Bucket_depth {x0 y : V} : putF "depth" y ([("rate", x0)] : List (Str × V)) = ([("rate", x0), ("depth", y)] : List (Str × V)) := by kernel_rfl

theorem lk_Bucket_tokens {x0 x1 x2 : V} : (fBucket x0 x1 x2).lookup ("tokens" : Str) = some x2 := by kernel_rfl

theorem pt_Bucket_tokens {x0 x1 x2 y : V} : putF "tokens" y (fBucket x0 x1 x2) = fBucket x0 x1 y := by kernel_rfl

theorem pn_Bucket_tokens {x0 x1 y : V} : putF "tokens" y ([("rate", x0), ("depth", x1)] : List (Str × V)) = ([("rate", x0), ("depth", x1), ("tokens", y)] : List (Str × V)) := by kernel_rfl

theorem ln_Bucket_tick {x0 x1 x2 : V} : (fBucket x0 x1 x2).lookup ("tick" : Str) = none := by kernel_rfl

theorem ln_Bucket_can_take {x0 x1 x2 : V} : (fBucket x0 x1 x2).lookup ("can_take" : Str) = none := by kernel_rfl

theorem ln_Bucket_take {x0 x1 x2 : V} : (fBucket x0 x1 x2).lookup ("take" : Str) = none := by kernel_rfl

theorem ln_Bucket_fork {x0 x1 x2 : V} : (fBucket x0 x1 x2).lookup ("fork" : Str) = none := by kernel_rfl

end
end K80

namespace K80
open PySem PySem.Spec PyProof.Rows L2 G
abbrev cB (K : PySem.W.Frag) : Addr := He.ga K "Bucket"
/-- a bucket -/
abbrev oB (K : PySem.W.Frag) (dx : Addr) (r d t : Int) : HO := .ins (cB K) dx (fBucket (.int r) (.int d) (.int t))
def sp_Bucket_init (K : PySem.W.Frag) : Sp := fun vs H Q E => ∃ (p dx : Addr) (r d : Int), vs = [.ref p, .int r, .int d] ∧ H p = some (.ins (cB K) dx []) ∧
  ((r < 1 ∨ d < 1) → E (.ref (He.ga K "InvalidAmount")) none H) ∧ (¬ (r < 1 ∨ d < 1) → Q .non (upd H p (oB K dx r d d)))
def sp_Bucket_tick (K : PySem.W.Frag) : Sp := fun vs H Q _ => ∃ (p dx : Addr) (r d t : Int), vs = [.ref p] ∧ H p = some (oB K dx r d t) ∧ Q .non (upd H p (oB K dx r d (if t + r < d then t + r else d)))
def sp_Bucket_can_take (K : PySem.W.Frag) : Sp := fun vs H Q _ => ∃ (p dx : Addr) (r d t s : Int), vs = [.ref p, .int s] ∧ H p = some (oB K dx r d t) ∧ Q (.bl (decide (s ≤ t))) H
def sp_Bucket_take (K : PySem.W.Frag) : Sp := fun vs H Q _ => ∃ (p dx : Addr) (r d t s : Int), vs = [.ref p, .int s] ∧ H p = some (oB K dx r d t) ∧
  (s ≤ t → Q (.bl true) (upd H p (oB K dx r d (t - s)))) ∧ (¬ s ≤ t → Q (.bl false) H)
def sp_Bucket_fork (K : PySem.W.Frag) : Sp := fun vs H Q _ => ∃ (p dx : Addr) (r d t : Int), vs = [.ref p] ∧ H p = some (oB K dx r d t) ∧ 1 ≤ r ∧ 1 ≤ d ∧
  ∀ q dq, H q = none → H dq = none → dq ≠ q → Q (.ref q) (upd (upd H dq (.own q)) q (oB K dq r d t))
def sp_law_cell (K : PySem.W.Frag) : Sp := fun vs H Q _ => ∃ (a : Addr) (ns : List Int) (k : Int), vs = [.ref a, .int k] ∧ SqL K H a (ns.map V.int) ∧ 0 ≤ k ∧ ∀ n, Q (.int n) H
def sp_law_start (K : PySem.W.Frag) : Sp := fun vs H Q _ => ∃ (c k : Int), vs = [.int c, .int k] ∧ ∀ n p, H p = none → Q (.ref p) (upd H p (.lst [.int n]))
def sp_law_digit (K : PySem.W.Frag) : Sp := fun vs H Q _ => ∃ (p : Addr) (n m : Int), vs = [.ref p, .int m] ∧ H p = some (.lst [.int n]) ∧ 0 < m ∧ m < 1073741824 ∧
  ∀ d n', 0 ≤ d → d < m → Q (.int d) (upd H p (.lst [.int n']))
def sp_law_made (K : PySem.W.Frag) : Sp := fun vs H Q _ => ∃ (r d : Int), vs = [.int r, .int d] ∧ ((r < 1 ∨ d < 1) → ∀ H', Same H H' → Q .non H') ∧
  (¬ (r < 1 ∨ d < 1) → ∀ q dq, H q = none → H dq = none → dq ≠ q → Q (.ref q) (upd (upd H dq (.own q)) q (oB K dq r d d)))
def sp_law_spend (K : PySem.W.Frag) : Sp := fun vs H Q _ => ∃ (p dx : Addr) (r d t s : Int), vs = [.ref p, .int t, .int s] ∧ H p = some (oB K dx r d t) ∧
  (s ≤ t → Q (.int (t - s)) (upd H p (oB K dx r d (t - s)))) ∧ (¬ s ≤ t → Q (.int t) H)
/-- what went in any row of ticks is at most the depth and the rate for each of them -/
def Bnd (r d : Int) (gs : List Int) : Prop := ∀ i n : Nat, i + n < gs.length → ((gs.drop i).take (n + 1)).sum ≤ d + (n : Int) * r
def sp_law_bounded (K : PySem.W.Frag) : Sp := fun vs H Q _ => ∃ (r d : Int) (a : Addr) (gs : List Int), vs = [.int r, .int d, .ref a] ∧ H a = some (.lst (gs.map V.int)) ∧ gs.length ≤ 1000 ∧ Bnd r d gs ∧ Q (.bl true) H
def sp_law_play (K : PySem.W.Frag) : Sp := fun vs H Q _ => ∃ (a : Addr) (ns : List Int) (p dx : Addr) (r d : Int), vs = [.ref a, .int r, .int d, .ref p] ∧ Scr K H a (ns.map V.int) ∧ H p = some (oB K dx r d d) ∧
  1 ≤ r ∧ 1 ≤ d ∧ r < 100 ∧ d < 100 ∧ ∀ H', Q (.bl true) H'
def sp_law (K : PySem.W.Frag) : Sp := fun vs H Q _ => ∃ (a : Addr) (ns : List Int), vs = [.ref a] ∧ Scr K H a (ns.map V.int) ∧ ∀ H', Q (.bl true) H'
theorem law_start {K : PySem.W.Frag} {H : Hp} {a : Addr} {ns : List Int} {E : XK} (hl : ns.length ≤ 63) (hb : ∀ z ∈ ns, Builtin.Int.intBits z ≤ 1048576) (hO : Only H) (hS : SqL K H a (ns.map V.int)) :
    sp_law K [.ref a] H (fun v _ => v = .bl true) E := ⟨a, ns, rfl, .of hO hS, fun _ => rfl⟩
end K80
namespace K80
/-! the plain law -/
/-- the tails: what has gone since, and what is left -/
structure W (r d : Int) (pre : List Int) (g t : Int) : Prop where
  tl : ∀ i : Nat, i ≤ pre.length → (pre.drop i).sum + g + t ≤ d + ((pre.length - i : Nat) : Int) * r
  bd : Bnd r d pre
theorem sum_app (xs ys : List Int) : (xs ++ ys).sum = xs.sum + ys.sum := by
  induction xs with
  | nil => simp
  | cons a r ih => rw [List.cons_append, List.sum_cons, List.sum_cons, ih]; omega
theorem W.start {r d : Int} : W r d [] 0 d := ⟨fun i h => by
  have e : i = 0 := by simpa using h
  subst e; simp, fun i n h => by simp at h⟩
theorem W.all {r d : Int} {pre : List Int} {g t : Int} (h : W r d pre g t) (h0 : 0 ≤ t) : Bnd r d (pre ++ [g]) := by
  intro i n hin
  rw [List.length_append, List.length_singleton] at hin
  by_cases hl : i + n < pre.length
  · have e : ((pre ++ [g]).drop i).take (n + 1) = (pre.drop i).take (n + 1) := by
      rw [List.drop_append_of_le_length (by omega), List.take_append_of_le_length (by rw [List.length_drop]; omega)]
    rw [e]
    exact h.bd i n hl
  · have e : ((pre ++ [g]).drop i).take (n + 1) = pre.drop i ++ [g] := by
      rw [List.drop_append_of_le_length (by omega), List.take_of_length_le (by rw [List.length_append, List.length_drop, List.length_singleton]; omega)]
    rw [e, sum_app, List.sum_singleton]
    have q := h.tl i (by omega)
    have e2 : pre.length - i = n := by omega
    rw [e2] at q
    omega
theorem W.tick {r d : Int} {pre : List Int} {g t : Int} (h : W r d pre g t) (h0 : 0 ≤ t) (hd : 0 ≤ d) : W r d (pre ++ [g]) 0 (if t + r < d then t + r else d) := by
  refine ⟨fun i hi => ?_, h.all h0⟩
  rw [List.length_append, List.length_singleton] at hi ⊢
  have m1 : (if t + r < d then t + r else d) ≤ t + r := by split <;> omega
  have m2 : (if t + r < d then t + r else d) ≤ d := by split <;> omega
  by_cases hl : i ≤ pre.length
  · rw [List.drop_append_of_le_length hl, sum_app, List.sum_singleton]
    have q := h.tl i hl
    have e : ((pre.length + 1 - i : Nat) : Int) = ((pre.length - i : Nat) : Int) + 1 := by omega
    rw [e, Int.add_mul, Int.one_mul]
    omega
  · have e : i = pre.length + 1 := by omega
    subst e
    rw [List.drop_eq_nil_of_le (by simp), Nat.sub_self]
    simp
    omega
theorem W.take {r d : Int} {pre : List Int} {g t l : Int} (h : W r d pre g t) : W r d pre (g + t - l) l := ⟨fun i hi => by
  have q := h.tl i hi
  omega, h.bd⟩
end K80

namespace K80
open PySem PySem.Spec PyProof.Rows L2 G

/-- Bucket.__init__ -/
def t_Bucket_init (K : PySem.W.Frag) (E : XK) : TS :=
  (tSeq (tIfS (tOr (tTest (tOp gLt (tVar 1) (tC (.int 1)))) (tTest (tOp gLt (tVar 2) (tC (.int 1)))))
  (tRs (He.ga K "InvalidAmount") (wB E))
  tNext)
  (tSeq (sFld K (tVar 0) (tVar 1) "rate")
  (tSeq (sFld K (tVar 0) (tVar 2) "depth")
  (sFld K (tVar 0) (tVar 2) "tokens"))))

/-- Bucket.tick -/
def t_Bucket_tick (K : PySem.W.Frag) (E : XK) : TS :=
  (sFld K (tVar 0) (tCB gMin2 (tCons (tFld K (tVar 0) "depth") (tCons (tOp gAdd (tFld K (tVar 0) "tokens") (tFld K (tVar 0) "rate")) tNil))) "tokens")

/-- Bucket.can_take -/
def t_Bucket_can_take (K : PySem.W.Frag) (E : XK) : TS :=
  (tRet (tOp gLe (tVar 1) (tFld K (tVar 0) "tokens")))

/-- Bucket.take -/
def t_Bucket_take (K : PySem.W.Frag) (E : XK) : TS :=
  (tSeq (tIfS (tTest (tOp gGt (tVar 1) (tFld K (tVar 0) "tokens")))
  (tRet (tC (.bl false)))
  tNext)
  (tSeq (sFldAug K (tVar 0) (tVar 1) L2.rSub "tokens")
  (tRet (tC (.bl true)))))

/-- Bucket.fork -/
def t_Bucket_fork (K : PySem.W.Frag) (E : XK) : TS :=
  (tSeq (tAsg (tMk (He.ga K "Bucket") (sp_Bucket_init K) (WE (wB E)) (tCons (tFld K (tVar 0) "rate") (tCons (tFld K (tVar 0) "depth") tNil))) (gName 1))
  (tSeq (sFld K (tVar 1) (tFld K (tVar 0) "tokens") "tokens")
  (tRet (tVar 1))))

/-- _law_cell -/
def t_law_cell (K : PySem.W.Frag) (E : XK) : TS :=
  (tSeq (tIfS (tTest (tOp gLt (tVar 1) (tCB (gLen K) (tCons (tVar 0) tNil))))
  (tRet (tOp (rIxL K) (tVar 0) (tVar 1)))
  tNext)
  (tRet (tC (.int 0))))

/-- _law_start -/
def t_law_start (K : PySem.W.Frag) (E : XK) : TS :=
  (tSeq (tAsg (tC (.int 618970019642690137449562111)) (gName 2))
  (tSeq (tIfS (tTest (tChain gLt gLt (tUn gNeg (tC (.int 1000000000000000000))) (tVar 0) (tC (.int 1000000000000000000))))
  (tSeq (tAsg (tOp gMod (tCB gInt1 (tCons (tOp gAdd (tOp gMul (tVar 0) (tC (.int 2654435761))) (tOp gMul (tOp gAdd (tVar 1) (tC (.int 1))) (tC (.int 6700417)))) tNil)) (tVar 2)) (gName 3))
  (tSeq (tAsg (tC (.int 0)) (gName 4))
  (tSeq (tFor (iRng1 (tCons (tC (.int 4)) tNil)) (gName 5)
  (tSeq (tAsg (tOp gMod (tCB gInt1 (tCons (tOp gAdd (tOp gAdd (tOp gAdd (tOp gMulW (tVar 3) (tVar 3)) (tOp gMul (tC (.int 7)) (tVar 3))) (tVar 1)) (tVar 5)) tNil)) (tVar 2)) (gName 3))
  (tAsg (tOp gAdd (tOp gMulW (tVar 4) (tVar 2)) (tVar 3)) (gName 4))))
  (tRet (tLst (tCons (tVar 4) tNil))))))
  tNext)
  (tRet (tLst (tCons (tVar 0) tNil)))))

/-- _law_digit -/
def t_law_digit (K : PySem.W.Frag) (E : XK) : TS :=
  (tSeq (tAsg (tOp gMod (tCB gInt1 (tCons (tOp (rIxL K) (tVar 0) (tC (.int 0))) tNil)) (tVar 1)) (gName 2))
  (tSeq (tAsg (tOp gDiv (tOp (rIxL K) (tVar 0) (tC (.int 0))) (tVar 1)) (gSub (tVar 0) (tC (.int 0)) rSetL))
  (tRet (tVar 2))))

/-- _law_made -/
def t_law_made (K : PySem.W.Frag) (E : XK) : TS :=
  (fun D σ H => (fun W1 : WX => (tRet (tMk (He.ga K "Bucket") (sp_Bucket_init K) (WE W1) (tCons (tVar 0) (tCons (tVar 1) tNil))))) (wOnly K (.ref (He.ga K "InvalidAmount")) (fun (aX : Addr) (clX : Value) (dX : Option Addr) => (tRet (tC .non))) (wB E) D) D σ H)

/-- _law_spend -/
def t_law_spend (K : PySem.W.Frag) (E : XK) : TS :=
  (tSeq (tAsg (tOp gLe (tVar 2) (tVar 1)) (gName 3))
  (tSeq (tIfS (tOr (tTest (tOp rNe (tMt (He.ga K "Bucket") "can_take" (sp_Bucket_can_take K) (WE (wB E)) (tVar 0) (tCons (tVar 2) tNil)) (tVar 3))) (tTest (tOp rNe (tMt (He.ga K "Bucket") "take" (sp_Bucket_take K) (WE (wB E)) (tVar 0) (tCons (tVar 2) tNil)) (tVar 3))))
  (tRet (tC .non))
  tNext)
  (tSeq (tIfS (tB (tVar 3))
  (tRet (tOp gMinus (tVar 1) (tVar 2)))
  tNext)
  (tRet (tVar 1)))))

/-- _law_bounded -/
def t_law_bounded (K : PySem.W.Frag) (E : XK) : TS :=
  (tSeq (tFor (iRng1 (tCons (tCB (gLen K) (tCons (tVar 2) tNil)) tNil)) (gName 3)
  (tSeq (tAsg (tC (.int 0)) (gName 4))
  (tFor (iRng2 (tCons (tVar 3) (tCons (tCB (gLen K) (tCons (tVar 2) tNil)) tNil))) (gName 5)
  (tSeq (tAsg (tOp gAdd (tVar 4) (tOp (rIxL K) (tVar 2) (tVar 5))) (gName 4))
  (tIfS (tTest (tOp gGt (tVar 4) (tOp gAdd (tVar 1) (tOp gMul (tOp gMinus (tVar 5) (tVar 3)) (tVar 0)))))
  (tRet (tC (.bl false)))
  tNext)))))
  (tRet (tC (.bl true))))

/-- _law_play -/
def t_law_play (K : PySem.W.Frag) (E : XK) : TS :=
  (tSeq (tAsg (tVar 2) (gName 4))
  (tSeq (tAsg (tLst (tCons (tC (.int 0)) tNil)) (gName 5))
  (tSeq (tAsg (tC .non) (gName 6))
  (tSeq (tAsg (tC (.int 0)) (gName 7))
  (tSeq (tFor (iRng1 (tCons (tCB gMin2 (tCons (tC (.int 100)) (tCons (tOp gAdd (tC (.int 1)) (tCB (gLen K) (tCons (tVar 0) tNil))) tNil))) tNil)) (gName 8)
  (tSeq (tAsg (tCallS (sp_law_start K) (WE (wB E)) (tCons (tCallS (sp_law_cell K) (WE (wB E)) (tCons (tVar 0) (tCons (tVar 8) tNil))) (tCons (tOp gAdd (tVar 8) (tC (.int 1))) tNil))) (gName 9))
  (Evl.tCut (tIfS (tTest (tOp rEq (tCallS (sp_law_digit K) (WE (wB E)) (tCons (tVar 9) (tCons (tC (.int 3)) tNil))) (tC (.int 0))))
  (tSeq (tDrop (tMt (He.ga K "Bucket") "tick" (sp_Bucket_tick K) (WE (wB E)) (tVar 3) tNil))
  (tSeq (tAsg (tCB gMin2 (tCons (tVar 2) (tCons (tOp gAdd (tVar 4) (tVar 1)) tNil))) (gName 4))
  (tDrop (tBM K "list" rAppend (tVar 5) (tCons (tC (.int 0)) tNil)))))
  (tSeq (tAsg (tCallS (sp_law_digit K) (WE (wB E)) (tCons (tVar 9) (tCons (tOp gAdd (tVar 2) (tC (.int 3))) tNil))) (gName 10))
  (tSeq (tAsg (tCallS (sp_law_spend K) (WE (wB E)) (tCons (tVar 3) (tCons (tVar 4) (tCons (tVar 10) tNil)))) (gName 11))
  (tSeq (tIfS (tTest (tOp rIsN (tVar 11) (tC .non)))
  (tRet (tC (.bl false)))
  tNext)
  (tSeq (tAsg (tOp gMinus (tOp gAdd (tOp (rIxL K) (tVar 5) (tOp gMinus (tCB (gLen K) (tCons (tVar 5) tNil)) (tC (.int 1)))) (tVar 4)) (tVar 11)) (gSub (tVar 5) (tOp gMinus (tCB (gLen K) (tCons (tVar 5) tNil)) (tC (.int 1))) rSetL))
  (tAsg (tVar 11) (gName 4)))))))
  (tSeq (tIfS (tOr (tTest (tOp rNe (tFld K (tVar 3) "tokens") (tVar 4))) (tNot (tTest (tChain gLe gLe (tC (.int 0)) (tVar 4) (tVar 2)))))
  (tRet (tC (.bl false)))
  tNext)
  (tIfS (tTest (tOp rEq (tVar 8) (tC (.int 20))))
  (tSeq (tAsg (tMt (He.ga K "Bucket") "fork" (sp_Bucket_fork K) (WE (wB E)) (tVar 3) tNil) (gName 6))
  (tAsg (tVar 4) (gName 7)))
  (tIfS (tTest (tOp rNotN (tVar 6) (tC .non)))
  (tSeq (tAsg (tCallS (sp_law_spend K) (WE (wB E)) (tCons (tVar 6) (tCons (tVar 7) (tCons (tCallS (sp_law_digit K) (WE (wB E)) (tCons (tVar 9) (tCons (tC (.int 4)) tNil))) tNil)))) (gName 7))
  (tIfS (tOr (tTest (tOp rIsN (tVar 7) (tC .non))) (tOr (tTest (tOp rNe (tFld K (tVar 6) "tokens") (tVar 7))) (tOr (tTest (tOp rNe (tFld K (tVar 6) "rate") (tVar 1))) (tTest (tOp rNe (tFld K (tVar 6) "depth") (tVar 2))))))
  (tRet (tC (.bl false)))
  tNext))
  tNext))))))
  (tRet (tCallS (sp_law_bounded K) (WE (wB E)) (tCons (tVar 1) (tCons (tVar 2) (tCons (tVar 5) tNil))))))))))

/-- law -/
def t_law (K : PySem.W.Frag) (E : XK) : TS :=
  (tSeq (tAsg (tCallS (sp_law_start K) (WE (wB E)) (tCons (tCallS (sp_law_cell K) (WE (wB E)) (tCons (tVar 0) (tCons (tC (.int 0)) tNil))) (tCons (tC (.int 0)) tNil))) (gName 1))
  (tSeq (tAsg (tOp gMinus (tCallS (sp_law_digit K) (WE (wB E)) (tCons (tVar 1) (tCons (tC (.int 9)) tNil))) (tC (.int 1))) (gName 2))
  (tSeq (tAsg (tOp gMinus (tCallS (sp_law_digit K) (WE (wB E)) (tCons (tVar 1) (tCons (tC (.int 40)) tNil))) (tC (.int 1))) (gName 3))
  (tSeq (tAsg (tCallS (sp_law_made K) (WE (wB E)) (tCons (tVar 2) (tCons (tVar 3) tNil))) (gName 4))
  (tSeq (tIfS (tTest (tOp rNe (tOp rNotN (tVar 4) (tC .non)) (tAndV (tOp gGe (tVar 2) (tC (.int 1))) (tOp gGe (tVar 3) (tC (.int 1))))))
  (tRet (tC (.bl false)))
  tNext)
  (tSeq (tIfS (tTest (tOp rIsN (tVar 4) (tC .non)))
  (tSeq (tAsg (tC (.int 3)) (gName 2))
  (tSeq (tAsg (tC (.int 20)) (gName 3))
  (tAsg (tMk (He.ga K "Bucket") (sp_Bucket_init K) (WE (wB E)) (tCons (tVar 2) (tCons (tVar 3) tNil))) (gName 4))))
  tNext)
  (tRet (tCallS (sp_law_play K) (WE (wB E)) (tCons (tVar 0) (tCons (tVar 2) (tCons (tVar 3) (tCons (tVar 4) tNil))))))))))))

end K80

namespace K80
open PySem PySem.Spec PyProof.Rows L2 G
section
variable {P : Program} {w : World} {K : PySem.W.Frag} {mg : Str → Option Value} {base : Heap}

theorem d_Bucket_init (T : TX K mg base)  {cdv : Value} {A : Around} {outer : List Env} {s : Shared} {H : Hp} {E : XK} (hr : Room 0 (A.deeper (envOfC "Bucket.__init__" (defScope s_Bucket_init) s.heap.objs.size (He.ma K (He.ga K "Bucket") "__init__") cdv))) :
    PSs (cxOf (L2.CX P w) P w K mg base N_Bucket_init "Bucket.__init__" (defScope s_Bucket_init) (He.ma K (He.ga K "Bucket") "__init__") cdv A outer s H E) (defBody s_Bucket_init) (t_Bucket_init K E) := by
  have tk : Takes (cxOf (L2.CX P w) P w K mg base N_Bucket_init "Bucket.__init__" (defScope s_Bucket_init) (He.ma K (He.ga K "Bucket") "__init__") cdv A outer s H E) (wB E) := takes_of rfl rfl rfl rfl
  exact (pss_cons (ps_if (PW.pt (pw_or (pt_cmpR op_lt (pv 1) pe_int (nomark _)) (pw_or1 (pt_cmpR op_lt (pv 2) pe_int (nomark _)))))
  (pss_one (ps_rs rfl tk (T.exc 1 2) rfl))
  pss_nil)
  (pss_cons (ps_fld (pv 0) (pv 1) rfl)
  (pss_cons (ps_fld (pv 0) (pv 2) rfl)
  (pss_one (ps_fld (pv 0) (pv 2) rfl)))))

theorem d_Bucket_tick (T : TX K mg base)  {cdv : Value} {A : Around} {outer : List Env} {s : Shared} {H : Hp} {E : XK} (hr : Room 0 (A.deeper (envOfC "Bucket.tick" (defScope s_Bucket_tick) s.heap.objs.size (He.ma K (He.ga K "Bucket") "tick") cdv))) :
    PSs (cxOf (L2.CX P w) P w K mg base N_Bucket_tick "Bucket.tick" (defScope s_Bucket_tick) (He.ma K (He.ga K "Bucket") "tick") cdv A outer s H E) (defBody s_Bucket_tick) (t_Bucket_tick K E) := by
  have tk : Takes (cxOf (L2.CX P w) P w K mg base N_Bucket_tick "Bucket.tick" (defScope s_Bucket_tick) (He.ma K (He.ga K "Bucket") "tick") cdv A outer s H E) (wB E) := takes_of rfl rfl rfl rfl
  exact (pss_one (ps_fld (pv 0) (pe_callB (call_min2 rfl) (by rfl) (T.free 3) (by decide +kernel) (pa_cons (pe_fld (pv 0) rfl) (pa_cons (pe_op op_add (pe_fld (pv 0) rfl) (pe_fld (pv 0) rfl)) pa_nil))) rfl))

theorem d_Bucket_can_take (T : TX K mg base)  {cdv : Value} {A : Around} {outer : List Env} {s : Shared} {H : Hp} {E : XK} (hr : Room 0 (A.deeper (envOfC "Bucket.can_take" (defScope s_Bucket_can_take) s.heap.objs.size (He.ma K (He.ga K "Bucket") "can_take") cdv))) :
    PSs (cxOf (L2.CX P w) P w K mg base N_Bucket_can_take "Bucket.can_take" (defScope s_Bucket_can_take) (He.ma K (He.ga K "Bucket") "can_take") cdv A outer s H E) (defBody s_Bucket_can_take) (t_Bucket_can_take K E) := by
  have tk : Takes (cxOf (L2.CX P w) P w K mg base N_Bucket_can_take "Bucket.can_take" (defScope s_Bucket_can_take) (He.ma K (He.ga K "Bucket") "can_take") cdv A outer s H E) (wB E) := takes_of rfl rfl rfl rfl
  exact (pss_one (ps_ret (pe_cmpR op_le (pv 1) (pe_fld (pv 0) rfl) (nomark _))))

theorem d_Bucket_take (T : TX K mg base)  {cdv : Value} {A : Around} {outer : List Env} {s : Shared} {H : Hp} {E : XK} (hr : Room 0 (A.deeper (envOfC "Bucket.take" (defScope s_Bucket_take) s.heap.objs.size (He.ma K (He.ga K "Bucket") "take") cdv))) :
    PSs (cxOf (L2.CX P w) P w K mg base N_Bucket_take "Bucket.take" (defScope s_Bucket_take) (He.ma K (He.ga K "Bucket") "take") cdv A outer s H E) (defBody s_Bucket_take) (t_Bucket_take K E) := by
  have tk : Takes (cxOf (L2.CX P w) P w K mg base N_Bucket_take "Bucket.take" (defScope s_Bucket_take) (He.ma K (He.ga K "Bucket") "take") cdv A outer s H E) (wB E) := takes_of rfl rfl rfl rfl
  exact (pss_cons (ps_if (pt_cmpR op_gt (pv 1) (pe_fld (pv 0) rfl) (nomark _))
  (pss_one (ps_ret pe_bl))
  pss_nil)
  (pss_cons (ps_fldaug (pv 0) (pv 1) in_sub)
  (pss_one (ps_ret pe_bl))))

theorem d_Bucket_fork (T : TX K mg base) (h_Bucket_init : HasI P w K mg base 1 "Bucket" P_Bucket_init (sp_Bucket_init K)) {cdv : Value} {A : Around} {outer : List Env} {s : Shared} {H : Hp} {E : XK} (hr : Room 2 (A.deeper (envOfC "Bucket.fork" (defScope s_Bucket_fork) s.heap.objs.size (He.ma K (He.ga K "Bucket") "fork") cdv))) :
    PSs (cxOf (L2.CX P w) P w K mg base N_Bucket_fork "Bucket.fork" (defScope s_Bucket_fork) (He.ma K (He.ga K "Bucket") "fork") cdv A outer s H E) (defBody s_Bucket_fork) (t_Bucket_fork K E) := by
  have tk : Takes (cxOf (L2.CX P w) P w K mg base N_Bucket_fork "Bucket.fork" (defScope s_Bucket_fork) (He.ma K (He.ga K "Bucket") "fork") cdv A outer s H E) (wB E) := takes_of rfl rfl rfl rfl
  exact (pss_cons (ps_set (i := 1) sc_Bucket_fork.nd rfl (Or.inl rfl) (pe_i h_Bucket_init (hr.mono (by decide)) rfl (fun σ => passAt tk σ) (pa_cons (pe_fld (pv 0) rfl) (pa_cons (pe_fld (pv 0) rfl) pa_nil))))
  (pss_cons (ps_fld (pv 1) (pe_fld (pv 0) rfl) rfl)
  (pss_one (ps_ret (pv 1)))))

theorem d_law_cell (T : TX K mg base)  {cdv : Value} {A : Around} {outer : List Env} {s : Shared} {H : Hp} {E : XK} (hr : Room 0 (A.deeper (envOfC "_law_cell" (defScope s_law_cell) s.heap.objs.size (He.ga K "_law_cell") cdv))) :
    PSs (cxOf (L2.CX P w) P w K mg base N_law_cell "_law_cell" (defScope s_law_cell) (He.ga K "_law_cell") cdv A outer s H E) (defBody s_law_cell) (t_law_cell K E) := by
  have tk : Takes (cxOf (L2.CX P w) P w K mg base N_law_cell "_law_cell" (defScope s_law_cell) (He.ga K "_law_cell") cdv A outer s H E) (wB E) := takes_of rfl rfl rfl rfl
  exact (pss_cons (ps_if (pt_cmpR op_lt (pv 1) (pe_callB call_len (by rfl) (T.free 4) PySem.boot_len (pa_cons (pv 0) pa_nil)) (nomark _))
  (pss_one (ps_ret (pe_ix ix_list (pv 0) (pv 1) (fun _ _ => rfl))))
  pss_nil)
  (pss_one (ps_ret pe_int)))

theorem d_law_start (T : TX K mg base)  {cdv : Value} {A : Around} {outer : List Env} {s : Shared} {H : Hp} {E : XK} (hr : Room 0 (A.deeper (envOfC "_law_start" (defScope s_law_start) s.heap.objs.size (He.ga K "_law_start") cdv))) :
    PSs (cxOf (L2.CX P w) P w K mg base N_law_start "_law_start" (defScope s_law_start) (He.ga K "_law_start") cdv A outer s H E) (defBody s_law_start) (t_law_start K E) := by
  have tk : Takes (cxOf (L2.CX P w) P w K mg base N_law_start "_law_start" (defScope s_law_start) (He.ga K "_law_start") cdv A outer s H E) (wB E) := takes_of rfl rfl rfl rfl
  have po : PassesOwn (model P w) (cxOf (L2.CX P w) P w K mg base N_law_start "_law_start" (defScope s_law_start) (He.ga K "_law_start") cdv A outer s H E).A (cxOf (L2.CX P w) P w K mg base N_law_start "_law_start" (defScope s_law_start) (He.ga K "_law_start") cdv A outer s H E).env (cxOf (L2.CX P w) P w K mg base N_law_start "_law_start" (defScope s_law_start) (He.ga K "_law_start") cdv A outer s H E).xe := passes_of rfl
  exact (pss_cons (ps_set (i := 2) sc_law_start.nd rfl (Or.inl rfl) pe_int)
  (pss_cons (ps_if (pt_chain op_lt op_lt (pe_un un_neg pe_int) (pv 0) pe_int)
  (pss_cons (ps_set (i := 3) sc_law_start.nd rfl (Or.inl rfl) (pe_op op_mod (pe_callTy call_int1 (by rfl) (T.free 5) (by decide +kernel) (pa_cons (pe_op op_add (pe_op op_mul (pv 0) pe_int) (pe_op op_mul (pe_op op_add (pv 1) pe_int) pe_int)) pa_nil)) (pv 2)))
  (pss_cons (ps_set (i := 4) sc_law_start.nd rfl (Or.inl rfl) pe_int)
  (pss_cons (ps_for po rfl (pi_range1 rfl (T.free 6) (pa_cons pe_int pa_nil)) (pg_name (i := 5) sc_law_start.nd rfl (Or.inl rfl))
  (pss_cons (ps_set (i := 3) sc_law_start.nd rfl (Or.inl rfl) (pe_op op_mod (pe_callTy call_int1 (by rfl) (T.free 5) (by decide +kernel) (pa_cons (pe_op op_add (pe_op op_add (pe_op op_add (pe_op op_mulW (pv 3) (pv 3)) (pe_op op_mul pe_int (pv 3))) (pv 1)) (pv 5)) pa_nil)) (pv 2)))
  (pss_one (ps_set (i := 4) sc_law_start.nd rfl (Or.inl rfl) (pe_op op_add (pe_op op_mulW (pv 4) (pv 2)) (pv 3))))))
  (pss_one (ps_ret (pe_lst (pa_cons (pv 4) pa_nil)))))))
  pss_nil)
  (pss_one (ps_ret (pe_lst (pa_cons (pv 0) pa_nil))))))

theorem d_law_digit (T : TX K mg base)  {cdv : Value} {A : Around} {outer : List Env} {s : Shared} {H : Hp} {E : XK} (hr : Room 0 (A.deeper (envOfC "_law_digit" (defScope s_law_digit) s.heap.objs.size (He.ga K "_law_digit") cdv))) :
    PSs (cxOf (L2.CX P w) P w K mg base N_law_digit "_law_digit" (defScope s_law_digit) (He.ga K "_law_digit") cdv A outer s H E) (defBody s_law_digit) (t_law_digit K E) := by
  have tk : Takes (cxOf (L2.CX P w) P w K mg base N_law_digit "_law_digit" (defScope s_law_digit) (He.ga K "_law_digit") cdv A outer s H E) (wB E) := takes_of rfl rfl rfl rfl
  exact (pss_cons (ps_set (i := 2) sc_law_digit.nd rfl (Or.inl rfl) (pe_op op_mod (pe_callTy call_int1 (by rfl) (T.free 5) (by decide +kernel) (pa_cons (pe_ix ix_list (pv 0) pe_int (fun _ _ => rfl)) pa_nil)) (pv 1)))
  (pss_cons (ps_asg (pe_op op_fdiv (pe_ix ix_list (pv 0) pe_int (fun _ _ => rfl)) (pv 1)) (pg_sub (pv 0) pe_int set_list))
  (pss_one (ps_ret (pv 2)))))

theorem d_law_made (T : TX K mg base) (h_Bucket_init : HasI P w K mg base 1 "Bucket" P_Bucket_init (sp_Bucket_init K)) {cdv : Value} {A : Around} {outer : List Env} {s : Shared} {H : Hp} {E : XK} (hr : Room 2 (A.deeper (envOfC "_law_made" (defScope s_law_made) s.heap.objs.size (He.ga K "_law_made") cdv))) :
    PSs (cxOf (L2.CX P w) P w K mg base N_law_made "_law_made" (defScope s_law_made) (He.ga K "_law_made") cdv A outer s H E) (defBody s_law_made) (t_law_made K E) := by
  have tk : Takes (cxOf (L2.CX P w) P w K mg base N_law_made "_law_made" (defScope s_law_made) (He.ga K "_law_made") cdv A outer s H E) (wB E) := takes_of rfl rfl rfl rfl
  exact (pss_one (ps_try_only (tb := fun W1 => (tRet (tMk (He.ga K "Bucket") (sp_Bucket_init K) (WE W1) (tCons (tVar 0) (tCons (tVar 1) tNil))))) (ts := (fun (aX : Addr) (clX : Value) (dX : Option Addr) => (tRet (tC .non)))) (Wout := (wB E)) rfl rfl ⟨rfl, by decide, .inl (T.glo 2)⟩ tk (fun W1 pn xe tk1 po1 => (pss_one (ps_ret (pe_i h_Bucket_init (hr.mono (by decide)) rfl (fun σ => passAt tk1 σ) (pa_cons (pv 0) (pa_cons (pv 1) pa_nil)))))) (fun aX oX clX dX pn hzX hfX => (pss_one (ps_ret pe_non)))))

theorem d_law_spend (T : TX K mg base) (h_Bucket_can_take : HasM P w K mg base 1 "Bucket" "can_take" P_Bucket_can_take (sp_Bucket_can_take K)) (h_Bucket_take : HasM P w K mg base 1 "Bucket" "take" P_Bucket_take (sp_Bucket_take K)) {cdv : Value} {A : Around} {outer : List Env} {s : Shared} {H : Hp} {E : XK} (hr : Room 1 (A.deeper (envOfC "_law_spend" (defScope s_law_spend) s.heap.objs.size (He.ga K "_law_spend") cdv))) :
    PSs (cxOf (L2.CX P w) P w K mg base N_law_spend "_law_spend" (defScope s_law_spend) (He.ga K "_law_spend") cdv A outer s H E) (defBody s_law_spend) (t_law_spend K E) := by
  have tk : Takes (cxOf (L2.CX P w) P w K mg base N_law_spend "_law_spend" (defScope s_law_spend) (He.ga K "_law_spend") cdv A outer s H E) (wB E) := takes_of rfl rfl rfl rfl
  exact (pss_cons (ps_set (i := 3) sc_law_spend.nd rfl (Or.inl rfl) (pe_cmpR op_le (pv 2) (pv 1) (nomark _)))
  (pss_cons (ps_if (PW.pt (pw_or (pt_cmpR op_ne (pe_m (pv 0) h_Bucket_can_take (hr.mono (by decide)) (fun σ => passAt tk σ) (pa_cons (pv 2) pa_nil)) (pv 3) (nomark _)) (pw_or1 (pt_cmpR op_ne (pe_m (pv 0) h_Bucket_take (hr.mono (by decide)) (fun σ => passAt tk σ) (pa_cons (pv 2) pa_nil)) (pv 3) (nomark _)))))
  (pss_one (ps_ret pe_non))
  pss_nil)
  (pss_cons (ps_if (pt_val (pv 3))
  (pss_one (ps_ret (pe_op op_sub (pv 1) (pv 2))))
  pss_nil)
  (pss_one (ps_ret (pv 1))))))

theorem d_law_bounded (T : TX K mg base)  {cdv : Value} {A : Around} {outer : List Env} {s : Shared} {H : Hp} {E : XK} (hr : Room 0 (A.deeper (envOfC "_law_bounded" (defScope s_law_bounded) s.heap.objs.size (He.ga K "_law_bounded") cdv))) :
    PSs (cxOf (L2.CX P w) P w K mg base N_law_bounded "_law_bounded" (defScope s_law_bounded) (He.ga K "_law_bounded") cdv A outer s H E) (defBody s_law_bounded) (t_law_bounded K E) := by
  have tk : Takes (cxOf (L2.CX P w) P w K mg base N_law_bounded "_law_bounded" (defScope s_law_bounded) (He.ga K "_law_bounded") cdv A outer s H E) (wB E) := takes_of rfl rfl rfl rfl
  have po : PassesOwn (model P w) (cxOf (L2.CX P w) P w K mg base N_law_bounded "_law_bounded" (defScope s_law_bounded) (He.ga K "_law_bounded") cdv A outer s H E).A (cxOf (L2.CX P w) P w K mg base N_law_bounded "_law_bounded" (defScope s_law_bounded) (He.ga K "_law_bounded") cdv A outer s H E).env (cxOf (L2.CX P w) P w K mg base N_law_bounded "_law_bounded" (defScope s_law_bounded) (He.ga K "_law_bounded") cdv A outer s H E).xe := passes_of rfl
  exact (pss_cons (ps_for po rfl (pi_range1 rfl (T.free 6) (pa_cons (pe_callB call_len (by rfl) (T.free 4) PySem.boot_len (pa_cons (pv 2) pa_nil)) pa_nil)) (pg_name (i := 3) sc_law_bounded.nd rfl (Or.inl rfl))
  (pss_cons (ps_set (i := 4) sc_law_bounded.nd rfl (Or.inl rfl) pe_int)
  (pss_one (ps_for po rfl (pi_range2 rfl (T.free 6) (pa_cons (pv 3) (pa_cons (pe_callB call_len (by rfl) (T.free 4) PySem.boot_len (pa_cons (pv 2) pa_nil)) pa_nil))) (pg_name (i := 5) sc_law_bounded.nd rfl (Or.inl rfl))
  (pss_cons (ps_set (i := 4) sc_law_bounded.nd rfl (Or.inl rfl) (pe_op op_add (pv 4) (pe_ix ix_list (pv 2) (pv 5) (fun _ _ => rfl))))
  (pss_one (ps_if (pt_cmpR op_gt (pv 4) (pe_op op_add (pv 1) (pe_op op_mul (pe_op op_sub (pv 5) (pv 3)) (pv 0))) (nomark _))
  (pss_one (ps_ret pe_bl))
  pss_nil)))))))
  (pss_one (ps_ret pe_bl)))

theorem d_law_play (T : TX K mg base) (h_law_start : Has P w K mg base 1 "_law_start" P_law_start (sp_law_start K)) (h_law_cell : Has P w K mg base 1 "_law_cell" P_law_cell (sp_law_cell K)) (h_law_digit : Has P w K mg base 1 "_law_digit" P_law_digit (sp_law_digit K)) (h_Bucket_tick : HasM P w K mg base 1 "Bucket" "tick" P_Bucket_tick (sp_Bucket_tick K)) (h_law_spend : Has P w K mg base 2 "_law_spend" P_law_spend (sp_law_spend K)) (h_Bucket_fork : HasM P w K mg base 3 "Bucket" "fork" P_Bucket_fork (sp_Bucket_fork K)) (h_law_bounded : Has P w K mg base 1 "_law_bounded" P_law_bounded (sp_law_bounded K)) {cdv : Value} {A : Around} {outer : List Env} {s : Shared} {H : Hp} {E : XK} (hr : Room 3 (A.deeper (envOfC "_law_play" (defScope s_law_play) s.heap.objs.size (He.ga K "_law_play") cdv))) :
    PSs (cxOf (L2.CX P w) P w K mg base N_law_play "_law_play" (defScope s_law_play) (He.ga K "_law_play") cdv A outer s H E) (defBody s_law_play) (t_law_play K E) := by
  have tk : Takes (cxOf (L2.CX P w) P w K mg base N_law_play "_law_play" (defScope s_law_play) (He.ga K "_law_play") cdv A outer s H E) (wB E) := takes_of rfl rfl rfl rfl
  have po : PassesOwn (model P w) (cxOf (L2.CX P w) P w K mg base N_law_play "_law_play" (defScope s_law_play) (He.ga K "_law_play") cdv A outer s H E).A (cxOf (L2.CX P w) P w K mg base N_law_play "_law_play" (defScope s_law_play) (He.ga K "_law_play") cdv A outer s H E).env (cxOf (L2.CX P w) P w K mg base N_law_play "_law_play" (defScope s_law_play) (He.ga K "_law_play") cdv A outer s H E).xe := passes_of rfl
  exact (pss_cons (ps_set (i := 4) sc_law_play.nd rfl (Or.inl rfl) (pv 2))
  (pss_cons (ps_set (i := 5) sc_law_play.nd rfl (Or.inl rfl) (pe_lst (pa_cons pe_int pa_nil)))
  (pss_cons (ps_set (i := 6) sc_law_play.nd rfl (Or.inl rfl) pe_non)
  (pss_cons (ps_set (i := 7) sc_law_play.nd rfl (Or.inl rfl) pe_int)
  (pss_cons (ps_for po rfl (pi_range1 rfl (T.free 6) (pa_cons (pe_callB (call_min2 rfl) (by rfl) (T.free 3) (by decide +kernel) (pa_cons pe_int (pa_cons (pe_op op_add pe_int (pe_callB call_len (by rfl) (T.free 4) PySem.boot_len (pa_cons (pv 0) pa_nil))) pa_nil))) pa_nil)) (pg_name (i := 8) sc_law_play.nd rfl (Or.inl rfl))
  (pss_cons (ps_set (i := 9) sc_law_play.nd rfl (Or.inl rfl) (pe_h h_law_start (hr.mono (by decide)) rfl (fun σ => passAt tk σ) (pa_cons (pe_h h_law_cell (hr.mono (by decide)) rfl (fun σ => passAt tk σ) (pa_cons (pv 0) (pa_cons (pv 8) pa_nil))) (pa_cons (pe_op op_add (pv 8) pe_int) pa_nil))))
  (Evl.pss_cut (ps_if (pt_cmpR op_eq (pe_h h_law_digit (hr.mono (by decide)) rfl (fun σ => passAt tk σ) (pa_cons (pv 9) (pa_cons pe_int pa_nil))) pe_int (nomark _))
  (pss_cons (ps_expr (pe_m0 (pv 3) h_Bucket_tick (hr.mono (by decide)) (fun σ => passAt tk σ)))
  (pss_cons (ps_set (i := 4) sc_law_play.nd rfl (Or.inl rfl) (pe_callB (call_min2 rfl) (by rfl) (T.free 3) (by decide +kernel) (pa_cons (pv 2) (pa_cons (pe_op op_add (pv 4) (pv 1)) pa_nil))))
  (pss_one (ps_expr (pe_bm PySem.F.plainAttrs_list PySem.F.slot_list_append PySem.F.type_list_append mt_append (pv 5) (pa_cons pe_int pa_nil))))))
  (pss_cons (ps_set (i := 10) sc_law_play.nd rfl (Or.inl rfl) (pe_h h_law_digit (hr.mono (by decide)) rfl (fun σ => passAt tk σ) (pa_cons (pv 9) (pa_cons (pe_op op_add (pv 2) pe_int) pa_nil))))
  (pss_cons (ps_set (i := 11) sc_law_play.nd rfl (Or.inl rfl) (pe_h h_law_spend (hr.mono (by decide)) rfl (fun σ => passAt tk σ) (pa_cons (pv 3) (pa_cons (pv 4) (pa_cons (pv 10) pa_nil)))))
  (pss_cons (ps_if (pt_cmpR op_isN1 (pv 11) pe_non (nomark _))
  (pss_one (ps_ret pe_bl))
  pss_nil)
  (pss_cons (ps_asg (pe_op op_sub (pe_op op_add (pe_ix ix_list (pv 5) (pe_op op_sub (pe_callB call_len (by rfl) (T.free 4) PySem.boot_len (pa_cons (pv 5) pa_nil)) pe_int) (fun _ _ => rfl)) (pv 4)) (pv 11)) (pg_sub (pv 5) (pe_op op_sub (pe_callB call_len (by rfl) (T.free 4) PySem.boot_len (pa_cons (pv 5) pa_nil)) pe_int) set_list))
  (pss_one (ps_set (i := 4) sc_law_play.nd rfl (Or.inl rfl) (pv 11))))))))
  (pss_cons (ps_if (PW.pt (pw_or (pt_cmpR op_ne (pe_fld (pv 3) rfl) (pv 4) (nomark _)) (pw_or1 (pt_not (pt_chain op_le op_le pe_int (pv 4) (pv 2))))))
  (pss_one (ps_ret pe_bl))
  pss_nil)
  (pss_one (ps_if (pt_cmpR op_eq (pv 8) pe_int (nomark _))
  (pss_cons (ps_set (i := 6) sc_law_play.nd rfl (Or.inl rfl) (pe_m0 (pv 3) h_Bucket_fork (hr.mono (by decide)) (fun σ => passAt tk σ)))
  (pss_one (ps_set (i := 7) sc_law_play.nd rfl (Or.inl rfl) (pv 4))))
  (pss_one (ps_if (pt_cmpR op_notN1 (pv 6) pe_non (nomark _))
  (pss_cons (ps_set (i := 7) sc_law_play.nd rfl (Or.inl rfl) (pe_h h_law_spend (hr.mono (by decide)) rfl (fun σ => passAt tk σ) (pa_cons (pv 6) (pa_cons (pv 7) (pa_cons (pe_h h_law_digit (hr.mono (by decide)) rfl (fun σ => passAt tk σ) (pa_cons (pv 9) (pa_cons pe_int pa_nil))) pa_nil)))))
  (pss_one (ps_if (PW.pt (pw_or (pt_cmpR op_isN1 (pv 7) pe_non (nomark _)) (pw_or (pt_cmpR op_ne (pe_fld (pv 6) rfl) (pv 7) (nomark _)) (pw_or (pt_cmpR op_ne (pe_fld (pv 6) rfl) (pv 1) (nomark _)) (pw_or1 (pt_cmpR op_ne (pe_fld (pv 6) rfl) (pv 2) (nomark _)))))))
  (pss_one (ps_ret pe_bl))
  pss_nil)))
  pss_nil))))))))
  (pss_one (ps_ret (pe_h h_law_bounded (hr.mono (by decide)) rfl (fun σ => passAt tk σ) (pa_cons (pv 1) (pa_cons (pv 2) (pa_cons (pv 5) pa_nil)))))))))))

theorem d_law (T : TX K mg base) (h_law_start : Has P w K mg base 1 "_law_start" P_law_start (sp_law_start K)) (h_law_cell : Has P w K mg base 1 "_law_cell" P_law_cell (sp_law_cell K)) (h_law_digit : Has P w K mg base 1 "_law_digit" P_law_digit (sp_law_digit K)) (h_law_made : Has P w K mg base 3 "_law_made" P_law_made (sp_law_made K)) (h_Bucket_init : HasI P w K mg base 1 "Bucket" P_Bucket_init (sp_Bucket_init K)) (h_law_play : Has P w K mg base 4 "_law_play" P_law_play (sp_law_play K)) {cdv : Value} {A : Around} {outer : List Env} {s : Shared} {H : Hp} {E : XK} (hr : Room 4 (A.deeper (envOfC "law" (defScope s_law) s.heap.objs.size (He.ga K "law") cdv))) :
    PSs (cxOf (L2.CX P w) P w K mg base N_law "law" (defScope s_law) (He.ga K "law") cdv A outer s H E) (defBody s_law) (t_law K E) := by
  have tk : Takes (cxOf (L2.CX P w) P w K mg base N_law "law" (defScope s_law) (He.ga K "law") cdv A outer s H E) (wB E) := takes_of rfl rfl rfl rfl
  exact (pss_cons (ps_set (i := 1) sc_law.nd rfl (Or.inl rfl) (pe_h h_law_start (hr.mono (by decide)) rfl (fun σ => passAt tk σ) (pa_cons (pe_h h_law_cell (hr.mono (by decide)) rfl (fun σ => passAt tk σ) (pa_cons (pv 0) (pa_cons pe_int pa_nil))) (pa_cons pe_int pa_nil))))
  (pss_cons (ps_set (i := 2) sc_law.nd rfl (Or.inl rfl) (pe_op op_sub (pe_h h_law_digit (hr.mono (by decide)) rfl (fun σ => passAt tk σ) (pa_cons (pv 1) (pa_cons pe_int pa_nil))) pe_int))
  (pss_cons (ps_set (i := 3) sc_law.nd rfl (Or.inl rfl) (pe_op op_sub (pe_h h_law_digit (hr.mono (by decide)) rfl (fun σ => passAt tk σ) (pa_cons (pv 1) (pa_cons pe_int pa_nil))) pe_int))
  (pss_cons (ps_set (i := 4) sc_law.nd rfl (Or.inl rfl) (pe_h h_law_made (hr.mono (by decide)) rfl (fun σ => passAt tk σ) (pa_cons (pv 2) (pa_cons (pv 3) pa_nil))))
  (pss_cons (ps_if (pt_cmpR op_ne (pe_cmpR op_notN1 (pv 4) pe_non (nomark _)) (pe_and (pe_cmpR op_ge (pv 2) pe_int (nomark _)) (pe_one (pe_cmpR op_ge (pv 3) pe_int (nomark _)))) (nomark _))
  (pss_one (ps_ret pe_bl))
  pss_nil)
  (pss_cons (ps_if (pt_cmpR op_isN1 (pv 4) pe_non (nomark _))
  (pss_cons (ps_set (i := 2) sc_law.nd rfl (Or.inl rfl) pe_int)
  (pss_cons (ps_set (i := 3) sc_law.nd rfl (Or.inl rfl) pe_int)
  (pss_one (ps_set (i := 4) sc_law.nd rfl (Or.inl rfl) (pe_i h_Bucket_init (hr.mono (by decide)) rfl (fun σ => passAt tk σ) (pa_cons (pv 2) (pa_cons (pv 3) pa_nil)))))))
  pss_nil)
  (pss_one (ps_ret (pe_h h_law_play (hr.mono (by decide)) rfl (fun σ => passAt tk σ) (pa_cons (pv 0) (pa_cons (pv 2) (pa_cons (pv 3) (pa_cons (pv 4) pa_nil)))))))))))))

end
end K80

namespace K80
open PySem PySem.Spec PyProof.Rows L2 G
local macro_rules | `(tactic| wtm_at "g_get") => `(tactic| first
  | ((with_reducible refine' w_fld ?k1 (cl_Bucket (by assumption)) (na_Bucket_rate (by assumption)) lk_Bucket_rate ?_); (case k1 => wtm_at "g_hp"))
  | ((with_reducible refine' w_fld ?k1 (cl_Bucket (by assumption)) (na_Bucket_depth (by assumption)) lk_Bucket_depth ?_); (case k1 => wtm_at "g_hp"))
  | ((with_reducible refine' w_fld ?k1 (cl_Bucket (by assumption)) (na_Bucket_tokens (by assumption)) lk_Bucket_tokens ?_); (case k1 => wtm_at "g_hp")))
local macro_rules | `(tactic| wtm_at "g_set") => `(tactic| first
  | ((with_reducible refine' w_sput ?k1 (cl_Bucket (by assumption)) (na_Bucket_rate (by assumption)) pt_Bucket_rate rfl ?_); (case k1 => wtm_at "g_hp"))
  | ((with_reducible refine' w_sput ?k1 (cl_Bucket (by assumption)) (na_Bucket_rate (by assumption)) pn_Bucket_rate rfl ?_); (case k1 => wtm_at "g_hp"))
  | ((with_reducible refine' w_sput ?k1 (cl_Bucket (by assumption)) (na_Bucket_depth (by assumption)) pt_Bucket_depth rfl ?_); (case k1 => wtm_at "g_hp"))
  | ((with_reducible refine' w_sput ?k1 (cl_Bucket (by assumption)) (na_Bucket_depth (by assumption)) pn_Bucket_depth rfl ?_); (case k1 => wtm_at "g_hp"))
  | ((with_reducible refine' w_sput ?k1 (cl_Bucket (by assumption)) (na_Bucket_tokens (by assumption)) pt_Bucket_tokens rfl ?_); (case k1 => wtm_at "g_hp"))
  | ((with_reducible refine' w_sput ?k1 (cl_Bucket (by assumption)) (na_Bucket_tokens (by assumption)) pn_Bucket_tokens rfl ?_); (case k1 => wtm_at "g_hp")))
local macro_rules | `(tactic| wtm_at "g_set2") => `(tactic| first
  | ((with_reducible refine' w_sput2 ?k1 pt_Bucket_rate rfl ?_); (case k1 => wtm_at "g_hp"))
  | ((with_reducible refine' w_sput2 ?k1 pt_Bucket_depth rfl ?_); (case k1 => wtm_at "g_hp"))
  | ((with_reducible refine' w_sput2 ?k1 pt_Bucket_tokens rfl ?_); (case k1 => wtm_at "g_hp")))
local macro_rules | `(tactic| wtm_at "g_mt") => `(tactic| first
  | ((with_reducible refine' w_mt1 ?k1 ln_Bucket_tick ?_); (case k1 => wtm_at "g_hp"))
  | ((with_reducible refine' w_mt1 ?k1 ln_Bucket_can_take ?_); (case k1 => wtm_at "g_hp"))
  | ((with_reducible refine' w_mt1 ?k1 ln_Bucket_take ?_); (case k1 => wtm_at "g_hp"))
  | ((with_reducible refine' w_mt1 ?k1 ln_Bucket_fork ?_); (case k1 => wtm_at "g_hp")))
local macro_rules | `(tactic| wtm_at "g_ne") => `(tactic| first | (with_reducible assumption) | (with_reducible exact Ne.symm (by assumption)) | (with_reducible exact ne_of_none (by assumption) (by assumption)) | (with_reducible exact (ne_of_none (by assumption) (by assumption)).symm))
local macro_rules | `(tactic| wtm_at "g_hp") => `(tactic| first | (with_reducible assumption) | (with_reducible exact upd_same) | ((with_reducible refine' up_k' ?k1 ?k2); (case k1 => wtm_at "g_ne"); (case k2 => wtm_at "g_hp")))
local macro_rules | `(tactic| wtm_at "g_nn") => `(tactic| first | (with_reducible assumption) | ((with_reducible refine' none_up ?k1 ?k2); (case k1 => wtm_at "g_ne"); (case k2 => wtm_at "g_nn")))
local macro_rules | `(tactic| wtm_at "g_thw") => `(tactic| first | (with_reducible assumption) | ((with_reducible refine' Thw.lst ?k1); (case k1 => wtm_at "g_hp")) | ((with_reducible refine' Thw.ins ?k1); (case k1 => wtm_at "g_hp")))
local macro_rules | `(tactic| wtm_at "g_sc") => `(tactic| first | (with_reducible assumption) | ((with_reducible refine' scr_new' ?k1 ?k2); (case k1 => wtm_at "g_nn"); (case k2 => wtm_at "g_sc")) | ((with_reducible refine' scr_put' ?k1 ?k2); (case k1 => wtm_at "g_thw"); (case k2 => wtm_at "g_sc")))
local macro_rules | `(tactic| wtm_at "g_sq") => `(tactic| first | (with_reducible assumption) | ((with_reducible refine' SqL.of ?k1); (case k1 => wtm_at "g_hp")) | ((with_reducible refine' Scr.sq ?k1); (case k1 => wtm_at "g_sc")) | ((with_reducible refine' sq_new' ?k1 ?k2); (case k1 => wtm_at "g_nn"); (case k2 => wtm_at "g_sq")) | ((with_reducible refine' sq_put' ?k1 ?k2); (case k1 => wtm_at "g_ne"); (case k2 => wtm_at "g_sq")))
local macro_rules | `(tactic| wtm_at "g_st") => `(tactic| first
  | (with_reducible first
      | refine w_seq ?_ | refine w_asg ?_ | refine w_nm ?_ | refine w_next ?_ | refine w_if ?_ | refine w_ret ?_ | refine w_retN ?_ | refine w_drop ?_
      | refine w_var rfl ?_ | refine w_c ?_ | refine w_op ?_ | refine w_I0 ?_
      | refine w_eqI ?_ | refine w_neI ?_ | refine w_eqB ?_ | refine w_neB ?_ | refine w_eqS ?_ | refine w_neS ?_ | refine w_isN0 ?_ | refine w_isNi ?_ | refine w_isNr ?_ | refine w_isNb ?_ | refine w_isNs ?_ | refine w_notN0 ?_ | refine w_notNi ?_ | refine w_notNr ?_ | refine w_notNb ?_ | refine w_notNs ?_ | refine w_isN ?_ | refine w_notN ?_
      | refine w_un ?_ | refine w_U ?_ | refine w_chain ?_ | refine w_k ?_ | refine w_test ?_ | refine w_tB ?_ | refine w_tru ?_ | refine w_not ?_ | refine w_and ?_ | refine w_or ?_
      | refine w_andV ?_ | refine w_orV ?_ | refine w_notV ?_ | refine w_ife ?_ | refine w_nil ?_ | refine w_cons ?_ | refine w_tup ?_ | refine w_lst ?_ | refine w_small rfl ?_
      | refine w_call ?_ | refine w_mk ?_ | refine w_mt ?_ | refine w_cb ?_ | refine w_min2 ?_ | refine w_max2 ?_ | refine w_abs ?_ | refine w_int ?_
      | refine w_fld0 ?_ | refine w_bm ?_ | refine w_bm0 ?_ | refine w_sub ?_ | refine w_sfld ?_ | refine w_sfa ?_ | refine w_radd ?_ | refine w_rsub ?_ | refine w_ip ?_ | refine w_rs ?_
      | refine w_forR1 ?_ | refine w_forR2 ?_ | refine w_forL ?_ | refine w_forT ?_ | refine w_aug rfl ?_ | refine w_par ?_ | refine w_brk ?_ | refine w_cont ?_
      | refine if_T ?_ | refine if_F ?_ | refine if_nT ?_ | refine if_nF ?_)
  | ((with_reducible refine' w_lenL ?k1 ?_); (case k1 => wtm_at "g_sq"))
  | wtm_at "g_get"
  | wtm_at "g_mt"
  | wtm_at "g_set"
  | wtm_at "g_set2")
local macro_rules | `(tactic| wtm_at "g_go") => `(tactic| repeat wtm_at "g_st")
local macro_rules | `(tactic| wtm_at "g_ifo") => `(tactic| first
  | (refine if_nno rfl ?_) | (refine if_yes rfl ?_)
  | (refine if_no (by omega) ?_)
  | (refine if_yes (by omega) ?_)
  | (refine if_nno (by omega) ?_)
  | (refine if_nyes (by omega) ?_)
  | (refine if_nno (decide_eq_false (by omega)).symm ?_)
  | (refine if_nno (decide_eq_true (by omega)).symm ?_))
local macro_rules | `(tactic| wtm_at "g_goo") => `(tactic| repeat (first | wtm_at "g_st" | wtm_at "g_ifo"))
section
variable {K : PySem.W.Frag} {mg : Str → Option Value} {base : Heap}
theorem pure_law_cell (T : TX K mg base) (vs : List V) (H : Hp) (Q : VK) (E : XK) (h : sp_law_cell K vs H Q E) : t_law_cell K E { nx := fun _ H' => Q .non H', rt := Q } (start N_law_cell vs) H := by
  obtain ⟨a, ns, k, rfl, hS, h0, q⟩ := h
  unfold t_law_cell
  wtm_at "g_go"
  rw [List.length_map]
  refine if_d (fun hk => ?_) (fun hk => ?_)
  · wtm_at "g_go"
    obtain ⟨z, hz⟩ : ∃ z, ns[k.toNat]? = some z := ⟨ns[k.toNat], List.getElem?_eq_getElem (by omega)⟩
    refine w_ixL hS (at_of (j := k.toNat) (v := V.int z) (by omega) (by rw [List.getElem?_map, hz]; rfl)) (q z)
  · wtm_at "g_go"
    exact q 0
theorem pure_law_digit (T : TX K mg base) (vs : List V) (H : Hp) (Q : VK) (E : XK) (h : sp_law_digit K vs H Q E) : t_law_digit K E { nx := fun _ H' => Q .non H', rt := Q } (start N_law_digit vs) H := by
  obtain ⟨p, n, m, rfl, hp, h0, h1, q⟩ := h
  unfold t_law_digit
  wtm_at "g_go"
  refine w_ixL (SqL.of hp) (v := .int n) rfl ?_
  wtm_at "g_go"
  refine w_I h0 ?_
  wtm_at "g_go"
  refine w_ixL (SqL.of hp) (v := .int n) rfl ?_
  wtm_at "g_go"
  refine w_I ⟨h0, h1⟩ ?_
  wtm_at "g_go"
  refine w_setL hp (j := 0) rfl ?_
  wtm_at "g_go"
  exact q _ _ (Int.emod_nonneg _ (by omega)) (Int.emod_lt_of_pos _ h0)
theorem pure_Bucket_init (T : TX K mg base) (vs : List V) (H : Hp) (Q : VK) (E : XK) (h : sp_Bucket_init K vs H Q E) : t_Bucket_init K E { nx := fun _ H' => Q .non H', rt := Q } (start N_Bucket_init vs) H := by
  obtain ⟨p, dx, r, d, rfl, hp, q1, q2⟩ := h
  unfold t_Bucket_init
  wtm_at "g_go"
  refine if_d (fun hr => ?_) (fun hr => ?_)
  · wtm_at "g_go"
    exact q1 (.inl hr)
  wtm_at "g_go"
  refine if_d (fun hd => ?_) (fun hd => ?_)
  · wtm_at "g_go"
    exact q1 (.inr hd)
  wtm_at "g_go"
  rw [upd_upd, upd_upd]
  exact q2 (by omega)
theorem pure_Bucket_tick (T : TX K mg base) (vs : List V) (H : Hp) (Q : VK) (E : XK) (h : sp_Bucket_tick K vs H Q E) : t_Bucket_tick K E { nx := fun _ H' => Q .non H', rt := Q } (start N_Bucket_tick vs) H := by
  obtain ⟨p, dx, r, d, t, rfl, hp, q⟩ := h
  unfold t_Bucket_tick
  wtm_at "g_go"
  exact q
theorem pure_Bucket_can_take (T : TX K mg base) (vs : List V) (H : Hp) (Q : VK) (E : XK) (h : sp_Bucket_can_take K vs H Q E) : t_Bucket_can_take K E { nx := fun _ H' => Q .non H', rt := Q } (start N_Bucket_can_take vs) H := by
  obtain ⟨p, dx, r, d, t, s, rfl, hp, q⟩ := h
  unfold t_Bucket_can_take
  wtm_at "g_go"
  exact q
theorem pure_Bucket_take (T : TX K mg base) (vs : List V) (H : Hp) (Q : VK) (E : XK) (h : sp_Bucket_take K vs H Q E) : t_Bucket_take K E { nx := fun _ H' => Q .non H', rt := Q } (start N_Bucket_take vs) H := by
  obtain ⟨p, dx, r, d, t, s, rfl, hp, q1, q2⟩ := h
  unfold t_Bucket_take
  wtm_at "g_go"
  refine if_d (fun hs => ?_) (fun hs => ?_)
  · wtm_at "g_go"
    exact q2 (by omega)
  · wtm_at "g_go"
    exact q1 (by omega)
theorem pure_Bucket_fork (T : TX K mg base) (vs : List V) (H : Hp) (Q : VK) (E : XK) (h : sp_Bucket_fork K vs H Q E) : t_Bucket_fork K E { nx := fun _ H' => Q .non H', rt := Q } (start N_Bucket_fork vs) H := by
  obtain ⟨p, dx, r, d, t, rfl, hp, hr, hd, q⟩ := h
  unfold t_Bucket_fork
  wtm_at "g_go"
  intro x dq hx hdq ne
  refine ⟨x, dq, r, d, rfl, upd_same, fun h => by omega, fun _ => ⟨rfl, ?_⟩⟩
  wtm_at "g_go"
  rw [upd_upd, upd_upd]
  exact q x dq hx hdq ne
abbrev pr : Int := 618970019642690137449562111
theorem pr_pow (i : Nat) (h : i < 4) : pr ^ i < 618970019642690137449562111 ^ 3 + 1 ∧ 0 < pr ^ i := by
  have : i = 0 ∨ i = 1 ∨ i = 2 ∨ i = 3 := by omega
  rcases this with rfl | rfl | rfl | rfl <;> decide +kernel
theorem num_step {n m q : Int} (h0 : 0 ≤ n) (h1 : n < q) (h2 : 0 ≤ m) (h3 : m < 618970019642690137449562111) : 0 ≤ n * 618970019642690137449562111 + m ∧ n * 618970019642690137449562111 + m < q * 618970019642690137449562111 := by omega
theorem small_w {x : Int} (h0 : 0 ≤ x) (h : x < 618970019642690137449562111 ^ 3 + 1) : x.natAbs < 2 ^ 300 := by
  have e : (618970019642690137449562111 : Int) ^ 3 + 1 < ((2 ^ 300 : Nat) : Int) := by decide +kernel
  have e2 : x < ((2 ^ 300 : Nat) : Int) := Int.lt_trans h e
  omega
theorem pure_law_start (T : TX K mg base) (vs : List V) (H : Hp) (Q : VK) (E : XK) (h : sp_law_start K vs H Q E) : t_law_start K E { nx := fun _ H' => Q .non H', rt := Q } (start N_law_start vs) H := by
  obtain ⟨c, k, rfl, q⟩ := h
  unfold t_law_start
  wtm_at "g_go"
  refine if_d (fun h1 => ?_) (fun h1 => ?_)
  · wtm_at "g_go"
    refine if_d (fun h2 => ?_) (fun h2 => ?_)
    · wtm_at "g_go"
      refine w_I (.inr (by decide)) ?_
      wtm_at "g_go"
      refine w_I (.inr (by decide)) ?_
      wtm_at "g_go"
      refine w_I (by decide) ?_
      wtm_at "g_go"
      refine loop1 (n := 4) (fun i σ H' => H' = H ∧ ∃ (m n : Int) (v : Option V), σ = [some (.int c), some (.int k), some (.int 618970019642690137449562111), some (.int m), some (.int n), v] ∧ 0 ≤ m ∧ m < 618970019642690137449562111 ∧ 0 ≤ n ∧ n < pr ^ i) rfl (by decide)
        ⟨rfl, _, _, _, rfl, Int.emod_nonneg _ (by decide), Int.emod_lt_of_pos _ (by decide), by decide, by decide⟩ ?_ ?_
      · rintro i σ H' hi ⟨rfl, m, n, v, rfl, m0, m1, n0, n1⟩
        obtain ⟨b1, b2⟩ := pr_pow i hi
        have e3 : (618970019642690137449562111 : Int) < 618970019642690137449562111 ^ 3 + 1 := by decide +kernel
        wtm_at "g_go"
        refine w_I (wide_mul (a := 300) (b := 300) (small_w m0 (Int.lt_trans m1 e3)) (small_w m0 (Int.lt_trans m1 e3)) (by decide) (by decide) (by decide)) ?_
        wtm_at "g_go"
        refine w_I (.inl (by decide)) ?_
        wtm_at "g_go"
        refine w_I (by decide) ?_
        wtm_at "g_go"
        refine w_I (wide_mul (a := 300) (b := 300) (small_w n0 (Int.lt_trans n1 b1)) (small_w (by decide) e3) (by decide) (by decide) (by decide)) ?_
        wtm_at "g_go"
        refine ⟨rfl, _, _, _, rfl, Int.emod_nonneg _ (by decide), Int.emod_lt_of_pos _ (by decide), ?_⟩
        rw [Int.pow_succ]
        exact num_step n0 n1 (Int.emod_nonneg _ (by decide)) (Int.emod_lt_of_pos _ (by decide))
      · rintro σ H' ⟨rfl, m, n, v, rfl, m0, m1, n0, n1⟩
        wtm_at "g_go"
        exact q n
    · wtm_at "g_go"
      exact q c
  · wtm_at "g_go"
    exact q c
theorem pure_law_made (T : TX K mg base) (vs : List V) (H : Hp) (Q : VK) (E : XK) (h : sp_law_made K vs H Q E) : t_law_made K E { nx := fun _ H' => Q .non H', rt := Q } (start N_law_made vs) H := by
  obtain ⟨r, d, rfl, q1, q2⟩ := h
  unfold t_law_made
  wtm_at "g_go"
  intro x dx hx hdx ne
  refine ⟨x, dx, r, d, rfl, upd_same, fun h => ⟨true, T.exm 0, fun _ a _ => ?_, fun z => Bool.noConfusion z⟩, fun h => ⟨rfl, ?_⟩⟩
  · wtm_at "g_go"
    exact q1 h _ (same_trans_new (same_new hdx) (none_up (Ne.symm ne) hx))
  · rw [upd_upd]
    exact q2 h x dx hx hdx ne
theorem pure_law_spend (T : TX K mg base) (vs : List V) (H : Hp) (Q : VK) (E : XK) (h : sp_law_spend K vs H Q E) : t_law_spend K E { nx := fun _ H' => Q .non H', rt := Q } (start N_law_spend vs) H := by
  obtain ⟨p, dx, r, d, t, s, rfl, hp, q1, q2⟩ := h
  unfold t_law_spend
  wtm_at "g_go"
  refine ⟨p, dx, r, d, t, s, rfl, hp, ?_⟩
  wtm_at "g_go"
  refine if_nno rfl ?_
  wtm_at "g_go"
  refine ⟨p, dx, r, d, t, s, rfl, hp, fun hs => ?_, fun hs => ?_⟩
  · rw [decide_eq_true hs]
    wtm_at "g_go"
    refine if_nno rfl ?_
    wtm_at "g_go"
    exact q1 hs
  · rw [decide_eq_false hs]
    wtm_at "g_go"
    refine if_nno rfl ?_
    wtm_at "g_go"
    exact q2 hs
theorem ints_at {gs : List Int} {j : Nat} {z : Int} (h : gs[j]? = some z) {k : Int} (e : k = (j : Int)) : atI (gs.map V.int) k = some (V.int z) := at_of e (by rw [List.getElem?_map, h]; rfl)
theorem pure_law_bounded (T : TX K mg base) (vs : List V) (H : Hp) (Q : VK) (E : XK) (h : sp_law_bounded K vs H Q E) : t_law_bounded K E { nx := fun _ H' => Q .non H', rt := Q } (start N_law_bounded vs) H := by
  obtain ⟨r, d, a, gs, rfl, ha, hl, B, q⟩ := h
  unfold t_law_bounded
  wtm_at "g_go"
  refine loop1 (n := gs.length) (fun i σ H' => H' = H ∧ ∃ (v3 v4 v5 : Option V), σ = [some (.int r), some (.int d), some (.ref a), v3, v4, v5]) (by rw [List.length_map]) (by omega) ⟨rfl, _, _, _, rfl⟩ ?_ ?_
  · rintro i σ H' hi ⟨rfl, v3, v4, v5, rfl⟩
    wtm_at "g_go"
    rw [List.length_map]
    refine loop2 (fun j σ H'' => H'' = H' ∧ ∃ (v5 : Option V), σ = [some (.int r), some (.int d), some (.ref a), some (.int (i : Int)), some (.int ((gs.drop i).take j).sum), v5]) ⟨by omega, by omega, by omega, by omega⟩
      ⟨rfl, _, rfl⟩ ?_ ?_
    · rintro j σ H'' hj ⟨rfl, v5, rfl⟩
      have hij : i + j < gs.length := by omega
      obtain ⟨z, hz⟩ : ∃ z, gs[i + j]? = some z := ⟨gs[i + j], List.getElem?_eq_getElem hij⟩
      have es : ((gs.drop i).take (j + 1)).sum = ((gs.drop i).take j).sum + z := sum_take (by rw [List.getElem?_drop]; exact hz)
      have b := B i j hij
      wtm_at "g_go"
      refine w_ixL (SqL.of ha) (ints_at hz (by omega)) ?_
      wtm_at "g_go"
      refine w_I (.inl ⟨by omega, by omega⟩) ?_
      wtm_at "g_go"
      have e2 : (i : Int) + (j : Int) - (i : Int) = (j : Int) := by omega
      rw [e2, ← es]
      refine if_no (by omega) ?_
      wtm_at "g_go"
      exact ⟨rfl, _, rfl⟩
    · rintro σ H'' ⟨rfl, v5, rfl⟩
      exact ⟨rfl, _, _, _, rfl⟩
  · rintro σ H' ⟨rfl, v3, v4, v5, rfl⟩
    wtm_at "g_go"
    exact q
theorem pure_law_play (T : TX K mg base) (vs : List V) (H : Hp) (Q : VK) (E : XK) (h : sp_law_play K vs H Q E) : t_law_play K E { nx := fun _ H' => Q .non H', rt := Q } (start N_law_play vs) H := by
  obtain ⟨a, ns, p, dx, r, d, rfl, hS, hp, hr, hd, hr2, hd2, q⟩ := h
  unfold t_law_play
  wtm_at "g_go"
  intro gl hgl
  wtm_at "g_go"
  obtain ⟨n, hn, hn2⟩ : ∃ n : Nat, (if 1 + (((ns.map V.int).length : Nat) : Int) < 100 then 1 + (((ns.map V.int).length : Nat) : Int) else 100) = (n : Int) ∧ n ≤ 100 := ⟨(if 1 + (((ns.map V.int).length : Nat) : Int) < 100 then 1 + (((ns.map V.int).length : Nat) : Int) else 100).toNat, by split <;> omega, by split <;> omega⟩
  have ngp : p ≠ gl := ne_of_none hp hgl
  refine loop1 (n := n) (fun i σ H' => ∃ (t g : Int) (pre : List Int) (bes kep : V) (v8 v9 v10 v11 : Option V), σ = [some (.ref a), some (.int r), some (.int d), some (.ref p), some (.int t), some (.ref gl), some bes, some kep, v8, v9, v10, v11] ∧ Scr K H' a (ns.map V.int) ∧
      H' p = some (oB K dx r d t) ∧ H' gl = some (.lst ((pre ++ [g]).map V.int)) ∧ 0 ≤ t ∧ t ≤ d ∧ pre.length ≤ i ∧ W r d pre g t ∧ (bes = .non ∨ ∃ b db tb, bes = .ref b ∧ kep = .int tb ∧ H' b = some (oB K db r d tb) ∧ b ≠ p)) hn (by omega)
    ⟨d, 0, [], .non, .int 0, _, _, _, _, rfl, hS.new hgl, by wtm_at "g_hp", upd_same, by omega, by omega, Nat.le_refl _, .start, .inl rfl⟩ ?_ ?_
  · rintro i σ H1 hi ⟨t, g, pre, bes, kep, v8, v9, v10, v11, rfl, hS1, hp1, hg1, t0, td, hpre, hW, hb⟩
    wtm_at "g_go"
    refine ⟨a, ns, _, rfl, hS1.sq, by omega, fun n1 => ?_⟩
    wtm_at "g_go"
    refine ⟨_, _, rfl, fun n2 st hst => ?_⟩
    have nsp : p ≠ st := ne_of_none hp1 hst
    have nsg : gl ≠ st := ne_of_none hg1 hst
    have ngp1 : gl ≠ p := ne_of hg1 hp1 (by intro z; cases z)
    have hS2 : Scr K (upd H1 st (.lst [.int n2])) a (ns.map V.int) := hS1.new hst
    wtm_at "g_go"
    refine w_cut (fun σ' H' => ∃ (t g : Int) (pre : List Int) (n3 : Int) (v10 v11 : Option V), σ' = [some (.ref a), some (.int r), some (.int d), some (.ref p), some (.int t), some (.ref gl), some bes, some kep, some (.int (i : Int)), some (.ref st), v10, v11] ∧ Scr K H' a (ns.map V.int) ∧
      H' p = some (oB K dx r d t) ∧ H' gl = some (.lst ((pre ++ [g]).map V.int)) ∧ H' st = some (.lst [.int n3]) ∧ 0 ≤ t ∧ t ≤ d ∧ pre.length ≤ i + 1 ∧ W r d pre g t ∧ (bes = .non ∨ ∃ b db tb, bes = .ref b ∧ kep = .int tb ∧ H' b = some (oB K db r d tb) ∧ b ≠ p ∧ b ≠ st ∧ b ≠ gl)) ?_ ?_
    · wtm_at "g_go"
      refine ⟨_, _, _, rfl, upd_same, by omega, by omega, fun dg n3 d0 d1 => ?_⟩
      wtm_at "g_go"
      -- the beside bucket stands apart from all that is written here
      have hb2 : bes = .non ∨ ∃ b db tb, bes = .ref b ∧ kep = .int tb ∧ H1 b = some (oB K db r d tb) ∧ b ≠ p ∧ b ≠ st ∧ b ≠ gl := by
        rcases hb with h | ⟨b, db, tb, e1, e2, h1, h2⟩
        · exact .inl h
        · exact .inr ⟨b, db, tb, e1, e2, h1, h2, ne_of_none h1 hst, ne_of h1 hg1 (by intro z; cases z)⟩
      refine if_d (fun hd0 => ?_) (fun hd0 => ?_)
      · wtm_at "g_go"
        refine ⟨p, dx, r, d, t, rfl, by wtm_at "g_hp", ?_⟩
        wtm_at "g_go"
        refine ty_list (xs := (pre ++ [g]).map V.int) (by wtm_at "g_hp") ?_
        wtm_at "g_go"
        refine w_app (xs := (pre ++ [g]).map V.int) (by wtm_at "g_hp") (by rw [List.length_map, List.length_append, List.length_singleton]; exact small1000 (by omega)) ?_
        wtm_at "g_go"
        refine ⟨_, 0, pre ++ [g], _, _, _, rfl, by wtm_at "g_sc", by wtm_at "g_hp", ?_, by wtm_at "g_hp", ?_, ?_, by rw [List.length_append, List.length_singleton]; omega, hW.tick t0 (by omega), ?_⟩
        · rw [upd_same]; simp
        · split <;> omega
        · split <;> omega
        · rcases hb2 with h | ⟨b, db, tb, e1, e2, h1, h2, h3, h4⟩
          · exact .inl h
          · exact .inr ⟨b, db, tb, e1, e2, by wtm_at "g_hp", h2, h3, h4⟩
      · wtm_at "g_go"
        refine ⟨_, _, _, rfl, upd_same, by omega, by omega, fun sz n4 s0 s1 => ?_⟩
        wtm_at "g_go"
        refine ⟨p, dx, r, d, t, sz, rfl, by wtm_at "g_hp", fun hs => ?_, fun hs => ?_⟩
        all_goals
          wtm_at "g_go"
          have eg : ((pre ++ [g]).map V.int)[pre.length]? = some (V.int g) := by simp
          have el : (((pre ++ [g]).map V.int).length : Int) - 1 = (pre.length : Int) := by simp
          have es : ∀ y : Int, ((pre ++ [g]).map V.int).set pre.length (V.int y) = (pre ++ [y]).map V.int := fun y => by simp
          refine w_ixL (xs := (pre ++ [g]).map V.int) (by wtm_at "g_sq") (at_of el eg) ?_
          wtm_at "g_go"
          refine w_setL (xs := (pre ++ [g]).map V.int) (j := pre.length) (by wtm_at "g_hp") (ixN_of el (by simp)) ?_
          wtm_at "g_go"
          rw [es]
          refine ⟨_, _, pre, _, _, _, rfl, by wtm_at "g_sc", by wtm_at "g_hp", by wtm_at "g_hp", by wtm_at "g_hp", ?_, ?_, by omega, hW.take, ?_⟩
          · omega
          · omega
          · rcases hb2 with h | ⟨b, db, tb, e1, e2, h1, h2, h3, h4⟩
            · exact .inl h
            · exact .inr ⟨b, db, tb, e1, e2, by wtm_at "g_hp", h2, h3, h4⟩
    · rintro σ' H2 ⟨t, g, pre, n3, v10, v11, rfl, hS2, hp2, hg2, hst2, t0, td, hpre, hW, hb⟩
      wtm_at "g_goo"
      refine if_d (fun h20 => ?_) (fun h20 => ?_)
      · wtm_at "g_go"
        refine ⟨p, dx, r, d, t, rfl, hp2, hr, hd, fun b db hb1 hb2 ne => ?_⟩
        wtm_at "g_go"
        refine ⟨t, g, pre, _, _, _, _, _, _, rfl, by wtm_at "g_sc", by wtm_at "g_hp", by wtm_at "g_hp", t0, td, hpre, hW, .inr ⟨b, db, t, rfl, rfl, upd_same, (ne_of_none hp2 hb1).symm⟩⟩
      · rcases hb with rfl | ⟨b, db, tb, rfl, rfl, h1, h2, h3, h4⟩
        · wtm_at "g_go"
          exact ⟨t, g, pre, _, _, _, _, _, _, rfl, hS2, hp2, hg2, t0, td, hpre, hW, .inl rfl⟩
        · wtm_at "g_go"
          refine ⟨st, n3, 4, rfl, hst2, by omega, by omega, fun sz n4 s0 s1 => ?_⟩
          wtm_at "g_go"
          refine ⟨b, db, r, d, tb, sz, rfl, by wtm_at "g_hp", fun hs => ?_, fun hs => ?_⟩
          all_goals
            wtm_at "g_goo"
            refine ⟨t, g, pre, _, _, _, _, _, _, rfl, ?_, ?_, ?_, t0, td, hpre, hW, .inr ⟨b, db, _, rfl, rfl, ?_, h2⟩⟩
            · wtm_at "g_sc"
            · wtm_at "g_hp"
            · wtm_at "g_hp"
            · wtm_at "g_hp"
  · rintro σ H1 ⟨t, g, pre, bes, kep, v8, v9, v10, v11, rfl, hS1, hp1, hg1, t0, td, hpre, hW, hb⟩
    wtm_at "g_go"
    exact ⟨r, d, gl, pre ++ [g], rfl, hg1, by rw [List.length_append, List.length_singleton]; omega, hW.all t0, q _⟩
theorem pure_law (T : TX K mg base) (vs : List V) (H : Hp) (Q : VK) (E : XK) (h : sp_law K vs H Q E) : t_law K E { nx := fun _ H' => Q .non H', rt := Q } (start N_law vs) H := by
  obtain ⟨a, ns, rfl, hS, q⟩ := h
  unfold t_law
  wtm_at "g_go"
  refine ⟨a, ns, _, rfl, hS.sq, by omega, fun n1 => ?_⟩
  wtm_at "g_go"
  refine ⟨_, _, rfl, fun n2 st hst => ?_⟩
  wtm_at "g_go"
  refine ⟨st, _, _, rfl, upd_same, by omega, by omega, fun r n3 r0 r1 => ?_⟩
  wtm_at "g_go"
  refine ⟨st, _, _, rfl, upd_same, by omega, by omega, fun d n4 d0 d1 => ?_⟩
  wtm_at "g_go"
  have hS2 : Scr K (upd (upd (upd H st (.lst [.int n2])) st (.lst [.int n3])) st (.lst [.int n4])) a (ns.map V.int) := by
    rw [upd_upd, upd_upd]
    exact hS.new hst
  refine ⟨r - 1, d - 1, rfl, fun hbad H' hs => ?_, fun hok q dq hq hdq ne => ?_⟩
  · have fin : ∀ q dq, H' q = none → H' dq = none → dq ≠ q → ∀ (Q' : VK) (E' : XK), (∀ H'', Q' (.bl true) H'') → sp_law_play K [.ref a, .int 3, .int 20, .ref q] (upd (upd (upd H' dq (.own q)) q (.ins (cB K) dq [])) q (oB K dq 3 20 20)) Q' E' := fun q dq hq hdq ne Q' E' hQ => by
      have hS3 : Scr K H' a (ns.map V.int) := hS2.same hs
      rw [upd_upd]
      exact ⟨a, ns, q, dq, 3, 20, rfl, (hS3.new hdq).new (none_up ne.symm hq), upd_same, by omega, by omega, by omega, by omega, hQ⟩
    by_cases hr : 1 ≤ r - 1
    all_goals
      wtm_at "g_goo"
      intro q dq hq hdq ne
      refine ⟨q, dq, 3, 20, rfl, upd_same, fun h => by omega, fun _ => ⟨rfl, ?_⟩⟩
      wtm_at "g_goo"
      exact fin q dq hq hdq ne _ _ (by assumption)
  · wtm_at "g_goo"
    refine ⟨a, ns, q, dq, r - 1, d - 1, rfl, (hS2.new hdq).new (none_up ne.symm hq), upd_same, by omega, by omega, by omega, by omega, by assumption⟩
end
end K80

namespace K80
open PySem PySem.Spec PyProof.Rows L2 G
section
variable {P : Program} {w : World} {K : PySem.W.Frag} {mg : Str → Option Value} {base : Heap}

theorem len_Bucket_init {K : PySem.W.Frag} : ∀ vs H Q E, sp_Bucket_init K vs H Q E → vs.length = (P_Bucket_init : List Str).length := by
  intro vs H Q E h
  repeat (obtain ⟨_, h⟩ := h)
  subst_vars
  rfl
theorem has_Bucket_init (T : TX K mg base) : HasI P w K mg base 1 "Bucket" P_Bucket_init (sp_Bucket_init K) :=
  mk_hasI (T.glo 7) (T.mkr 8) (T.says.def_ 0) sc_Bucket_init (fun _ _ _ _ _ _ us hl => match us, hl with | [_, _, _], _ => rfl) len_Bucket_init
    fun cdv A outer s H vs Q E hr h => ⟨t_Bucket_init K E, d_Bucket_init T  hr, pure_Bucket_init T vs H Q E h⟩

theorem len_Bucket_tick {K : PySem.W.Frag} : ∀ vs H Q E, sp_Bucket_tick K vs H Q E → vs.length = (P_Bucket_tick : List Str).length := by
  intro vs H Q E h
  repeat (obtain ⟨_, h⟩ := h)
  subst_vars
  rfl
theorem has_Bucket_tick (T : TX K mg base) : HasM P w K mg base 1 "Bucket" "tick" P_Bucket_tick (sp_Bucket_tick K) :=
  mk_hasM (T.cls 9) (T.meth 10) (T.says.def_ 1) sc_Bucket_tick (fun _ _ _ _ _ _ us hl => match us, hl with | [_], _ => rfl) len_Bucket_tick
    fun cdv A outer s H vs Q E hr h => ⟨t_Bucket_tick K E, d_Bucket_tick T  hr, pure_Bucket_tick T vs H Q E h⟩

theorem len_Bucket_can_take {K : PySem.W.Frag} : ∀ vs H Q E, sp_Bucket_can_take K vs H Q E → vs.length = (P_Bucket_can_take : List Str).length := by
  intro vs H Q E h
  repeat (obtain ⟨_, h⟩ := h)
  subst_vars
  rfl
theorem has_Bucket_can_take (T : TX K mg base) : HasM P w K mg base 1 "Bucket" "can_take" P_Bucket_can_take (sp_Bucket_can_take K) :=
  mk_hasM (T.cls 9) (T.meth 11) (T.says.def_ 2) sc_Bucket_can_take (fun _ _ _ _ _ _ us hl => match us, hl with | [_, _], _ => rfl) len_Bucket_can_take
    fun cdv A outer s H vs Q E hr h => ⟨t_Bucket_can_take K E, d_Bucket_can_take T  hr, pure_Bucket_can_take T vs H Q E h⟩

theorem len_Bucket_take {K : PySem.W.Frag} : ∀ vs H Q E, sp_Bucket_take K vs H Q E → vs.length = (P_Bucket_take : List Str).length := by
  intro vs H Q E h
  repeat (obtain ⟨_, h⟩ := h)
  subst_vars
  rfl
theorem has_Bucket_take (T : TX K mg base) : HasM P w K mg base 1 "Bucket" "take" P_Bucket_take (sp_Bucket_take K) :=
  mk_hasM (T.cls 9) (T.meth 12) (T.says.def_ 3) sc_Bucket_take (fun _ _ _ _ _ _ us hl => match us, hl with | [_, _], _ => rfl) len_Bucket_take
    fun cdv A outer s H vs Q E hr h => ⟨t_Bucket_take K E, d_Bucket_take T  hr, pure_Bucket_take T vs H Q E h⟩

theorem len_Bucket_fork {K : PySem.W.Frag} : ∀ vs H Q E, sp_Bucket_fork K vs H Q E → vs.length = (P_Bucket_fork : List Str).length := by
  intro vs H Q E h
  repeat (obtain ⟨_, h⟩ := h)
  subst_vars
  rfl
theorem has_Bucket_fork (T : TX K mg base) : HasM P w K mg base 3 "Bucket" "fork" P_Bucket_fork (sp_Bucket_fork K) :=
  mk_hasM (T.cls 9) (T.meth 13) (T.says.def_ 4) sc_Bucket_fork (fun _ _ _ _ _ _ us hl => match us, hl with | [_], _ => rfl) len_Bucket_fork
    fun cdv A outer s H vs Q E hr h => ⟨t_Bucket_fork K E, d_Bucket_fork T (has_Bucket_init T) hr, pure_Bucket_fork T vs H Q E h⟩

theorem len_law_cell {K : PySem.W.Frag} : ∀ vs H Q E, sp_law_cell K vs H Q E → vs.length = (P_law_cell : List Str).length := by
  intro vs H Q E h
  repeat (obtain ⟨_, h⟩ := h)
  subst_vars
  rfl
theorem has_law_cell (T : TX K mg base) : Has P w K mg base 1 "_law_cell" P_law_cell (sp_law_cell K) :=
  mk_has (T.glo 14) (T.says.def_ 5) sc_law_cell (fun _ _ _ _ _ _ us hl => match us, hl with | [_, _], _ => rfl) len_law_cell
    fun cdv A outer s H vs Q E hr h => ⟨t_law_cell K E, d_law_cell T  hr, pure_law_cell T vs H Q E h⟩

theorem len_law_start {K : PySem.W.Frag} : ∀ vs H Q E, sp_law_start K vs H Q E → vs.length = (P_law_start : List Str).length := by
  intro vs H Q E h
  repeat (obtain ⟨_, h⟩ := h)
  subst_vars
  rfl
theorem has_law_start (T : TX K mg base) : Has P w K mg base 1 "_law_start" P_law_start (sp_law_start K) :=
  mk_has (T.glo 15) (T.says.def_ 6) sc_law_start (fun _ _ _ _ _ _ us hl => match us, hl with | [_, _], _ => rfl) len_law_start
    fun cdv A outer s H vs Q E hr h => ⟨t_law_start K E, d_law_start T  hr, pure_law_start T vs H Q E h⟩

theorem len_law_digit {K : PySem.W.Frag} : ∀ vs H Q E, sp_law_digit K vs H Q E → vs.length = (P_law_digit : List Str).length := by
  intro vs H Q E h
  repeat (obtain ⟨_, h⟩ := h)
  subst_vars
  rfl
theorem has_law_digit (T : TX K mg base) : Has P w K mg base 1 "_law_digit" P_law_digit (sp_law_digit K) :=
  mk_has (T.glo 16) (T.says.def_ 7) sc_law_digit (fun _ _ _ _ _ _ us hl => match us, hl with | [_, _], _ => rfl) len_law_digit
    fun cdv A outer s H vs Q E hr h => ⟨t_law_digit K E, d_law_digit T  hr, pure_law_digit T vs H Q E h⟩

theorem len_law_made {K : PySem.W.Frag} : ∀ vs H Q E, sp_law_made K vs H Q E → vs.length = (P_law_made : List Str).length := by
  intro vs H Q E h
  repeat (obtain ⟨_, h⟩ := h)
  subst_vars
  rfl
theorem has_law_made (T : TX K mg base) : Has P w K mg base 3 "_law_made" P_law_made (sp_law_made K) :=
  mk_has (T.glo 17) (T.says.def_ 8) sc_law_made (fun _ _ _ _ _ _ us hl => match us, hl with | [_, _], _ => rfl) len_law_made
    fun cdv A outer s H vs Q E hr h => ⟨t_law_made K E, d_law_made T (has_Bucket_init T) hr, pure_law_made T vs H Q E h⟩

theorem len_law_spend {K : PySem.W.Frag} : ∀ vs H Q E, sp_law_spend K vs H Q E → vs.length = (P_law_spend : List Str).length := by
  intro vs H Q E h
  repeat (obtain ⟨_, h⟩ := h)
  subst_vars
  rfl
theorem has_law_spend (T : TX K mg base) : Has P w K mg base 2 "_law_spend" P_law_spend (sp_law_spend K) :=
  mk_has (T.glo 18) (T.says.def_ 9) sc_law_spend (fun _ _ _ _ _ _ us hl => match us, hl with | [_, _, _], _ => rfl) len_law_spend
    fun cdv A outer s H vs Q E hr h => ⟨t_law_spend K E, d_law_spend T (has_Bucket_can_take T) (has_Bucket_take T) hr, pure_law_spend T vs H Q E h⟩

theorem len_law_bounded {K : PySem.W.Frag} : ∀ vs H Q E, sp_law_bounded K vs H Q E → vs.length = (P_law_bounded : List Str).length := by
  intro vs H Q E h
  repeat (obtain ⟨_, h⟩ := h)
  subst_vars
  rfl
theorem has_law_bounded (T : TX K mg base) : Has P w K mg base 1 "_law_bounded" P_law_bounded (sp_law_bounded K) :=
  mk_has (T.glo 19) (T.says.def_ 10) sc_law_bounded (fun _ _ _ _ _ _ us hl => match us, hl with | [_, _, _], _ => rfl) len_law_bounded
    fun cdv A outer s H vs Q E hr h => ⟨t_law_bounded K E, d_law_bounded T  hr, pure_law_bounded T vs H Q E h⟩

theorem len_law_play {K : PySem.W.Frag} : ∀ vs H Q E, sp_law_play K vs H Q E → vs.length = (P_law_play : List Str).length := by
  intro vs H Q E h
  repeat (obtain ⟨_, h⟩ := h)
  subst_vars
  rfl
theorem has_law_play (T : TX K mg base) : Has P w K mg base 4 "_law_play" P_law_play (sp_law_play K) :=
  mk_has (T.glo 20) (T.says.def_ 11) sc_law_play (fun _ _ _ _ _ _ us hl => match us, hl with | [_, _, _, _], _ => rfl) len_law_play
    fun cdv A outer s H vs Q E hr h => ⟨t_law_play K E, d_law_play T (has_law_start T) (has_law_cell T) (has_law_digit T) (has_Bucket_tick T) (has_law_spend T) (has_Bucket_fork T) (has_law_bounded T) hr, pure_law_play T vs H Q E h⟩

theorem len_law {K : PySem.W.Frag} : ∀ vs H Q E, sp_law K vs H Q E → vs.length = (P_law : List Str).length := by
  intro vs H Q E h
  repeat (obtain ⟨_, h⟩ := h)
  subst_vars
  rfl
theorem has_law (T : TX K mg base) : Has P w K mg base 5 "law" P_law (sp_law K) :=
  mk_has (T.glo 21) (T.says.def_ 12) sc_law (fun _ _ _ _ _ _ us hl => match us, hl with | [_], _ => rfl) len_law
    fun cdv A outer s H vs Q E hr h => ⟨t_law K E, d_law T (has_law_start T) (has_law_cell T) (has_law_digit T) (has_law_made T) (has_Bucket_init T) (has_law_play T) hr, pure_law T vs H Q E h⟩

theorem ok_law (T : TX K mg base) {fd : FuncData} (F : FunD K "law" "law" (defArgs s_law) (defBody s_law) (defScope s_law) [] [] (He.ga K "law") fd) : FnOk P w K mg base (L2.CX P w) 5 (He.ga K "law") fd P_law (sp_law K) :=
  FunD.ok (CX := L2.CX P w) F sc_law len_law fun cdv A outer s H vs Q E hr h => ⟨t_law K E, d_law T (has_law_start T) (has_law_cell T) (has_law_digit T) (has_law_made T) (has_Bucket_init T) (has_law_play T) hr, pure_law T vs H Q E h⟩

end

abbrev R : PySem.W.OpenRow := PySem.W.OpenLaw.row PySem.Challenge.rw_throughway_k80_buckets_of_tokens
abbrev hk : PySem.W.Hook := He.hookD 5 fa fn
def ob (s : PySem.W.SharedT) : He.AlD := He.obsDG 5 fa fn (HandSHeadRun.getT s)
theorem ob_eq (s : PySem.W.SharedT) : ob s = hk.obs s.abs := He.obsDG_eq (HandSHeadRun.getT_eq s)
def names : List PySem.Str := (["ThroughwayError", "InvalidAmount", "Bucket", "_law_cell", "_law_start", "_law_digit", "_law_made", "_law_spend", "_law_bounded", "_law_play"] : List PySem.Str)
theorem run (w : World) : HandSHeadRun.RunEq R (PySem.W.view R.prog [13]) hk ob 4000 names w := by
  intro os
  kernel_rfl
end K80

open PySem PySem.W PySem.Calls PyProof.Rows
theorem PySem.Challenge.cw_throughway_k80_buckets_of_tokens_holds : PySem.Challenge.rw_throughway_k80_buckets_of_tokens.Holds := by
  w_on; o_law
  refine HandSHeadRun.head_any (r := OpenLaw.row PySem.Challenge.rw_throughway_k80_buckets_of_tokens) (q := view (OpenLaw.row PySem.Challenge.rw_throughway_k80_buckets_of_tokens).prog [13]) (H := K80.hk) (ob := K80.ob) (M := 4000) (loose := K80.names) (d := HandSHeadRun.topDef (OpenLaw.row PySem.Challenge.rw_throughway_k80_buckets_of_tokens).prog 13) (kwd := []) K80.ob_eq
    (by kernel_rfl) (fun s => by kernel_rfl) K80.run (by kernel_rfl) (by kernel_rfl) (by kernel_rfl) (by rfl) (by first | assumption | decide +kernel) (by decide +kernel) ⟨rfl, rfl, rfl, rfl, rfl, by decide +kernel⟩ ?hw ?hc
  case hw => w_witness2
  case hc =>
    refine G.walk_ofEB (l := PySem.Challenge.rw_throughway_k80_buckets_of_tokens) (n := 63) (k := 5) (x := "script") (CX := fun w => L2.CX (PySem.Challenge.rw_throughway_k80_buckets_of_tokens).prog w) rfl (by decide) (by kernel_rfl) ⟨rfl, by decide, by decide⟩ ?F ?X
    case X =>
      intro w H s e s' z
      obtain ⟨_, _, _, _, _, _, _, _, _, _, _, _, z⟩ := z
      exact z.elim
    case F =>
      intro w mg fa h Y G hmg0
      obtain ⟨K, KX, c⟩ := Y
      have hmg : mg ("law" : PySem.Str) = some (.ref fa) := by
        have e : (HandSHeadRun.topDef (OpenLaw.row PySem.Challenge.rw_throughway_k80_buckets_of_tokens).prog 13).name = ("law" : PySem.Str) := by kernel_rfl
        rw [← e]
        exact hmg0
      obtain ⟨fd, FD⟩ := He.SaysD.def_ c 12 (d := K80.D_law) rfl
      have b := L2.FunD.bindsA (ps := ["script"]) FD fun _ _ _ _ _ _ us hl => match us, hl with | [_], _ => rfl
      have eg : fa = He.ga K "law" := by
        have e := hmg.symm.trans (He.glo_ok KX G (He.SaysD.fact c 21 (f := .glo "law") rfl))
        cases e
        rfl
      subst eg
      exact ⟨K, fd, K80.sp_law K, KX, fun s v => b s [v] rfl, fun H a ns hl hb hO hS => K80.law_start hl hb hO hS, fun base kin hns => K80.ok_law ⟨kin, hns, c⟩ FD⟩
