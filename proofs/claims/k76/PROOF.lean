import PyProof.Rows.All
import Wide.All
import OpenK.AllK
import Wide.FinOn
import HandS.ForMost
import HandS.ForExc
import HandS.Wide
import HandS.Steps
import HandS.Evl
import HandS.Defaults
import HandS.IsInst
import HandS.Head0
import HandS.Head1
import HandS.Head2
import HandS.HeadEnd
import HandS.EndBits
import HandS.HeadHook1
import HandS.HeadHook2
import HandS.Property
import HandS.OwnEq
import HandS.ExcIs
import HandS.DeepEq
import HandS.HeadHook4
import HandS.TupLe
import HandS.Walk
import KE.KIndexOf
import HandS.Strs
import HandS.Dict
import HandS.MakeKwOnly
import PyProof.Rows.ChunkEnd
import HandS.Flow
import HandS.SortRule
import HandS.SortInts
import HandS.Deep
import KE.KSortTup
import PySem.Challenge.RW_throughway_k76_adverts_in_octets
set_option Elab.async false
set_option linter.all false
set_option maxRecDepth 100000
set_option maxHeartbeats 4000000
/-! My own words over the hand layer: a def of the module, a method, a class, by names (Has, HasM, HasI); their calls; readings step by step. -/
namespace G
open PySem PySem.Spec PyProof.Rows L2

/-! ### a call that may let an exception out, at the slots -/
section
variable {X : Cx} {k : Nat} {f C : Addr} {fd : FuncData} {ps : List Str} {sp : Sp} {E : L2.St → XK} {x m : Str} {p pos apos : Pos} {e o : Expr} {es : List Expr} {ta : TE} {t : TA}
abbrev XC (X : Cx) : CXT := L2.CX X.prog X.w
/-- nothing is let out -/
theorem passZ (σ : L2.St) : PassesAt (XC X) X σ E0 := fun _ _ _ _ _ _ c => by
  obtain ⟨_, _, _, _, _, _, _, _, _, _, _, _, z⟩ := c
  exact z.elim
theorem pe_callS0 (F : FnOk X.prog X.w X.K X.mg X.base (XC X) k f fd ps sp) (hr : Room k X.A) (hg : Gl X x) (hm : X.mg x = some (.ref f)) (hk : PySem.W.keepIn X.K (.ref f) = true) (hb : Binds X.K fd ps []) (hx : ∀ σ, PassesAt (XC X) X σ (E σ))
    (hdb : (x == ("__debug__" : Str)) = false := by decide) : PE X (.Call (.Name x p) [] [] pos) (tCallS sp E tNil) := by
  refine ⟨fun pz s σ H Q I h => ?_⟩
  refine wpAny_Call_Name_kw ?_
  refine ld_glob I hg hm ?_ hdb
  exact PySem.W.callWith_K0 I.kIn hk (run_fnS (us := []) F hr hb (hx σ) I .nil h)
/-- o.m(..) -/
def tMt (C : Addr) (m : Str) (sp : Sp) (E : L2.St → XK) (ta : TE) (t : TA) : TE := fun σ H Q => ta σ H fun x H1 => ∃ a dx fs, x = .ref a ∧ H1 a = some (.ins C dx fs) ∧ fs.lookup m = none ∧
  t σ H1 fun vs H2 => sp (x :: vs) H2 Q (E σ)
theorem pe_mt {pl : Sem Bool} (he : PE X o ta) (c : Cls X.K C) (hm : Meth X.K C m f) (F : FnOk X.prog X.w X.K X.mg X.base (XC X) k f fd ps sp) (hr : Room k X.A) (hb : Binds X.K fd ps []) (hx : ∀ σ, PassesAt (XC X) X σ (E σ)) (ha : PA X (e :: es) t)
    (hst : starEach (e :: es) X.env = (false, eval e X.env) :: starEach es X.env := by rfl) (hpl : (backTo pos (starEach es X.env)).any (·.1) = false := by rfl)
    (ht : eval (.Call (.Attribute o m apos) (e :: es) [] pos) X.env = (do
      let ov ← eval o X.env
      standAt apos.atName
      let (f, first) ← holding [ov] (getMethod ov m pl)
      callWith pos f first (backTo pos (starEach (e :: es) X.env)) (backToKw pos (keywordEach [] X.env))) := by rfl) :
    PE X (.Call (.Attribute o m apos) (e :: es) [] pos) (tMt C m sp E ta t) := by
  refine ⟨fun pz s σ H Q I h => ?_⟩
  refine PySem.W.methodCall_KW (pl := pl) (thn (he.run pz s σ H _ I h) fun u z1 ⟨x, H1, J1, rq, a, dx, fs, ex, ea, l, q⟩ => ?_) ht
  subst ex
  obtain rfl : u = Value.ref a := rq
  refine getmeth_ok J1 ea c hm l ?_
  refine PySem.W.callWith_K (first := [.ref a]) (h₀ := X.base) I.ok.mod.kin hm.kp (thn (ha.run pos pz z1 σ H1 _ J1 q) fun us s2 ⟨vs, H2, J2, r, qb⟩ => ⟨J2.kIn, ?_⟩) hst hpl
  exact run_fnS (us := .ref a :: us) (vs := .ref a :: vs) F hr hb (hx σ) J2 (.cons rfl r) qb
theorem pe_mt0 {pl : Sem Bool} (he : PE X o ta) (c : Cls X.K C) (hm : Meth X.K C m f) (F : FnOk X.prog X.w X.K X.mg X.base (XC X) k f fd ps sp) (hr : Room k X.A) (hb : Binds X.K fd ps []) (hx : ∀ σ, PassesAt (XC X) X σ (E σ))
    (ht : eval (.Call (.Attribute o m apos) [] [] pos) X.env = (do
      let ov ← eval o X.env
      standAt apos.atName
      let (f, first) ← holding [ov] (getMethod ov m pl)
      callWith pos f first (backTo pos (starEach [] X.env)) (backToKw pos (keywordEach [] X.env))) := by rfl) :
    PE X (.Call (.Attribute o m apos) [] [] pos) (tMt C m sp E ta tNil) := by
  refine ⟨fun pz s σ H Q I h => ?_⟩
  refine PySem.W.methodCall_KW (pl := pl) (thn (he.run pz s σ H _ I h) fun u z1 ⟨x, H1, J1, rq, a, dx, fs, ex, ea, l, q⟩ => ?_) ht
  subst ex
  obtain rfl : u = Value.ref a := rq
  refine getmeth_ok J1 ea c hm l ?_
  exact PySem.W.callWith_K0 (first := [.ref a]) J1.kIn hm.kp (run_fnS (us := [.ref a]) (vs := [.ref a]) F hr hb (hx σ) J1 (.cons rfl .nil) q)
/-- C(..) -/
def tMk (C : Addr) (sp : Sp) (E : L2.St → XK) (t : TA) : TE := fun σ H Q => t σ H fun vs H1 => ∀ x dx, H1 x = none → H1 dx = none → dx ≠ x →
  sp (.ref x :: vs) (upd (upd H1 dx (.own x)) x (.ins C dx [])) (fun v H2 => v = .non ∧ Q (.ref x) H2) (E σ)
theorem run_mk {pz : List (Addr × Obj)} {σ : L2.St} {H : Hp} {s : Shared} {Q : VK} {us : List Value} {vs : List V} (M : Mk X.K C f) (F : FnOk X.prog X.w X.K X.mg X.base (XC X) k f fd ps sp) (hr : Room (k + 1) X.A) (hb : Binds X.K fd ps [])
    (hx : PassesAt (XC X) X σ (E σ)) (I : Inv X pz σ H s) (r : Vals vs us)
    (h : ∀ x dx, H x = none → H dx = none → dx ≠ x → sp (.ref x :: vs) (upd (upd H dx (.own x)) x (.ins C dx [])) (fun v H2 => v = .non ∧ Q (.ref x) H2) (E σ)) :
    wpAny (model X.prog X.w) X.A (call (.ref C) us) (EP X pz σ Q) X.xe s := by
  have hqa := h (s.heap.objs.size + 1) s.heap.objs.size (I.hok.fresh (Nat.le_succ _)) (I.hok.fresh (Nat.le_refl _)) (Nat.ne_of_lt (Nat.lt_succ_self _))
  have J2 := Inv.made (C := C) I
  have rr2 : Vals (V.ref (s.heap.objs.size + 1) :: vs) (Value.ref (s.heap.objs.size + 1) :: us) := .cons rfl r
  have hl : (Value.ref (s.heap.objs.size + 1) :: us).length = ps.length := by
    have e := rr2.length
    rw [F.len _ _ _ _ hqa] at e
    exact e.symm
  have b := hb _ (Value.ref (s.heap.objs.size + 1) :: us) J2.kIn (by rw [List.append_nil]; exact hl)
  rw [List.append_nil] at b
  refine wpAny_call (make_map (f := f) I.kIn M.makes M.init (beq_iff_eq.mp M.fn) (codeAny_mono (F.run _ X.stack _ _ ⟨Value.ref (s.heap.objs.size + 1) :: us, []⟩ (Value.ref (s.heap.objs.size + 1) :: us) _ _ (E σ) (hr.make C us [])
    (J2.env0.make C us []) b rr2 hqa) fun r s' hqb => ?_))
  cases r with
  | error e => exact hx pz _ _ e s' J2 hqb
  | ok fl =>
    cases fl with
    | ret u =>
      obtain ⟨v, H', J3, rv, ev, qc⟩ := J2.after hqb
      subst ev
      exact ⟨rv, ⟨V.ref (s.heap.objs.size + 1), H', J3, rfl, qc⟩⟩
    | next => exact False.elim hqb
    | brk => exact False.elim hqb
    | cont => exact False.elim hqb
theorem pe_mk (M : Mk X.K C f) (F : FnOk X.prog X.w X.K X.mg X.base (XC X) k f fd ps sp) (hr : Room (k + 1) X.A) (hg : Gl X x) (hm : X.mg x = some (.ref C)) (hb : Binds X.K fd ps []) (hx : ∀ σ, PassesAt (XC X) X σ (E σ))
    (ha : PA X (e :: es) t) (hdb : (x == ("__debug__" : Str)) = false := by decide) (he : starEach (e :: es) X.env = (false, eval e X.env) :: starEach es X.env := by rfl) (hpl : (backTo pos (starEach es X.env)).any (·.1) = false := by rfl) :
    PE X (.Call (.Name x p) (e :: es) [] pos) (tMk C sp E t) := by
  refine ⟨fun pz s σ H Q I h => ?_⟩
  refine wpAny_Call_Name_kw ?_
  refine ld_glob I hg hm ?_ hdb
  refine PySem.W.callWith_K (h₀ := X.base) I.ok.mod.kin M.kp (thn (ha.run pos pz s σ H _ I h) fun us z1 ⟨vs, H1, J1, r, q⟩ => ⟨J1.kIn, ?_⟩) he hpl
  exact run_mk M F hr hb (hx σ) J1 r q
theorem pe_mk0 (M : Mk X.K C f) (F : FnOk X.prog X.w X.K X.mg X.base (XC X) k f fd ps sp) (hr : Room (k + 1) X.A) (hg : Gl X x) (hm : X.mg x = some (.ref C)) (hb : Binds X.K fd ps []) (hx : ∀ σ, PassesAt (XC X) X σ (E σ))
    (hdb : (x == ("__debug__" : Str)) = false := by decide) : PE X (.Call (.Name x p) [] [] pos) (tMk C sp E tNil) := by
  refine ⟨fun pz s σ H Q I h => ?_⟩
  refine wpAny_Call_Name_kw ?_
  refine ld_glob I hg hm ?_ hdb
  exact PySem.W.callWith_K0 I.kIn M.kp (run_mk (us := []) M F hr hb (hx σ) I .nil h)
end

/-! ### by names -/
section
variable (P : Program) (w : World) (K : PySem.W.Frag) (mg : Str → Option Value) (base : Heap)
/-- a def of the module -/
structure Has (k : Nat) (x : Str) (ps : List Str) (sp : Sp) : Prop where
  gl : mg x = some (.ref (He.ga K x))
  kp : PySem.W.keepIn K (.ref (He.ga K x)) = true
  ex : ∃ fd, FnOk P w K mg base (L2.CX P w) k (He.ga K x) fd ps sp ∧ Binds K fd ps []
/-- a method -/
structure HasM (k : Nat) (c m : Str) (ps : List Str) (sp : Sp) : Prop where
  cl : Cls K (He.ga K c)
  me : Meth K (He.ga K c) m (He.ma K (He.ga K c) m)
  ex : ∃ fd, FnOk P w K mg base (L2.CX P w) k (He.ma K (He.ga K c) m) fd ps sp ∧ Binds K fd ps []
/-- a class that is made by its __init__ -/
structure HasI (k : Nat) (c : Str) (ps : List Str) (sp : Sp) : Prop where
  gl : mg c = some (.ref (He.ga K c))
  mkr : Mk K (He.ga K c) (He.ma K (He.ga K c) "__init__")
  ex : ∃ fd, FnOk P w K mg base (L2.CX P w) k (He.ma K (He.ga K c) "__init__") fd ps sp ∧ Binds K fd ps []
end
section
variable {P : Program} {w : World} {K : PySem.W.Frag} {mg : Str → Option Value} {base : Heap}
theorem Has.mono {j k : Nat} {x : Str} {ps : List Str} {sp : Sp} (h : Has P w K mg base j x ps sp) (l : j ≤ k) : Has P w K mg base k x ps sp :=
  ⟨h.gl, h.kp, let ⟨fd, F, b⟩ := h.ex; ⟨fd, F.mono l, b⟩⟩
theorem HasM.mono {j k : Nat} {c m : Str} {ps : List Str} {sp : Sp} (h : HasM P w K mg base j c m ps sp) (l : j ≤ k) : HasM P w K mg base k c m ps sp :=
  ⟨h.cl, h.me, let ⟨fd, F, b⟩ := h.ex; ⟨fd, F.mono l, b⟩⟩
theorem HasI.mono {j k : Nat} {c : Str} {ps : List Str} {sp : Sp} (h : HasI P w K mg base j c ps sp) (l : j ≤ k) : HasI P w K mg base k c ps sp :=
  ⟨h.gl, h.mkr, let ⟨fd, F, b⟩ := h.ex; ⟨fd, F.mono l, b⟩⟩
end
section
variable {X : Cx} {k : Nat} {ps : List Str} {sp : Sp} {E : L2.St → XK} {x c m : Str} {p pos apos : Pos} {e o : Expr} {es : List Expr} {ta : TE} {t : TA}
theorem pe_h (h : Has X.prog X.w X.K X.mg X.base k x ps sp) (hr : Room k X.A) (hg : Gl X x) (hx : ∀ σ, PassesAt (XC X) X σ (E σ)) (ha : PA X (e :: es) t) (hdb : (x == ("__debug__" : Str)) = false := by decide)
    (he : starEach (e :: es) X.env = (false, eval e X.env) :: starEach es X.env := by rfl) (hpl : (backTo pos (starEach es X.env)).any (·.1) = false := by rfl) : PE X (.Call (.Name x p) (e :: es) [] pos) (tCallS sp E t) := by
  obtain ⟨fd, F, b⟩ := h.ex
  exact pe_callS F hr hg h.gl h.kp b hx ha hdb he hpl
theorem pe_h0 (h : Has X.prog X.w X.K X.mg X.base k x ps sp) (hr : Room k X.A) (hg : Gl X x) (hx : ∀ σ, PassesAt (XC X) X σ (E σ)) (hdb : (x == ("__debug__" : Str)) = false := by decide) : PE X (.Call (.Name x p) [] [] pos) (tCallS sp E tNil) := by
  obtain ⟨fd, F, b⟩ := h.ex
  exact pe_callS0 F hr hg h.gl h.kp b hx hdb
theorem pe_i (h : HasI X.prog X.w X.K X.mg X.base k c ps sp) (hr : Room (k + 1) X.A) (hg : Gl X c) (hx : ∀ σ, PassesAt (XC X) X σ (E σ)) (ha : PA X (e :: es) t) (hdb : (c == ("__debug__" : Str)) = false := by decide)
    (he : starEach (e :: es) X.env = (false, eval e X.env) :: starEach es X.env := by rfl) (hpl : (backTo pos (starEach es X.env)).any (·.1) = false := by rfl) : PE X (.Call (.Name c p) (e :: es) [] pos) (tMk (He.ga X.K c) sp E t) := by
  obtain ⟨fd, F, b⟩ := h.ex
  exact pe_mk h.mkr F hr hg h.gl b hx ha hdb he hpl
theorem pe_i0 (h : HasI X.prog X.w X.K X.mg X.base k c ps sp) (hr : Room (k + 1) X.A) (hg : Gl X c) (hx : ∀ σ, PassesAt (XC X) X σ (E σ)) (hdb : (c == ("__debug__" : Str)) = false := by decide) : PE X (.Call (.Name c p) [] [] pos) (tMk (He.ga X.K c) sp E tNil) := by
  obtain ⟨fd, F, b⟩ := h.ex
  exact pe_mk0 h.mkr F hr hg h.gl b hx hdb
theorem pe_m {pl : Sem Bool} (he : PE X o ta) (h : HasM X.prog X.w X.K X.mg X.base k c m ps sp) (hr : Room k X.A) (hx : ∀ σ, PassesAt (XC X) X σ (E σ)) (ha : PA X (e :: es) t)
    (hst : starEach (e :: es) X.env = (false, eval e X.env) :: starEach es X.env := by rfl) (hpl : (backTo pos (starEach es X.env)).any (·.1) = false := by rfl)
    (ht : eval (.Call (.Attribute o m apos) (e :: es) [] pos) X.env = (do
      let ov ← eval o X.env
      standAt apos.atName
      let (f, first) ← holding [ov] (getMethod ov m pl)
      callWith pos f first (backTo pos (starEach (e :: es) X.env)) (backToKw pos (keywordEach [] X.env))) := by rfl) :
    PE X (.Call (.Attribute o m apos) (e :: es) [] pos) (tMt (He.ga X.K c) m sp E ta t) := by
  obtain ⟨fd, F, b⟩ := h.ex
  exact pe_mt he h.cl h.me F hr b hx ha hst hpl ht
theorem pe_m0 {pl : Sem Bool} (he : PE X o ta) (h : HasM X.prog X.w X.K X.mg X.base k c m ps sp) (hr : Room k X.A) (hx : ∀ σ, PassesAt (XC X) X σ (E σ))
    (ht : eval (.Call (.Attribute o m apos) [] [] pos) X.env = (do
      let ov ← eval o X.env
      standAt apos.atName
      let (f, first) ← holding [ov] (getMethod ov m pl)
      callWith pos f first (backTo pos (starEach [] X.env)) (backToKw pos (keywordEach [] X.env))) := by rfl) :
    PE X (.Call (.Attribute o m apos) [] [] pos) (tMt (He.ga X.K c) m sp E ta tNil) := by
  obtain ⟨fd, F, b⟩ := h.ex
  exact pe_mt0 he h.cl h.me F hr b hx ht
/-- raise X('..'), X without an __init__ -/
def tRs (C : Addr) (W : WX) : TS := fun _ σ H => W (.ref C) none σ H
/-- what the class of an own exception must have -/
structure HasX (K : PySem.W.Frag) (mg : Str → Option Value) (c : Str) : Prop where
  gl : mg c = some (.ref (He.ga K c))
  ex : PySem.W.excIn K (He.ga K c) He.veBase "ValueError.__new__" = true
  kp : PySem.W.keepIn K (.ref (He.ga K c)) = true
  sb : PySem.W.subIn K (.ref (He.ga K c)) (.type "BaseException") = some true
  ty : PySem.W.typeIn K (.ref (He.ga K c)) = some (.type "type")
theorem ps_rs {W : WX} {msg : Str} {j : Nat} {p2 pos2 : Pos} (hc : X.calm = true) (tk : Takes X W) (h : HasX X.K X.mg c) (hg : Gl X c) (hdb : (c == ("__debug__" : Str)) = false := by decide) :
    PS X (.Raise (some (.Call (.Name c p) [.Constant (.str msg) j p2] [] pos)) none pos2) (tRs (He.ga X.K c) W) :=
  ps_raise hc tk (pmk_own PySem.F.excBase_ValueError h.ex h.gl h.kp (raises_own h.sb h.ty) hg hdb)
end

/-! ### a def of the text keeps its promise -/
section
variable {P : Program} {w : World} {K : PySem.W.Frag} {mg : Str → Option Value} {base : Heap}
/-- what the body's term and its reading are to give -/
abbrev Body (P : Program) (w : World) (K : PySem.W.Frag) (mg : Str → Option Value) (base : Heap) (k : Nat) (N : List Str) (qual : Str) (scope : Scope) (f : Addr) (body : List Stmt) (sp : Sp) : Prop :=
  ∀ (cdv : Value) (A : Around) (outer : List Env) (s : Shared) (H : Hp) (vs : List V) (Q : VK) (E : XK), Room k (A.deeper (envOfC qual scope s.heap.objs.size f cdv)) → sp vs H Q E →
      ∃ t, PSs (cxOf (L2.CX P w) P w K mg base N qual scope f cdv A outer s H E) body t ∧ t { nx := fun _ H' => Q .non H', rt := Q } (start N vs) H
theorem mk_has {k : Nat} {x qual : Str} {params : Arguments} {body : List Stmt} {scope : Scope} {N ps : List Str} {sp : Sp} (gl : mg x = some (.ref (He.ga K x)))
    (F : ∃ fd, FunD K x qual params body scope [] [] (He.fAd K (x, none)) fd) (S : FnScope N ps scope)
    (hb : ∀ (kV doc pm : Value) (an : Option Addr) (cdv ct : Value) (us : List Value), us.length = ps.length → bindArgs (PySem.W.fnOf x qual params body scope .none kV doc pm an cdv ct) ⟨us, []⟩ = pure (ps.zip us))
    (len : ∀ vs H Q E, sp vs H Q E → vs.length = ps.length) (hbody : Body P w K mg base k N qual scope (He.ga K x) body sp) : Has P w K mg base (k + 1) x ps sp := by
  obtain ⟨fd, F⟩ := F
  exact ⟨gl, F.kp, fd, FunD.ok (CX := L2.CX P w) F S len hbody, F.bindsN hb⟩
theorem mk_hasM {k : Nat} {c m qual : Str} {params : Arguments} {body : List Stmt} {scope : Scope} {N ps : List Str} {sp : Sp} (cl : Cls K (He.ga K c)) (me : Meth K (He.ga K c) m (He.ma K (He.ga K c) m))
    (F : ∃ fd, FunD K m qual params body scope [] [] (He.fAd K (c, some m)) fd) (S : FnScope N ps scope)
    (hb : ∀ (kV doc pm : Value) (an : Option Addr) (cdv ct : Value) (us : List Value), us.length = ps.length → bindArgs (PySem.W.fnOf m qual params body scope .none kV doc pm an cdv ct) ⟨us, []⟩ = pure (ps.zip us))
    (len : ∀ vs H Q E, sp vs H Q E → vs.length = ps.length) (hbody : Body P w K mg base k N qual scope (He.ma K (He.ga K c) m) body sp) : HasM P w K mg base (k + 1) c m ps sp := by
  obtain ⟨fd, F⟩ := F
  exact ⟨cl, me, fd, FunD.ok (CX := L2.CX P w) F S len hbody, F.bindsN hb⟩
theorem mk_hasI {k : Nat} {c qual : Str} {params : Arguments} {body : List Stmt} {scope : Scope} {N ps : List Str} {sp : Sp} (gl : mg c = some (.ref (He.ga K c))) (mk : Mk K (He.ga K c) (He.ma K (He.ga K c) "__init__"))
    (F : ∃ fd, FunD K "__init__" qual params body scope [] [] (He.fAd K (c, some "__init__")) fd) (S : FnScope N ps scope)
    (hb : ∀ (kV doc pm : Value) (an : Option Addr) (cdv ct : Value) (us : List Value), us.length = ps.length → bindArgs (PySem.W.fnOf "__init__" qual params body scope .none kV doc pm an cdv ct) ⟨us, []⟩ = pure (ps.zip us))
    (len : ∀ vs H Q E, sp vs H Q E → vs.length = ps.length) (hbody : Body P w K mg base k N qual scope (He.ma K (He.ga K c) "__init__") body sp) : HasI P w K mg base (k + 1) c ps sp := by
  obtain ⟨fd, F⟩ := F
  exact ⟨gl, mk, fd, FunD.ok (CX := L2.CX P w) F S len hbody, F.bindsN hb⟩
/-- the head's facts -/
structure Tx (fa : List He.Fa) (fn : List He.DefD) (K : PySem.W.Frag) (mg : Str → Option Value) (base : Heap) : Prop where
  kin : K.In base
  ns : base.Ns mainGlobals mg
  says : He.SaysD fa fn K
variable {fa : List He.Fa} {fn : List He.DefD}
theorem Tx.glo (T : Tx fa fn K mg base) {x : Str} (i : Nat) (h : fa[i]? = some (.glo x) := by rfl) : mg x = some (.ref (He.ga K x)) := He.glo_ok T.kin T.ns (T.says.fact i h)
theorem Tx.free (T : Tx fa fn K mg base) {x : Str} (i : Nat) (h : fa[i]? = some (.free x) := by rfl) : mg x = none := He.free_ok T.kin T.ns (T.says.fact i h)
theorem Tx.cls (T : Tx fa fn K mg base) {x : Str} (i : Nat) (h : fa[i]? = some (.cls x) := by rfl) : Cls K (He.ga K x) := He.cls_ok (T.says.fact i h)
theorem Tx.noat (T : Tx fa fn K mg base) {x f : Str} (i : Nat) (h : fa[i]? = some (.noat x f) := by rfl) : NoAttr K (He.ga K x) f := He.noat_ok (T.says.fact i h)
theorem Tx.meth (T : Tx fa fn K mg base) {x m : Str} (i : Nat) (h : fa[i]? = some (.meth x m) := by rfl) : Meth K (He.ga K x) m (He.ma K (He.ga K x) m) := He.meth_ok (T.says.fact i h)
theorem Tx.mkr (T : Tx fa fn K mg base) {x : Str} (i : Nat) (h : fa[i]? = some (.mkr x) := by rfl) : Mk K (He.ga K x) (He.ma K (He.ga K x) "__init__") := He.mkr_ok (T.says.fact i h)
theorem Tx.exm (T : Tx fa fn K mg base) {x y : Str} {b : Bool} (i : Nat) (h : fa[i]? = some (.exm x y b) := by rfl) : PySem.W.exmOne K (.ref (He.ga K x)) (.ref (He.ga K y)) = some b := He.exm_ok (T.says.fact i h)
theorem Tx.exc (T : Tx fa fn K mg base) {x : Str} (i j : Nat) (h : fa[i]? = some (.exc x) := by rfl) (h2 : fa[j]? = some (.glo x) := by rfl) : HasX K mg x :=
  let ⟨a, b, c, d⟩ := He.exc_ok (T.says.fact i h)
  ⟨T.glo j h2, a, b, c, d⟩
end

/-! ### the end, with the script's bits told -/
theorem walk_ofEB {l : PySem.W.OpenLaw} {n k : Nat} {q : Program} {loose : List Str} {XP : (Str → Option Value) → Heap → Prop} {YP : World → Heap → Prop} {d : DefRec} {CX : World → CXT} {x : Str}
    (hn : l.most = some n) (hn2 : n ≤ sizeLine) (hdf : d.params.defaults = []) (hr : Room k callerA)
    (F : ∀ (w : World) (mg : Str → Option Value) (fa : Addr) (h : Heap), YP w h → h.Ns mainGlobals mg → mg d.name = some (.ref fa) →
      ∃ (K : PySem.W.Frag) (fd : FuncData) (sp : Sp), K.In h ∧ (∀ (s : Shared) (u : Value), BindsTo s fd ⟨[u], []⟩ [(x, u)]) ∧
        (∀ (H : Hp) (a : Addr) (ns : List Int), ns.length ≤ n → (∀ z ∈ ns, Builtin.Int.intBits z ≤ 1048576) → Only H → SqL K H a (ns.map V.int) → sp [.ref a] H (fun v _ => v = .bl true) fun _ _ _ => False) ∧
        ∀ base : Heap, K.In base → base.Ns mainGlobals mg → FnOk l.prog w K mg base (CX w) k fa fd [x] sp)
    (hCX : ∀ (w : World) (H : Hp) (s : Shared) (e : Value) (s' : Shared), CX w [] H s (fun _ _ _ => False) e s' → False) :
    PySem.W.WalkO q loose XP YP l.row.toRowW d [] (fun f vs => PySem.call f vs) := by
  refine Att.attach_callB hn hdf fun w sA sB mg mb fa o pm cd doc a vs ns G Y ho hd hcd hmg hobj hints hlen hbits hg => ?_
  obtain ⟨K, fd, sp, kx, bd, sh, FF⟩ := F w mg fa _ Y G.T.g hmg
  exact law_call kx G.T.g G.T.b G.T.builtins G.T.nolimit hg hobj hints (Nat.le_trans hlen hn2) hr FF bd (fun H hO hS => sh H a ns hlen hbits hO hS) fun H e s' => hCX w H sB e s'
end G

/-! readings, step by step -/
namespace G
open PySem PySem.Spec PyProof.Rows L2
/-! ### names of the rules' relations -/
abbrev wB (E : XK) : WX := fun cls d _ H => E cls d H
abbrev gAdd : R2 := rI0 fun i j => .int (i + j)
abbrev gMinus : R2 := rI0 fun i j => .int (i - j)
abbrev gMul : R2 := rI CMul fun i j => .int (i * j)
abbrev gMulW : R2 := rI CMulW fun i j => .int (i * j)
abbrev gDiv : R2 := rI CDiv fun i j => .int (i / j)
abbrev gDivW : R2 := rI CDivW fun i j => .int (i / j)
abbrev gMod : R2 := rI (fun _ j => 0 < j) fun i j => .int (i % j)
abbrev gPow : R2 := rI CPow fun i j => .int (i ^ j.toNat)
abbrev gShl : R2 := rI CPow fun i j => .int (i * 2 ^ j.toNat)
abbrev gShr : R2 := rI (fun _ j => 0 ≤ j) fun i j => .int (i / 2 ^ j.toNat)
abbrev gAnd : R2 := rI0 fun i j => .int (Builtin.bitAnd i j)
abbrev gOr : R2 := rI0 fun i j => .int (Builtin.bitOr i j)
abbrev gXor : R2 := rI0 fun i j => .int (Builtin.bitXor i j)
abbrev gLt : R2 := rI0 fun i j => .bl (decide (i < j))
abbrev gLte : R2 := rI0 fun i j => .bl (decide (i ≤ j))
abbrev gGt : R2 := rI0 fun i j => .bl (decide (j < i))
abbrev gGte : R2 := rI0 fun i j => .bl (decide (j ≤ i))
abbrev gLe : R2 := gLte
abbrev gGe : R2 := gGte
abbrev gNeg : V → Hp → VK → Prop := rU fun i => .int (-i)
abbrev gCatS : R2 := fun x y H Q => ∃ i j, x = .str i ∧ y = .str j ∧ i.length + j.length ≤ sizeLine ∧ Q (.str (i ++ j)) H
abbrev gInS : R2 := rInS
abbrev gNotInS : R2 := rNotInS
abbrev gLen (K : PySem.W.Frag) : List V → Hp → VK → Prop := fun xs H Q => ∃ x n, xs = [x] ∧ LenV K x H n ∧ Q (.int (n : Nat)) H
abbrev gMin2 : List V → Hp → VK → Prop := fun xs H Q => ∃ i j, xs = [.int i, .int j] ∧ Q (.int (if j < i then j else i)) H
abbrev gMax2 : List V → Hp → VK → Prop := fun xs H Q => ∃ i j, xs = [.int i, .int j] ∧ Q (.int (if j > i then j else i)) H
abbrev gAbs : List V → Hp → VK → Prop := fun xs H Q => ∃ i, xs = [.int i] ∧ Q (.int (if i < 0 then -i else i)) H
abbrev gInt1 : List V → Hp → VK → Prop := fun xs H Q => (∃ i, xs = [.int i] ∧ Q (.int i) H) ∨ ∃ k, xs = [.bl k] ∧ Q (.int (if k then 1 else 0)) H
abbrev gBool1 : List V → Hp → VK → Prop := fun xs H Q => (∃ i, xs = [.int i] ∧ Q (.bl (i != 0)) H) ∨ ∃ k, xs = [.bl k] ∧ Q (.bl k) H
abbrev gStr1 : List V → Hp → VK → Prop := fun xs H Q => ∃ i, xs = [.int i] ∧ i.natAbs.log2 < 1920 ∧ Q (.str (toString i)) H
abbrev gListOf (K : PySem.W.Frag) : List V → Hp → VK → Prop := fun xs H Q => ∃ p ys, xs = [.ref p] ∧ (SqL K H p ys ∨ SqT K H p ys) ∧ ∀ l, H l = none → Q (.ref l) (upd H l (.lst ys))
abbrev gTupOf (K : PySem.W.Frag) : List V → Hp → VK → Prop := fun xs H Q => ∃ p ys, xs = [.ref p] ∧ ((SqL K H p ys ∧ ∀ l, H l = none → Q (.ref l) (upd H l (.tup ys))) ∨ (SqT K H p ys ∧ Q (.ref p) H))
section
variable {X : Cx} {x : Str} {pos : Pos}
theorem pe_gint {i : Int} (hg : Gl X x) (hm : ∃ t, X.mg x = some (.int i t)) (hd : (x == ("__debug__" : Str)) = false := by decide) : PE X (.Name x pos) (tC (.int i)) := by
  obtain ⟨t, hm⟩ := hm
  exact pe_glob hg hm ⟨t, rfl⟩ hd
theorem pe_gstr {z : Str} (hg : Gl X x) (hm : ∃ t, X.mg x = some (.str z t)) (hd : (x == ("__debug__" : Str)) = false := by decide) : PE X (.Name x pos) (tC (.str z)) := by
  obtain ⟨t, hm⟩ := hm
  exact pe_glob hg hm ⟨t, rfl⟩ hd
theorem pe_gref {a : Addr} (hg : Gl X x) (hm : X.mg x = some (.ref a)) (hd : (x == ("__debug__" : Str)) = false := by decide) : PE X (.Name x pos) (tC (.ref a)) := pe_glob hg hm rfl hd
end
section
variable {K : PySem.W.Frag} {mg : Str → Option Value} {base : Heap} {fa : List He.Fa} {fn : List He.DefD}
theorem Tx.int (T : Tx fa fn K mg base) {x : Str} {n : Int} (i : Nat) (h : fa[i]? = some (.int x n) := by rfl) : ∃ t, mg x = some (.int n t) := He.int_ok T.kin T.ns (T.says.fact i h)
theorem Tx.str (T : Tx fa fn K mg base) {x z : Str} (i : Nat) (h : fa[i]? = some (.str x z) := by rfl) : ∃ t, mg x = some (.str z t) := He.str_ok T.kin T.ns (T.says.fact i h)
end

/-! ### steps -/
section
variable {K : PySem.W.Frag} {σ : L2.St} {H : Hp} {Q : VK} {v x y : V} {i j : Int} {n : Nat} {ta tb tc te : TE} {r r' : R2} {g : Int → Int → V} {C : Int → Int → Prop} {tA : TA}
theorem w_var (h : σ[n]? = some (some v)) (q : Q v H) : tVar n σ H Q := ⟨v, h, q⟩
theorem w_c (q : Q v H) : tC v σ H Q := q
theorem w_op (h : ta σ H fun x H1 => tb σ H1 fun y H2 => r x y H2 Q) : tOp r ta tb σ H Q := h
theorem w_I0 (q : Q (g i j) H) : rI0 g (.int i) (.int j) H Q := ⟨i, j, rfl, rfl, q⟩
theorem w_I (c : C i j) (q : Q (g i j) H) : rI C g (.int i) (.int j) H Q := ⟨i, j, rfl, rfl, c, q⟩
theorem w_eqI (q : Q (.bl (decide (i = j))) H) : rEq (.int i) (.int j) H Q := ⟨rfl, by
  have e : decide (V.int i = V.int j) = decide (i = j) := by simp
  show Q (.bl (decide (V.int i = V.int j))) H
  rw [e]; exact q⟩
theorem w_neI (q : Q (.bl (!decide (i = j))) H) : rNe (.int i) (.int j) H Q := ⟨rfl, by
  have e : decide (V.int i = V.int j) = decide (i = j) := by simp
  show Q (.bl (!decide (V.int i = V.int j))) H
  rw [e]; exact q⟩
theorem w_eqB {a b : Bool} (q : Q (.bl (decide (a = b))) H) : rEq (.bl a) (.bl b) H Q := ⟨rfl, by
  have e : decide (V.bl a = V.bl b) = decide (a = b) := by simp
  show Q (.bl (decide (V.bl a = V.bl b))) H
  rw [e]; exact q⟩
theorem w_neB {a b : Bool} (q : Q (.bl (!decide (a = b))) H) : rNe (.bl a) (.bl b) H Q := ⟨rfl, by
  have e : decide (V.bl a = V.bl b) = decide (a = b) := by simp
  show Q (.bl (!decide (V.bl a = V.bl b))) H
  rw [e]; exact q⟩
theorem w_eqS {a b : Str} (q : Q (.bl (decide (a = b))) H) : rEq (.str a) (.str b) H Q := ⟨rfl, by
  have e : decide (V.str a = V.str b) = decide (a = b) := by simp
  show Q (.bl (decide (V.str a = V.str b))) H
  rw [e]; exact q⟩
theorem w_neS {a b : Str} (q : Q (.bl (!decide (a = b))) H) : rNe (.str a) (.str b) H Q := ⟨rfl, by
  have e : decide (V.str a = V.str b) = decide (a = b) := by simp
  show Q (.bl (!decide (V.str a = V.str b))) H
  rw [e]; exact q⟩
theorem w_isN (q : Q (.bl (decide (x = .non))) H) : rIsN x .non H Q := ⟨rfl, q⟩
theorem w_notN (q : Q (.bl (!decide (x = .non))) H) : rNotN x .non H Q := ⟨rfl, q⟩
theorem w_un {rr : V → Hp → VK → Prop} (h : ta σ H fun x H1 => rr x H1 Q) : tUn rr ta σ H Q := h
theorem w_U {f : Int → V} (q : Q (f i) H) : rU f (.int i) H Q := ⟨i, rfl, q⟩
theorem w_chain (h : ta σ H fun x H1 => tb σ H1 fun y H2 => r x y H2 fun z H3 => ∃ k, z = .bl k ∧ (if k = true then tc σ H3 fun w' H4 => r' y w' H4 Q else Q (.bl false) H3)) : tChain r r' ta tb tc σ H Q := h
theorem w_k {b : Bool} {P : Bool → Prop} (h : P b) : ∃ k, V.bl b = .bl k ∧ P k := ⟨b, rfl, h⟩
theorem w_test {Q : Bool → Hp → Prop} (h : te σ H fun x H' => ∃ k, x = .bl k ∧ Q k H') : tTest te σ H Q := h
theorem w_tB {Q : Bool → Hp → Prop} (h : te σ H fun x H' => ∃ k, x = .bl k ∧ Q k H') : tB te σ H Q := h
theorem w_tru {Q : Bool → Hp → Prop} (h : te σ H fun x H' => ∃ k, TruV K x H' k ∧ Q k H') : tTru K te σ H Q := h
theorem w_not {Q : Bool → Hp → Prop} {t : TT} (h : t σ H fun c H1 => Q (!c) H1) : tNot t σ H Q := h
theorem w_and {Q : Bool → Hp → Prop} {t u : TT} (h : t σ H fun c H1 => if c = true then u σ H1 Q else Q false H1) : tAnd t u σ H Q := h
theorem w_or {Q : Bool → Hp → Prop} {t u : TT} (h : t σ H fun c H1 => if c = true then Q true H1 else u σ H1 Q) : tOr t u σ H Q := h
theorem w_andV (h : ta σ H fun x H1 => ∃ c, x = .bl c ∧ if c = true then tb σ H1 Q else Q (.bl false) H1) : tAndV ta tb σ H Q := h
theorem w_orV (h : ta σ H fun x H1 => ∃ c, x = .bl c ∧ if c = true then Q (.bl true) H1 else tb σ H1 Q) : tOrV ta tb σ H Q := h
theorem w_notV (h : ta σ H fun x H1 => ∃ c, x = .bl c ∧ Q (.bl (!c)) H1) : tNotV ta σ H Q := h
theorem w_ife {t : TT} (h : t σ H fun c H1 => if c = true then ta σ H1 Q else tb σ H1 Q) : tIf t ta tb σ H Q := h
theorem w_nil {Q : List V → Hp → Prop} (q : Q [] H) : tNil σ H Q := q
theorem w_cons {Q : List V → Hp → Prop} (h : te σ H fun x H1 => tA σ H1 fun xs H2 => Q (x :: xs) H2) : tCons te tA σ H Q := h
theorem w_tup (h : tA σ H fun xs H1 => xs.length ≤ sizeLine ∧ ∀ p, H1 p = none → Q (.ref p) (upd H1 p (.tup xs))) : tTup tA σ H Q := h
theorem w_lst (h : tA σ H fun xs H1 => xs.length ≤ sizeLine ∧ ∀ p, H1 p = none → Q (.ref p) (upd H1 p (.lst xs))) : tLst tA σ H Q := h
theorem w_small {xs : List V} {P : Prop} (hl : Nat.ble xs.length 1000 = true) (h : P) : xs.length ≤ sizeLine ∧ P := ⟨Nat.le_trans (Nat.le_of_ble_eq_true hl) (by decide), h⟩
theorem w_call {sp : Sp} {E : L2.St → XK} (h : tA σ H fun vs H1 => sp vs H1 Q (E σ)) : tCallS sp E tA σ H Q := h
theorem w_mk {Cc : Addr} {sp : Sp} {E : L2.St → XK} (h : tA σ H fun vs H1 => ∀ x dx, H1 x = none → H1 dx = none → dx ≠ x → sp (.ref x :: vs) (upd (upd H1 dx (.own x)) x (.ins Cc dx [])) (fun v H2 => v = .non ∧ Q (.ref x) H2) (E σ)) : tMk Cc sp E tA σ H Q := h
theorem w_mt {Cc : Addr} {m : Str} {sp : Sp} {E : L2.St → XK} (h : ta σ H fun x H1 => ∃ a dx fs, x = .ref a ∧ H1 a = some (.ins Cc dx fs) ∧ fs.lookup m = none ∧ tA σ H1 fun vs H2 => sp (x :: vs) H2 Q (E σ)) : tMt Cc m sp E ta tA σ H Q := h
theorem w_cb {rr : List V → Hp → VK → Prop} (h : tA σ H fun vs H1 => rr vs H1 Q) : tCB rr tA σ H Q := h
theorem w_min2 (q : Q (.int (if j < i then j else i)) H) : gMin2 [.int i, .int j] H Q := ⟨i, j, rfl, q⟩
theorem w_max2 (q : Q (.int (if j > i then j else i)) H) : gMax2 [.int i, .int j] H Q := ⟨i, j, rfl, q⟩
theorem w_abs (q : Q (.int (if i < 0 then -i else i)) H) : gAbs [.int i] H Q := ⟨i, rfl, q⟩
theorem w_int (q : Q (.int i) H) : gInt1 [.int i] H Q := .inl ⟨i, rfl, q⟩
theorem w_lenL {p : Addr} {xs : List V} (h : SqL K H p xs) (q : Q (.int (xs.length : Int)) H) : gLen K [.ref p] H Q := ⟨_, xs.length, rfl, .inl ⟨xs, h, rfl⟩, q⟩
theorem w_lenT {p : Addr} {xs : List V} (h : SqT K H p xs) (q : Q (.int (xs.length : Int)) H) : gLen K [.ref p] H Q := ⟨_, xs.length, rfl, .inr ⟨xs, h, rfl⟩, q⟩
theorem w_lenS {z : Str} (h : z.length ≤ sizeLine) (q : Q (.int (z.length : Int)) H) : gLen K [.str z] H Q := ⟨_, z.length, rfl, ⟨h, rfl⟩, q⟩
theorem w_listL {p : Addr} {xs : List V} (h : SqL K H p xs) (q : ∀ l, H l = none → Q (.ref l) (upd H l (.lst xs))) : gListOf K [.ref p] H Q := ⟨p, xs, rfl, .inl h, q⟩
theorem w_listT {p : Addr} {xs : List V} (h : SqT K H p xs) (q : ∀ l, H l = none → Q (.ref l) (upd H l (.lst xs))) : gListOf K [.ref p] H Q := ⟨p, xs, rfl, .inr h, q⟩
theorem w_ixL {p : Addr} {xs : List V} (h : SqL K H p xs) (ha : atI xs i = some v) (q : Q v H) : rIxL K (.ref p) (.int i) H Q := ⟨p, xs, i, v, rfl, rfl, h, ha, q⟩
theorem w_ixT {p : Addr} {xs : List V} (h : SqT K H p xs) (ha : atI xs i = some v) (q : Q v H) : rIxT K (.ref p) (.int i) H Q := ⟨p, xs, i, v, rfl, rfl, h, ha, q⟩
theorem w_fld {f : Str} {a Cc dx : Addr} {fs : List (Str × V)} {P : Addr → Addr → Addr → List (Str × V) → V → Prop} (h : H a = some (.ins Cc dx fs)) (c : Cls K Cc) (na : NoAttr K Cc f) (l : fs.lookup f = some v) (q : P a Cc dx fs v) :
    ∃ a' C' dx' fs' v', V.ref a = .ref a' ∧ H a' = some (.ins C' dx' fs') ∧ Cls K C' ∧ NoAttr K C' f ∧ fs'.lookup f = some v' ∧ P a' C' dx' fs' v' := ⟨a, Cc, dx, fs, v, rfl, h, c, na, l, q⟩
theorem w_mt1 {m : Str} {a Cc dx : Addr} {fs : List (Str × V)} {P : Addr → Prop} (h : H a = some (.ins Cc dx fs)) (l : fs.lookup m = none) (q : P a) :
    ∃ a' dx' fs', V.ref a = .ref a' ∧ H a' = some (.ins Cc dx' fs') ∧ fs'.lookup m = none ∧ P a' := ⟨a, dx, fs, rfl, h, l, q⟩
theorem w_fld0 {f : Str} (h : ta σ H fun x H1 => ∃ a C dx fs v, x = .ref a ∧ H1 a = some (.ins C dx fs) ∧ Cls K C ∧ NoAttr K C f ∧ fs.lookup f = some v ∧ Q v H1) : tFld K ta f σ H Q := h
theorem w_bm {T : String} {rr : V → List V → Hp → VK → Prop} (h : ta σ H fun x H1 => tyV K T x H1 ∧ tA σ H1 fun xs H2 => rr x xs H2 Q) : tBM K T rr ta tA σ H Q := h
theorem w_bm0 {T : String} {rr : V → List V → Hp → VK → Prop} (h : ta σ H fun x H1 => tyV K T x H1 ∧ rr x [] H1 Q) : tBM0 K T rr ta σ H Q := h
theorem w_app {l : Addr} {xs : List V} (h : H l = some (.lst xs)) (hz : xs.length < sizeLine) (q : Q .non (upd H l (.lst (xs ++ [v])))) : rAppend (.ref l) [v] H Q := ⟨l, xs, v, rfl, rfl, h, hz, q⟩
theorem ty_list {l : Addr} {xs : List V} {P : Prop} (h : H l = some (.lst xs)) (q : P) : tyV K "list" (.ref l) H ∧ P := ⟨.inl ⟨rfl, xs, .inl (.inl h)⟩, q⟩
end
section
variable {K : PySem.W.Frag} {σ : L2.St} {H : Hp} {D : Ends} {v x y : V} {n : Nat} {ta tb te : TE} {t u : TS} {tt : TT}
theorem w_seq (h : t { D with nx := u D } σ H) : tSeq t u D σ H := h
theorem w_next (h : D.nx σ H) : tNext D σ H := h
theorem w_brk (h : D.bk σ H) : tBreak D σ H := h
theorem w_cont (h : D.ct σ H) : tCont D σ H := h
theorem w_drop (h : te σ H fun _ H1 => D.nx σ H1) : tDrop te D σ H := h
theorem w_ret (h : te σ H D.rt) : tRet te D σ H := h
theorem w_retN (h : D.rt .non H) : tRetN D σ H := h
theorem w_if (h : tt σ H fun b H1 => if b = true then t D σ H1 else u D σ H1) : tIfS tt t u D σ H := h
theorem w_asg {g : TG} (h : te σ H fun x H1 => g x σ H1 D.nx) : tAsg te g D σ H := h
theorem w_nm {Q : L2.St → Hp → Prop} (h : Q (σ.set n (some v)) H) : gName n v σ H Q := h
theorem w_sub {to ti : TE} {ts : TSet} {Q : L2.St → Hp → Prop} (h : to σ H fun o H1 => ti σ H1 fun i H2 => ts o i v H2 fun H3 => Q σ H3) : gSub to ti ts v σ H Q := h
theorem w_setL {l : Addr} {xs : List V} {k : Int} {j : Nat} {Q : Hp → Prop} (h : H l = some (.lst xs)) (hj : ixN xs.length k = some j) (q : Q (upd H l (.lst (xs.set j v)))) : rSetL (.ref l) (.int k) v H Q := ⟨l, xs, k, j, rfl, rfl, h, hj, q⟩
theorem w_sfld {f : Str} (h : tb σ H fun y H1 => ta σ H1 fun x H2 => ∃ a C dx fs, x = .ref a ∧ H2 a = some (.ins C dx fs) ∧ Cls K C ∧ NoAttr K C f ∧ fs.length < 1000 ∧ D.nx σ (upd H2 a (.ins C dx (putF f y fs)))) : sFld K ta tb f D σ H := h
theorem w_sput {f : Str} {a C dx : Addr} {fs fs' : List (Str × V)} (h : H a = some (.ins C dx fs)) (c : Cls K C) (na : NoAttr K C f) (e : putF f y fs = fs') (l : Nat.blt fs.length 1000 = true) (q : D.nx σ (upd H a (.ins C dx fs'))) :
    ∃ a' C' dx' fs0, V.ref a = .ref a' ∧ H a' = some (.ins C' dx' fs0) ∧ Cls K C' ∧ NoAttr K C' f ∧ fs0.length < 1000 ∧ D.nx σ (upd H a' (.ins C' dx' (putF f y fs0))) := ⟨a, C, dx, fs, rfl, h, c, na, Nat.le_of_ble_eq_true l, by rw [e]; exact q⟩
theorem w_sfa {f : Str} {rd : V → V → Hp → VK → Prop} (h : ta σ H fun x H1 => ∃ a C dx fs v, x = .ref a ∧ H1 a = some (.ins C dx fs) ∧ Cls K C ∧ NoAttr K C f ∧ fs.lookup f = some v ∧
  tb σ H1 fun y H2 => rd v y H2 fun z H3 => ∃ dx' fs', H3 a = some (.ins C dx' fs') ∧ fs'.length < 1000 ∧ D.nx σ (upd H3 a (.ins C dx' (putF f z fs')))) : sFldAug K ta tb rd f D σ H := h
theorem w_sput2 {f : Str} {a C dx : Addr} {fs fs' : List (Str × V)} (h : H a = some (.ins C dx fs)) (e : putF f y fs = fs') (l : Nat.blt fs.length 1000 = true) (q : D.nx σ (upd H a (.ins C dx fs'))) :
    ∃ dx' fs0, H a = some (.ins C dx' fs0) ∧ fs0.length < 1000 ∧ D.nx σ (upd H a (.ins C dx' (putF f y fs0))) := ⟨dx, fs, h, Nat.le_of_ble_eq_true l, by rw [e]; exact q⟩
theorem w_radd {i j : Int} {Q : VK} (q : Q (.int (i + j)) H) : L2.rAdd (.int i) (.int j) H Q := ⟨i, j, rfl, rfl, q⟩
theorem w_rsub {i j : Int} {Q : VK} (q : Q (.int (i - j)) H) : L2.rSub (.int i) (.int j) H Q := ⟨i, j, rfl, rfl, q⟩
theorem w_aug {te : TE} {ti : TIp} (hx : σ[n]? = some (some x)) (h : te σ H fun y H1 => ti x y H1 fun z H2 => D.nx (σ.set n (some z)) H2) : tAug n te ti D σ H := ⟨x, hx, h⟩
theorem w_ip {f : Int → Int → Int} {i j : Int} {Q : VK} (q : Q (.int (f i j)) H) : ipI f (.int i) (.int j) H Q := ⟨i, j, rfl, rfl, q⟩
theorem w_rs {C : Addr} {W : WX} (h : W (.ref C) none σ H) : tRs C W D σ H := h
theorem w_par {i j : Nat} {tA : TA} (h : tA σ H fun vs H1 => ∃ v w, vs = [v, w] ∧ D.nx ((σ.set i (some v)).set j (some w)) H1) : tPar i j tA D σ H := h
/-! ### ifs -/
theorem if_d {p : Prop} [Decidable p] {A B : Prop} (h1 : p → A) (h2 : ¬ p → B) : if decide p = true then A else B := by
  by_cases h : p
  · rw [decide_eq_true h]; exact h1 h
  · rw [decide_eq_false h]; exact h2 h
theorem if_nd {p : Prop} [Decidable p] {A B : Prop} (h1 : ¬ p → A) (h2 : p → B) : if (!decide p) = true then A else B := by
  by_cases h : p
  · rw [decide_eq_true h]; exact h2 h
  · rw [decide_eq_false h]; exact h1 h
theorem if_T {A B : Prop} (h : A) : if true = true then A else B := h
theorem if_F {A B : Prop} (h : B) : if false = true then A else B := h
theorem if_nT {A B : Prop} (h : B) : if (!true) = true then A else B := h
theorem if_nF {A B : Prop} (h : A) : if (!false) = true then A else B := h
theorem if_b {b : Bool} {A B : Prop} (h1 : b = true → A) (h2 : b = false → B) : if b = true then A else B := by
  cases b
  · exact h2 rfl
  · exact h1 rfl
end
/-! ### loops -/
section
variable {K : PySem.W.Frag} {g : TG} {tb : TS} {D : Ends} {σ : L2.St} {H : Hp} {tA : TA} {tl : TE}
def LoopL (K : PySem.W.Frag) (a : Addr) (g : TG) (tb : TS) (D : Ends) (σ : L2.St) (H : Hp) : Prop := (∃ xs, SqL K H a xs) ∧ ∃ W : Nat → Nat → L2.St → Hp → Prop, (∃ m, W 0 m σ H) ∧ ∀ i m σ H, W i m σ H →
  ((Itl K a).stop i H ∧ D.nx σ H) ∨ ((Itl K a).go i H ∧ ∃ N : L2.St → Hp → Prop, (∀ σ' H', N σ' H' → ∃ m', m' < m ∧ W (i + 1) m' σ' H') ∧ ∀ x H', (Itl K a).yld i H x H' → g x σ H' fun σ2 H2 => tb { D with nx := N, ct := N, bk := D.nx } σ2 H2)
def LoopT (K : PySem.W.Frag) (a : Addr) (g : TG) (tb : TS) (D : Ends) (σ : L2.St) (H : Hp) : Prop := (∃ xs, SqT K H a xs) ∧ ∃ W : Nat → Nat → L2.St → Hp → Prop, (∃ m, W 0 m σ H) ∧ ∀ i m σ H, W i m σ H →
  ((Itt K a).stop i H ∧ D.nx σ H) ∨ ((Itt K a).go i H ∧ ∃ N : L2.St → Hp → Prop, (∀ σ' H', N σ' H' → ∃ m', m' < m ∧ W (i + 1) m' σ' H') ∧ ∀ x H', (Itt K a).yld i H x H' → g x σ H' fun σ2 H2 => tb { D with nx := N, ct := N, bk := D.nx } σ2 H2)
/-- the same words by names -/
def rLoop1 (g : TG) (tb : TS) (D : Ends) (σ : L2.St) (vs : List V) (H1 : Hp) : Prop := ∃ j : Int, vs = [.int j] ∧ -(2 ^ 62) ≤ j ∧ j < 2 ^ 62 ∧ ∃ W : Nat → Nat → L2.St → Hp → Prop, (∃ m, W 0 m σ H1) ∧ ∀ i m σ H, W i m σ H →
  ((Itr 0 j.toNat).stop i H ∧ D.nx σ H) ∨ ((Itr 0 j.toNat).go i H ∧ ∃ N : L2.St → Hp → Prop, (∀ σ' H', N σ' H' → ∃ m', m' < m ∧ W (i + 1) m' σ' H') ∧ ∀ x H', (Itr 0 j.toNat).yld i H x H' → g x σ H' fun σ2 H2 => tb { D with nx := N, ct := N, bk := D.nx } σ2 H2)
def rLoop2 (g : TG) (tb : TS) (D : Ends) (σ : L2.St) (vs : List V) (H1 : Hp) : Prop := ∃ i j : Int, vs = [.int i, .int j] ∧ (-(2 ^ 62) ≤ i ∧ i < 2 ^ 62 ∧ -(2 ^ 62) ≤ j ∧ j < 2 ^ 62) ∧ ∃ W : Nat → Nat → L2.St → Hp → Prop, (∃ m, W 0 m σ H1) ∧ ∀ k m σ H, W k m σ H →
  ((Itr i (j - i).toNat).stop k H ∧ D.nx σ H) ∨ ((Itr i (j - i).toNat).go k H ∧ ∃ N : L2.St → Hp → Prop, (∀ σ' H', N σ' H' → ∃ m', m' < m ∧ W (k + 1) m' σ' H') ∧ ∀ x H', (Itr i (j - i).toNat).yld k H x H' → g x σ H' fun σ2 H2 => tb { D with nx := N, ct := N, bk := D.nx } σ2 H2)
def rLoopL (K : PySem.W.Frag) (g : TG) (tb : TS) (D : Ends) (σ : L2.St) (x : V) (H1 : Hp) : Prop := ∃ a, x = .ref a ∧ LoopL K a g tb D σ H1
def rLoopT (K : PySem.W.Frag) (g : TG) (tb : TS) (D : Ends) (σ : L2.St) (x : V) (H1 : Hp) : Prop := ∃ a, x = .ref a ∧ LoopT K a g tb D σ H1
theorem w_forR1 (h : tA σ H fun vs H1 => rLoop1 g tb D σ vs H1) : tFor (iRng1 tA) g tb D σ H := h
theorem w_forR2 (h : tA σ H fun vs H1 => rLoop2 g tb D σ vs H1) : tFor (iRng2 tA) g tb D σ H := h
theorem w_forL (h : tl σ H fun x H1 => rLoopL K g tb D σ x H1) : tFor (iList K tl) g tb D σ H := h
theorem w_forT (h : tl σ H fun x H1 => rLoopT K g tb D σ x H1) : tFor (iTup K tl) g tb D σ H := h
/-- for i in range(n), n a Nat -/
theorem loop1 {n : Nat} (Pv : Nat → L2.St → Hp → Prop) {j : Int} (hj : j = (n : Int)) (hn : n < 4000000000) (h0 : Pv 0 σ H)
    (hs : ∀ i σ H, i < n → Pv i σ H → g (.int (i : Int)) σ H fun σ2 H2 => tb { D with nx := Pv (i + 1), ct := Pv (i + 1), bk := D.nx } σ2 H2) (hd : ∀ σ H, Pv n σ H → D.nx σ H) : rLoop1 g tb D σ [.int j] H := by
  subst hj
  refine ⟨(n : Int), rfl, by omega, by omega, for_range (lo := 0) (n := (n : Int).toNat) Pv h0 (fun i σ H hi p => ?_) (fun σ H p => hd σ H ?_)⟩
  · have e : (0 : Int) + (i : Int) = (i : Int) := Int.zero_add _
    rw [e]
    exact hs i σ H (by omega) p
  · have e : (n : Int).toNat = n := Int.toNat_natCast n
    rw [e] at p
    exact p
theorem loop2 {lo hi : Int} (Pv : Nat → L2.St → Hp → Prop) (hn : -4000000000 < lo ∧ lo < 4000000000 ∧ -4000000000 < hi ∧ hi < 4000000000) (h0 : Pv 0 σ H)
    (hs : ∀ (i : Nat) σ H, lo + i < hi → Pv i σ H → g (.int (lo + i)) σ H fun σ2 H2 => tb { D with nx := Pv (i + 1), ct := Pv (i + 1), bk := D.nx } σ2 H2) (hd : ∀ σ H, Pv (hi - lo).toNat σ H → D.nx σ H) : rLoop2 g tb D σ [.int lo, .int hi] H := by
  refine ⟨lo, hi, rfl, ⟨by omega, by omega, by omega, by omega⟩, for_range (lo := lo) (n := (hi - lo).toNat) Pv h0 (fun i σ H hi' p => hs i σ H (by omega) p) (fun σ H p => hd σ H p)⟩
theorem loopL {a : Addr} {xs : List V} (Pv : Nat → L2.St → Hp → Prop) (hx : SqL K H a xs) (h0 : Pv 0 σ H) (hl : ∀ i σ H, i ≤ xs.length → Pv i σ H → SqL K H a xs)
    (hs : ∀ i x σ H, xs[i]? = some x → Pv i σ H → g x σ H fun σ2 H2 => tb { D with nx := Pv (i + 1), ct := Pv (i + 1), bk := D.nx } σ2 H2) (hd : ∀ σ H, Pv xs.length σ H → D.nx σ H) : rLoopL K g tb D σ (.ref a) H := ⟨a, rfl, ⟨_, hx⟩, for_list Pv h0 hl hs hd⟩
theorem loopT {a : Addr} {xs : List V} (Pv : Nat → L2.St → Hp → Prop) (hx : SqT K H a xs) (h0 : Pv 0 σ H) (hl : ∀ i σ H, i ≤ xs.length → Pv i σ H → SqT K H a xs)
    (hs : ∀ i x σ H, xs[i]? = some x → Pv i σ H → g x σ H fun σ2 H2 => tb { D with nx := Pv (i + 1), ct := Pv (i + 1), bk := D.nx } σ2 H2) (hd : ∀ σ H, Pv xs.length σ H → D.nx σ H) : rLoopT K g tb D σ (.ref a) H := ⟨a, rfl, ⟨_, hx⟩, for_tup Pv h0 hl hs hd⟩
end
/-! ### heaps -/
theorem up_k {H : Hp} {a b : Addr} {o u : HO} (h : H b = some u) (n : b ≠ a) : upd H a o b = some u := (upd_ne n).trans h
theorem up_n {H : Hp} {a b : Addr} {o u : HO} (h : H b = some u) (n : H a = none) : upd H a o b = some u := up_k h (ne_of_none h n)
theorem same_new {H : Hp} {a : Addr} {o : HO} (n : H a = none) : Same H (upd H a o) := fun _ _ e => up_n e n
theorem same_trans_new {H H1 : Hp} {a : Addr} {o : HO} (s : Same H H1) (n : H1 a = none) : Same H (upd H1 a o) := fun b u e => up_n (s b u e) n
theorem seqL_new {K : PySem.W.Frag} {H : Hp} {a b : Addr} {o : HO} {xs : List V} (h : SqL K H b xs) (n : H a = none) : SqL K (upd H a o) b xs := (same_new n).seq h
theorem seqL_put {K : PySem.W.Frag} {H : Hp} {a b : Addr} {o : HO} {xs : List V} (h : SqL K H b xs) (n : a ≠ b) : SqL K (upd H a o) b xs := by
  rcases h with (h | ⟨u, h⟩) | h
  · exact .inl (.inl (up_k h n.symm))
  · exact .inl (.inr ⟨u, up_k h n.symm⟩)
  · exact .inr h
end G
namespace G
open PySem PySem.Spec PyProof.Rows L2
/-! ### the script, which nobody writes -/
/-- a list that stands still: frozen, or of the written part -/
def Scr (K : PySem.W.Frag) (H : Hp) (a : Addr) (xs : List V) : Prop := (∃ o, H a = some (.frz o (.lst xs))) ∨
    ∃ (o : Obj) (its : Array Value) (n : Nat), K.lookup a = some o ∧ o.cls = .type "list" ∧ o.dict = none ∧ o.data = .seq its n ∧ its.size ≤ sizeLine ∧ Vals xs its.toList
section
variable {K : PySem.W.Frag} {H H' : Hp} {a q : Addr} {xs : List V} {o : HO}
theorem Scr.sq (h : Scr K H a xs) : SqL K H a xs := by
  rcases h with ⟨o, h⟩ | h
  · exact .inl (.inr ⟨o, h⟩)
  · exact .inr h
theorem Scr.same (h : Scr K H a xs) (s : Same H H') : Scr K H' a xs := by
  rcases h with ⟨o, h⟩ | h
  · exact .inl ⟨o, s _ _ h⟩
  · exact .inr h
theorem Scr.of (hO : Only H) (h : SqL K H a xs) : Scr K H a xs := by
  rcases h with (h | ⟨o, h⟩) | h
  · rcases hO a with e | ⟨o, ys, e⟩
    · rw [e] at h; cases h
    · rw [e] at h; cases h
  · exact .inl ⟨o, h⟩
  · exact .inr h
theorem Scr.new (h : Scr K H a xs) (n : H q = none) : Scr K (upd H q o) a xs := h.same (same_new n)
/-- not frozen -/
def Thw (H : Hp) (q : Addr) : Prop := ∀ o u, H q ≠ some (.frz o u)
theorem Thw.lst {xs : List V} (h : H q = some (.lst xs)) : Thw H q := fun _ _ e => by rw [h] at e; cases e
theorem Thw.ins {C dx : Addr} {fs : List (Str × V)} (h : H q = some (.ins C dx fs)) : Thw H q := fun _ _ e => by rw [h] at e; cases e
theorem Scr.put (h : Scr K H a xs) (n : Thw H q) : Scr K (upd H q o) a xs := by
  rcases h with ⟨u, h⟩ | h
  · refine .inl ⟨u, up_k h ?_⟩
    intro e
    subst e
    exact n _ _ h
  · exact .inr h
/-- written objects are not frozen: what was frozen stays so -/
def FrzIn (H H' : Hp) : Prop := ∀ b o u, H b = some (.frz o u) → H' b = some (.frz o u)
theorem Scr.frz (h : Scr K H a xs) (s : FrzIn H H') : Scr K H' a xs := by
  rcases h with ⟨o, h⟩ | h
  · exact .inl ⟨o, s _ _ _ h⟩
  · exact .inr h
end
theorem up_none {H : Hp} {a b : Addr} {o : HO} (h : upd H a o b = none) : b ≠ a ∧ H b = none := by
  by_cases e : b = a
  · subst e; rw [upd_same] at h; cases h
  · rw [upd_ne e] at h; exact ⟨e, h⟩
theorem none_up {H : Hp} {a b : Addr} {o : HO} (n : b ≠ a) (h : H b = none) : upd H a o b = none := (upd_ne n).trans h
theorem if_yes {p : Prop} [Decidable p] {A B : Prop} (h : p) (q : A) : if decide p = true then A else B := by rw [decide_eq_true h]; exact q
theorem if_no {p : Prop} [Decidable p] {A B : Prop} (h : ¬ p) (q : B) : if decide p = true then A else B := by rw [decide_eq_false h]; exact q
theorem if_nyes {p : Prop} [Decidable p] {A B : Prop} (h : ¬ p) (q : A) : if (!decide p) = true then A else B := by rw [decide_eq_false h]; exact q
theorem if_nno {p : Prop} [Decidable p] {A B : Prop} (h : p) (q : B) : if (!decide p) = true then A else B := by rw [decide_eq_true h]; exact q
end G

namespace G
open PySem PySem.Spec PyProof.Rows L2
theorem w_cut {t u : TS} {D : Ends} {σ : L2.St} {H : Hp} (Mid : L2.St → Hp → Prop) (h : t { D with nx := Mid } σ H) (k : ∀ σ' H', Mid σ' H' → u D σ' H') : Evl.tCut t u D σ H := ⟨Mid, h, k⟩
theorem ixN_of {n j : Nat} {k : Int} (e : k = (j : Int)) (h : j < n) : ixN n k = some j := by
  subst e
  unfold ixN
  rw [if_pos (by omega), if_pos (by omega)]; simp
end G

namespace G
open PySem PySem.Spec PyProof.Rows L2
/-! the same, the cheap question first -/
section
variable {K : PySem.W.Frag} {H : Hp} {a b q : Addr} {o u : HO} {xs : List V}
theorem up_k' (n : b ≠ a) (h : H b = some u) : upd H a o b = some u := up_k h n
theorem scr_new' (n : H q = none) (h : Scr K H a xs) : Scr K (upd H q o) a xs := h.new n
theorem scr_put' (n : Thw H q) (h : Scr K H a xs) : Scr K (upd H q o) a xs := h.put n
theorem sq_new' (n : H a = none) (h : SqL K H b xs) : SqL K (upd H a o) b xs := seqL_new h n
theorem sq_put' (n : a ≠ b) (h : SqL K H b xs) : SqL K (upd H a o) b xs := seqL_put h n
end
end G

namespace G
open PySem PySem.Spec PyProof.Rows L2
section
variable {H : Hp} {Q : VK} {i : Int} {a : Addr} {b : Bool} {z : Str}
theorem w_isN0 (q : Q (.bl true) H) : rIsN .non .non H Q := ⟨rfl, q⟩
theorem w_isNi (q : Q (.bl false) H) : rIsN (.int i) .non H Q := ⟨rfl, q⟩
theorem w_isNr (q : Q (.bl false) H) : rIsN (.ref a) .non H Q := ⟨rfl, q⟩
theorem w_isNb (q : Q (.bl false) H) : rIsN (.bl b) .non H Q := ⟨rfl, q⟩
theorem w_isNs (q : Q (.bl false) H) : rIsN (.str z) .non H Q := ⟨rfl, q⟩
theorem w_notN0 (q : Q (.bl false) H) : rNotN .non .non H Q := ⟨rfl, q⟩
theorem w_notNi (q : Q (.bl true) H) : rNotN (.int i) .non H Q := ⟨rfl, q⟩
theorem w_notNr (q : Q (.bl true) H) : rNotN (.ref a) .non H Q := ⟨rfl, q⟩
theorem w_notNb (q : Q (.bl true) H) : rNotN (.bl b) .non H Q := ⟨rfl, q⟩
theorem w_notNs (q : Q (.bl true) H) : rNotN (.str z) .non H Q := ⟨rfl, q⟩
end
end G

/-! properties, own ==, isinstance, further facts of the head -/
namespace G
open PySem PySem.Spec PyProof.Rows L2

/-! ### the Hook with getters and any Bool facts -/
/-- where a property's getter stands -/
def prA (K : PySem.W.Frag) (C f : Str) : Addr := match PySem.W.recIn K (He.ma K (He.ga K C) f) "property" with
  | some (.ref g :: _) => g
  | _ => 0
structure Pr where
  cls : Str
  fld : Str
  d : He.DefD
def fnWA (K : PySem.W.Frag) (a : Addr) : He.FnW := match K.lookup a with
  | some ⟨_, _, .func fd, _⟩ => some (fd.name, fd.qualname, fd.params, fd.body, fd.scope, fd.globals, fd.closure, fd.builtins)
  | _ => none
def okA (K : PySem.W.Frag) (a : Addr) (d : He.DefD) : Bool := PySem.W.keepIn K (.ref a) && (match K.lookup a with
  | some ⟨_, _, .func fd, _⟩ => PySem.W.codeIn K fd.code d.qual && (He.dflB K fd.defaults (d.dvs K) && He.kwdB K fd.kwdefaults (d.kws K))
  | _ => false)
theorem funD_A {K : PySem.W.Frag} {d : He.DefD} {a : Addr} (e : fnWA K a = d.val) (c : okA K a d = true) : ∃ fd, FunD K d.name d.qual d.params d.body d.scope (d.dvs K) (d.kws K) a fd := by
  obtain ⟨kp, c2⟩ := He.ba c
  unfold fnWA at e
  cases q : K.lookup a with
  | none =>
    rw [q] at c2
    cases c2
  | some o =>
    obtain ⟨oc, od, dt, osl⟩ := o
    rw [q] at c2 e
    cases dt with
    | func fd =>
      obtain ⟨n1, n2, n3, n4, n5, n6, n7, n8, n9, n10, n11, n12, n13, n14, n15⟩ := fd
      have e2 : (some (n1, n2, n3, n4, n5, n6, n7, n15) : He.FnW) = some (d.name, d.qual, d.params, .stmts d.body, d.scope, mainGlobals, [], builtinsNs) := e
      simp only [Option.some.injEq, Prod.mk.injEq] at e2
      obtain ⟨h1, h2, h3, h4, h5, h6, h7, h8⟩ := e2
      subst h1 h2 h3 h4 h5 h6 h7 h8
      have c3 : (PySem.W.codeIn K n13 d.qual && (He.dflB K n8 (d.dvs K) && He.kwdB K n9 (d.kws K))) = true := c2
      obtain ⟨k1, k2⟩ := He.ba c3
      obtain ⟨k3, k4⟩ := He.ba k2
      exact ⟨_, ⟨oc, od, n8, n9, n10, n11, n12, n13, n14, osl, rfl, q, k1, He.dflB_ok k3, He.kwdB_ok k4⟩, kp⟩
    | _ => cases c2
def Pr.ok (K : PySem.W.Frag) (p : Pr) : Bool :=
  He.eqO (PySem.W.findIn K (.ref (He.ga K p.cls)) p.fld) (some (some (.ref (He.ma K (He.ga K p.cls) p.fld)))) &&
  (He.eqO (PySem.W.specialIn K (.ref (He.ma K (He.ga K p.cls) p.fld)) "__get__") (some (some (.builtin "property.__get__"))) &&
  (decide (PySem.W.takesIn K (.ref (He.ma K (He.ga K p.cls) p.fld)) = some true) &&
  ((match PySem.W.recIn K (He.ma K (He.ga K p.cls) p.fld) "property" with
    | some (.ref _ :: _) => true
    | _ => false) && okA K (prA K p.cls p.fld) p.d)))
theorem Pr.prop {K : PySem.W.Frag} {p : Pr} (h : p.ok K = true) : PropOf K (He.ga K p.cls) p.fld (He.ma K (He.ga K p.cls) p.fld) (prA K p.cls p.fld) ∧ okA K (prA K p.cls p.fld) p.d = true := by
  obtain ⟨h1, h⟩ := He.ba h
  obtain ⟨h2, h⟩ := He.ba h
  obtain ⟨h3, h⟩ := He.ba h
  obtain ⟨h4, h5⟩ := He.ba h
  refine ⟨⟨He.eqO_ok h1, He.eqO_ok h2, of_decide_eq_true h3, ?_⟩, h5⟩
  unfold prA
  split at h4
  · rename_i g rest q
    rw [q]
    exact ⟨rest, rfl⟩
  · cases h4

abbrev AlB : Type := (He.AlD × List He.FnW) × Bool
abbrev Ex : Type := PySem.W.Frag → Bool
def obsB (fa : List He.Fa) (fn : List He.DefD) (pr : List Pr) (ex : List Ex) (K : PySem.W.Frag) : AlB := ((He.obsD fa fn K, pr.map fun p => fnWA K (prA K p.cls p.fld)), (pr.all fun p => p.ok K) && ex.all fun f => f K)
def valB (fn : List He.DefD) (pr : List Pr) : AlB := ((He.valD fn, pr.map fun p => p.d.val), true)
def SaysB (fa : List He.Fa) (fn : List He.DefD) (pr : List Pr) (ex : List Ex) (K : PySem.W.Frag) : Prop := obsB fa fn pr ex K = valB fn pr
def obsBG (n : Nat) (fa : List He.Fa) (fn : List He.DefD) (pr : List Pr) (ex : List Ex) (g : Addr → Option Obj) : AlB := obsB fa fn pr ex (He.frG g (He.asD g n))
def hookB (n : Nat) (fa : List He.Fa) (fn : List He.DefD) (pr : List Pr) (ex : List Ex) : PySem.W.Hook where
  α := AlB
  obs := fun s => obsBG n fa fn pr ex s.heap.get?
  val := fun _ => valB fn pr
  says := fun _ h => ∃ K : PySem.W.Frag, K.In h ∧ SaysB fa fn pr ex K
  of := fun _ _ e => ⟨_, He.frG_in, e⟩
  keeps := fun _ _ _ ⟨K, hK, c⟩ k => ⟨K, PySem.W.Frag.In.keeps hK k, c⟩
theorem obsBG_eq {n : Nat} {fa : List He.Fa} {fn : List He.DefD} {pr : List Pr} {ex : List Ex} {g : Addr → Option Obj} {s : Shared} (h : ∀ a, g a = s.heap.get? a) : obsBG n fa fn pr ex g = (hookB n fa fn pr ex).obs s := by
  have e : g = s.heap.get? := funext h
  rw [e] <;> rfl
section
variable {fa : List He.Fa} {fn : List He.DefD} {pr : List Pr} {ex : List Ex} {K : PySem.W.Frag}
theorem SaysB.d (c : SaysB fa fn pr ex K) : He.SaysD fa fn K := congrArg (fun z : AlB => z.1.1) c
theorem SaysB.ex_ (c : SaysB fa fn pr ex K) (i : Nat) {f : Ex} (h : ex[i]? = some f := by rfl) : f K = true := by
  have c1 := (He.ba (show ((pr.all fun p => p.ok K) && ex.all fun f => f K) = true from congrArg (fun z : AlB => z.2) c)).2
  exact List.all_eq_true.mp c1 f (List.mem_of_getElem? h)
theorem SaysB.pr_ (c : SaysB fa fn pr ex K) (i : Nat) {p : Pr} (h : pr[i]? = some p := by rfl) :
    PropOf K (He.ga K p.cls) p.fld (He.ma K (He.ga K p.cls) p.fld) (prA K p.cls p.fld) ∧ ∃ fd, FunD K p.d.name p.d.qual p.d.params p.d.body p.d.scope (p.d.dvs K) (p.d.kws K) (prA K p.cls p.fld) fd := by
  have c1 := (He.ba (show ((pr.all fun p => p.ok K) && ex.all fun f => f K) = true from congrArg (fun z : AlB => z.2) c)).1
  obtain ⟨a, b⟩ := Pr.prop (List.all_eq_true.mp c1 p (List.mem_of_getElem? h))
  have e : pr.map (fun p => fnWA K (prA K p.cls p.fld)) = pr.map fun p => p.d.val := congrArg (fun z : AlB => z.1.2) c
  have e2 : (pr.map fun p => fnWA K (prA K p.cls p.fld))[i]? = (pr.map fun p => p.d.val)[i]? := by rw [e]
  rw [List.getElem?_map, List.getElem?_map, h] at e2
  exact ⟨a, funD_A (Option.some.inj e2) b⟩
end
/-- the head's facts, with getters and Bools -/
structure TxB (fa : List He.Fa) (fn : List He.DefD) (pr : List Pr) (ex : List Ex) (K : PySem.W.Frag) (mg : Str → Option Value) (base : Heap) : Prop extends Tx fa fn K mg base where
  b : SaysB fa fn pr ex K

/-! ### properties -/
section
variable (P : Program) (w : World) (K : PySem.W.Frag) (mg : Str → Option Value) (base : Heap)
structure HasP (k : Nat) (c f : Str) (ps : List Str) (sp : Sp) : Prop where
  cl : Cls K (He.ga K c)
  pr : PropOf K (He.ga K c) f (He.ma K (He.ga K c) f) (prA K c f)
  ex : ∃ fd, FnOk P w K mg base (L2.CX P w) k (prA K c f) fd ps sp ∧ Binds K fd ps []
end
theorem HasP.mono {P : Program} {w : World} {K : PySem.W.Frag} {mg : Str → Option Value} {base : Heap} {j k : Nat} {c f : Str} {ps : List Str} {sp : Sp} (h : HasP P w K mg base j c f ps sp) (l : j ≤ k) : HasP P w K mg base k c f ps sp :=
  ⟨h.cl, h.pr, let ⟨fd, F, b⟩ := h.ex; ⟨fd, F.mono l, b⟩⟩
/-- e.f -/
def tPr (C : Addr) (sp : Sp) (ta : TE) : TE := fun σ H Q => ta σ H fun x H1 => ∃ a dx fs, x = .ref a ∧ H1 a = some (.ins C dx fs) ∧ sp [.ref a] H1 Q E0
section
variable {X : Cx} {k : Nat} {C p g a dx : Addr} {fs : List (Str × V)} {c f : Str} {fd : FuncData} {ps : List Str} {sp : Sp} {E : L2.St → XK} {e : Expr} {pos : Pos} {ta : TE}
theorem getprop_okS {pins : List (Addr × Obj)} {σ : L2.St} {H : Hp} {s : Shared} {Q : VK} {b : Bool} (I : Inv X pins σ H s) (ea : H a = some (.ins C dx fs)) (c : Cls X.K C) (hp : PropOf X.K C f p g)
    (F : FnOk X.prog X.w X.K X.mg X.base (XC X) k g fd ps sp) (hr : Room (k + 1) X.A) (hb : Binds X.K fd ps []) (h : sp [.ref a] H Q E0) :
    wpAny (model X.prog X.w) X.A (getAttr (.ref a) f b) (EP X pins σ Q) X.xe s := by
  obtain ⟨mA, O, _, _, _, _⟩ := ins_get I.hok ea
  obtain ⟨od, J, _⟩ := O.look
  obtain ⟨rest, hrec⟩ := hp.rec_
  have I1 := I.tok (s.toks + 1)
  have hl : ([Value.ref a] ++ ([] : List Value)).length = ps.length := by
    rw [← F.len _ _ _ _ h]
    rfl
  have hc : (PySem.W.clsIn X.K C).isSome = true := by
    obtain ⟨cd, hc, _⟩ := PySem.W.any_some c.hd
    rw [hc]
    rfl
  refine PySem.W.get_bind I.kIn J (PySem.W.plainGet_of (c.get f)).1 (PySem.W.findObj_data hc hp.at_ hp.get hp.tak) (PySem.W.plainGet_of (c.get f)).2 (wpAny_call (PySem.W.prop_get (s := { s with toks := s.toks + 1 }) I.kIn hrec ?_))
  refine codeAny_mono (F.run X.A.in1 X.stack { s with toks := s.toks + 1 } H ⟨[.ref a], []⟩ [.ref a] [.ref a] Q E0 hr.in1 I1.env0.in1 (hb _ [.ref a] I1.kIn hl) (.cons rfl .nil) h) fun r s' hq => ?_
  cases r with
  | error er =>
    obtain ⟨_, _, _, _, _, _, _, _, _, _, _, _, z⟩ := hq
    exact z.elim
  | ok fl =>
    cases fl with
    | ret u =>
      obtain ⟨v, H', I3, rv, q3⟩ := I1.after hq
      show wpAny _ _ (handedOut u) _ _ _
      rw [PySem.W.handedOut_of (handed_of rv)]
      exact wpAny_pure ⟨v, H', I3, rv, q3⟩
    | next => exact False.elim hq
    | brk => exact False.elim hq
    | cont => exact False.elim hq
theorem pe_pr (he : PE X e ta) (h : HasP X.prog X.w X.K X.mg X.base k c f ps sp) (hr : Room (k + 1) X.A)
    (hab : attributeBase e f X.env (eval e X.env) = eval e X.env := by rfl) : PE X (.Attribute e f pos) (tPr (He.ga X.K c) sp ta) := by
  obtain ⟨fd, F, b⟩ := h.ex
  refine ⟨fun pins s σ H Q I hh => ?_⟩
  refine attr_of hab (thn (he.run pins s σ H _ I hh) fun u s1 ⟨x, H1, I1, rx, a, dx, fs, ex, ea, q⟩ => ?_)
  subst ex
  obtain rfl : u = Value.ref a := rx
  exact getprop_okS I1 ea h.cl h.pr F hr b q
end
theorem mk_hasP {P : Program} {w : World} {K : PySem.W.Frag} {mg : Str → Option Value} {base : Heap} {k : Nat} {c m name qual : Str} {params : Arguments} {body : List Stmt} {scope : Scope} {N ps : List Str} {sp : Sp} (cl : Cls K (He.ga K c))
    (F : PropOf K (He.ga K c) m (He.ma K (He.ga K c) m) (prA K c m) ∧ ∃ fd, FunD K name qual params body scope [] [] (prA K c m) fd) (S : FnScope N ps scope)
    (hb : ∀ (kV doc pm : Value) (an : Option Addr) (cdv ct : Value) (us : List Value), us.length = ps.length → bindArgs (PySem.W.fnOf name qual params body scope .none kV doc pm an cdv ct) ⟨us, []⟩ = pure (ps.zip us))
    (len : ∀ vs H Q E, sp vs H Q E → vs.length = ps.length) (hbody : Body P w K mg base k N qual scope (prA K c m) body sp) : HasP P w K mg base (k + 1) c m ps sp := by
  obtain ⟨pr, fd, F⟩ := F
  exact ⟨cl, pr, fd, FunD.ok (CX := L2.CX P w) F S len hbody, F.bindsN hb⟩
section
variable {K : PySem.W.Frag} {σ : L2.St} {H : Hp} {Q : VK} {ta : TE}
theorem w_pr {C : Addr} {sp : Sp} (h : ta σ H fun x H1 => ∃ a dx fs, x = .ref a ∧ H1 a = some (.ins C dx fs) ∧ sp [.ref a] H1 Q E0) : tPr C sp ta σ H Q := h
theorem w_pr1 {a C dx : Addr} {fs : List (Str × V)} {P : Addr → Prop} (h : H a = some (.ins C dx fs)) (q : P a) : ∃ a' dx' fs', V.ref a = .ref a' ∧ H a' = some (.ins C dx' fs') ∧ P a' := ⟨a, dx, fs, rfl, h, q⟩
end

/-! ### own == -/
/-- what the right side of == may be: its type -/
def tyR (K : PySem.W.Frag) (H : Hp) (y : V) (t : Value) : Prop := (∃ C dx fs b, y = .ref b ∧ H b = some (.ins C dx fs) ∧ t = .ref C) ∨ ((∃ i, y = .int i) ∧ t = .type "int") ∨ (y = .non ∧ t = .type "NoneType") ∨ ((∃ x, y = .str x) ∧ t = .type "str") ∨
  ((∃ b, y = .bl b) ∧ t = .type "bool") ∨ (∃ a xs, y = .ref a ∧ H a = some (.lst xs) ∧ t = .type "list") ∨ (∃ a xs, y = .ref a ∧ H a = some (.tup xs) ∧ t = .type "tuple")
def rOwn (K : PySem.W.Frag) (C : Addr) (sp : Sp) : R2 := fun x y H Q => ∃ a dx fs t, x = .ref a ∧ H a = some (.ins C dx fs) ∧ tyR K H y t ∧ PySem.W.notFirst K C t = true ∧ sp [.ref a, y] H (fun v H' => ∃ b, v = .bl b ∧ Q (.bl b) H') E0
section
variable {X : Cx} {k : Nat} {c : Str} {ps : List Str} {sp : Sp}
theorem op_own (h : HasM X.prog X.w X.K X.mg X.base k c "__eq__" ps sp) (hr : Room k X.A) : OpR X (compareOp .Eq) (rOwn X.K (He.ga X.K c) sp) := by
  intro pins s σ H x y v u Q I rx ry hq
  obtain ⟨fd, F, hb⟩ := h.ex
  obtain ⟨a, dx, fs, t, ex, ea, ty, nf, q⟩ := hq
  subst ex
  obtain rfl : v = Value.ref a := rx
  obtain ⟨mA, J, _⟩ := ins_get I.hok ea
  obtain ⟨od, J, _⟩ := J.look
  obtain ⟨m, hF⟩ := I.fr
  have L : PySem.W.Looks (model X.prog X.w) s.heap (typeOf u) t := by
    rcases ty with ⟨C', dy, gs, b, rfl, eb, rfl⟩ | ⟨⟨i, rfl⟩, rfl⟩ | ⟨rfl, rfl⟩ | ⟨⟨i, rfl⟩, rfl⟩ | ⟨⟨i, rfl⟩, rfl⟩ | ⟨b, xs, rfl, eb, rfl⟩ | ⟨b, xs, rfl, eb, rfl⟩
    · obtain rfl : u = Value.ref b := ry
      obtain ⟨mB, J', _⟩ := ins_get I.hok eb
      obtain ⟨od', J', _⟩ := J'.look
      exact J'.type
    · obtain ⟨t, rfl⟩ := (show ∃ t, u = Value.int i t from ry)
      exact .now
    · obtain rfl := (show u = Value.none from ry)
      exact .now
    · obtain ⟨t, rfl⟩ := (show ∃ t, u = Value.str i t from ry)
      exact .now
    · obtain rfl := (show u = Value.bool i from ry)
      exact .now
    · obtain rfl : u = Value.ref b := ry
      obtain ⟨_, _, n, _, h1⟩ := (show ObjOk X.prog X.w H s.heap b (.lst xs) from I.hok b _ eb)
      exact (PySem.W.Looks.ld (part := none) h1).andThen .now
    · obtain rfl : u = Value.ref b := ry
      obtain ⟨_, _, _, o, h1, h2, _⟩ := (show ObjOk X.prog X.w H s.heap b (.tup xs) from I.hok b _ eb)
      refine (PySem.W.Looks.ld (part := none) h1).andThen ?_
      rw [h2]
      exact .now
  show wpAny (model X.prog X.w) X.A (richCompare .Eq (.ref a) u) (EP X pins σ Q) X.xe s
  refine PySem.W.cmp_K (op := .Eq) hr.units0 hF I.ok.mod.kin J L nf h.me.at_ h.me.fn ?_
  have hl := F.len _ _ _ _ q
  have r2 : Vals [V.ref a, y] [Value.ref a, u] := .cons rfl (.cons ry .nil)
  refine wpAny_call (codeAny_mono (F.run X.A X.stack s H ⟨[.ref a, u], []⟩ [.ref a, u] [.ref a, y] _ E0 hr I.env0 (by
    have := hb s [.ref a, u] I.kIn (by simpa using hl)
    simpa using this) r2 q) fun r s' hq => ?_)
  cases r with
  | error e => exact passZ σ pins H s e s' I hq
  | ok fl =>
    cases fl with
    | ret w =>
      obtain ⟨z, H', I', rz, b, ez, ex⟩ := I.after hq
      subst ez
      obtain rfl : w = Value.bool b := rz
      exact ⟨.bl b, H', I', rfl, ex⟩
    | next => exact False.elim hq
    | brk => exact False.elim hq
    | cont => exact False.elim hq
end
section
variable {K : PySem.W.Frag} {H : Hp} {Q : VK} {y : V} {sp : Sp}
theorem w_own {C a dx : Addr} {fs : List (Str × V)} {t : Value} (h : H a = some (.ins C dx fs)) (ty : tyR K H y t) (nf : PySem.W.notFirst K C t = true) (q : sp [.ref a, y] H (fun v H' => ∃ b, v = .bl b ∧ Q (.bl b) H') E0) : rOwn K C sp (.ref a) y H Q :=
  ⟨a, dx, fs, t, rfl, h, ty, nf, q⟩
theorem tyR_ins {b C dx : Addr} {fs : List (Str × V)} (h : H b = some (.ins C dx fs)) : tyR K H (.ref b) (.ref C) := .inl ⟨C, dx, fs, b, rfl, h, rfl⟩
theorem tyR_lst {b : Addr} {xs : List V} (h : H b = some (.lst xs)) : tyR K H (.ref b) (.type "list") := .inr (.inr (.inr (.inr (.inr (.inl ⟨b, xs, rfl, h, rfl⟩)))))
theorem tyR_tup {b : Addr} {xs : List V} (h : H b = some (.tup xs)) : tyR K H (.ref b) (.type "tuple") := .inr (.inr (.inr (.inr (.inr (.inr ⟨b, xs, rfl, h, rfl⟩)))))
theorem nf_same {C : Addr} : PySem.W.notFirst K C (.ref C) = true := by
  unfold PySem.W.notFirst
  have e : ((Value.ref C) == (Value.ref C)) = true := beq_self_eq_true _
  rw [e]
  rfl
end

/-! ### isinstance -/
/-- what an own class has for isinstance of its instances -/
structure InsC (K : PySem.W.Frag) (C : Addr) : Prop where
  cl : Cls K C
  ha : PySem.W.findIn K (.ref C) "__class__" = some (some (.builtin "object.__class__"))
  hn : PySem.W.specialIn K (.builtin "object.__class__") "__get__" = some (some (.builtin "getset_descriptor.__get__"))
  ht : PySem.W.takesIn K (.builtin "object.__class__") = some true
  hm : PySem.W.mroIn K C (.type "object") = some true
def insB (c : Str) : Ex := fun K => He.Fa.ok K (.cls c) && (He.eqO (PySem.W.findIn K (.ref (He.ga K c)) "__class__") (some (some (.builtin "object.__class__"))) &&
  (He.eqO (PySem.W.specialIn K (.builtin "object.__class__") "__get__") (some (some (.builtin "getset_descriptor.__get__"))) &&
  (decide (PySem.W.takesIn K (.builtin "object.__class__") = some true) && decide (PySem.W.mroIn K (He.ga K c) (.type "object") = some true))))
theorem insB_ok {K : PySem.W.Frag} {c : Str} (h : insB c K = true) : InsC K (He.ga K c) := by
  obtain ⟨h0, h⟩ := He.ba h
  obtain ⟨h1, h⟩ := He.ba h
  obtain ⟨h2, h⟩ := He.ba h
  obtain ⟨h3, h4⟩ := He.ba h
  exact ⟨He.cls_ok h0, He.eqO_ok h1, He.eqO_ok h2, of_decide_eq_true h3, of_decide_eq_true h4⟩
/-- isinstance of a built-in type's values and an own class; of an own class's instances and a class -/
def kitTB (t : String) (c : Str) (b : Bool) : Ex := fun K => decide (PySem.W.kitOne K (.type t) (.ref (He.ga K c)) = some b)
def kitOB (c d : Str) (b : Bool) : Ex := fun K => decide (PySem.W.kitOne K (.ref (He.ga K c)) (.ref (He.ga K d)) = some b)
def kitUB (c : Str) (t : String) (b : Bool) : Ex := fun K => decide (PySem.W.kitOne K (.ref (He.ga K c)) (.type t) = some b)
def nfB (c : Str) (t : String) : Ex := fun K => PySem.W.notFirst K (He.ga K c) (.type t)
def nfOB (c d : Str) : Ex := fun K => PySem.W.notFirst K (He.ga K c) (.ref (He.ga K d))
def tupX (x : Str) (vs : List He.Dv) : Ex := fun K => He.tupB K x vs
def lstX (x : Str) (vs : List He.Dv) : Ex := fun K => He.lstB K x vs
def excCB (c : Str) : Ex := fun K => He.eqO (PySem.W.findIn K (.ref (He.ga K c)) "__getattribute__") (some (some (.builtin "BaseException.__getattribute__"))) &&
  (He.eqO (PySem.W.findIn K (.ref (He.ga K c)) "__getattr__") (some none) && (decide (PySem.W.subIn K (.ref (He.ga K c)) (.type "BaseException") = some true) && (PySem.W.hasDictIn K (He.ga K c) &&
  (He.eqO (PySem.W.findIn K (.ref (He.ga K c)) "__class__") (some (some (.builtin "object.__class__"))) && (He.eqO (PySem.W.specialIn K (.builtin "object.__class__") "__get__") (some (some (.builtin "getset_descriptor.__get__"))) &&
  (decide (PySem.W.takesIn K (.builtin "object.__class__") = some true) && decide (PySem.W.mroIn K (He.ga K c) (.type "object") = some true)))))))
theorem excCB_ok {K : PySem.W.Frag} {c : Str} (h : excCB c K = true) : ExcC K (He.ga K c) := by
  obtain ⟨h1, h⟩ := He.ba h
  obtain ⟨h2, h⟩ := He.ba h
  obtain ⟨h3, h⟩ := He.ba h
  obtain ⟨h4, h⟩ := He.ba h
  obtain ⟨h5, h⟩ := He.ba h
  obtain ⟨h6, h⟩ := He.ba h
  obtain ⟨h7, h8⟩ := He.ba h
  exact ⟨He.eqO_ok h1, He.eqO_ok h2, of_decide_eq_true h3, h4, He.eqO_ok h5, He.eqO_ok h6, of_decide_eq_true h7, of_decide_eq_true h8⟩
/-- isinstance(e, c) in a suite -/
def rIsX (K : PySem.W.Frag) (a : Addr) (clX : Value) (dX : Option Addr) : List V → Hp → VK → Prop := fun xs H Q => ∃ (D : Addr) (c : V) (cv : Value) (b : Bool), clX = .ref D ∧ dX = none ∧ ExcC K D ∧ xs = [.ref a, c] ∧ ClsV c cv ∧ PySem.W.kitOne K (.ref D) cv = some b ∧ Q (.bl b) H
theorem call_isX {X : Cx} {a : Addr} {clX : Value} {dX : Option Addr} {oe : Obj} {pn : List (Addr × Obj)} (hz : Zc clX dX oe) (hf : ∃ vs, oe.data = .fields vs) : CallR (X.suite a ((a, oe) :: pn)) (.builtin "isinstance") (rIsX X.K a clX dX) := by
  intro pins s σ H xs us Q I r h
  obtain ⟨D, c, cv, b, e1, e2, C, ex, hc, k, q⟩ := h
  subst e1 e2
  exact call_isE C hz hf pins s σ H xs us Q I r ⟨c, cv, b, ex, fun u ru => hc.eq ru, k, q⟩
section
variable {K : PySem.W.Frag} {σ : L2.St} {H : Hp} {Q : VK}
theorem w_isX {a D : Addr} {c : V} {cv : Value} {b : Bool} (C : ExcC K D) (hc : ClsV c cv) (k : PySem.W.kitOne K (.ref D) cv = some b) (q : Q (.bl b) H) : rIsX K a (.ref D) none [.ref a, c] H Q := ⟨D, c, cv, b, rfl, rfl, C, rfl, hc, k, q⟩
theorem w_isi {x c : V} {t u : Value} {b : Bool} (k : ClsV c u) (ty : TyX K H x t) (e : PySem.W.kitOne K t u = some b) (q : Q (.bl b) H) : rIsi K [x, c] H Q := ⟨x, c, t, u, b, rfl, k, ty, e, q⟩
theorem w_isi_ii {i : Int} (q : Q (.bl true) H) : rIsi K [.int i, .ty "int"] H Q := w_isi (.ty _) (.base (.int _)) (kit_ty (by decide +kernel)) q
theorem w_isi_ib {i : Int} (q : Q (.bl false) H) : rIsi K [.int i, .ty "bool"] H Q := w_isi (.ty _) (.base (.int _)) (kit_ty (by decide +kernel)) q
theorem w_isi_is {i : Int} (q : Q (.bl false) H) : rIsi K [.int i, .ty "str"] H Q := w_isi (.ty _) (.base (.int _)) (kit_ty (by decide +kernel)) q
theorem w_isi_il {i : Int} (q : Q (.bl false) H) : rIsi K [.int i, .ty "list"] H Q := w_isi (.ty _) (.base (.int _)) (kit_ty (by decide +kernel)) q
theorem w_isi_it {i : Int} (q : Q (.bl false) H) : rIsi K [.int i, .ty "tuple"] H Q := w_isi (.ty _) (.base (.int _)) (kit_ty (by decide +kernel)) q
theorem w_isi_bi {i : Bool} (q : Q (.bl true) H) : rIsi K [.bl i, .ty "int"] H Q := w_isi (.ty _) (.base (.bl _)) (kit_ty (by decide +kernel)) q
theorem w_isi_bb {i : Bool} (q : Q (.bl true) H) : rIsi K [.bl i, .ty "bool"] H Q := w_isi (.ty _) (.base (.bl _)) (kit_ty (by decide +kernel)) q
theorem w_isi_ss {i : Str} (q : Q (.bl true) H) : rIsi K [.str i, .ty "str"] H Q := w_isi (.ty _) (.base (.str _)) (kit_ty (by decide +kernel)) q
theorem w_isi_sl {i : Str} (q : Q (.bl false) H) : rIsi K [.str i, .ty "list"] H Q := w_isi (.ty _) (.base (.str _)) (kit_ty (by decide +kernel)) q
theorem w_isi_st {i : Str} (q : Q (.bl false) H) : rIsi K [.str i, .ty "tuple"] H Q := w_isi (.ty _) (.base (.str _)) (kit_ty (by decide +kernel)) q
theorem w_isi_nl (q : Q (.bl false) H) : rIsi K [.non, .ty "list"] H Q := w_isi (.ty _) (.base .non) (kit_ty (by decide +kernel)) q
theorem w_isi_nt (q : Q (.bl false) H) : rIsi K [.non, .ty "tuple"] H Q := w_isi (.ty _) (.base .non) (kit_ty (by decide +kernel)) q
theorem w_isi_ll {a : Addr} {xs : List V} (h : H a = some (.lst xs)) (q : Q (.bl true) H) : rIsi K [.ref a, .ty "list"] H Q := w_isi (.ty _) (.base (.lst h)) (kit_ty (by decide +kernel)) q
theorem w_isi_lt {a : Addr} {xs : List V} (h : H a = some (.lst xs)) (q : Q (.bl false) H) : rIsi K [.ref a, .ty "tuple"] H Q := w_isi (.ty _) (.base (.lst h)) (kit_ty (by decide +kernel)) q
theorem w_isi_li {a : Addr} {xs : List V} (h : H a = some (.lst xs)) (q : Q (.bl false) H) : rIsi K [.ref a, .ty "int"] H Q := w_isi (.ty _) (.base (.lst h)) (kit_ty (by decide +kernel)) q
theorem w_isi_tt {a : Addr} {xs : List V} (h : H a = some (.tup xs)) (q : Q (.bl true) H) : rIsi K [.ref a, .ty "tuple"] H Q := w_isi (.ty _) (.base (.tup h)) (kit_ty (by decide +kernel)) q
theorem w_isi_tl {a : Addr} {xs : List V} (h : H a = some (.tup xs)) (q : Q (.bl false) H) : rIsi K [.ref a, .ty "list"] H Q := w_isi (.ty _) (.base (.tup h)) (kit_ty (by decide +kernel)) q
theorem w_isi_own {a C dx : Addr} {fs : List (Str × V)} {c : V} {u : Value} {b : Bool} (h : H a = some (.ins C dx fs)) (i : InsC K C) (k : ClsV c u) (e : PySem.W.kitOne K (.ref C) u = some b) (q : Q (.bl b) H) : rIsi K [.ref a, c] H Q :=
  w_isi k (.base (.ins h i.cl i.ha i.hn i.ht i.hm)) e q
end
end G

/-! == of lists and tuples, by data -/
namespace G
open PySem PySem.Spec PyProof.Rows L2
abbrev rIsB : R2 := fun x y H Q => ∃ a b, x = .bl a ∧ y = .bl b ∧ Q (.bl (decide (a = b))) H
abbrev rNotB : R2 := fun x y H Q => ∃ a b, x = .bl a ∧ y = .bl b ∧ Q (.bl (!decide (a = b))) H
section
variable {K : PySem.W.Frag} {H : Hp} {Q : VK} {x y : V} {d e : PyData} {xs ys : List Int} {a b : Addr}
theorem w_isB {p q : Bool} (h : Q (.bl (decide (p = q))) H) : rIsB (.bl p) (.bl q) H Q := ⟨p, q, rfl, rfl, h⟩
theorem w_notB {p q : Bool} (h : Q (.bl (!decide (p = q))) H) : rNotB (.bl p) (.bl q) H Q := ⟨p, q, rfl, rfl, h⟩
theorem dp_ints : ∀ xs : List Int, DpAll K H (xs.map V.int) (xs.map PyData.int)
  | [] => .nil
  | x :: xs => .cons (.int x) (dp_ints xs)
theorem eqv_ints : ∀ xs ys : List Int, PyData.eqvAll (xs.map PyData.int) (ys.map PyData.int) = decide (xs = ys)
  | [], [] => by simp [PyData.eqvAll]
  | [], y :: ys => by simp [PyData.eqvAll]
  | x :: xs, [] => by simp [PyData.eqvAll]
  | x :: xs, y :: ys => by
    have h := eqv_ints xs ys
    show (PyData.eqv (.int x) (.int y) && PyData.eqvAll (xs.map PyData.int) (ys.map PyData.int)) = _
    rw [h]
    unfold PyData.eqv
    by_cases h1 : x = y <;> by_cases h2 : xs = ys <;> simp [h1, h2]
theorem lay_ints : ∀ xs : List Int, PyData.canLayAll0 (xs.map PyData.int) = true
  | [] => rfl
  | x :: xs => by
    show (PyData.canLay0 (.int x) && PyData.canLayAll0 (xs.map PyData.int)) = true
    rw [lay_ints xs]
    rfl
theorem depth_ints : ∀ xs : List Int, PyData.depthAll (xs.map PyData.int) = 0
  | [] => by simp [PyData.depthAll]
  | x :: xs => by
    have h := depth_ints xs
    simp only [List.map_cons, PyData.depthAll, PyData.depth, h]
    rfl
theorem shaped_li : SeqAt.shaped (.list (xs.map PyData.int)) = true := by
  unfold SeqAt.shaped
  have h := lay_ints xs
  have h2 := depth_ints xs
  simp [PyData.canLay0, PyData.depth, h, h2]
theorem shaped_ti : SeqAt.shaped (.tuple (xs.map PyData.int)) = true := by
  unfold SeqAt.shaped
  have h := lay_ints xs
  have h2 := depth_ints xs
  simp [PyData.canLay0, PyData.depth, h, h2]
theorem w_eqLI (h1 : SqL K H a (xs.map V.int)) (h2 : SqL K H b (ys.map V.int)) (q : Q (.bl (decide (xs = ys))) H) : rEqD K (.ref a) (.ref b) H Q :=
  ⟨_, _, .lst h1 (dp_ints xs), .lst h2 (dp_ints ys), shaped_li, shaped_li, by
    show Q (.bl (PyData.eqvAll _ _)) H
    rw [eqv_ints]; exact q⟩
theorem w_neLI (h1 : SqL K H a (xs.map V.int)) (h2 : SqL K H b (ys.map V.int)) (q : Q (.bl (!decide (xs = ys))) H) : rNeD K (.ref a) (.ref b) H Q :=
  ⟨_, _, .lst h1 (dp_ints xs), .lst h2 (dp_ints ys), shaped_li, shaped_li, by
    show Q (.bl (!PyData.eqvAll _ _)) H
    rw [eqv_ints]; exact q⟩
theorem w_eqTI (h1 : SqT K H a (xs.map V.int)) (h2 : SqT K H b (ys.map V.int)) (q : Q (.bl (decide (xs = ys))) H) : rEqD K (.ref a) (.ref b) H Q :=
  ⟨_, _, .tup h1 (dp_ints xs), .tup h2 (dp_ints ys), shaped_ti, shaped_ti, by
    show Q (.bl (PyData.eqvAll _ _)) H
    rw [eqv_ints]; exact q⟩
theorem w_neTI (h1 : SqT K H a (xs.map V.int)) (h2 : SqT K H b (ys.map V.int)) (q : Q (.bl (!decide (xs = ys))) H) : rNeD K (.ref a) (.ref b) H Q :=
  ⟨_, _, .tup h1 (dp_ints xs), .tup h2 (dp_ints ys), shaped_ti, shaped_ti, by
    show Q (.bl (!PyData.eqvAll _ _)) H
    rw [eqv_ints]; exact q⟩
theorem w_eqL' {vs ws : List V} (xs ys : List Int) (h1 : SqL K H a vs) (h2 : SqL K H b ws) (q : Q (.bl (decide (xs = ys))) H) (e1 : vs = xs.map V.int := by rfl) (e2 : ws = ys.map V.int := by rfl) : rEqD K (.ref a) (.ref b) H Q := by
  subst e1 e2
  exact w_eqLI h1 h2 q
theorem w_neL' {vs ws : List V} (xs ys : List Int) (h1 : SqL K H a vs) (h2 : SqL K H b ws) (q : Q (.bl (!decide (xs = ys))) H) (e1 : vs = xs.map V.int := by rfl) (e2 : ws = ys.map V.int := by rfl) : rNeD K (.ref a) (.ref b) H Q := by
  subst e1 e2
  exact w_neLI h1 h2 q
theorem w_eqT' {vs ws : List V} (xs ys : List Int) (h1 : SqT K H a vs) (h2 : SqT K H b ws) (q : Q (.bl (decide (xs = ys))) H) (e1 : vs = xs.map V.int := by rfl) (e2 : ws = ys.map V.int := by rfl) : rEqD K (.ref a) (.ref b) H Q := by
  subst e1 e2
  exact w_eqTI h1 h2 q
theorem w_neT' {vs ws : List V} (xs ys : List Int) (h1 : SqT K H a vs) (h2 : SqT K H b ws) (q : Q (.bl (!decide (xs = ys))) H) (e1 : vs = xs.map V.int := by rfl) (e2 : ws = ys.map V.int := by rfl) : rNeD K (.ref a) (.ref b) H Q := by
  subst e1 e2
  exact w_neTI h1 h2 q
/-! by data -/
theorem w_eqD (h1 : Dp K H x d) (h2 : Dp K H y e) (s1 : SeqAt.shaped d = true) (s2 : SeqAt.shaped e = true) (q : Q (.bl (PyData.eqv d e)) H) : rEqD K x y H Q := ⟨d, e, h1, h2, s1, s2, q⟩
theorem w_neD (h1 : Dp K H x d) (h2 : Dp K H y e) (s1 : SeqAt.shaped d = true) (s2 : SeqAt.shaped e = true) (q : Q (.bl (!PyData.eqv d e)) H) : rNeD K x y H Q := ⟨d, e, h1, h2, s1, s2, q⟩
mutual
theorem eqv_refl : ∀ d : PyData, d.canLay0 = true → PyData.eqv d d = true
  | .none, _ => by simp [PyData.eqv]
  | .bool b, _ => by simp [PyData.eqv]
  | .int i, _ => by simp [PyData.eqv]
  | .str s, _ => by simp [PyData.eqv]
  | .list xs, h => by
    have := eqvAll_refl xs (by simpa [PyData.canLay0] using h)
    simpa [PyData.eqv] using this
  | .tuple xs, h => by
    have := eqvAll_refl xs (by simpa [PyData.canLay0] using h)
    simpa [PyData.eqv] using this
  | .dict _, h => by simp [PyData.canLay0] at h
theorem eqvAll_refl : ∀ ds : List PyData, PyData.canLayAll0 ds = true → PyData.eqvAll ds ds = true
  | [], _ => by simp [PyData.eqvAll]
  | d :: ds, h => by
    have h1 : PyData.canLay0 d = true ∧ PyData.canLayAll0 ds = true := by simpa [PyData.canLayAll0] using h
    have := eqv_refl d h1.1
    have := eqvAll_refl ds h1.2
    simp [PyData.eqvAll, *]
end
theorem eqv_self {d : PyData} (h : SeqAt.shaped d = true) : PyData.eqv d d = true := eqv_refl d (SeqAt.canLay_of_shaped h)
end
end G

/-! heaps that grow; the drawn cells, as any numbers -/
namespace G
open PySem PySem.Spec PyProof.Rows L2
/-- grown, but for p -/
def ExtP (p : Addr) (H H' : Hp) : Prop := ∀ a o, a ≠ p → H a = some o → H' a = some o
section
variable {K : PySem.W.Frag} {H H1 H' : Hp} {a b p q : Addr} {o u o' : HO} {xs : List V}
theorem ext_get (e : Ext H H') (h : H b = some u) : H' b = some u := e _ _ h
theorem extp_get (e : ExtP p H H') (n : b ≠ p) (h : H b = some u) : H' b = some u := e _ _ n h
theorem ext_toP (e : Ext H H') : ExtP p H H' := fun a o _ h => e a o h
theorem ExtP.rfl' : ExtP p H H := fun _ _ _ h => h
theorem ExtP.trans (e : ExtP p H H1) (f : ExtP p H1 H') : ExtP p H H' := fun a o n h => f a o n (e a o n h)
theorem ext_via (f : Ext H1 H') (e : Ext H H1) : Ext H H' := e.trans f
theorem extp_via (f : ExtP p H1 H') (e : ExtP p H H1) : ExtP p H H' := e.trans f
theorem extp_viae (f : Ext H1 H') (e : ExtP p H H1) : ExtP p H H' := e.trans (ext_toP f)
theorem ext_up (n : H1 a = none) (e : Ext H H1) : Ext H (upd H1 a o) := fun b u h => up_n (e b u h) n
theorem extp_up (n : H1 a = none) (e : ExtP p H H1) : ExtP p H (upd H1 a o) := fun b u hb h => up_n (e b u hb h) n
theorem extp_put (e : ExtP p H H1) : ExtP p H (upd H1 p o) := fun b u hb h => up_k (e b u hb h) hb
/-- an object that was made since is written -/
theorem ext_put (n : H a = none) (e : Ext H H1) : Ext H (upd H1 a o) := fun b u h => up_k (e b u h) (ne_of_none h n)
theorem extp_putn (n : H a = none) (e : ExtP p H H1) : ExtP p H (upd H1 a o) := fun b u hb h => up_k (e b u hb h) (ne_of_none h n)
theorem ext_of_extp (n : H p = none) (e : ExtP p H H') : Ext H H' := fun a o h => e a o (ne_of_none h n) h
theorem extp_of_extp (n : H q = none) (e : ExtP q H H') : ExtP p H H' := ext_toP (ext_of_extp n e)
theorem ext_thr (n : H p = none) (f : ExtP p H1 H') (e : Ext H H1) : Ext H H' := fun a o h => f a o (ne_of_none h n) (e a o h)
theorem extp_thr (n : H q = none) (f : ExtP q H1 H') (e : ExtP p H H1) : ExtP p H H' := fun a o hp h => f a o (ne_of_none h n) (e a o hp h)
theorem Scr.ext (h : Scr K H a xs) (e : Ext H H') : Scr K H' a xs := h.same e
theorem scr_ext (e : Ext H H') (h : Scr K H a xs) : Scr K H' a xs := h.same e
theorem scr_extp (e : ExtP p H H') (n : Thw H p) (h : Scr K H a xs) : Scr K H' a xs := h.frz fun b o u hb => e b _ (fun z => by subst z; exact n o u hb) hb
theorem scr_extn (e : ExtP p H H') (n : H p = none) (h : Scr K H a xs) : Scr K H' a xs := h.frz fun b o u hb => e b _ (ne_of_none hb n) hb
theorem sq_ext (e : Ext H H') (h : SqL K H a xs) : SqL K H' a xs := h.ext e
theorem sqt_ext (e : Ext H H') (h : SqT K H a xs) : SqT K H' a xs := h.ext e
theorem SqT.of' (h : H a = some (.tup xs)) : SqT K H a xs := .inl (.inl h)
theorem ne_of' (h1 : H a = some o) (h2 : H b = some u) (n : o ≠ u) : a ≠ b := fun e => by
  subst e
  rw [h1] at h2
  cases h2
  exact n rfl
theorem up_nn (n : H a = none) (h : H b = some u) : upd H a o b = some u := up_n h n
theorem none_dn (h : upd H a o b = none) : H b = none := (up_none h).2
theorem up_ko (h : H b = some u) (h2 : H a = some o') (n : u ≠ o') : upd H a o b = some u := up_k h (ne_of' h h2 n)
end
/-! ### promises -/
def gsCell (K : PySem.W.Frag) : Sp := fun vs H Q _ => ∃ (a : Addr) (ns : List Int) (k : Int), vs = [.ref a, .int k] ∧ SqL K H a (ns.map V.int) ∧ 0 ≤ k ∧ ∀ n, Q (.int n) H
def gsStart (K : PySem.W.Frag) : Sp := fun vs H Q _ => ∃ (c k : Int), vs = [.int c, .int k] ∧ ∀ n p, H p = none → Q (.ref p) (upd H p (.lst [.int n]))
def gsDigit (K : PySem.W.Frag) : Sp := fun vs H Q _ => ∃ (p : Addr) (n m : Int), vs = [.ref p, .int m] ∧ H p = some (.lst [.int n]) ∧ 0 < m ∧ m < 1099511627776 ∧
  ∀ d n', 0 ≤ d → d < m → Q (.int d) (upd H p (.lst [.int n']))
/-- a bool or not, by isinstance: an integer -/
def gsIsInt (K : PySem.W.Frag) : Sp := fun vs H Q _ => ∃ (x : V), vs = [x] ∧ ((∃ i, x = .int i ∧ Q (.bl true) H) ∨ (∃ b, x = .bl b ∧ Q (.bl false) H))
section
variable {K : PySem.W.Frag} {H : Hp} {Q : VK} {E : XK} {a p : Addr} {k m n c : Int} {ns : List Int}
theorem c_cell (hS : SqL K H a (ns.map V.int)) (h0 : 0 ≤ k) (q : ∀ n, Q (.int n) H) : gsCell K [.ref a, .int k] H Q E := ⟨a, ns, k, rfl, hS, h0, q⟩
theorem c_start (q : ∀ n p, H p = none → Q (.ref p) (upd H p (.lst [.int n]))) : gsStart K [.int c, .int k] H Q E := ⟨c, k, rfl, q⟩
theorem c_digit (h : H p = some (.lst [.int n])) (h0 : 0 < m) (h1 : m < 1099511627776) (q : ∀ d n', 0 ≤ d → d < m → Q (.int d) (upd H p (.lst [.int n']))) : gsDigit K [.ref p, .int m] H Q E := ⟨p, n, m, rfl, h, h0, h1, q⟩
theorem c_isint (q : Q (.bl true) H) : gsIsInt K [.int n] H Q E := ⟨_, rfl, .inl ⟨n, rfl, q⟩⟩
end
theorem pr_pow (i : Nat) (h : i < 4) : (618970019642690137449562111 : Int) ^ i < 618970019642690137449562111 ^ 3 + 1 ∧ (0 : Int) < 618970019642690137449562111 ^ i := by
  have : i = 0 ∨ i = 1 ∨ i = 2 ∨ i = 3 := by omega
  rcases this with rfl | rfl | rfl | rfl <;> decide +kernel
theorem num_step {n m q : Int} (h0 : 0 ≤ n) (h1 : n < q) (h2 : 0 ≤ m) (h3 : m < 618970019642690137449562111) : 0 ≤ n * 618970019642690137449562111 + m ∧ n * 618970019642690137449562111 + m < q * 618970019642690137449562111 := by omega
theorem small_w {x : Int} (h0 : 0 ≤ x) (h : x < 618970019642690137449562111 ^ 3 + 1) : x.natAbs < 2 ^ 300 := by
  have e : (618970019642690137449562111 : Int) ^ 3 + 1 < ((2 ^ 300 : Nat) : Int) := by decide +kernel
  have e2 : x < ((2 ^ 300 : Nat) : Int) := Int.lt_trans h e
  omega
theorem ints_at {gs : List Int} {j : Nat} {z : Int} (h : gs[j]? = some z) {k : Int} (e : k = (j : Int)) : atI (gs.map V.int) k = some (V.int z) := at_of e (by rw [List.getElem?_map, h]; rfl)
theorem digit_div {m : Int} (h0 : 0 < m) (h1 : m < 1099511627776) : ∀ i : Int, CDivW i m := fun i => wide_div (b := 40) h0 (by omega) (by decide) (by decide)
/-! ### slices of lists of integers -/
theorem sum_app (xs ys : List Int) : (xs ++ ys).sum = xs.sum + ys.sum := by
  induction xs with
  | nil => simp
  | cons a r ih => rw [List.cons_append, List.sum_cons, List.sum_cons, ih]; omega
end G

/-! comprehensions whose turns only make objects; slices; indexing -/
namespace G
open PySem PySem.Spec PyProof.Rows L2
section
variable {K : PySem.W.Frag} {σ : L2.St} {H : Hp} {Q : VK} {g : TG} {tt : TT} {te : TE} {vs : List Nat} {tA : TA} {tl : TE}
def rLc (J : It) (g : TG) (tt : TT) (te : TE) (vs : List Nat) (σ : L2.St) (H1 : Hp) (Q : VK) : Prop := ∀ D, H1 D = none → ∃ W : Nat → Nat → Hp → Prop, (∃ m, W 0 m (upd H1 D (.lst []))) ∧ ∀ i m H, W i m H →
  (J.stop i H ∧ Q (.ref D) H) ∨ (J.go i H ∧ ∃ Nx : Hp → Prop, (∀ H', Nx H' → ∃ m', m' < m ∧ W (i + 1) m' H') ∧ ∀ x H', J.yld i H x H' → g x (wipe σ vs) H' fun σ2 H2 => wipe σ2 vs = wipe σ vs ∧ tt σ2 H2 fun b H3 =>
    if b = true then te σ2 H3 fun y H4 => ∃ acc, H4 D = some (.lst acc) ∧ acc.length < sizeLine ∧ Nx (upd H4 D (.lst (acc ++ [y]))) else Nx H3)
def rLcR1 (g : TG) (tt : TT) (te : TE) (ws : List Nat) (σ : L2.St) (Q : VK) (vs : List V) (H1 : Hp) : Prop := ∃ j : Int, vs = [.int j] ∧ -(2 ^ 62) ≤ j ∧ j < 2 ^ 62 ∧ rLc (Itr 0 j.toNat) g tt te ws σ H1 Q
def rLcR2 (g : TG) (tt : TT) (te : TE) (ws : List Nat) (σ : L2.St) (Q : VK) (vs : List V) (H1 : Hp) : Prop := ∃ i j : Int, vs = [.int i, .int j] ∧ (-(2 ^ 62) ≤ i ∧ i < 2 ^ 62 ∧ -(2 ^ 62) ≤ j ∧ j < 2 ^ 62) ∧ rLc (Itr i (j - i).toNat) g tt te ws σ H1 Q
def rLcL (K : PySem.W.Frag) (g : TG) (tt : TT) (te : TE) (ws : List Nat) (σ : L2.St) (Q : VK) (x : V) (H1 : Hp) : Prop := ∃ a, x = .ref a ∧ (∃ xs, SqL K H1 a xs) ∧ rLc (Itl K a) g tt te ws σ H1 Q
def rLcT (K : PySem.W.Frag) (g : TG) (tt : TT) (te : TE) (ws : List Nat) (σ : L2.St) (Q : VK) (x : V) (H1 : Hp) : Prop := ∃ a, x = .ref a ∧ (∃ xs, SqT K H1 a xs) ∧ rLc (Itt K a) g tt te ws σ H1 Q
theorem w_lcR1 (h : tA σ H fun ws H1 => rLcR1 g tt te vs σ Q ws H1) : tLc (iRng1 tA) g tt te vs σ H Q := h
theorem w_lcR2 (h : tA σ H fun ws H1 => rLcR2 g tt te vs σ Q ws H1) : tLc (iRng2 tA) g tt te vs σ H Q := h
theorem w_lcL (h : tl σ H fun x H1 => rLcL K g tt te vs σ Q x H1) : tLc (iList K tl) g tt te vs σ H Q := h
theorem w_lcT (h : tl σ H fun x H1 => rLcT K g tt te vs σ Q x H1) : tLc (iTup K tl) g tt te vs σ H Q := h
theorem wipe1 {v : Nat} {x : Option V} : wipe ((wipe σ [v]).set v x) [v] = wipe σ [v] := by
  show ((σ.set v none).set v x).set v none = σ.set v none
  rw [List.set_set, List.set_set]
def LcAdd (D : Addr) (Pv : Nat → Hp → Prop) (i : Nat) (y : V) (H4 : Hp) : Prop := ∃ acc, H4 D = some (.lst acc) ∧ acc.length < sizeLine ∧ Pv (i + 1) (upd H4 D (.lst (acc ++ [y])))
/-- grown only, the list so far at D -/
def PvE (H : Hp) (D : Addr) (A : Nat → List V) (i : Nat) (H' : Hp) : Prop := Ext H H' ∧ H' D = some (.lst (A i))
theorem lc_add {D : Addr} {A : Nat → List V} {i : Nat} {y : V} {H4 : Hp} (h : H4 D = some (.lst (A i))) (e : Ext H H4) (n : H D = none) (ha : A (i + 1) = A i ++ [y]) (hl : (A i).length < sizeLine) : LcAdd D (PvE H D A) i y H4 :=
  ⟨A i, h, hl, ext_put n e, by rw [upd_same, ha]⟩
theorem lc_skip {D : Addr} {A : Nat → List V} {i : Nat} {H3 : Hp} (h : H3 D = some (.lst (A i))) (e : Ext H H3) (ha : A (i + 1) = A i) : PvE H D A (i + 1) H3 := ⟨e, by rw [ha]; exact h⟩
/-- over any walk, growth only: A i the list so far -/
theorem lcE {J : It} {n : Nat} {G : Hp → Prop} {Y : Nat → Hp → V → Hp → Prop} (w : Walk J n G Y) (A : Nat → List V) (h0 : A 0 = []) (hG : ∀ H', Ext H H' → G H')
    (hs : ∀ i x D H1 H2, i < n → H D = none → Ext H H1 → H1 D = some (.lst (A i)) → Y i H1 x H2 → g x (wipe σ vs) H2 fun σ2 H2 => wipe σ2 vs = wipe σ vs ∧ tt σ2 H2 fun b H3 =>
      if b = true then te σ2 H3 fun y H4 => LcAdd D (PvE H D A) i y H4 else PvE H D A (i + 1) H3)
    (hd : ∀ D H1, H D = none → Ext H H1 → H1 D = some (.lst (A n)) → Q (.ref D) H1) : rLc J g tt te vs σ H Q := fun D hD =>
  lc_it w (PvE H D A) ⟨ext_up hD Ext.rfl', by rw [upd_same, h0]⟩ (fun i H' _ h => hG H' h.1) (fun i x H1 H2 hi h y => hs i x D H1 H2 hi hD h.1 h.2 y) fun H1 h => hd D H1 hD h.1 h.2
abbrev accM (fV : Nat → V) : Nat → List V := fun i => (List.range i).map fV
abbrev accF (p : Nat → Bool) (fV : Nat → V) : Nat → List V := fun i => ((List.range i).filter p).map fV
theorem accM_succ {fV : Nat → V} {i : Nat} : accM fV (i + 1) = accM fV i ++ [fV i] := by
  unfold accM
  rw [List.range_succ, List.map_append]
  rfl
theorem accM_len {fV : Nat → V} {i : Nat} : (accM fV i).length = i := by unfold accM; simp
theorem accF_yes {p : Nat → Bool} {fV : Nat → V} {i : Nat} (h : p i = true) : accF p fV (i + 1) = accF p fV i ++ [fV i] := by
  unfold accF
  rw [List.range_succ, List.filter_append, List.map_append]
  simp [h]
theorem accF_no {p : Nat → Bool} {fV : Nat → V} {i : Nat} (h : p i = false) : accF p fV (i + 1) = accF p fV i := by
  unfold accF
  rw [List.range_succ, List.filter_append, List.map_append]
  simp [h]
theorem accF_len {p : Nat → Bool} {fV : Nat → V} {i : Nat} : (accF p fV i).length ≤ i := by
  unfold accF
  rw [List.length_map]
  exact Nat.le_trans (List.length_filter_le _ _) (by simp)
theorem lc_one {D : Addr} {fV : Nat → V} {i : Nat} {y : V} {H4 : Hp} (h : H4 D = some (.lst (accM fV i))) (e : Ext H H4) (n : H D = none) (hi : i < 16000000) (ha : y = fV i) : LcAdd D (PvE H D (accM fV)) i y H4 :=
  lc_add h e n (by rw [accM_succ, ha]) (by rw [accM_len]; exact Nat.lt_trans hi (by decide))
theorem lc_onef {D : Addr} {p : Nat → Bool} {fV : Nat → V} {i : Nat} {y : V} {H4 : Hp} (h : H4 D = some (.lst (accF p fV i))) (e : Ext H H4) (n : H D = none) (hi : i < 16000000) (hp : p i = true) (ha : y = fV i) : LcAdd D (PvE H D (accF p fV)) i y H4 :=
  lc_add h e n (by rw [accF_yes hp, ha]) (Nat.lt_of_le_of_lt accF_len (Nat.lt_trans hi (by decide)))
theorem lc_nonef {D : Addr} {p : Nat → Bool} {fV : Nat → V} {i : Nat} {H3 : Hp} (h : H3 D = some (.lst (accF p fV i))) (e : Ext H H3) (hp : p i = false) : PvE H D (accF p fV) (i + 1) H3 :=
  lc_skip h e (accF_no hp)
/-! the usual ones: one name -/
variable {v : Nat} {j lo hi : Int}
theorem lcR1 {n : Nat} (fV : Nat → V) (hj : j = (n : Int)) (hn : n < 16000000) (hs : ∀ (i : Nat) D H1, i < n → H D = none → Ext H H1 → H1 D = some (.lst (accM fV i)) → te ((σ.set v none).set v (some (.int (i : Int)))) H1 fun y H4 => LcAdd D (PvE H D (accM fV)) i y H4)
    (hd : ∀ D H1, H D = none → Ext H H1 → H1 D = some (.lst (accM fV n)) → Q (.ref D) H1) : rLcR1 (gName v) tYes te [v] σ Q [.int j] H := by
  subst hj
  refine ⟨(n : Int), rfl, by omega, by omega, lcE walk_range (accM fV) rfl (fun _ _ => trivial) ?_ (by rw [Int.toNat_natCast]; exact hd)⟩
  rintro i x D H1 H2 hi hD e hA ⟨rfl, rfl⟩
  refine ⟨wipe1, ?_⟩
  show te ((σ.set v none).set v (some (.int (0 + (i : Int))))) H2 _
  rw [Int.zero_add]
  exact hs i D H2 (by omega) hD e hA
theorem lcR2 (fV : Nat → V) (hn : -4000000000 < lo ∧ lo < 4000000000 ∧ -4000000000 < hi ∧ hi < 4000000000) (hn2 : hi - lo < 16000000) (hs : ∀ (i : Nat) D H1, lo + i < hi → H D = none → Ext H H1 → H1 D = some (.lst (accM fV i)) → te ((σ.set v none).set v (some (.int (lo + (i : Int))))) H1 fun y H4 => LcAdd D (PvE H D (accM fV)) i y H4)
    (hd : ∀ D H1, H D = none → Ext H H1 → H1 D = some (.lst (accM fV (hi - lo).toNat)) → Q (.ref D) H1) : rLcR2 (gName v) tYes te [v] σ Q [.int lo, .int hi] H := by
  refine ⟨lo, hi, rfl, ⟨by omega, by omega, by omega, by omega⟩, lcE walk_range (accM fV) rfl (fun _ _ => trivial) ?_ hd⟩
  rintro i x D H1 H2 hi hD e hA ⟨rfl, rfl⟩
  exact ⟨wipe1, hs i D H2 (by omega) hD e hA⟩
theorem lcL {a : Addr} {xs : List V} (fV : Nat → V) (hx : SqL K H a xs) (hn : xs.length < 16000000) (hs : ∀ (i : Nat) x D H1, xs[i]? = some x → H D = none → Ext H H1 → H1 D = some (.lst (accM fV i)) → te ((σ.set v none).set v (some x)) H1 fun y H4 => LcAdd D (PvE H D (accM fV)) i y H4)
    (hd : ∀ D H1, H D = none → Ext H H1 → H1 D = some (.lst (accM fV xs.length)) → Q (.ref D) H1) : rLcL K (gName v) tYes te [v] σ Q (.ref a) H := by
  refine ⟨a, rfl, ⟨_, hx⟩, lcE walk_list (accM fV) rfl (fun _ e => hx.ext e) ?_ hd⟩
  rintro i x D H1 H2 hi hD e hA ⟨rfl, hxi⟩
  exact ⟨wipe1, hs i x D H2 hxi hD e hA⟩
theorem lcLF {a : Addr} {xs : List V} (p : Nat → Bool) (fV : Nat → V) (hx : SqL K H a xs) (hn : xs.length < 16000000) (hs : ∀ (i : Nat) x D H1, xs[i]? = some x → H D = none → Ext H H1 → H1 D = some (.lst (accF p fV i)) →
      tt ((σ.set v none).set v (some x)) H1 fun b H3 => if b = true then te ((σ.set v none).set v (some x)) H3 fun y H4 => LcAdd D (PvE H D (accF p fV)) i y H4 else PvE H D (accF p fV) (i + 1) H3)
    (hd : ∀ D H1, H D = none → Ext H H1 → H1 D = some (.lst (accF p fV xs.length)) → Q (.ref D) H1) : rLcL K (gName v) tt te [v] σ Q (.ref a) H := by
  refine ⟨a, rfl, ⟨_, hx⟩, lcE walk_list (accF p fV) rfl (fun _ e => hx.ext e) ?_ hd⟩
  rintro i x D H1 H2 hi hD e hA ⟨rfl, hxi⟩
  exact ⟨wipe1, hs i x D H2 hxi hD e hA⟩
theorem lcT {a : Addr} {xs : List V} (fV : Nat → V) (hx : SqT K H a xs) (hn : xs.length < 16000000) (hs : ∀ (i : Nat) x D H1, xs[i]? = some x → H D = none → Ext H H1 → H1 D = some (.lst (accM fV i)) → te ((σ.set v none).set v (some x)) H1 fun y H4 => LcAdd D (PvE H D (accM fV)) i y H4)
    (hd : ∀ D H1, H D = none → Ext H H1 → H1 D = some (.lst (accM fV xs.length)) → Q (.ref D) H1) : rLcT K (gName v) tYes te [v] σ Q (.ref a) H := by
  refine ⟨a, rfl, ⟨_, hx⟩, lcE walk_tup (accM fV) rfl (fun _ e => hx.ext e) ?_ hd⟩
  rintro i x D H1 H2 hi hD e hA ⟨rfl, hxi⟩
  exact ⟨wipe1, hs i x D H2 hxi hD e hA⟩
end
/-! ### slices -/
section
variable {K : PySem.W.Frag} {σ : L2.St} {H : Hp} {Q : VK} {te : TE} {tl th : TO} {r : V → Option Int → Option Int → Hp → VK → Prop} {a : Addr} {xs : List V} {l h : Option Int} {i j : Int} {Qo : Option Int → Hp → Prop} {t : TE}
theorem w_sl (h : te σ H fun x H1 => tl σ H1 fun l H2 => th σ H2 fun u H3 => r x l u H3 Q) : tSl r te tl th σ H Q := h
theorem w_nopart (q : Qo none H) : tNoPart σ H Qo := q
theorem w_part (q : t σ H fun x H1 => ∃ i, x = .int i ∧ Qo (some i) H1) : tPart t σ H Qo := q
theorem w_pint {P : Int → Prop} (q : P i) : ∃ k, V.int i = .int k ∧ P k := ⟨i, rfl, q⟩
theorem w_slL (hx : SqL K H a xs) (q : ∀ p, H p = none → Q (.ref p) (upd H p (.lst (cutV xs l h)))) : rSlL K (.ref a) l h H Q := ⟨a, xs, rfl, hx, q⟩
theorem cut_from {xs : List V} (h0 : 0 ≤ i) : cutV xs (some i) none = xs.drop i.toNat := by
  obtain ⟨n, rfl⟩ := Int.eq_ofNat_of_zero_le h0
  unfold cutV
  rw [HT.sIx_nat, HT.sIx_none, Int.toNat_natCast]
  by_cases hn : n ≤ xs.length
  · rw [Nat.min_eq_left hn, List.take_of_length_le]
    rw [List.length_drop]
    omega
  · rw [Nat.min_eq_right (by omega), List.drop_eq_nil_of_le (Nat.le_refl _), List.drop_eq_nil_of_le (by omega)]
    simp
theorem cut_to {xs : List V} (h0 : 0 ≤ i) : cutV xs none (some i) = xs.take i.toNat := by
  obtain ⟨n, rfl⟩ := Int.eq_ofNat_of_zero_le h0
  unfold cutV
  rw [HT.sIx_nat, HT.sIx_none, Int.toNat_natCast, List.drop_zero, Nat.sub_zero]
  by_cases hn : n ≤ xs.length
  · rw [Nat.min_eq_left hn]
  · rw [Nat.min_eq_right (by omega), List.take_of_length_le (Nat.le_refl _), List.take_of_length_le (by omega)]
theorem cut_mid {xs : List V} (h0 : 0 ≤ i) (h1 : i ≤ j) : cutV xs (some i) (some j) = (xs.drop i.toNat).take (j - i).toNat := by
  obtain ⟨n, rfl⟩ := Int.eq_ofNat_of_zero_le h0
  obtain ⟨m, rfl⟩ := Int.eq_ofNat_of_zero_le (Int.le_trans h0 h1)
  unfold cutV
  rw [HT.sIx_nat, HT.sIx_nat, Int.toNat_natCast]
  have e : ((m : Int) - (n : Int)).toNat = m - n := by omega
  rw [e]
  by_cases hn : n ≤ xs.length
  · rw [Nat.min_eq_left hn]
    by_cases hm : m ≤ xs.length
    · rw [Nat.min_eq_left hm]
    · rw [Nat.min_eq_right (by omega), List.take_of_length_le (by rw [List.length_drop]; omega), List.take_of_length_le (by rw [List.length_drop]; omega)]
  · rw [Nat.min_eq_right (by omega : xs.length ≤ n), List.drop_eq_nil_of_le (Nat.le_refl _), List.drop_eq_nil_of_le (by omega)]
    simp
theorem w_slLfrom (hx : SqL K H a xs) (h0 : 0 ≤ i) (q : ∀ p, H p = none → Q (.ref p) (upd H p (.lst (xs.drop i.toNat)))) : rSlL K (.ref a) (some i) none H Q := w_slL hx fun p hp => by rw [cut_from h0]; exact q p hp
theorem w_slLto (hx : SqL K H a xs) (h0 : 0 ≤ i) (q : ∀ p, H p = none → Q (.ref p) (upd H p (.lst (xs.take i.toNat)))) : rSlL K (.ref a) none (some i) H Q := w_slL hx fun p hp => by rw [cut_to h0]; exact q p hp
theorem w_slLmid (hx : SqL K H a xs) (h0 : 0 ≤ i) (h1 : i ≤ j) (q : ∀ p, H p = none → Q (.ref p) (upd H p (.lst ((xs.drop i.toNat).take (j - i).toNat)))) : rSlL K (.ref a) (some i) (some j) H Q := w_slL hx fun p hp => by rw [cut_mid h0 h1]; exact q p hp
/-! ### more of lists -/
theorem small_le {n : Nat} (h : Nat.ble n 1000 = true) : n ≤ sizeLine := Nat.le_trans (Nat.le_of_ble_eq_true h) (by decide)
theorem w_cat {l b : Addr} {xs zs : List V} (h1 : H l = some (.lst xs)) (h2 : H b = some (.lst zs)) (hz : xs.length + zs.length ≤ sizeLine) (q : ∀ p, H p = none → Q (.ref p) (upd H p (.lst (xs ++ zs)))) : rCat (.ref l) (.ref b) H Q := ⟨l, b, xs, zs, rfl, rfl, h1, h2, hz, q⟩
end
end G

/-! grown, but for some -/
namespace G
open PySem PySem.Spec PyProof.Rows L2
structure ExtS (S : List Addr) (H H' : Hp) : Prop where
  get : ∀ a o, a ∉ S → H a = some o → H' a = some o
  dom : ∀ a, H' a = none → H a = none
/-- each of S' is one of S, or not there in H -/
def SubN (S' S : List Addr) (H : Hp) : Prop := ∀ x ∈ S', x ∈ S ∨ H x = none
section
variable {K : PySem.W.Frag} {H H1 H' : Hp} {a b p q x y : Addr} {o u o' : HO} {xs : List V} {S S' : List Addr}
theorem ext_none (e : Ext H H') (h : H' x = none) : H x = none := by
  cases hx : H x with
  | none => rfl
  | some u => rw [e x u hx] at h; cases h
theorem upd_none (h : upd H a o x = none) : H x = none := (up_none h).2
theorem ExtS.rfl' : ExtS S H H := ⟨fun _ _ _ h => h, fun _ h => h⟩
theorem exts_ext (e : Ext H H') : ExtS S H H' := ⟨fun a o _ h => e a o h, fun a h => ext_none e h⟩
theorem exts_of_p (e : ExtP p H H') (d : H' p = some o) : ExtS [p] H H' := ⟨fun a o n h => e a o (fun z => n (by rw [z]; exact List.mem_singleton.mpr rfl)) h, fun a h => by
  cases hx : H a with
  | none => rfl
  | some u =>
    by_cases z : a = p
    · subst z; rw [d] at h; cases h
    · rw [e a u z hx] at h; cases h⟩
theorem exts_nil (e : ExtS [] H H') : Ext H H' := fun a o h => e.get a o (fun z => nomatch z) h
theorem extp_of_s (e : ExtS [p] H H') : ExtP p H H' := fun a o n h => e.get a o (fun z => n (List.mem_singleton.mp z)) h
theorem exts_mono {S2 : List Addr} (e : ExtS S H H') (h : ∀ x ∈ S, x ∈ S2) : ExtS S2 H H' := ⟨fun a o n => e.get a o fun z => n (h a z), e.dom⟩
theorem SubN.nil : SubN [] S H := fun _ z => nomatch z
theorem SubN.inn (h : x ∈ S) (s : SubN S' S H) : SubN (x :: S') S H := fun y hy => by
  rcases List.mem_cons.mp hy with rfl | hy
  · exact .inl h
  · exact s y hy
theorem SubN.new (h : H x = none) (s : SubN S' S H) : SubN (x :: S') S H := fun y hy => by
  rcases List.mem_cons.mp hy with rfl | hy
  · exact .inr h
  · exact s y hy
theorem SubN.all (h : ∀ x ∈ S', H x = none) : SubN S' S H := fun y hy => .inr (h y hy)
theorem SubN.app {S1 S2 : List Addr} (h : SubN S1 S H) (h2 : SubN S2 S H) : SubN (S1 ++ S2) S H := fun y hy => (List.mem_append.mp hy).elim (h y) (h2 y)
theorem exts_thr (f : ExtS S' H1 H') (n : SubN S' S H) (e : ExtS S H H1) : ExtS S H H' := ⟨fun a o ha h => f.get a o (fun z => (n a z).elim ha (fun z => by rw [z] at h; cases h)) (e.get a o ha h), fun a h => e.dom a (f.dom a h)⟩
theorem exts_thrE (f : Ext H1 H') (e : ExtS S H H1) : ExtS S H H' := ⟨fun a o ha h => f a o (e.get a o ha h), fun a h => e.dom a (ext_none f h)⟩
theorem exts_thrP (f : ExtP p H1 H') (d : H' p = some o) (n : SubN [p] S H) (e : ExtS S H H1) : ExtS S H H' := exts_thr (exts_of_p f d) n e
theorem exts_up (n : H1 a = none) (e : ExtS S H H1) : ExtS S H (upd H1 a o) := ⟨fun b u hb h => up_n (e.get b u hb h) n, fun b h => e.dom b (upd_none h)⟩
theorem exts_put (n : SubN [a] S H) (e : ExtS S H H1) : ExtS S H (upd H1 a o) := ⟨fun b u hb h => up_k (e.get b u hb h) (fun z => (n b (by rw [z]; exact List.mem_singleton.mpr rfl)).elim hb (fun z => by rw [z] at h; cases h)), fun b h => e.dom b (upd_none h)⟩
theorem ni_nil : x ∉ ([] : List Addr) := fun z => nomatch z
theorem ni_cons (n : x ≠ y) (m : x ∉ S) : x ∉ y :: S := fun z => (List.mem_cons.mp z).elim n m
theorem ni_app {S2 : List Addr} (n : x ∉ S) (m : x ∉ S2) : x ∉ S ++ S2 := fun z => (List.mem_append.mp z).elim n m
theorem ni_new (h : H x = some u) (n : ∀ y ∈ S, H y = none) : x ∉ S := fun z => by
  rw [n x z] at h
  cases h
theorem exts_get (e : ExtS S H H') (n : x ∉ S) (h : H x = some u) : H' x = some u := e.get _ _ n h
theorem exts_none (e : ExtS S H H') (h : H' x = none) : H x = none := e.dom x h
theorem mem_hd : x ∈ x :: S := List.mem_cons_self
theorem mem_tl (h : x ∈ S) : x ∈ y :: S := List.mem_cons_of_mem _ h
theorem scr_exts (e : ExtS S H H') (n : ∀ y ∈ S, Thw H y) (h : Scr K H a xs) : Scr K H' a xs := h.frz fun b o u hb => e.get b _ (fun z => n b z o u hb) hb
theorem all_nil {P : Addr → Prop} : ∀ y ∈ ([] : List Addr), P y := fun _ z => nomatch z
theorem all_cons {P : Addr → Prop} (h : P x) (t : ∀ y ∈ S, P y) : ∀ y ∈ x :: S, P y := fun y hy => by
  rcases List.mem_cons.mp hy with rfl | hy
  · exact h
  · exact t y hy
theorem thw_none (h : H x = none) : Thw H x := fun o u z => by rw [h] at z; cases z
theorem sq_exts (e : ExtS S H H') (n : a ∉ S) (h : H a = some (.lst xs)) : SqL K H' a xs := SqL.of (e.get _ _ n h)
end
end G

/-! rows of lists of integers; more steps -/
namespace G
open PySem PySem.Spec PyProof.Rows L2
/-- the lists at these addresses -/
def Rows (H : Hp) (as : List Addr) (ms : List (List Int)) : Prop := as.length = ms.length ∧ ∀ (i : Nat) (a : Addr) (m : List Int), as[i]? = some a → ms[i]? = some m → H a = some (.lst (m.map V.int))
section
variable {K : PySem.W.Frag} {H H1 H' : Hp} {a b p q x y : Addr} {o u o' : HO} {xs zs : List V} {S S' as bs : List Addr} {ms : List (List Int)} {m : List Int} {Q : VK} {σ : L2.St} {i j k : Int}
theorem Rows.nil : Rows H [] [] := ⟨rfl, fun i a m h => by simp at h⟩
theorem Rows.at (h : Rows H as ms) {i : Nat} (hi : i < ms.length) : ∃ (a : Addr) (m : List Int), as[i]? = some a ∧ ms[i]? = some m ∧ H a = some (.lst (m.map V.int)) := by
  have h2 : i < as.length := by rw [h.1]; exact hi
  exact ⟨as[i], ms[i], List.getElem?_eq_getElem h2, List.getElem?_eq_getElem hi, h.2 i _ _ (List.getElem?_eq_getElem h2) (List.getElem?_eq_getElem hi)⟩
theorem Rows.mem (h : Rows H as ms) (ha : a ∈ as) : ∃ m : List Int, H a = some (.lst (m.map V.int)) := by
  obtain ⟨i, hi, e⟩ := List.mem_iff_getElem.mp ha
  obtain ⟨a', m, h1, h2, h3⟩ := h.at (i := i) (by rw [← h.1]; exact hi)
  rw [List.getElem?_eq_getElem hi, e] at h1
  cases h1
  exact ⟨m, h3⟩
theorem Rows.ext (h : Rows H as ms) (e : Ext H H') : Rows H' as ms := ⟨h.1, fun i a m h1 h2 => e _ _ (h.2 i a m h1 h2)⟩
theorem Rows.exts (h : Rows H as ms) (e : ExtS S H H') (n : ∀ a ∈ as, a ∉ S) : Rows H' as ms := ⟨h.1, fun i a m h1 h2 => e.get _ _ (n a (List.mem_of_getElem? h1)) (h.2 i a m h1 h2)⟩
theorem Rows.snoc (h : Rows H as ms) (h1 : H a = Option.some (.lst (m.map V.int))) : Rows H (as ++ [a]) (ms ++ [m]) := by
  refine ⟨by rw [List.length_append, List.length_append, h.1]; rfl, fun i b m' hb hm => ?_⟩
  by_cases hi : i < as.length
  · rw [List.getElem?_append_left hi] at hb
    rw [List.getElem?_append_left (by rw [← h.1]; exact hi)] at hm
    exact h.2 i b m' hb hm
  · rw [List.getElem?_append_right (by omega)] at hb
    rw [List.getElem?_append_right (by rw [← h.1]; omega), ← h.1] at hm
    have e : i - as.length = 0 := by
      have := (List.getElem?_eq_some_iff.mp hb).1
      simp at this
      omega
    rw [e] at hb hm
    cases hb
    cases hm
    exact h1
theorem Rows.new (h : Rows H as ms) (n : H x = none) : Rows (upd H x o) as ms := h.ext (ext_up n Ext.rfl')
theorem Rows.put (h : Rows H as ms) (n : x ∉ as) : Rows (upd H x o) as ms := ⟨h.1, fun i a m h1 h2 => up_k (h.2 i a m h1 h2) fun z => n (by rw [← z]; exact List.mem_of_getElem? h1)⟩
theorem Rows.no (h : Rows H as ms) (n : H x = none) : x ∉ as := fun z => by
  obtain ⟨m, e⟩ := h.mem z
  rw [n] at e
  cases e
theorem Rows.noi (h : Rows H as ms) {C dx : Addr} {fs : List (Str × V)} (n : H x = some (.ins C dx fs)) : x ∉ as := fun z => by
  obtain ⟨m, e⟩ := h.mem z
  rw [n] at e
  cases e
theorem nodup_snoc (h : as.Nodup) (n : x ∉ as) : (as ++ [x]).Nodup := List.nodup_append.mpr ⟨h, by simp, fun a ha b hb => by
  rw [List.mem_singleton.mp hb]
  intro z
  rw [z] at ha
  exact n ha⟩
theorem mem_snoc {P : Addr → Prop} (h : ∀ a ∈ as, P a) (n : P x) : ∀ a ∈ as ++ [x], P a := fun a ha => (List.mem_append.mp ha).elim (h a) fun z => by
  rw [List.mem_singleton.mp z]
  exact n
theorem ni_snoc (h : y ∉ as) (n : y ≠ x) : y ∉ as ++ [x] := fun z => (List.mem_append.mp z).elim h fun z => n (List.mem_singleton.mp z)
theorem Rows.take (h : Rows H as ms) (n : Nat) : Rows H (as.take n) (ms.take n) := ⟨by rw [List.length_take, List.length_take, h.1], fun i a m h1 h2 => by
  rw [List.getElem?_take] at h1 h2
  by_cases hi : i < n
  · rw [if_pos hi] at h1 h2
    exact h.2 i a m h1 h2
  · rw [if_neg hi] at h1
    cases h1⟩
theorem Rows.drop (h : Rows H as ms) (n : Nat) : Rows H (as.drop n) (ms.drop n) := ⟨by rw [List.length_drop, List.length_drop, h.1], fun i a m h1 h2 => by
  rw [List.getElem?_drop] at h1 h2
  exact h.2 _ a m h1 h2⟩
theorem w_sum {ns : List Int} {a : Addr} (h : SqL K H a (ns.map V.int)) (q : Q (.int ns.sum) H) : rSum K [.ref a] H Q := ⟨a, ns, rfl, h, q⟩
theorem w_extend {l b : Addr} (h1 : H l = some (.lst xs)) (h2 : H b = some (.lst zs)) (hz : xs.length + zs.length ≤ sizeLine) (q : Q .non (upd H l (.lst (xs ++ zs)))) : rExtend (.ref l) [.ref b] H Q := ⟨l, b, xs, zs, rfl, rfl, h1, h2, hz, q⟩
theorem w_rep {l : Addr} (h1 : H l = some (.lst xs)) (h0 : 0 ≤ k) (hk : k < 4611686018427387904) (hz : xs.length * k.toNat ≤ sizeLine) (q : ∀ p, H p = none → Q (.ref p) (upd H p (.lst (List.replicate k.toNat xs).flatten))) : rRep (.ref l) (.int k) H Q :=
  ⟨l, k, xs, rfl, rfl, h1, by omega, by omega, hz, q⟩
theorem w_intb {c : Bool} (q : Q (.int (if c then 1 else 0)) H) : gInt1 [.bl c] H Q := .inr ⟨c, rfl, q⟩
theorem w_tryas {tb : WX → TS} {c : Value} {n : Nat} {ts : Addr → Value → Option Addr → TS} {Wout : WX} {D : Ends} (h : tb (wAs K c n ts Wout D) D σ H) : (fun D σ H => (fun W1 : WX => tb W1) (wAs K c n ts Wout D) D σ H) D σ H := h
/-- while, the test's reading told by a fact of monotony -/
theorem w_while {c : TT} {tb : TS} {D : Ends} (Pv : L2.St → Hp → Prop) (μ : L2.St → Hp → Nat) (h0 : Pv σ H)
    (hs : ∀ σ H, Pv σ H → c σ H fun b H1 => if b = true then tb { D with nx := fun σ' H' => Pv σ' H' ∧ μ σ' H' < μ σ H, ct := fun σ' H' => Pv σ' H' ∧ μ σ' H' < μ σ H, bk := D.nx } σ H1 else D.nx σ H1)
    (mono : ∀ σ H Q Q', (∀ b H1, Q b H1 → Q' b H1) → c σ H Q → c σ H Q') : tWhile c tb D σ H := while_by Pv μ h0 hs mono
end
theorem small16 {n : Nat} (h : n ≤ 16000000) : n ≤ sizeLine := Nat.le_trans h (by decide)
theorem small16l {n : Nat} (h : n < 16000000) : n < sizeLine := Nat.lt_of_lt_of_le h (by decide)
theorem map_inj_int {xs ys : List Int} (h : xs.map V.int = ys.map V.int) : xs = ys := by
  induction xs generalizing ys with
  | nil => cases ys with
    | nil => rfl
    | cons y ys => simp at h
  | cons x xs ih => cases ys with
    | nil => simp at h
    | cons y ys =>
      simp only [List.map_cons, List.cons.injEq, V.int.injEq] at h
      rw [h.1, ih h.2]
theorem atI_int {L : List Int} {a : Nat} (h : a < L.length) {k : Int} (e : k = (a : Int)) : atI (L.map V.int) k = some (V.int (L.getD a 0)) := at_of e (by
  rw [List.getElem?_map, List.getElem?_eq_getElem h, List.getD_eq_getElem?_getD, List.getElem?_eq_getElem h]
  rfl)
theorem atI_ref {L : List Addr} {a : Nat} {r : Addr} (h : L[a]? = some r) {k : Int} (e : k = (a : Int)) : atI (L.map V.ref) k = some (V.ref r) := at_of e (by rw [List.getElem?_map, h]; rfl)
end G

/-! tuples of texts, dict displays, comprehensions with any word -/
namespace G
open PySem PySem.Spec PyProof.Rows L2
/-- t.index(x), t of texts, x there -/
def rTIdxS (K : PySem.W.Frag) : V → List V → Hp → VK → Prop := fun x xs H Q => ∃ (a : Addr) (ys : List Str) (k : Str), x = .ref a ∧ xs = [.str k] ∧ SqT K H a (ys.map V.str) ∧ k ∈ ys ∧ Q (.int (ys.idxOf k : Nat)) H
theorem mt_tindexS {X : Cx} : MtR X "tuple.index" (rTIdxS X.K) := by
  intro pins s σ H x xs v us Q I rx rxs h
  obtain ⟨a, ys, k, rfl, rfl, hs, hk, q⟩ := h
  cases rx
  cases rxs with
  | cons ry rt =>
    cases rt
    obtain ⟨t, rfl⟩ := ry
    obtain ⟨its, rv, e, z⟩ := I.tuple hs
    exact SeqAt.tuple_index_strs e (strsAre_of rv) hk ⟨.int (ys.idxOf k : Nat), H, I.tok _, ⟨_, rfl⟩, q⟩
def tyTB (x : Str) : Ex := fun K => match K.lookup (He.ga K x) with
  | some o => (match o.cls with | .type n => decide (n = "tuple") | _ => false) && o.dict.isNone
  | none => false
theorem tyTB_ok {K : PySem.W.Frag} {x : Str} (h : tyTB x K = true) (H : Hp) : tyV K "tuple" (.ref (He.ga K x)) H := by
  unfold tyTB at h
  cases q : K.lookup (He.ga K x) with
  | none => rw [q] at h; cases h
  | some o =>
    rw [q] at h
    obtain ⟨oc, od, dt, sl⟩ := o
    obtain ⟨h1, h2⟩ := He.ba h
    refine .inr (.inl ⟨rfl, _, q, ?_, ?_⟩)
    · cases oc with
      | type n => exact congrArg Value.type (of_decide_eq_true h1)
      | _ => cases h1
    · cases od with
      | none => rfl
      | some d => cases h2
section
variable {K : PySem.W.Frag} {σ : L2.St} {H : Hp} {Q : VK} {x y v : V} {a : Addr} {k : Str} {ys : List Str} {kvs : List (Key × V)}
theorem ty_tupX {x : Str} {P : Prop} (h : tyTB x K = true) (q : P) : tyV K "tuple" (.ref (He.ga K x)) H ∧ P := ⟨tyTB_ok h H, q⟩
theorem w_tidxS (h : SqT K H a (ys.map V.str)) (hk : k ∈ ys) (q : Q (.int (ys.idxOf k : Nat)) H) : rTIdxS K (.ref a) [.str k] H Q := ⟨a, ys, k, rfl, rfl, h, hk, q⟩
/-! dicts -/
abbrev gDGet := tDGet
theorem w_dget {td ty : TE} (h : td σ H fun x H1 => ty σ H1 fun y H2 => ∃ a v, x = .ref a ∧ DGet H2 a y (some v) ∧ Q v H2) : tDGet td ty σ H Q := h
theorem w_dgetS (h : H a = some (.dK kvs)) (e : valV kvs (.inr k : Key) = some v) (q : Q v H) : ∃ a' v', V.ref a = .ref a' ∧ DGet H a' (.str k) (some v') ∧ Q v' H := ⟨a, v, rfl, e ▸ DGet.k (k := .inr k) h, q⟩
theorem w_dgetI {i : Int} (h : H a = some (.dK kvs)) (e : valV kvs (.inl i : Key) = some v) (q : Q v H) : ∃ a' v', V.ref a = .ref a' ∧ DGet H a' (.int i) (some v') ∧ Q v' H := ⟨a, v, rfl, e ▸ DGet.k (k := .inl i) h, q⟩
theorem w_disp {trs : List (TE × TE)} (h : ∀ p, H p = none → tPairs trs σ (upd H p (.dK [])) fun ps H2 => H2 p = some (.dK []) ∧ ∃ kvs : List (Key × V), ps = kvs.map (fun kv => (kV kv.1, kv.2)) ∧ kvs.length ≤ 15 ∧ Q (.ref p) (upd H2 p (.dK (mergeK [] kvs)))) : tDisp trs σ H Q := h
theorem w_prs {tk tv : TE} {r : List (TE × TE)} {Q : List (V × V) → Hp → Prop} (h : tk σ H fun x H1 => tv σ H1 fun y H2 => tPairs r σ H2 fun ps H3 => Q ((x, y) :: ps) H3) : tPairs ((tk, tv) :: r) σ H Q := h
theorem w_prn {Q : List (V × V) → Hp → Prop} (h : Q [] H) : tPairs [] σ H Q := h
/-! in -/
theorem w_inT {xs : List V} (h : SqT K H a xs) (fx : flatV x = true) (fs : xs.all flatV = true) (q : Q (.bl (inV x xs)) H) : rIn K false x (.ref a) H Q := ⟨a, xs, rfl, .inr h, fx, fs, q⟩
theorem w_inL {xs : List V} (h : SqL K H a xs) (fx : flatV x = true) (fs : xs.all flatV = true) (q : Q (.bl (inV x xs)) H) : rIn K false x (.ref a) H Q := ⟨a, xs, rfl, .inl h, fx, fs, q⟩
theorem w_ninT {xs : List V} (h : SqT K H a xs) (fx : flatV x = true) (fs : xs.all flatV = true) (q : Q (.bl (!inV x xs)) H) : rIn K true x (.ref a) H Q := ⟨a, xs, rfl, .inr h, fx, fs, q⟩
theorem w_ninL {xs : List V} (h : SqL K H a xs) (fx : flatV x = true) (fs : xs.all flatV = true) (q : Q (.bl (!inV x xs)) H) : rIn K true x (.ref a) H Q := ⟨a, xs, rfl, .inl h, fx, fs, q⟩
/-! tuple(list), list of a tuple -/
theorem w_tupL {xs : List V} (h : SqL K H a xs) (q : ∀ l, H l = none → Q (.ref l) (upd H l (.tup xs))) : gTupOf K [.ref a] H Q := ⟨a, xs, rfl, .inl ⟨h, q⟩⟩
end
/-! ### comprehensions, any word -/
section
variable {K : PySem.W.Frag} {σ : L2.St} {H : Hp} {Q : VK} {g : TG} {tt : TT} {te : TE} {vs : List Nat} {tA : TA} {tl : TE} {v : Nat} {j lo hi : Int}
theorem w_yes {Q : Bool → Hp → Prop} (h : Q true H) : tYes σ H Q := h
theorem lc_addG {D : Addr} {Pv : Addr → Nat → Hp → Prop} {i : Nat} {y : V} {H4 : Hp} {A : List V} (h : H4 D = some (.lst A)) (hl : A.length < sizeLine) (q : Pv D (i + 1) (upd H4 D (.lst (A ++ [y])))) : LcAdd D (Pv D) i y H4 := ⟨A, h, hl, q⟩
theorem lcG {J : It} {n : Nat} {G : Hp → Prop} {Y : Nat → Hp → V → Hp → Prop} (w : Walk J n G Y) (Pv : Addr → Nat → Hp → Prop) (h0 : ∀ D, H D = none → Pv D 0 (upd H D (.lst []))) (hG : ∀ D i H', Pv D i H' → G H')
    (hs : ∀ i x D H1 H2, i < n → H D = none → Pv D i H1 → Y i H1 x H2 → g x (wipe σ vs) H2 fun σ2 H2 => wipe σ2 vs = wipe σ vs ∧ tt σ2 H2 fun b H3 =>
      if b = true then te σ2 H3 fun y H4 => LcAdd D (Pv D) i y H4 else Pv D (i + 1) H3)
    (hd : ∀ D H1, H D = none → Pv D n H1 → Q (.ref D) H1) : rLc J g tt te vs σ H Q := fun D hD =>
  lc_it w (Pv D) (h0 D hD) (fun i H' _ h => hG D i H' h) (fun i x H1 H2 hi h y => hs i x D H1 H2 hi hD h y) fun H1 h => hd D H1 hD h
theorem lcR1G {n : Nat} (Pv : Addr → Nat → Hp → Prop) (hj : j = (n : Int)) (hn : n < 16000000) (h0 : ∀ D, H D = none → Pv D 0 (upd H D (.lst [])))
    (hs : ∀ (i : Nat) D H1, i < n → H D = none → Pv D i H1 → te ((σ.set v none).set v (some (.int (i : Int)))) H1 fun y H4 => LcAdd D (Pv D) i y H4)
    (hd : ∀ D H1, H D = none → Pv D n H1 → Q (.ref D) H1) : rLcR1 (gName v) tYes te [v] σ Q [.int j] H := by
  subst hj
  refine ⟨(n : Int), rfl, by omega, by omega, lcG walk_range Pv h0 (fun _ _ _ _ => trivial) ?_ (by rw [Int.toNat_natCast]; exact hd)⟩
  rintro i x D H1 H2 hi hD hP ⟨rfl, rfl⟩
  refine ⟨wipe1, ?_⟩
  show te ((σ.set v none).set v (some (.int (0 + (i : Int))))) H2 _
  rw [Int.zero_add]
  exact hs i D H2 (by omega) hD hP
/-- drawn numbers: [digit(state, m) for k in range(n)] -/
theorem lcDraw {s : Addr} {n0 m : Int} {n : Nat} (hj : j = (n : Int)) (hn : n < 16000000) (hs : H s = some (.lst [.int n0])) (h0 : 0 < m)
    (hb : ∀ (i : Nat) D H1 n1, i < n → H D = none → ExtP s H H1 → H1 s = some (.lst [.int n1]) → s ≠ D → te ((σ.set v none).set v (some (.int (i : Int)))) H1 fun y H4 => ∃ d n2, y = .int d ∧ 0 ≤ d ∧ d < m ∧ H4 = upd H1 s (.lst [.int n2]))
    (mono : ∀ (σ : L2.St) H (Q Q' : VK), (∀ y H1, Q y H1 → Q' y H1) → te σ H Q → te σ H Q')
    (hd : ∀ D H1 (ds : List Int) n1, H D = none → ExtP s H H1 → H1 s = some (.lst [.int n1]) → ds.length = n → (∀ d ∈ ds, 0 ≤ d ∧ d < m) → H1 D = some (.lst (ds.map V.int)) → Q (.ref D) H1) : rLcR1 (gName v) tYes te [v] σ Q [.int j] H := by
  refine lcR1G (fun D i H' => ExtP s H H' ∧ (∃ n1, H' s = some (.lst [.int n1])) ∧ ∃ ds : List Int, ds.length = i ∧ (∀ d ∈ ds, 0 ≤ d ∧ d < m) ∧ H' D = some (.lst (ds.map V.int))) hj hn (fun D hD => ⟨extp_up hD ExtP.rfl', ⟨n0, up_n hs hD⟩, [], rfl, (fun d hd => by cases hd), upd_same⟩) ?_ ?_
  · rintro i D H1 hi hD ⟨e, ⟨n1, hs1⟩, ds, hl, hds, hA⟩
    have nsD : s ≠ D := ne_of_none hs hD
    refine mono _ _ _ _ ?_ (hb i D H1 n1 hi hD e hs1 nsD)
    rintro y H4 ⟨d, n2, rfl, d0, d1, rfl⟩
    refine lc_addG (Pv := fun D i H' => ExtP s H H' ∧ (∃ n1, H' s = some (.lst [.int n1])) ∧ ∃ ds : List Int, ds.length = i ∧ (∀ d ∈ ds, 0 ≤ d ∧ d < m) ∧ H' D = some (.lst (ds.map V.int))) (A := ds.map V.int) (up_k hA nsD.symm) (by rw [List.length_map]; exact small16l (by omega)) ⟨extp_putn hD (extp_put e), ⟨n2, up_k upd_same nsD⟩, ds ++ [d], by rw [List.length_append, hl]; rfl, ?_, by rw [upd_same, List.map_append]; rfl⟩
    intro z hz
    rcases List.mem_append.mp hz with hz | hz
    · exact hds z hz
    · rw [List.mem_singleton.mp hz]
      exact ⟨d0, d1⟩
  · rintro D H1 hD ⟨e, ⟨n1, hs1⟩, ds, hl, hds, hA⟩
    exact hd D H1 ds n1 hD e hs1 hl hds hA
end
end G

/-! classes made with keywords -/
namespace G
open PySem PySem.Spec PyProof.Rows L2
section
variable (P : Program) (w : World) (K : PySem.W.Frag) (mg : Str → Option Value) (base : Heap)
/-- a class made with n positional values and the keywords ks; gV: in the parameters' order -/
structure HasK (k : Nat) (c : Str) (n : Nat) (ks ps : List Str) (gV : List V → List V → List V) (sp : Sp) : Prop where
  gl : mg c = some (.ref (He.ga K c))
  mkr : Mk K (He.ga K c) (He.ma K (He.ga K c) "__init__")
  ex : ∃ (fd : FuncData) (g : List Value → List Value → List Value), FnOk P w K mg base (L2.CX P w) k (He.ma K (He.ga K c) "__init__") fd ps sp ∧ KBn K fd ps (n + 1) ks g gV
end
theorem HasK.mono {P : Program} {w : World} {K : PySem.W.Frag} {mg : Str → Option Value} {base : Heap} {j k n : Nat} {c : Str} {ks ps : List Str} {gV : List V → List V → List V} {sp : Sp} (h : HasK P w K mg base j c n ks ps gV sp) (l : j ≤ k) : HasK P w K mg base k c n ks ps gV sp :=
  ⟨h.gl, h.mkr, let ⟨fd, g, F, b⟩ := h.ex; ⟨fd, g, F.mono l, b⟩⟩
/-- C(.., k = v, ..) -/
def tMkK (C : Addr) (n m : Nat) (sp : Sp) (gV : List V → List V → List V) (E : L2.St → XK) (t tk : TA) : TE := fun σ H Q => t σ H fun vs H1 => tk σ H1 fun zs H2 => vs.length = n ∧ zs.length = m ∧ ∀ x dx, H2 x = none → H2 dx = none → dx ≠ x →
  sp (gV (.ref x :: vs) zs) (upd (upd H2 dx (.own x)) x (.ins C dx [])) (fun v H3 => v = .non ∧ Q (.ref x) H3) (E σ)
section
variable {X : Cx} {k n : Nat} {f C : Addr} {fd : FuncData} {ps ks : List Str} {sp : Sp} {E : L2.St → XK} {x c : Str} {p pos : Pos} {e : Expr} {es : List Expr} {kws : List Keyword} {t tk : TA} {g : List Value → List Value → List Value} {gV : List V → List V → List V}
theorem run_mkK {pins : List (Addr × Obj)} {σ : L2.St} {H : Hp} {s : Shared} {Q : VK} {us ws : List Value} {vs zs : List V} (M : Mk X.K C f) (F : FnOk X.prog X.w X.K X.mg X.base (XC X) k f fd ps sp) (hr : Room (k + 1) X.A) (hb : KBn X.K fd ps (n + 1) ks g gV) (hx : PassesAt (XC X) X σ (E σ))
    (I : Inv X pins σ H s) (r : Vals vs us) (rz : Vals zs ws) (l1 : vs.length = n) (l2 : zs.length = ks.length)
    (h : ∀ x dx, H x = none → H dx = none → dx ≠ x → sp (gV (.ref x :: vs) zs) (upd (upd H dx (.own x)) x (.ins C dx [])) (fun v H2 => v = .non ∧ Q (.ref x) H2) (E σ)) :
    wpAny (model X.prog X.w) X.A (call (.ref C) us (ks.zip ws)) (EP X pins σ Q) X.xe s := by
  have hq := h (s.heap.objs.size + 1) s.heap.objs.size (I.hok.fresh (Nat.le_succ _)) (I.hok.fresh (Nat.le_refl _)) (Nat.ne_of_lt (Nat.lt_succ_self _))
  have I2 := Inv.made (C := C) I
  have r1 : Vals (V.ref (s.heap.objs.size + 1) :: vs) (Value.ref (s.heap.objs.size + 1) :: us) := .cons rfl r
  have r2 := hb.rel r1 rz
  have n1 : (Value.ref (s.heap.objs.size + 1) :: us).length = n + 1 := by
    rw [List.length_cons, ← r.length, l1]
  refine wpAny_call (make_map (f := f) I.kIn M.makes M.init (beq_iff_eq.mp M.fn) (codeAny_mono (F.run _ X.stack _ _ ⟨Value.ref (s.heap.objs.size + 1) :: us, ks.zip ws⟩ (g (Value.ref (s.heap.objs.size + 1) :: us) ws) _ _ (E σ) (hr.make C us (ks.zip ws))
    (I2.env0.make C us (ks.zip ws)) (hb.to _ (Value.ref (s.heap.objs.size + 1) :: us) ws I2.kIn n1 (rz.length.symm.trans l2)) r2 hq) fun r s' hq' => ?_))
  cases r with
  | error e => exact hx pins _ _ e s' I2 hq'
  | ok fl =>
    cases fl with
    | ret u =>
      obtain ⟨v, H', I3, rv, ev, q3⟩ := I2.after hq'
      subst ev
      exact ⟨rv, ⟨V.ref (s.heap.objs.size + 1), H', I3, rfl, q3⟩⟩
    | next => exact False.elim hq'
    | brk => exact False.elim hq'
    | cont => exact False.elim hq'
theorem pe_mkK0 (h : HasK X.prog X.w X.K X.mg X.base k c 0 ks ps gV sp) (hr : Room (k + 1) X.A) (hg : Gl X c) (hx : ∀ σ, PassesAt (XC X) X σ (E σ)) (hkw : PK X kws tk)
    (hall : (backToKw pos (keywordEach kws X.env)).all (·.1.isSome) = true := by rfl) (hks : (backToKw pos (keywordEach kws X.env)).filterMap (·.1) = ks := by rfl) (hdb : (c == ("__debug__" : Str)) = false := by decide)
    (hpl : ((backTo pos (starEach [] X.env)).any (·.1) || (backToKw pos (keywordEach kws X.env)).any (·.1.isNone)) = false := by rfl) :
    PE X (.Call (.Name c p) [] kws pos) (tMkK (He.ga X.K c) 0 ks.length sp gV E tNil tk) := by
  obtain ⟨fd, g, F, hb⟩ := h.ex
  refine ⟨fun pins s σ H Q I hh => ?_⟩
  refine wpAny_Call_Name_kw (ld_glob I hg h.gl ?_ hdb)
  refine PySem.W.callWith_KW0 (h₀ := X.base) I.ok.mod.kin h.mkr.kp hall ?_ hpl
  refine thn (hkw.run pos pins s σ H _ I hh) fun ws s2 ⟨zs, H2, I2, rz, l1, l2, q2⟩ => ⟨I2.kIn, ?_⟩
  rw [hks]
  exact run_mkK (us := []) (vs := []) h.mkr F hr hb (hx σ) I2 .nil rz rfl l2 q2
theorem pe_mkK (h : HasK X.prog X.w X.K X.mg X.base k c n ks ps gV sp) (hr : Room (k + 1) X.A) (hg : Gl X c) (hx : ∀ σ, PassesAt (XC X) X σ (E σ)) (ha : PA X (e :: es) t) (hkw : PK X kws tk)
    (hall : (backToKw pos (keywordEach kws X.env)).all (·.1.isSome) = true := by rfl) (hks : (backToKw pos (keywordEach kws X.env)).filterMap (·.1) = ks := by rfl) (hdb : (c == ("__debug__" : Str)) = false := by decide)
    (he : starEach (e :: es) X.env = (false, eval e X.env) :: starEach es X.env := by rfl) (hpl : ((backTo pos (starEach (e :: es) X.env)).any (·.1) || (backToKw pos (keywordEach kws X.env)).any (·.1.isNone)) = false := by rfl) :
    PE X (.Call (.Name c p) (e :: es) kws pos) (tMkK (He.ga X.K c) n ks.length sp gV E t tk) := by
  obtain ⟨fd, g, F, hb⟩ := h.ex
  refine ⟨fun pins s σ H Q I hh => ?_⟩
  refine wpAny_Call_Name_kw (ld_glob I hg h.gl ?_ hdb)
  refine PySem.W.callWith_KW (h₀ := X.base) I.ok.mod.kin h.mkr.kp hall (thn (ha.run pos pins s σ H _ I hh) fun us s1 ⟨vs, H1, I1, r, q⟩ => ?_) hpl he
  refine thn (hkw.run pos pins s1 σ H1 _ I1 q) fun ws s2 ⟨zs, H2, I2, rz, l1, l2, q2⟩ => ⟨I2.kIn, ?_⟩
  rw [hks]
  exact run_mkK h.mkr F hr hb (hx σ) I2 r rz l1 l2 q2
end
/-- every keyword-only parameter is written -/
theorem kbn_all {K : PySem.W.Frag} {x qual : Str} {params : Arguments} {body : List Stmt} {scope : Scope} {kws : List (Str × V)} {f : Addr} {fd : FuncData} {ps : List Str} (F : FunD K x qual params body scope [] kws f fd) (n : Nat) (ks : List Str)
    (g : {α : Type} → List α → List α → List α) (hrel : ∀ {vs zs : List V} {us ws : List Value}, Vals vs us → Vals zs ws → Vals (g vs zs) (g us ws))
    (h : ∀ (kV doc pm : Value) (an : Option Addr) (cdv ct : Value) (us ws : List Value), us.length = n → ws.length = ks.length → bindArgs (PySem.W.fnOf x qual params body scope .none kV doc pm an cdv ct) ⟨us, ks.zip ws⟩ = pure (ps.zip (g us ws))) :
    KBn K fd ps n ks (fun us ws => g us ws) (fun vs zs => g vs zs) := by
  obtain ⟨oc, od, dV, kV, doc, pm, an, cdv, ct, osl, rfl, lk, hcd, hD, hK⟩ := F.ex
  rcases hD with ⟨_, rfl⟩ | ⟨e, _⟩
  · exact ⟨fun s us ws X l1 l2 => .of_eq (h kV doc pm an cdv ct us ws l1 l2), fun r1 r2 => hrel r1 r2⟩
  · exact absurd rfl e
/-- what a def with keyword-only parameters promises, before it is called -/
theorem mk_fn {P : Program} {w : World} {K : PySem.W.Frag} {mg : Str → Option Value} {base : Heap} {k : Nat} {x qual : Str} {params : Arguments} {body : List Stmt} {scope : Scope} {N ps : List Str} {sp : Sp} {dvs : List V} {kws : List (Str × V)} {f : Addr}
    (F : ∃ fd, FunD K x qual params body scope dvs kws f fd) (S : FnScope N ps scope) (len : ∀ vs H Q E, sp vs H Q E → vs.length = ps.length) (hbody : Body P w K mg base k N qual scope f body sp) :
    ∃ fd, FunD K x qual params body scope dvs kws f fd ∧ FnOk P w K mg base (L2.CX P w) (k + 1) f fd ps sp := by
  obtain ⟨fd, F⟩ := F
  exact ⟨fd, F, FunD.ok (CX := L2.CX P w) F S len hbody⟩
section
variable {K : PySem.W.Frag} {σ : L2.St} {H : Hp} {Q : VK}
theorem w_mkK {C : Addr} {n m : Nat} {sp : Sp} {gV : List V → List V → List V} {E : L2.St → XK} {t tk : TA} (h : t σ H fun vs H1 => tk σ H1 fun zs H2 => vs.length = n ∧ zs.length = m ∧ ∀ x dx, H2 x = none → H2 dx = none → dx ≠ x →
  sp (gV (.ref x :: vs) zs) (upd (upd H2 dx (.own x)) x (.ins C dx [])) (fun v H3 => v = .non ∧ Q (.ref x) H3) (E σ)) : tMkK C n m sp gV E t tk σ H Q := h
theorem w_ll {a b c d : Nat} {P : Prop} (h1 : a = b) (h2 : c = d) (p : P) : a = b ∧ c = d ∧ P := ⟨h1, h2, p⟩
end
end G

/-! data at values, through a heap that grows -/
namespace G
open PySem PySem.Spec PyProof.Rows L2
section
variable {K : PySem.W.Frag} {H H' : Hp}
mutual
theorem dp_ext (e : Ext H H') : ∀ {v : V} {d : PyData}, Dp K H v d → Dp K H' v d
  | _, _, .non => .non
  | _, _, .bl b => .bl b
  | _, _, .int i => .int i
  | _, _, .str x => .str x
  | _, _, .lst h a => .lst (h.ext e) (dpAll_ext e a)
  | _, _, .tup h a => .tup (h.ext e) (dpAll_ext e a)
theorem dpAll_ext (e : Ext H H') : ∀ {vs : List V} {ds : List PyData}, DpAll K H vs ds → DpAll K H' vs ds
  | _, _, .nil => .nil
  | _, _, .cons h a => .cons (dp_ext e h) (dpAll_ext e a)
end
theorem dpAll_snoc {v : V} {d : PyData} : ∀ {vs : List V} {ds : List PyData}, DpAll K H vs ds → Dp K H v d → DpAll K H (vs ++ [v]) (ds ++ [d])
  | _, _, .nil, h => .cons h .nil
  | _, _, .cons h1 a, h => .cons h1 (dpAll_snoc a h)
end
theorem lay_map {α : Type} {f : α → PyData} : ∀ {xs : List α}, (∀ x ∈ xs, (f x).canLay0 = true) → PyData.canLayAll0 (xs.map f) = true
  | [], _ => rfl
  | x :: xs, h => by
    show (PyData.canLay0 (f x) && PyData.canLayAll0 (xs.map f)) = true
    rw [h x List.mem_cons_self, lay_map fun y hy => h y (List.mem_cons_of_mem _ hy)]
    rfl
theorem depth_map {α : Type} {f : α → PyData} {n : Nat} : ∀ {xs : List α}, (∀ x ∈ xs, (f x).depth ≤ n) → PyData.depthAll (xs.map f) ≤ n
  | [], _ => by simp [PyData.depthAll]
  | x :: xs, h => by
    have h1 := h x List.mem_cons_self
    have h2 := depth_map (xs := xs) fun y hy => h y (List.mem_cons_of_mem _ hy)
    simp only [List.map_cons, PyData.depthAll]
    omega
theorem shaped_of {d : PyData} (h1 : d.canLay0 = true) (h2 : d.depth ≤ 64) : SeqAt.shaped d = true := by
  unfold SeqAt.shaped
  rw [h1, decide_eq_true h2]
  rfl
theorem shaped_lm {α : Type} {f : α → PyData} {xs : List α} (h1 : ∀ x ∈ xs, (f x).canLay0 = true) (h2 : ∀ x ∈ xs, (f x).depth ≤ 63) : SeqAt.shaped (.list (xs.map f)) = true := by
  refine shaped_of ?_ ?_
  · show PyData.canLayAll0 (xs.map f) = true
    exact lay_map h1
  · have := depth_map h2
    simp only [PyData.depth]
    omega
/-- two data that are the same -/
theorem w_eqS' {K : PySem.W.Frag} {H : Hp} {Q : VK} {x y : V} {d : PyData} (h1 : Dp K H x d) (h2 : Dp K H y d) (s : SeqAt.shaped d = true) (q : Q (.bl true) H) : rEqD K x y H Q := w_eqD h1 h2 s s (by rw [eqv_self s]; exact q)
theorem w_neS' {K : PySem.W.Frag} {H : Hp} {Q : VK} {x y : V} {d : PyData} (h1 : Dp K H x d) (h2 : Dp K H y d) (s : SeqAt.shaped d = true) (q : Q (.bl false) H) : rNeD K x y H Q := w_neD h1 h2 s s (by rw [eqv_self s]; exact q)
/-! range with a step -/
theorem w_forR3 {g : TG} {tb : TS} {D : Ends} {σ : L2.St} {H : Hp} {tA : TA} (h : tA σ H fun vs H1 => ∃ (i j c : Int) (n : Nat), vs = [.int i, .int j, .int c] ∧ RgC i j c n ∧ ∃ W : Nat → Nat → L2.St → Hp → Prop, (∃ m, W 0 m σ H1) ∧ ∀ k m σ H, W k m σ H →
  ((Itc i c n).stop k H ∧ D.nx σ H) ∨ ((Itc i c n).go k H ∧ ∃ N : L2.St → Hp → Prop, (∀ σ' H', N σ' H' → ∃ m', m' < m ∧ W (k + 1) m' σ' H') ∧ ∀ x H', (Itc i c n).yld k H x H' → g x σ H' fun σ2 H2 => tb { D with nx := N, ct := N, bk := D.nx } σ2 H2)) : tFor (iRng3 tA) g tb D σ H := h
theorem rgC_pos {n c : Int} (h0 : 0 ≤ n) (h1 : n < 10000000) (c0 : 1 ≤ c) (c1 : c < 1073741824) : RgC 0 n c ((n + c - 1) / c).toNat := by
  have e := rangeSize_pos (len := n) c0 h0
  have q0 : 0 ≤ (n + c - 1) / c := Int.ediv_nonneg (by omega) (by omega)
  have q1 : (n + c - 1) / c ≤ n + c - 1 := Int.ediv_le_self _ (by omega)
  refine ⟨by omega, by omega, ?_, ?_⟩
  · unfold Builtin.Range.small
    rw [e]
    simp only [Builtin.Range.rangeFitsLong, Bool.and_eq_true, Bool.or_eq_true, decide_eq_true_eq, beq_iff_eq]
    rw [if_pos (by omega)]
    simp only [Bool.and_eq_true, decide_eq_true_eq]
    generalize (n + c - 1) / c = z at *
    omega
  · rw [e]
    omega
def rLoop3 (g : TG) (tb : TS) (D : Ends) (σ : L2.St) (vs : List V) (H1 : Hp) : Prop := ∃ (i j c : Int) (n : Nat), vs = [.int i, .int j, .int c] ∧ RgC i j c n ∧ ∃ W : Nat → Nat → L2.St → Hp → Prop, (∃ m, W 0 m σ H1) ∧ ∀ k m σ H, W k m σ H →
  ((Itc i c n).stop k H ∧ D.nx σ H) ∨ ((Itc i c n).go k H ∧ ∃ N : L2.St → Hp → Prop, (∀ σ' H', N σ' H' → ∃ m', m' < m ∧ W (k + 1) m' σ' H') ∧ ∀ x H', (Itc i c n).yld k H x H' → g x σ H' fun σ2 H2 => tb { D with nx := N, ct := N, bk := D.nx } σ2 H2)
theorem w_for3 {g : TG} {tb : TS} {D : Ends} {σ : L2.St} {H : Hp} {tA : TA} (h : tA σ H fun vs H1 => rLoop3 g tb D σ vs H1) : tFor (iRng3 tA) g tb D σ H := h
/-- for x in range(0, n, c) -/
theorem loop3 {g : TG} {tb : TS} {D : Ends} {σ : L2.St} {H : Hp} {n c : Int} (Pv : Nat → L2.St → Hp → Prop) (h0 : 0 ≤ n) (h1 : n < 10000000) (c0 : 1 ≤ c) (c1 : c < 1073741824) (hb : Pv 0 σ H)
    (hs : ∀ (i : Nat) σ H, (i : Int) * c < n → Pv i σ H → g (.int ((i : Int) * c)) σ H fun σ2 H2 => tb { D with nx := Pv (i + 1), ct := Pv (i + 1), bk := D.nx } σ2 H2) (hd : ∀ (N : Nat) σ H, n ≤ (N : Int) * c → (N : Int) * c < n + c → Pv N σ H → D.nx σ H) : rLoop3 g tb D σ [.int 0, .int n, .int c] H := by
  have q0 : 0 ≤ (n + c - 1) / c := Int.ediv_nonneg (by omega) (by omega)
  have e1 := Int.emod_add_mul_ediv (n + c - 1) c
  have e2 := Int.emod_nonneg (n + c - 1) (b := c) (by omega)
  have e3 := Int.emod_lt_of_pos (n + c - 1) (b := c) (by omega)
  have em : c * ((n + c - 1) / c) = ((n + c - 1) / c) * c := Int.mul_comm _ _
  have ez : ((((n + c - 1) / c).toNat : Nat) : Int) = (n + c - 1) / c := by omega
  refine ⟨0, n, c, _, rfl, rgC_pos h0 h1 c0 c1, for_rangeC (lo := 0) (c := c) (n := ((n + c - 1) / c).toNat) Pv hb (fun i σ H hi p => ?_) (fun σ H p => hd _ σ H ?_ ?_ p)⟩
  · have e : (0 : Int) + (i : Nat) * c = (i : Int) * c := Int.zero_add _
    rw [e]
    refine hs i σ H ?_ p
    have hi2 : (i : Int) + 1 ≤ (n + c - 1) / c := by omega
    have hm := Int.mul_le_mul_of_nonneg_right hi2 (show 0 ≤ c by omega)
    rw [Int.add_mul, Int.one_mul] at hm
    omega
  · rw [ez]; omega
  · rw [ez]; omega
theorem upd_thru {H : Hp} {p m : Addr} {x y z : HO} (n : m ≠ p) : upd (upd (upd H p x) m y) p z = upd (upd H m y) p z := by
  funext a
  by_cases h : a = p
  · subst h
    rw [upd_same, upd_same]
  · rw [upd_ne h, upd_ne h]
    by_cases h2 : a = m
    · subst h2
      rw [upd_same, upd_same]
    · rw [upd_ne h2, upd_ne h2, upd_ne h]
end G

/-! what a run owns: a list of claims on disjoint parts of the heap; a marked cell is only read, and may be claimed often -/
namespace G
open PySem PySem.Spec PyProof.Rows L2
abbrev LH : Type := Addr → Option (HO × Bool)
abbrev HP : Type := LH → Prop
def LHle (h : LH) (H : Hp) : Prop := ∀ a o b, h a = some (o, b) → H a = some o
def Dis (h k : LH) : Prop := ∀ a x y, h a = some x → k a = some y → x.2 = true
def LSub (h k : LH) : Prop := ∀ a x, h a = some x → k a = some x
def LHor (h k : LH) : LH := fun a => match h a with
  | some x => some x
  | none => k a
def LHupd (h : LH) (a : Addr) (x : HO × Bool) : LH := fun b => if b = a then some x else h b
def LHnone : LH := fun _ => none
def AllRo (h : LH) : Prop := ∀ a x, h a = some x → x.2 = true
def stars : List HP → HP
  | [] => fun _ => True
  | P :: L => fun h => ∃ h1 h2, Dis h1 h2 ∧ LSub h1 h ∧ LSub h2 h ∧ P h1 ∧ stars L h2
def Own (L : List HP) (H : Hp) : Prop := ∃ h, LHle h H ∧ stars L h
def cell (b : Bool) (a : Addr) (o : HO) : HP := fun h => h a = some (o, b)
abbrev pt (a : Addr) (o : HO) : HP := cell false a o
abbrev ro (a : Addr) (o : HO) : HP := cell true a o
def hex {α : Sort _} (f : α → HP) : HP := fun h => ∃ x, f x h
def hpu (p : Prop) : HP := fun _ => p
section
variable {h k h1 h2 h3 g : LH} {a b : Addr} {x y : HO × Bool} {L M R : List HP} {P Q : HP} {H H' : Hp} {o u : HO}
theorem LSub.rfl' : LSub h h := fun _ _ e => e
theorem LSub.trans (s : LSub h k) (t : LSub k g) : LSub h g := fun a x e => t a x (s a x e)
theorem lor_l : LSub h (LHor h k) := fun a x e => by unfold LHor; rw [e]
theorem lor_sub (s : LSub h g) (t : LSub k g) : LSub (LHor h k) g := fun a x e => by
  unfold LHor at e
  cases q : h a with
  | some z => rw [q] at e; cases e; exact s a _ q
  | none => rw [q] at e; exact t a x e
theorem lor_r (s : LSub h g) (t : LSub k g) : LSub k (LHor h k) := fun a x e => by
  unfold LHor
  cases q : h a with
  | some z =>
    have e1 := s a z q
    rw [t a x e] at e1
    cases e1
    rfl
  | none => exact e
theorem lor_of (e : LHor h k a = some x) : h a = some x ∨ k a = some x := by
  unfold LHor at e
  split at e
  · rename_i z q
    cases e
    exact .inl q
  · exact .inr e
theorem Dis.symm (d : Dis h k) (s : LSub h g) (t : LSub k g) : Dis k h := fun a x y e f => by
  have e1 := t a x e
  rw [s a y f] at e1
  cases e1
  exact d a _ _ f e
theorem dis_or (d : Dis h k) (e : Dis h g) : Dis h (LHor k g) := fun a x y p q => (lor_of q).elim (d a x y p) (e a x y p)
theorem or_dis (d : Dis h g) (e : Dis k g) : Dis (LHor h k) g := fun a x y p q => (lor_of p).elim (fun p => d a x y p q) fun p => e a x y p q
theorem Dis.sub_l (d : Dis h k) (s : LSub g h) : Dis g k := fun a x y p q => d a x y (s a x p) q
theorem Dis.sub_r (d : Dis h k) (s : LSub g k) : Dis h g := fun a x y p q => d a x y p (s a y q)
theorem dis_none : Dis LHnone h := fun a x y e _ => nomatch e
theorem dis_none_r : Dis h LHnone := fun a x y _ e => nomatch e
theorem sub_none : LSub LHnone h := fun a x e => nomatch e
theorem stars_mono : ∀ {L : List HP} {h k : LH}, stars L h → LSub h k → stars L k
  | [], _, _, _, _ => trivial
  | _ :: _, _, _, ⟨h1, h2, d, s1, s2, p, q⟩, s => ⟨h1, h2, d, s1.trans s, s2.trans s, p, q⟩
theorem stars_swap (s : stars (P :: Q :: L) h) : stars (Q :: P :: L) h := by
  obtain ⟨h1, h2, d, s1, s2, p, h3, h4, d2, s3, s4, q, t⟩ := s
  refine ⟨h3, LHor h1 h4, dis_or ((d.sub_r s3).symm s1 (s3.trans s2)) d2, s3.trans s2, lor_sub s1 (s4.trans s2), q, h1, h4, d.sub_r s4, lor_l, lor_r s1 (s4.trans s2), p, t⟩
theorem stars_cons (t : ∀ h, stars L h → stars M h) (s : stars (P :: L) h) : stars (P :: M) h := by
  obtain ⟨h1, h2, d, s1, s2, p, q⟩ := s
  exact ⟨h1, h2, d, s1, s2, p, t _ q⟩
theorem stars_head (t : ∀ h, P h → Q h) (s : stars (P :: L) h) : stars (Q :: L) h := by
  obtain ⟨h1, h2, d, s1, s2, p, q⟩ := s
  exact ⟨h1, h2, d, s1, s2, t _ p, q⟩
theorem stars_perm (p : L.Perm M) : ∀ {h}, stars L h → stars M h := by
  induction p with
  | nil => exact fun s => s
  | cons x _ ih => exact fun s => stars_cons (fun h => ih) s
  | swap x y l => exact fun s => stars_swap s
  | trans _ _ i1 i2 => exact fun s => i2 (i1 s)
theorem stars_app : ∀ {L M : List HP} {h : LH}, stars (L ++ M) h ↔ ∃ h1 h2, Dis h1 h2 ∧ LSub h1 h ∧ LSub h2 h ∧ stars L h1 ∧ stars M h2
  | [], M, h => ⟨fun s => ⟨LHnone, h, dis_none, sub_none, LSub.rfl', trivial, s⟩, fun ⟨_, _, _, _, s, _, q⟩ => stars_mono q s⟩
  | P :: L, M, h => by
    constructor
    · rintro ⟨hp, h', d, s1, s2, p, q⟩
      obtain ⟨h1, h2, d2, s3, s4, q1, q2⟩ := stars_app.mp q
      exact ⟨LHor hp h1, h2, or_dis (d.sub_r s4) d2, lor_sub s1 (s3.trans s2), s4.trans s2, ⟨hp, h1, d.sub_r s3, lor_l, lor_r s1 (s3.trans s2), p, q1⟩, q2⟩
    · rintro ⟨h1, h2, d, s1, s2, ⟨hp, h3, d2, s3, s4, p, q1⟩, q2⟩
      exact ⟨hp, LHor h3 h2, dis_or d2 (d.sub_l s3), s3.trans s1, lor_sub (s4.trans s1) s2, p, stars_app.mpr ⟨h3, h2, d.sub_l s4, lor_l, lor_r (s4.trans s1) s2, q1, q2⟩⟩
theorem stars_flat : stars (stars L :: M) h ↔ stars (L ++ M) h := by
  rw [stars_app]
  rfl
/-! ### claims -/
theorem Own.nil : Own [] H := ⟨LHnone, (fun _ _ _ e => nomatch e), trivial⟩
theorem Own.map (t : ∀ h, stars L h → stars M h) (o : Own L H) : Own M H := let ⟨h, e, s⟩ := o; ⟨h, e, t h s⟩
theorem Own.perm (o : Own L H) (p : L.Perm M) : Own M H := o.map fun _ => stars_perm p
theorem Own.swap (o : Own (P :: Q :: L) H) : Own (Q :: P :: L) H := o.map fun _ => stars_swap
theorem Own.tail (o : Own (P :: L) H) : Own L H := o.map fun h s => by
  obtain ⟨_, _, _, _, s2, _, q⟩ := s
  exact stars_mono q s2
theorem Own.flat (o : Own (stars L :: M) H) : Own (L ++ M) H := o.map fun _ => stars_flat.mp
theorem Own.fold (o : Own (L ++ M) H) : Own (stars L :: M) H := o.map fun _ => stars_flat.mpr
theorem Own.head (t : ∀ h, P h → Q h) (o : Own (P :: L) H) : Own (Q :: L) H := o.map fun _ => stars_head t
theorem Own.rest (t : ∀ h, stars L h → stars M h) (o : Own (P :: L) H) : Own (P :: M) H := o.map fun _ => stars_cons t
theorem Own.ex {α : Sort _} {f : α → HP} (o : Own (hex f :: L) H) : ∃ x, Own (f x :: L) H := by
  obtain ⟨h, e, h1, h2, d, s1, s2, ⟨x, p⟩, q⟩ := o
  exact ⟨x, h, e, h1, h2, d, s1, s2, p, q⟩
theorem Own.exi {α : Sort _} {f : α → HP} (x : α) (o : Own (f x :: L) H) : Own (hex f :: L) H := o.head fun _ p => ⟨x, p⟩
theorem Own.pu {p : Prop} (o : Own (hpu p :: L) H) : p ∧ Own L H := by
  obtain ⟨h, e, h1, h2, d, s1, s2, z, q⟩ := o
  exact ⟨z, h, e, stars_mono q s2⟩
theorem Own.pui {p : Prop} (z : p) (o : Own L H) : Own (hpu p :: L) H := o.map fun h s => ⟨LHnone, h, dis_none, sub_none, LSub.rfl', z, s⟩
/-- a claim that needs no cell -/
theorem Own.free (z : P LHnone) (o : Own L H) : Own (P :: L) H := o.map fun h s => ⟨LHnone, h, dis_none, sub_none, LSub.rfl', z, s⟩
/-! ### what a claim tells -/
def Ent (L : List HP) (φ : Hp → Prop) : Prop := ∀ h, stars L h → ∀ H, LHle h H → φ H
def Tell (P : HP) (φ : Hp → Prop) : Prop := ∀ h, P h → ∀ H, LHle h H → φ H
theorem LHle.sub (e : LHle k H) (s : LSub h k) : LHle h H := fun a o b z => e a o b (s a _ z)
theorem Ent.here {φ : Hp → Prop} (t : Tell P φ) : Ent (P :: L) φ := fun _ ⟨_, _, _, s1, _, p, _⟩ _ e => t _ p _ (e.sub s1)
theorem Ent.next {φ : Hp → Prop} (t : Ent L φ) : Ent (P :: L) φ := fun _ ⟨_, _, _, _, s2, _, q⟩ _ e => t _ q _ (e.sub s2)
theorem Own.ent {φ : Hp → Prop} (o : Own L H) (t : Ent L φ) : φ H := let ⟨_, e, s⟩ := o; t _ s _ e
theorem tell_cell {c : Bool} : Tell (cell c a o) (fun H => H a = some o) := fun _ p _ e => e _ _ _ p
/-- the cell at a holds o -/
abbrev Got (L : List HP) (a : Addr) (o : HO) : Prop := Ent L fun H => H a = some o
theorem Got.here {c : Bool} : Got (cell c a o :: L) a o := Ent.here tell_cell
theorem Got.next (t : Got L a o) : Got (P :: L) a o := Ent.next t
theorem Own.get (w : Own L H) (t : Got L a o) : H a = some o := w.ent t
theorem Own.get' {c : Bool} (w : Own (cell c a o :: L) H) : H a = some o := w.get Got.here
/-! ### taking a claim out -/
def Pick (L : List HP) (P : HP) (R : List HP) : Prop := ∀ h, stars L h → stars (P :: R) h
class Ro (P : HP) : Prop where
  ro : ∀ h, P h → ∃ g, LSub g h ∧ AllRo g ∧ P g
theorem stars_dup (c : Ro P) (s : stars (P :: L) h) : stars (P :: P :: L) h := by
  obtain ⟨h1, h2, d, s1, s2, p, q⟩ := s
  obtain ⟨g, t, r, p'⟩ := c.ro _ p
  exact ⟨g, h, fun a x y e f => r a x e, t.trans s1, LSub.rfl', p', h1, h2, d, s1, s2, p, q⟩
theorem Pick.here : Pick (P :: R) P R := fun _ s => s
theorem Pick.keep [c : Ro P] : Pick (P :: R) P (P :: R) := fun _ s => stars_dup c s
theorem Pick.next (p : Pick L P R) : Pick (Q :: L) P (Q :: R) := fun _ s => stars_swap (stars_cons p s)
theorem Own.pick (o : Own L H) (p : Pick L P R) : Own (P :: R) H := o.map p
theorem Own.dup [c : Ro P] (o : Own (P :: L) H) : Own (P :: P :: L) H := o.map fun _ s => stars_dup c s
theorem lup_none {z : HO × Bool} (e : LHupd LHnone a z b = some x) : b = a ∧ x = z := by
  unfold LHupd at e
  split at e
  · rename_i q
    cases e
    exact ⟨q, rfl⟩
  · cases e
instance : Ro (cell true a o) := ⟨fun h p => ⟨LHupd LHnone a (o, true), (fun b x e => by
    obtain ⟨rfl, rfl⟩ := lup_none e
    exact p), (fun b x e => by
    obtain ⟨rfl, rfl⟩ := lup_none e
    rfl), if_pos rfl⟩⟩
instance {α : Sort _} {f : α → HP} [c : ∀ x, Ro (f x)] : Ro (hex f) := ⟨fun h ⟨x, p⟩ => let ⟨g, s, r, q⟩ := (c x).ro h p; ⟨g, s, r, x, q⟩⟩
instance {p : Prop} : Ro (hpu p) := ⟨fun h z => ⟨LHnone, sub_none, (fun _ _ e => nomatch e), z⟩⟩
theorem allRo_or (p : AllRo h) (q : AllRo k) : AllRo (LHor h k) := fun a x e => (lor_of e).elim (p a x) (q a x)
instance : Ro (stars []) := ⟨fun h _ => ⟨LHnone, sub_none, (fun _ _ e => nomatch e), trivial⟩⟩
instance [c : Ro P] [d : Ro (stars L)] : Ro (stars (P :: L)) := ⟨fun h ⟨h1, h2, _, s1, s2, p, q⟩ => by
  obtain ⟨g1, t1, r1, p'⟩ := c.ro _ p
  obtain ⟨g2, t2, r2, q'⟩ := d.ro _ q
  exact ⟨LHor g1 g2, lor_sub (t1.trans s1) (t2.trans s2), allRo_or r1 r2, g1, g2, fun a x y e f => r1 a x e, lor_l, lor_r (t1.trans s1) (t2.trans s2), p', q'⟩⟩
/-! ### writing -/
theorem lup_same : LHupd h a x a = some x := if_pos rfl
theorem lup_ne (n : b ≠ a) : LHupd h a x b = h b := if_neg n
theorem le_lup (e : LHle h H) {c : Bool} : LHle (LHupd h a (o, c)) (upd H a o) := fun b u d z => by
  by_cases n : b = a
  · subst n
    rw [lup_same] at z
    cases z
    exact upd_same
  · rw [lup_ne n] at z
    rw [upd_ne n]
    exact e b u d z
def Put (L : List HP) (a : Addr) (u o : HO) (M : List HP) : Prop := ∀ h, stars L h → h a = some (u, false) ∧ stars M (LHupd h a (o, false))
theorem Put.here : Put (pt a u :: L) a u o (pt a o :: L) := by
  rintro h ⟨h1, h2, d, s1, s2, p, q⟩
  have n2 : h2 a = none := by
    cases z : h2 a with
    | none => rfl
    | some y => exact absurd (d a _ _ p z) Bool.false_ne_true
  refine ⟨s1 _ _ p, LHupd LHnone a (o, false), h2, ?_, ?_, ?_, lup_same, q⟩
  · intro b x y e f
    by_cases n : b = a
    · subst n
      rw [n2] at f
      cases f
    · rw [lup_ne n] at e
      cases e
  · intro b x e
    by_cases n : b = a
    · subst n
      rw [lup_same] at e ⊢
      exact e
    · rw [lup_ne n] at e
      cases e
  · intro b x e
    have n : b ≠ a := fun z => by
      subst z
      rw [n2] at e
      cases e
    rw [lup_ne n]
    exact s2 b x e
theorem Put.next (t : Put L a u o M) : Put (P :: L) a u o (P :: M) := by
  rintro h ⟨h1, h2, d, s1, s2, p, q⟩
  obtain ⟨e2, q2⟩ := t _ q
  have n1 : h1 a = none := by
    cases z : h1 a with
    | none => rfl
    | some y =>
      have e1 := s1 _ _ z
      rw [s2 _ _ e2] at e1
      cases e1
      exact absurd (d a _ _ z e2) Bool.false_ne_true
  refine ⟨s2 _ _ e2, h1, LHupd h2 a (o, false), ?_, ?_, ?_, p, q2⟩
  · intro b x y e f
    have n : b ≠ a := fun z => by
      subst z
      rw [n1] at e
      cases e
    rw [lup_ne n] at f
    exact d b x y e f
  · intro b x e
    have n : b ≠ a := fun z => by
      subst z
      rw [n1] at e
      cases e
    rw [lup_ne n]
    exact s1 b x e
  · intro b x e
    by_cases n : b = a
    · subst n
      rw [lup_same] at e ⊢
      exact e
    · rw [lup_ne n] at e ⊢
      exact s2 b x e
theorem Own.put (w : Own L H) (t : Put L a u o M) : Own M (upd H a o) := by
  obtain ⟨h, e, s⟩ := w
  exact ⟨_, le_lup e, (t h s).2⟩
theorem Own.putGet (w : Own L H) (t : Put L a u o M) : H a = some u := by
  obtain ⟨h, e, s⟩ := w
  exact e _ _ _ (t h s).1
theorem Own.newC (c : Bool) (n : H a = none) (w : Own L H) : Own (cell c a o :: L) (upd H a o) := by
  obtain ⟨h, e, s⟩ := w
  have n2 : h a = none := by
    cases z : h a with
    | none => rfl
    | some y =>
      obtain ⟨y1, y2⟩ := y
      rw [e a y1 y2 z] at n
      cases n
  refine ⟨LHupd h a (o, c), le_lup e, LHupd LHnone a (o, c), h, ?_, ?_, ?_, lup_same, s⟩
  · intro b x y e f
    by_cases n : b = a
    · subst n
      rw [n2] at f
      cases f
    · rw [lup_ne n] at e
      cases e
  · intro b x e
    by_cases n : b = a
    · subst n
      rw [lup_same] at e ⊢
      exact e
    · rw [lup_ne n] at e
      cases e
  · intro b x e
    have n : b ≠ a := fun z => by
      subst z
      rw [n2] at e
      cases e
    rw [lup_ne n]
    exact e
theorem Own.new (n : H a = none) (w : Own L H) : Own (pt a o :: L) (upd H a o) := w.newC false n
theorem Own.newT {xs : List V} (n : H a = none) (w : Own L H) : Own (ro a (.tup xs) :: L) (upd H a (.tup xs)) := w.newC true n
/-- an object and its dict -/
theorem Own.made {C dx : Addr} (n : H a = none) (m : H dx = none) (ne : dx ≠ a) (w : Own L H) : Own (pt a (.ins C dx []) :: L) (upd (upd H dx (.own a)) a (.ins C dx [])) :=
  (w.new m).tail.new (none_up ne.symm n)
/-- a claim that does not look at the marks is only read from now on -/
def Mk0 (P : HP) : Prop := ∀ h k : LH, (∀ a o b, h a = some (o, b) → ∃ c, k a = some (o, c)) → P h → P k
theorem AllRo.or_ro (q : AllRo h) : Dis h k := fun a x y e _ => q a x e
def mark (h : LH) : LH := fun a => match h a with
  | some (o, _) => some (o, true)
  | none => none
/-- h, with the cells of h1 marked -/
def over (h1 h : LH) : LH := fun a => match h1 a with
  | some (o, _) => some (o, true)
  | none => h a
theorem mark_of (e : mark h a = some x) : ∃ b, h a = some (x.1, b) ∧ x.2 = true := by
  unfold mark at e
  split at e
  · rename_i o b q
    cases e
    exact ⟨b, q, rfl⟩
  · cases e
theorem mark_to {c : Bool} (e : h a = some (o, c)) : mark h a = some (o, true) := by
  unfold mark
  rw [e]
theorem Own.freeze (m : ∀ h, P h → P (mark h)) (w : Own (P :: L) H) : Own (P :: L) H ∧ ∃ h1, AllRo h1 ∧ P h1 ∧ LHle h1 H ∧ ∃ h, LHle h H ∧ LSub h1 h ∧ ∃ h2, LSub h2 h ∧ stars L h2 := by
  refine ⟨w, ?_⟩
  obtain ⟨h, e, h1, h2, d, s1, s2, p, q⟩ := w
  have o1 : ∀ a o c, h1 a = some (o, c) → over h1 h a = some (o, true) := fun a o c z => by
    unfold over
    rw [z]
  have o2 : ∀ a, h1 a = none → over h1 h a = h a := fun a z => by
    unfold over
    rw [z]
  refine ⟨mark h1, fun a x e => (mark_of e).elim fun b z => z.2, m _ p, ?_, over h1 h, ?_, ?_, h2, ?_, q⟩
  · intro a o b z
    obtain ⟨c, z1, _⟩ := mark_of z
    exact e a o c (s1 _ _ z1)
  · intro a o b z
    cases z1 : h1 a with
    | none =>
      rw [o2 a z1] at z
      exact e a o b z
    | some y =>
      obtain ⟨y1, y2⟩ := y
      rw [o1 a y1 y2 z1] at z
      cases z
      exact e a _ _ (s1 _ _ z1)
  · intro a x z
    obtain ⟨c, z1, z2⟩ := mark_of z
    rw [o1 a _ c z1]
    obtain ⟨x1, x2⟩ := x
    cases z2
    rfl
  · intro a x z
    cases z1 : h1 a with
    | none =>
      rw [o2 a z1]
      exact s2 a x z
    | some y =>
      obtain ⟨y1, y2⟩ := y
      have t := d a _ _ z1 z
      have e1 := s1 _ _ z1
      rw [s2 _ _ z] at e1
      cases e1
      rw [o1 a _ _ z1]
      cases t
      rfl
/-- only read from now on -/
def Rd (P : HP) : HP := fun h => ∃ g, LSub g h ∧ AllRo g ∧ P g
instance : Ro (Rd P) := ⟨fun h ⟨g, s, r, p⟩ => ⟨g, s, r, g, LSub.rfl', r, p⟩⟩
theorem Own.toRd (m : ∀ h, P h → P (mark h)) (w : Own (P :: L) H) : Own (Rd P :: L) H := by
  obtain ⟨_, h1, r, p, _, h, e, s1, h2, s2, q⟩ := w.freeze m
  exact ⟨h, e, h1, h2, fun a x y z _ => r a x z, s1, s2, ⟨h1, LSub.rfl', r, p⟩, q⟩
theorem tell_rd {φ : Hp → Prop} (t : Tell P φ) : Tell (Rd P) φ := fun h ⟨g, s, _, p⟩ H e => t g p H (e.sub s)
theorem Own.toRo (w : Own (pt a o :: L) H) : Own (ro a o :: L) H := by
  obtain ⟨h, e, h1, h2, d, s1, s2, p, q⟩ := w
  have n2 : h2 a = none := by
    cases z : h2 a with
    | none => rfl
    | some y => exact absurd (d a _ _ p z) Bool.false_ne_true
  refine ⟨LHupd h a (o, true), ?_, LHupd LHnone a (o, true), h2, ?_, ?_, ?_, lup_same, q⟩
  · intro b u c z
    by_cases n : b = a
    · subst n
      rw [lup_same] at z
      cases z
      exact e _ _ _ (s1 _ _ p)
    · rw [lup_ne n] at z
      exact e b u c z
  · intro b x y e f
    by_cases n : b = a
    · subst n
      rw [n2] at f
      cases f
    · rw [lup_ne n] at e
      cases e
  · intro b x e
    by_cases n : b = a
    · subst n
      rw [lup_same] at e ⊢
      exact e
    · rw [lup_ne n] at e
      cases e
  · intro b x e
    have n : b ≠ a := fun z => by
      subst z
      rw [n2] at e
      cases e
    rw [lup_ne n]
    exact s2 b x e
end
end G

/-! claims: data, rows of claims, the script, drawn numbers; the steps that write -/
namespace G
open PySem PySem.Spec PyProof.Rows L2
section
variable {K : PySem.W.Frag} {h k h1 h2 : LH} {a b : Addr} {L M R : List HP} {P P' Q : HP} {H H' : Hp} {o u : HO} {v : V} {vs : List V} {d : PyData} {ds : List PyData} {c : Bool} {xs : List Int}
/-! ### data -/
def DT (K : PySem.W.Frag) (v : V) (d : PyData) : HP := fun h => ∀ H, LHle h H → Dp K H v d
def DTs (K : PySem.W.Frag) (vs : List V) (ds : List PyData) : HP := fun h => ∀ H, LHle h H → DpAll K H vs ds
theorem tell_DT : Tell (DT K v d) (fun H => Dp K H v d) := fun h p H e => p H e
theorem tell_DTs : Tell (DTs K vs ds) (fun H => DpAll K H vs ds) := fun h p H e => p H e
theorem mark_le (e : LHle (mark h) H) : LHle h H := fun a o b z => e a o true (mark_to z)
theorem le_mark (e : LHle h H) : LHle (mark h) H := fun a o b z => let ⟨c, z1, _⟩ := mark_of z; e a o c z1
theorem DT.mark (p : DT K v d h) : DT K v d (mark h) := fun H e => p H (mark_le e)
theorem DTs.mark (p : DTs K vs ds h) : DTs K vs ds (G.mark h) := fun H e => p H (mark_le e)
theorem lor_le (e : LHle k H) (s : LSub h1 k) (t : LSub h2 k) : LHle (LHor h1 h2) H := e.sub (lor_sub s t)
/-- two claims, told at once -/
theorem Own.join (t : ∀ h1 h2 h, LSub h1 h → LSub h2 h → P h1 → Q h2 → P' h) (w : Own (P :: Q :: L) H) : Own (P' :: L) H := w.map fun h s => by
  obtain ⟨h1, h2, d, s1, s2, p, h3, h4, d2, s3, s4, q, z⟩ := s
  exact ⟨LHor h1 h3, h4, or_dis (d.sub_r s4) d2, lor_sub s1 (s3.trans s2), s4.trans s2, t _ _ _ lor_l (lor_r s1 (s3.trans s2)) p q, z⟩
theorem Own.dtScalar (z : ∀ H, Dp K H v d) (w : Own L H) : Own (DT K v d :: L) H := w.free fun H _ => z H
theorem Own.dtNil (w : Own L H) : Own (DTs K [] [] :: L) H := w.free fun H _ => .nil
theorem Own.dtCons (w : Own (DT K v d :: DTs K vs ds :: L) H) : Own (DTs K (v :: vs) (d :: ds) :: L) H := w.join fun h1 h2 h s t p q H e => .cons (p H (e.sub s)) (q H (e.sub t))
theorem Own.dtSnoc (w : Own (DTs K vs ds :: DT K v d :: L) H) : Own (DTs K (vs ++ [v]) (ds ++ [d]) :: L) H := w.join fun h1 h2 h s t p q H e => dpAll_snoc (p H (e.sub s)) (q H (e.sub t))
theorem Own.dtLst (w : Own (cell c a (.lst vs) :: DTs K vs ds :: L) H) : Own (DT K (.ref a) (.list ds) :: L) H := w.join fun h1 h2 h s t p q H e => .lst (SqL.of (e _ _ _ (s _ _ p))) (q H (e.sub t))
theorem Own.dtTup (w : Own (cell c a (.tup vs) :: DTs K vs ds :: L) H) : Own (DT K (.ref a) (.tuple ds) :: L) H := w.join fun h1 h2 h s t p q H e => .tup (SqT.of' (e _ _ _ (s _ _ p))) (q H (e.sub t))
theorem Own.dtInts (w : Own (cell c a (.lst (xs.map V.int)) :: L) H) : Own (DT K (.ref a) (.list (xs.map PyData.int)) :: L) H := w.head fun h p H e => .lst (SqL.of (e _ _ _ p)) (dp_ints xs)
theorem Own.dtRd (w : Own (DT K v d :: L) H) : Own (Rd (DT K v d) :: L) H := w.toRd fun _ => DT.mark
theorem Own.dp (w : Own (DT K v d :: L) H) : Dp K H v d := w.ent (Ent.here tell_DT)
abbrev GotD (K : PySem.W.Frag) (L : List HP) (v : V) (d : PyData) : Prop := Ent L fun H => Dp K H v d
theorem Own.dpG (w : Own L H) (t : GotD K L v d) : Dp K H v d := w.ent t
theorem GotD.here : GotD K (DT K v d :: L) v d := Ent.here tell_DT
theorem GotD.hereR : GotD K (Rd (DT K v d) :: L) v d := Ent.here (tell_rd tell_DT)
theorem GotD.ints : GotD K (cell c a (.lst (xs.map V.int)) :: L) (.ref a) (.list (xs.map PyData.int)) := Ent.here fun h p H e => .lst (SqL.of (e _ _ _ p)) (dp_ints xs)
theorem GotD.next (t : GotD K L v d) : GotD K (P :: L) v d := Ent.next t
/-! ### lists that are read -/
abbrev GotL (K : PySem.W.Frag) (L : List HP) (a : Addr) (vs : List V) : Prop := Ent L fun H => SqL K H a vs
/-- a list that stands still -/
def ScP (K : PySem.W.Frag) (a : Addr) (vs : List V) : HP := fun h => (∃ o, h a = some (.frz o (.lst vs), true)) ∨
    ∃ (o : Obj) (its : Array Value) (n : Nat), K.lookup a = some o ∧ o.cls = .type "list" ∧ o.dict = none ∧ o.data = .seq its n ∧ its.size ≤ sizeLine ∧ Vals vs its.toList
theorem tell_scr : Tell (ScP K a vs) (fun H => Scr K H a vs) := fun h p H e => p.elim (fun ⟨o, z⟩ => .inl ⟨o, e _ _ _ z⟩) .inr
instance : Ro (ScP K a vs) := ⟨fun h p => p.elim (fun ⟨o, z⟩ => ⟨LHupd LHnone a (.frz o (.lst vs), true), (fun b x e => by
    obtain ⟨rfl, rfl⟩ := lup_none e
    exact z), (fun b x e => by
    obtain ⟨rfl, rfl⟩ := lup_none e
    rfl), .inl ⟨o, if_pos rfl⟩⟩) fun z => ⟨LHnone, sub_none, (fun _ _ e => nomatch e), .inr z⟩⟩
theorem Own.ofScr (s : Scr K H a vs) : Own [ScP K a vs] H := by
  rcases s with ⟨o, z⟩ | z
  · refine ⟨LHupd LHnone a (.frz o (.lst vs), true), fun b x c e => ?_, LHupd LHnone a (.frz o (.lst vs), true), LHnone, dis_none_r, LSub.rfl', sub_none, .inl ⟨o, if_pos rfl⟩, trivial⟩
    obtain ⟨rfl, e2⟩ := lup_none e
    cases e2
    exact z
  · exact ⟨LHnone, (fun _ _ _ e => nomatch e), LHnone, LHnone, dis_none, sub_none, sub_none, .inr z, trivial⟩
theorem GotL.here : GotL K (cell c a (.lst vs) :: L) a vs := Ent.here fun h p H e => SqL.of (e _ _ _ p)
theorem GotL.hereS : GotL K (ScP K a vs :: L) a vs := Ent.here fun h p H e => (tell_scr h p H e).sq
theorem GotL.next (t : GotL K L a vs) : GotL K (P :: L) a vs := Ent.next t
theorem Own.sql (w : Own L H) (t : GotL K L a vs) : SqL K H a vs := w.ent t
/-! ### drawn numbers -/
def Drw (s : Addr) : HP := hex fun n : Int => pt s (.lst [.int n])
theorem Own.drw {n : Int} (w : Own (pt a (.lst [.int n]) :: L) H) : Own (Drw a :: L) H := w.exi n
/-! ### rows of claims -/
def big {α β : Type} (f : α → β → HP) : List α → List β → HP
  | [], [] => fun _ => True
  | a :: as, b :: bs => stars [f a b, big f as bs]
  | _, _ => fun _ => False
section
variable {α β : Type} {f : α → β → HP} {as as' : List α} {bs bs' : List β} {x : α} {y : β}
theorem big_len_h : ∀ {as : List α} {bs : List β} {h : LH}, big f as bs h → as.length = bs.length
  | [], [], _, _ => rfl
  | _ :: _, _ :: _, _, ⟨_, _, _, _, _, _, _, _, _, _, _, q, _⟩ => congrArg (· + 1) (big_len_h q)
  | [], _ :: _, _, p => p.elim
  | _ :: _, [], _, p => p.elim
theorem Own.bigLen (w : Own (big f as bs :: L) H) : as.length = bs.length := w.ent (Ent.here fun _ p _ _ => big_len_h p)
theorem Own.bigNil (w : Own L H) : Own (big f [] [] :: L) H := w.free trivial
theorem Own.bigCons (w : Own (f x y :: big f as bs :: L) H) : Own (big f (x :: as) (y :: bs) :: L) H := Own.fold (L := [_, _]) w
theorem Own.bigUncons (w : Own (big f (x :: as) (y :: bs) :: L) H) : Own (f x y :: big f as bs :: L) H := Own.flat (L := [_, _]) w
theorem Own.unFalse (z : ∀ h, P h → False) (w : Own (P :: L) H) : False := w.ent (φ := fun _ => False) (Ent.here fun h p _ _ => z h p)
theorem big_mono : ∀ {as : List α} {bs : List β} {h k : LH}, big f as bs h → LSub h k → big f as bs k
  | [], [], _, _, _, _ => trivial
  | _ :: _, _ :: _, _, _, p, s => stars_mono (L := [_, _]) p s
  | [], _ :: _, _, _, p, _ => p.elim
  | _ :: _, [], _, _, p, _ => p.elim
theorem big_app_h : ∀ {as : List α} {bs : List β} {h1 h2 h : LH}, big f as bs h1 → big f as' bs' h2 → Dis h1 h2 → LSub h1 h → LSub h2 h → big f (as ++ as') (bs ++ bs') h
  | [], [], _, _, _, _, q, _, _, t => big_mono q t
  | _ :: _, _ :: _, h1, h2, h, ⟨g1, g2, d, s1, s2, p, g3, g4, d2, s3, s4, r, _⟩, q, e, s, t => by
    refine ⟨g1, LHor g3 h2, dis_or (d.sub_r s3) (e.sub_l s1), s1.trans s, lor_sub (s3.trans (s2.trans s)) t, p, LHor g3 h2, LHnone, dis_none_r, LSub.rfl', sub_none, ?_, trivial⟩
    exact big_app_h r q (e.sub_l (s3.trans s2)) lor_l (lor_r (s3.trans (s2.trans s)) t)
  | [], _ :: _, _, _, _, p, _, _, _, _ => p.elim
  | _ :: _, [], _, _, _, p, _, _, _, _ => p.elim
theorem Own.bigApp (w : Own (big f as bs :: big f as' bs' :: L) H) : Own (big f (as ++ as') (bs ++ bs') :: L) H := w.map fun h s => by
  obtain ⟨h1, h2, d, s1, s2, p, h3, h4, d2, s3, s4, q, z⟩ := s
  exact ⟨LHor h1 h3, h4, or_dis (d.sub_r s4) d2, lor_sub s1 (s3.trans s2), s4.trans s2, big_app_h p q (d.sub_r s3) lor_l (lor_r s1 (s3.trans s2)), z⟩
theorem Own.bigSnoc (w : Own (big f as bs :: f x y :: L) H) : Own (big f (as ++ [x]) (bs ++ [y]) :: L) H :=
  Own.bigApp (Own.swap (Own.bigCons (Own.swap (Own.bigNil (Own.swap w)))).swap.swap)
theorem Own.big1 (w : Own (f x y :: L) H) : Own (big f [x] [y] :: L) H := Own.bigCons (Own.swap (Own.bigNil w))
theorem Own.bigSplit : ∀ {as : List α} {bs : List β} {as' : List α} {bs' : List β} {L : List HP}, as.length = bs.length → Own (big f (as ++ as') (bs ++ bs') :: L) H → Own (big f as bs :: big f as' bs' :: L) H
  | [], [], _, _, _, _, w => w.bigNil
  | _ :: as, _ :: bs, as', bs', L, e, w => by
    have w1 : Own (big f (as ++ as') (bs ++ bs') :: f _ _ :: L) H := w.bigUncons.swap
    have w2 := Own.bigSplit (Nat.succ.inj e) w1
    have w3 : Own (f _ _ :: big f as bs :: big f as' bs' :: L) H := w2.perm (((List.Perm.swap _ _ _).cons _).trans (List.Perm.swap _ _ _))
    exact w3.bigCons
  | [], _ :: _, _, _, _, e, _ => nomatch e
  | _ :: _, [], _, _, _, e, _ => nomatch e
/-- one of the row -/
theorem Own.bigOut {i : Nat} (w : Own (big f as bs :: L) H) (h1 : as[i]? = some x) (h2 : bs[i]? = some y) : Own (f x y :: big f (as.take i) (bs.take i) :: big f (as.drop (i + 1)) (bs.drop (i + 1)) :: L) H := by
  have e1 : as = as.take i ++ x :: as.drop (i + 1) := by
    obtain ⟨q, rfl⟩ := List.getElem?_eq_some_iff.mp h1
    rw [List.getElem_cons_drop, List.take_append_drop]
  have e2 : bs = bs.take i ++ y :: bs.drop (i + 1) := by
    obtain ⟨q, rfl⟩ := List.getElem?_eq_some_iff.mp h2
    rw [List.getElem_cons_drop, List.take_append_drop]
  have l := w.bigLen
  rw [e1, e2] at w
  have w2 := w.bigSplit (by rw [List.length_take, List.length_take, l])
  exact (w2.swap.bigUncons).perm (List.Perm.cons _ (List.Perm.swap _ _ _))
theorem Own.bigIn {i : Nat} (w : Own (f x y :: big f (as.take i) (bs.take i) :: big f (as.drop (i + 1)) (bs.drop (i + 1)) :: L) H) (l : i < as.length) (l2 : i < bs.length) : Own (big f (as.set i x) (bs.set i y) :: L) H := by
  rw [List.set_eq_take_append_cons_drop, List.set_eq_take_append_cons_drop, if_pos l, if_pos l2]
  refine Own.bigApp (Own.swap (Own.bigCons ?_))
  exact w.perm (List.Perm.cons _ (List.Perm.swap _ _ _))
/-- one of the row is changed in place -/
theorem Own.bigBack {i : Nat} (w : Own (f x y :: big f (as.take i) (bs.take i) :: big f (as.drop (i + 1)) (bs.drop (i + 1)) :: L) H) (h1 : as[i]? = some x) (l2 : i < bs.length) : Own (big f as (bs.set i y) :: L) H := by
  have l := (List.getElem?_eq_some_iff.mp h1).1
  have e : as.set i x = as := by
    have := (List.getElem?_eq_some_iff.mp h1).2
    rw [← this]
    exact List.set_getElem_self l
  have w2 := w.bigIn l l2
  rw [e] at w2
  exact w2
/-- one of the row is taken out -/
theorem Own.bigErase {i : Nat} (w : Own (big f as bs :: L) H) (h1 : as[i]? = some x) (h2 : bs[i]? = some y) : Own (f x y :: big f (as.eraseIdx i) (bs.eraseIdx i) :: L) H := by
  rw [List.eraseIdx_eq_take_drop_succ, List.eraseIdx_eq_take_drop_succ]
  have w2 := w.bigOut h1 h2
  exact (Own.bigApp (w2.perm ((List.Perm.swap _ _ _).trans (List.Perm.cons _ (List.Perm.swap _ _ _))))).swap
theorem ro_big (c : ∀ x y, Ro (f x y)) : ∀ (as : List α) (bs : List β), Ro (big f as bs)
  | [], [] => ⟨fun h _ => ⟨LHnone, sub_none, (fun _ _ e => nomatch e), trivial⟩⟩
  | a :: as, b :: bs => by
    have := c a b
    have := ro_big c as bs
    show Ro (stars [f a b, big f as bs])
    infer_instance
  | [], _ :: _ => ⟨fun h p => p.elim⟩
  | _ :: _, [] => ⟨fun h p => p.elim⟩
instance [c : ∀ x y, Ro (f x y)] : Ro (big f as bs) := ro_big c as bs
/-- one of a row that is only read -/
theorem big_at_h : ∀ {as : List α} {bs : List β} {h : LH} {i : Nat}, big f as bs h → as[i]? = some x → bs[i]? = some y → ∃ g, LSub g h ∧ f x y g
  | _ :: _, _ :: _, _, 0, ⟨g1, _, _, s1, _, p, _⟩, e, e2 => by
    cases e
    cases e2
    exact ⟨g1, s1, p⟩
  | _ :: _, _ :: _, _, i + 1, ⟨_, _, _, _, s2, _, g3, _, _, s3, _, q, _⟩, e, e2 => by
    obtain ⟨g, s, p⟩ := big_at_h (i := i) q e e2
    exact ⟨g, s.trans (s3.trans s2), p⟩
  | [], [], _, _, _, e, _ => nomatch e
  | [], _ :: _, _, _, p, _, _ => p.elim
  | _ :: _, [], _, _, p, _, _ => p.elim
/-- what one of the row tells -/
theorem Own.bigTell {φ : Hp → Prop} {i : Nat} (w : Own (big f as bs :: L) H) (h1 : as[i]? = some x) (h2 : bs[i]? = some y) (t : Tell (f x y) φ) : φ H := w.ent (Ent.here fun h p H e => by
  obtain ⟨g, s, z⟩ := big_at_h p h1 h2
  exact t g z H (e.sub s))
theorem Own.bigAt [c : ∀ x y, Ro (f x y)] {i : Nat} (w : Own (big f as bs :: L) H) (h1 : as[i]? = some x) (h2 : bs[i]? = some y) : Own (f x y :: big f as bs :: L) H := w.map fun h s => by
  obtain ⟨g1, g2, d, s1, s2, p, q⟩ := s
  obtain ⟨g, t, z⟩ := big_at_h p h1 h2
  obtain ⟨g', t', r, z'⟩ := (c x y).ro g z
  exact ⟨g', h, fun a x y e _ => r a x e, t'.trans (t.trans s1), LSub.rfl', z', g1, g2, d, s1, s2, p, q⟩
theorem Own.bigAt' (c : ∀ x y, Ro (f x y)) {i : Nat} (w : Own (big f as bs :: L) H) (h1 : as[i]? = some x) (h2 : bs[i]? = some y) : Own (f x y :: big f as bs :: L) H := w.bigAt h1 h2
theorem Own.bigHead {g : α → β → HP} (t : ∀ x y h, f x y h → g x y h) (w : Own (big f as bs :: L) H) : Own (big g as bs :: L) H := w.head fun h p => by
  have : ∀ {as : List α} {bs : List β} {h : LH}, big f as bs h → big g as bs h := by
    intro as
    induction as with
    | nil => intro bs h p; cases bs with
      | nil => trivial
      | cons b bs => exact p.elim
    | cons a as ih => intro bs h p; cases bs with
      | nil => exact p.elim
      | cons b bs =>
        obtain ⟨g1, g2, d, s1, s2, p, g3, g4, d2, s3, s4, q, z⟩ := p
        exact ⟨g1, g2, d, s1, s2, t _ _ _ p, g3, g4, d2, s3, s4, ih q, z⟩
  exact this p
end
end
end G

/-! the steps that write, by claims -/
namespace G
open PySem PySem.Spec PyProof.Rows L2
section
variable {K : PySem.W.Frag} {a b l s : Addr} {L M R : List HP} {P P' : HP} {H H' : Hp} {o u : HO} {v x y : V} {vs xs zs : List V} {c : Bool} {Q : VK} {E : L2.St → XK} {EX : XK} {σ : L2.St} {D : Ends} {tA tB : TA} {ta tb : TE} {sp : Sp} {n m : Nat} {i j k : Int}
/-! new tuples, lists -/
def kTup (Q : VK) : List V → Hp → Prop := fun xs H1 => xs.length ≤ sizeLine ∧ ∀ p, H1 p = none → Q (.ref p) (upd H1 p (.tup xs))
def kLst (Q : VK) : List V → Hp → Prop := fun xs H1 => xs.length ≤ sizeLine ∧ ∀ p, H1 p = none → Q (.ref p) (upd H1 p (.lst xs))
theorem w_tupK (h : tA σ H (kTup Q)) : tTup tA σ H Q := h
theorem w_lstK (h : tA σ H (kLst Q)) : tLst tA σ H Q := h
theorem k_tup (hl : Nat.ble xs.length 1000 = true) (w : Own L H) (q : ∀ p H', Own (ro p (.tup xs) :: L) H' → Q (.ref p) H') : kTup Q xs H := ⟨small_le hl, fun p hp => q p _ (w.newT hp)⟩
theorem k_lst (hl : Nat.ble xs.length 1000 = true) (w : Own L H) (q : ∀ p H', Own (pt p (.lst xs) :: L) H' → Q (.ref p) H') : kLst Q xs H := ⟨small_le hl, fun p hp => q p _ (w.new hp)⟩
/-! objects -/
def kMk (Cc : Addr) (sp : Sp) (E : L2.St → XK) (σ : L2.St) (Q : VK) : List V → Hp → Prop := fun vs H1 => ∀ x dx, H1 x = none → H1 dx = none → dx ≠ x → sp (.ref x :: vs) (upd (upd H1 dx (.own x)) x (.ins Cc dx [])) (fun v H2 => v = .non ∧ Q (.ref x) H2) (E σ)
theorem w_mkQ {Cc : Addr} (h : tA σ H (kMk Cc sp E σ Q)) : tMk Cc sp E tA σ H Q := h
/-- what is wanted of an __init__ -/
def kIni (Q : VK) (x : Addr) : VK := fun v H2 => v = .non ∧ Q (.ref x) H2
theorem k_mk {Cc : Addr} (w : Own L H) (q : ∀ x dx H', Own (pt x (.ins Cc dx []) :: L) H' → sp (.ref x :: vs) H' (kIni Q x) (E σ)) : kMk Cc sp E σ Q vs H := fun x dx hx hd ne => q x dx _ (w.made hx hd ne)
def kMkK (Cc : Addr) (n m : Nat) (sp : Sp) (gV : List V → List V → List V) (E : L2.St → XK) (σ : L2.St) (Q : VK) (vs zs : List V) (H2 : Hp) : Prop := vs.length = n ∧ zs.length = m ∧ ∀ x dx, H2 x = none → H2 dx = none → dx ≠ x →
  sp (gV (.ref x :: vs) zs) (upd (upd H2 dx (.own x)) x (.ins Cc dx [])) (fun v H3 => v = .non ∧ Q (.ref x) H3) (E σ)
theorem w_mkKQ {Cc : Addr} {gV : List V → List V → List V} (h : tA σ H fun vs H1 => tB σ H1 fun zs H2 => kMkK Cc n m sp gV E σ Q vs zs H2) : tMkK Cc n m sp gV E tA tB σ H Q := h
theorem k_mkK {Cc : Addr} {gV : List V → List V → List V} (h1 : vs.length = n) (h2 : zs.length = m) (w : Own L H) (q : ∀ x dx H', Own (pt x (.ins Cc dx []) :: L) H' → sp (gV (.ref x :: vs) zs) H' (kIni Q x) (E σ)) : kMkK Cc n m sp gV E σ Q vs zs H :=
  ⟨h1, h2, fun x dx hx hd ne => q x dx _ (w.made hx hd ne)⟩
theorem k_mkK' {Cc : Addr} {gV : List V → List V → List V} {as : List V} (e : ∀ x : Addr, gV (.ref x :: vs) zs = .ref x :: as) (h1 : vs.length = n) (h2 : zs.length = m) (w : Own L H) (q : ∀ x dx H', Own (pt x (.ins Cc dx []) :: L) H' → sp (.ref x :: as) H' (kIni Q x) (E σ)) : kMkK Cc n m sp gV E σ Q vs zs H :=
  k_mkK h1 h2 w fun x dx H' w' => by rw [e]; exact q x dx H' w'
theorem w_mtE {C : Addr} {m : Str} {P : Addr → Prop} (h : ∃ dx fs, H a = some (.ins C dx fs) ∧ fs.lookup m = none) (q : P a) : ∃ a' dx' fs', V.ref a = .ref a' ∧ H a' = some (.ins C dx' fs') ∧ fs'.lookup m = none ∧ P a' :=
  let ⟨dx, fs, h1, h2⟩ := h
  ⟨a, dx, fs, rfl, h1, h2, q⟩
theorem w_fldE {C : Addr} {f : Str} {v : V} {P : Addr → Addr → Addr → List (Str × V) → V → Prop} (h : ∃ dx fs, H a = some (.ins C dx fs) ∧ fs.lookup f = some v) (c : Cls K C) (na : NoAttr K C f) (q : ∀ dx fs, P a C dx fs v) : ∃ a' C' dx' fs' v', V.ref a = .ref a' ∧ H a' = some (.ins C' dx' fs') ∧ Cls K C' ∧ NoAttr K C' f ∧ fs'.lookup f = some v' ∧ P a' C' dx' fs' v' :=
  let ⟨dx, fs, h1, h2⟩ := h
  ⟨a, C, dx, fs, v, rfl, h1, c, na, h2, q dx fs⟩
/-- a claim tells an attribute; that there is a method -/
abbrev TFld (X : HP) (a C : Addr) (f : Str) (v : V) : Prop := Tell X fun H => ∃ dx fs, H a = some (.ins C dx fs) ∧ fs.lookup f = some v
abbrev TMt (X : HP) (a C : Addr) (m : Str) : Prop := Tell X fun H => ∃ dx fs, H a = some (.ins C dx fs) ∧ fs.lookup m = none
/-- an attribute that a claim tells -/
theorem w_fldT {C : Addr} {f : Str} {v : V} {P : Addr → Addr → Addr → List (Str × V) → V → Prop} {X : HP} (t : Tell X (fun H => ∃ dx fs, H a = some (.ins C dx fs) ∧ fs.lookup f = some v)) (w : Own L H) (pk : Pick L X R) (c : Cls K C) (na : NoAttr K C f) (q : ∀ dx fs, P a C dx fs v) : ∃ a' C' dx' fs' v', V.ref a = .ref a' ∧ H a' = some (.ins C' dx' fs') ∧ Cls K C' ∧ NoAttr K C' f ∧ fs'.lookup f = some v' ∧ P a' C' dx' fs' v' :=
  w_fldE ((w.pick pk).ent (.here t)) c na q
/-- a method of an object that a claim tells -/
theorem w_mtT {C : Addr} {m : Str} {P : Addr → Prop} {X : HP} (t : Tell X (fun H => ∃ dx fs, H a = some (.ins C dx fs) ∧ fs.lookup m = none)) (w : Own L H) (pk : Pick L X R) (q : P a) : ∃ a' dx' fs', V.ref a = .ref a' ∧ H a' = some (.ins C dx' fs') ∧ fs'.lookup m = none ∧ P a' :=
  w_mtE ((w.pick pk).ent (.here t)) q
theorem k_ini (q : Q (.ref a) H) : kIni Q a .non H := ⟨rfl, q⟩
/-- some of the claims -/
def Sel (L M : List HP) : Prop := ∀ h, stars L h → stars M h
theorem Sel.rf : Sel L L := fun _ s => s
theorem Sel.nil : Sel L [] := fun _ _ => trivial
theorem Sel.cons (p : Pick L P R) (s : Sel R M) : Sel L (P :: M) := fun h z => stars_cons s (p h z)
theorem Sel.drop (s : Sel L M) : Sel (P :: L) M := fun h z => s h (by
  obtain ⟨_, _, _, _, s2, _, q⟩ := z
  exact stars_mono q s2)
theorem Own.sel (w : Own L H) (s : Sel L M) : Own M H := w.map s
theorem Own.restS (w : Own (P :: L) H) (s : Sel L M) : Own (P :: M) H := w.rest s
theorem Own.take2 {P1 P2 : HP} {L1 : List HP} (w : Own L H) (p1 : Pick L P1 L1) (p2 : Pick L1 P2 R) : Own (P1 :: P2 :: R) H := (w.pick p1).rest p2
theorem Own.take3 {P1 P2 P3 : HP} {L1 L2 : List HP} (w : Own L H) (p1 : Pick L P1 L1) (p2 : Pick L1 P2 L2) (p3 : Pick L2 P3 R) : Own (P1 :: P2 :: P3 :: R) H := (w.pick p1).rest (Sel.cons p2 p3)
theorem Own.take4 {P1 P2 P3 P4 : HP} {L1 L2 L3 : List HP} (w : Own L H) (p1 : Pick L P1 L1) (p2 : Pick L1 P2 L2) (p3 : Pick L2 P3 L3) (p4 : Pick L3 P4 R) : Own (P1 :: P2 :: P3 :: P4 :: R) H := (w.pick p1).rest (Sel.cons p2 (Sel.cons p3 p4))
theorem Pick.st (p : Pick L P R) : ∀ h, stars L h → stars (P :: R) h := p
theorem Own.pick2 (w : Own (P' :: L) H) (p : Pick L P R) : Own (P' :: P :: R) H := w.rest p
theorem Own.cellRo (w : Own (cell c a o :: L) H) : Own (ro a o :: L) H := by
  cases c
  · exact w.toRo
  · exact w
/-! attributes -/
def kFld (K : PySem.W.Frag) (f : Str) (D : Ends) (σ : L2.St) (y x : V) (H2 : Hp) : Prop := ∃ a C dx fs, x = .ref a ∧ H2 a = some (.ins C dx fs) ∧ Cls K C ∧ NoAttr K C f ∧ fs.length < 1000 ∧ D.nx σ (upd H2 a (.ins C dx (putF f y fs)))
theorem w_sfldQ {f : Str} (h : tb σ H fun y H1 => ta σ H1 fun x H2 => kFld K f D σ y x H2) : sFld K ta tb f D σ H := h
theorem k_fld {f : Str} {C dx : Addr} {fs fs' : List (Str × V)} (w : Own L H) (p : Put L a (.ins C dx fs) (.ins C dx fs') M) (c : Cls K C) (na : NoAttr K C f) (e : putF f y fs = fs') (l : Nat.blt fs.length 1000 = true) (q : ∀ H', Own M H' → D.nx σ H') : kFld K f D σ y (.ref a) H :=
  ⟨a, C, dx, fs, rfl, w.putGet p, c, na, Nat.le_of_ble_eq_true l, by rw [e]; exact q _ (w.put p)⟩
def kFA (a C : Addr) (f : Str) (D : Ends) (σ : L2.St) (z : V) (H3 : Hp) : Prop := ∃ dx' fs', H3 a = some (.ins C dx' fs') ∧ fs'.length < 1000 ∧ D.nx σ (upd H3 a (.ins C dx' (putF f z fs')))
theorem w_sfaQ {f : Str} {rd : V → V → Hp → VK → Prop} (h : ta σ H fun x H1 => ∃ a C dx fs v, x = .ref a ∧ H1 a = some (.ins C dx fs) ∧ Cls K C ∧ NoAttr K C f ∧ fs.lookup f = some v ∧
  tb σ H1 fun y H2 => rd v y H2 fun z H3 => kFA a C f D σ z H3) : sFldAug K ta tb rd f D σ H := h
theorem k_fa {f : Str} {C dx : Addr} {fs fs' : List (Str × V)} (w : Own L H) (p : Put L a (.ins C dx fs) (.ins C dx fs') M) (e : putF f y fs = fs') (l : Nat.blt fs.length 1000 = true) (q : ∀ H', Own M H' → D.nx σ H') : kFA a C f D σ y H :=
  ⟨dx, fs, w.putGet p, Nat.le_of_ble_eq_true l, by rw [e]; exact q _ (w.put p)⟩
/-! lists -/
theorem k_app (w : Own L H) (p : Put L l (.lst xs) (.lst (xs ++ [v])) M) (hz : xs.length < sizeLine) (q : ∀ H', Own M H' → Q .non H') : rAppend (.ref l) [v] H Q := w_app (w.putGet p) hz (q _ (w.put p))
theorem k_setL {Qo : Hp → Prop} {z : Nat} (w : Own L H) (p : Put L l (.lst xs) (.lst (xs.set z v)) M) (hj : ixN xs.length k = some z) (q : ∀ H', Own M H' → Qo H') : rSetL (.ref l) (.int k) v H Qo := w_setL (w.putGet p) hj (q _ (w.put p))
theorem k_extend (w : Own L H) (p : Put L l (.lst xs) (.lst (xs ++ zs)) M) (g : Got L b (.lst zs)) (hz : xs.length + zs.length ≤ sizeLine) (q : ∀ H', Own M H' → Q .non H') : rExtend (.ref l) [.ref b] H Q := w_extend (w.putGet p) (w.get g) hz (q _ (w.put p))
theorem k_cat (w : Own L H) (g1 : Got L l (.lst xs)) (g2 : Got L b (.lst zs)) (hz : xs.length + zs.length ≤ sizeLine) (q : ∀ p H', Own (pt p (.lst (xs ++ zs)) :: L) H' → Q (.ref p) H') : rCat (.ref l) (.ref b) H Q := w_cat (w.get g1) (w.get g2) hz fun p hp => q p _ (w.new hp)
theorem k_rep (w : Own L H) (g1 : Got L l (.lst xs)) (h0 : 0 ≤ k) (hk : k < 4611686018427387904) (hz : xs.length * k.toNat ≤ sizeLine) (q : ∀ p H', Own (pt p (.lst (List.replicate k.toNat xs).flatten) :: L) H' → Q (.ref p) H') : rRep (.ref l) (.int k) H Q := w_rep (w.get g1) h0 hk hz fun p hp => q p _ (w.new hp)
theorem k_listL (w : Own L H) (g : SqL K H a xs) (q : ∀ p H', Own (pt p (.lst xs) :: L) H' → Q (.ref p) H') : gListOf K [.ref a] H Q := w_listL g fun p hp => q p _ (w.new hp)
theorem k_listT (w : Own L H) (g : SqT K H a xs) (q : ∀ p H', Own (pt p (.lst xs) :: L) H' → Q (.ref p) H') : gListOf K [.ref a] H Q := w_listT g fun p hp => q p _ (w.new hp)
theorem k_tupL (w : Own L H) (g : SqL K H a xs) (q : ∀ p H', Own (ro p (.tup xs) :: L) H' → Q (.ref p) H') : gTupOf K [.ref a] H Q := w_tupL g fun p hp => q p _ (w.newT hp)
theorem k_slfrom (w : Own L H) (g : SqL K H a xs) (h0 : 0 ≤ i) (q : ∀ p H', Own (pt p (.lst (xs.drop i.toNat)) :: L) H' → Q (.ref p) H') : rSlL K (.ref a) (some i) none H Q := w_slLfrom g h0 fun p hp => q p _ (w.new hp)
theorem k_slto (w : Own L H) (g : SqL K H a xs) (h0 : 0 ≤ i) (q : ∀ p H', Own (pt p (.lst (xs.take i.toNat)) :: L) H' → Q (.ref p) H') : rSlL K (.ref a) none (some i) H Q := w_slLto g h0 fun p hp => q p _ (w.new hp)
theorem k_slmid (w : Own L H) (g : SqL K H a xs) (h0 : 0 ≤ i) (h1 : i ≤ j) (q : ∀ p H', Own (pt p (.lst ((xs.drop i.toNat).take (j - i).toNat)) :: L) H' → Q (.ref p) H') : rSlL K (.ref a) (some i) (some j) H Q := w_slLmid g h0 h1 fun p hp => q p _ (w.new hp)
variable {ns ms : List Int} {ps : List Addr} {r : Addr}
theorem eraseIdx_map' {α β : Type} (f : α → β) : ∀ (l : List α) (i : Nat), (l.eraseIdx i).map f = (l.map f).eraseIdx i
  | [], i => by simp
  | a :: l, 0 => rfl
  | a :: l, i + 1 => by simp [eraseIdx_map' f l i]
theorem k_slfromI (w : Own L H) (g : SqL K H a (ns.map V.int)) (h0 : 0 ≤ i) (q : ∀ p H', Own (pt p (.lst ((ns.drop i.toNat).map V.int)) :: L) H' → Q (.ref p) H') : rSlL K (.ref a) (some i) none H Q := k_slfrom w g h0 (by rw [← List.map_drop]; exact q)
theorem k_sltoI (w : Own L H) (g : SqL K H a (ns.map V.int)) (h0 : 0 ≤ i) (q : ∀ p H', Own (pt p (.lst ((ns.take i.toNat).map V.int)) :: L) H' → Q (.ref p) H') : rSlL K (.ref a) none (some i) H Q := k_slto w g h0 (by rw [← List.map_take]; exact q)
theorem k_slmidI (w : Own L H) (g : SqL K H a (ns.map V.int)) (h0 : 0 ≤ i) (h1 : i ≤ j) (q : ∀ p H', Own (pt p (.lst (((ns.drop i.toNat).take (j - i).toNat).map V.int)) :: L) H' → Q (.ref p) H') : rSlL K (.ref a) (some i) (some j) H Q := k_slmid w g h0 h1 (by rw [← List.map_drop, ← List.map_take]; exact q)
theorem k_catI (w : Own L H) (g1 : Got L l (.lst (ns.map V.int))) (g2 : Got L b (.lst (ms.map V.int))) (hz : ns.length + ms.length ≤ sizeLine) (q : ∀ p H', Own (pt p (.lst ((ns ++ ms).map V.int)) :: L) H' → Q (.ref p) H') : rCat (.ref l) (.ref b) H Q := k_cat w g1 g2 (by rw [List.length_map, List.length_map]; exact hz) (by rw [← List.map_append]; exact q)
theorem k_catR {qs : List Addr} (w : Own L H) (g1 : Got L l (.lst (ps.map V.ref))) (g2 : Got L b (.lst (qs.map V.ref))) (hz : ps.length + qs.length ≤ sizeLine) (q : ∀ p H', Own (pt p (.lst ((ps ++ qs).map V.ref)) :: L) H' → Q (.ref p) H') : rCat (.ref l) (.ref b) H Q := k_cat w g1 g2 (by rw [List.length_map, List.length_map]; exact hz) (by rw [← List.map_append]; exact q)
theorem k_slfromR (w : Own L H) (g : SqL K H a (ps.map V.ref)) (h0 : 0 ≤ i) (q : ∀ p H', Own (pt p (.lst ((ps.drop i.toNat).map V.ref)) :: L) H' → Q (.ref p) H') : rSlL K (.ref a) (some i) none H Q := k_slfrom w g h0 (by rw [← List.map_drop]; exact q)
theorem k_sltoR (w : Own L H) (g : SqL K H a (ps.map V.ref)) (h0 : 0 ≤ i) (q : ∀ p H', Own (pt p (.lst ((ps.take i.toNat).map V.ref)) :: L) H' → Q (.ref p) H') : rSlL K (.ref a) none (some i) H Q := k_slto w g h0 (by rw [← List.map_take]; exact q)
theorem k_slfromRs {j : Nat} (w : Own L H) (g : SqL K H a (ps.map V.ref)) (q : ∀ p H', Own (pt p (.lst ((ps.drop (j + 1)).map V.ref)) :: L) H' → Q (.ref p) H') : rSlL K (.ref a) (some ((j : Int) + 1)) none H Q := k_slfromR w g (by omega) (by rw [show ((j : Int) + 1).toNat = j + 1 by omega]; exact q)
theorem k_slfromRn {j : Nat} (w : Own L H) (g : SqL K H a (ps.map V.ref)) (q : ∀ p H', Own (pt p (.lst ((ps.drop j).map V.ref)) :: L) H' → Q (.ref p) H') : rSlL K (.ref a) (some (j : Int)) none H Q := k_slfromR w g (by omega) q
theorem k_slfromR1 (w : Own L H) (g : SqL K H a (ps.map V.ref)) (q : ∀ p H', Own (pt p (.lst ((ps.drop 1).map V.ref)) :: L) H' → Q (.ref p) H') : rSlL K (.ref a) (some 1) none H Q := k_slfromR w g (by decide) q
theorem k_sltoRn {j : Nat} (w : Own L H) (g : SqL K H a (ps.map V.ref)) (q : ∀ p H', Own (pt p (.lst ((ps.take j).map V.ref)) :: L) H' → Q (.ref p) H') : rSlL K (.ref a) none (some (j : Int)) H Q := k_sltoR w g (by omega) q
theorem k_sltoR1 (w : Own L H) (g : SqL K H a (ps.map V.ref)) (q : ∀ p H', Own (pt p (.lst ((ps.take 1).map V.ref)) :: L) H' → Q (.ref p) H') : rSlL K (.ref a) none (some 1) H Q := k_sltoR w g (by decide) q
theorem k_slfromIs {j : Nat} (w : Own L H) (g : SqL K H a (ns.map V.int)) (q : ∀ p H', Own (pt p (.lst ((ns.drop (j + 1)).map V.int)) :: L) H' → Q (.ref p) H') : rSlL K (.ref a) (some ((j : Int) + 1)) none H Q := k_slfromI w g (by omega) (by rw [show ((j : Int) + 1).toNat = j + 1 by omega]; exact q)
theorem k_slfromIn {j : Nat} (w : Own L H) (g : SqL K H a (ns.map V.int)) (q : ∀ p H', Own (pt p (.lst ((ns.drop j).map V.int)) :: L) H' → Q (.ref p) H') : rSlL K (.ref a) (some (j : Int)) none H Q := k_slfromI w g (by omega) q
theorem k_slfromI1 (w : Own L H) (g : SqL K H a (ns.map V.int)) (q : ∀ p H', Own (pt p (.lst ((ns.drop 1).map V.int)) :: L) H' → Q (.ref p) H') : rSlL K (.ref a) (some 1) none H Q := k_slfromI w g (by decide) q
theorem k_sltoIn {j : Nat} (w : Own L H) (g : SqL K H a (ns.map V.int)) (q : ∀ p H', Own (pt p (.lst ((ns.take j).map V.int)) :: L) H' → Q (.ref p) H') : rSlL K (.ref a) none (some (j : Int)) H Q := k_sltoI w g (by omega) q
theorem k_sltoI1 (w : Own L H) (g : SqL K H a (ns.map V.int)) (q : ∀ p H', Own (pt p (.lst ((ns.take 1).map V.int)) :: L) H' → Q (.ref p) H') : rSlL K (.ref a) none (some 1) H Q := k_sltoI w g (by decide) q
theorem k_appI (w : Own L H) (p : Put L l (.lst (ns.map V.int)) (.lst ((ns ++ [i]).map V.int)) M) (hz : ns.length < sizeLine) (q : ∀ H', Own M H' → Q .non H') : rAppend (.ref l) [.int i] H Q := k_app w (by rw [List.map_append] at p; exact p) (by rw [List.length_map]; exact hz) q
theorem k_appR (w : Own L H) (p : Put L l (.lst (ps.map V.ref)) (.lst ((ps ++ [r]).map V.ref)) M) (hz : ps.length < sizeLine) (q : ∀ H', Own M H' → Q .non H') : rAppend (.ref l) [.ref r] H Q := k_app w (by rw [List.map_append] at p; exact p) (by rw [List.length_map]; exact hz) q
theorem k_extendI (w : Own L H) (p : Put L l (.lst (ns.map V.int)) (.lst ((ns ++ ms).map V.int)) M) (g : Got L b (.lst (ms.map V.int))) (hz : ns.length + ms.length ≤ sizeLine) (q : ∀ H', Own M H' → Q .non H') : rExtend (.ref l) [.ref b] H Q := k_extend w (by rw [List.map_append] at p; exact p) g (by rw [List.length_map, List.length_map]; exact hz) q
theorem k_pop (w : Own L H) (p : Put L l (.lst xs) (.lst xs.dropLast) M) (h : xs[xs.length - 1]? = some y) (q : ∀ H', Own M H' → Q y H') : rPop (.ref l) [] H Q := ⟨l, xs, y, rfl, rfl, w.putGet p, h, q _ (w.put p)⟩
theorem k_popAt {z : Nat} (w : Own L H) (p : Put L l (.lst xs) (.lst (xs.eraseIdx z)) M) (h0 : -(2 ^ 63) ≤ i) (h1 : i < 2 ^ 63) (hz : seqIndex? i xs.length = some z) (h : xs[z]? = some y) (q : ∀ H', Own M H' → Q y H') : rPopAt (.ref l) [.int i] H Q := ⟨l, xs, i, z, y, rfl, rfl, w.putGet p, h0, h1, hz, h, q _ (w.put p)⟩
theorem k_pop0 (w : Own L H) (p : Put L l (.lst (y :: xs)) (.lst xs) M) (q : ∀ H', Own M H' → Q y H') : rPopAt (.ref l) [.int 0] H Q :=
  k_popAt (z := 0) (xs := y :: xs) w p (by decide) (by decide) (by simp [seqIndex?]) rfl q
def kDelL (D : Ends) (σ : L2.St) (x y : V) (H2 : Hp) : Prop := ∃ (l : Addr) (xs : List V) (i : Int) (k : Nat), x = .ref l ∧ y = .int i ∧ H2 l = some (.lst xs) ∧ -(2 ^ 63) ≤ i ∧ i < 2 ^ 63 ∧ seqIndex? i xs.length = some k ∧ D.nx σ (upd H2 l (.lst (xs.eraseIdx k)))
theorem w_delQ (h : ta σ H fun x H1 => tb σ H1 fun y H2 => kDelL D σ x y H2) : tDelL ta tb D σ H := h
theorem seqIx {i : Int} {n : Nat} (h0 : 0 ≤ i) (h1 : i < (n : Int)) : seqIndex? i n = some i.toNat := by
  unfold seqIndex?
  simp only [decide_eq_true_eq]
  repeat' split <;> first | rfl | omega | (simp at *; omega)
/-- del xs[i], the i-th of addresses -/
theorem k_delR {i : Int} {j : Nat} (w : Own L H) (e : i = (j : Int)) (h1 : j < ps.length) (h2 : ps.length ≤ 16000000) (p : Put L l (.lst (ps.map V.ref)) (.lst ((ps.eraseIdx j).map V.ref)) M) (q : ∀ H', Own M H' → D.nx σ H') : kDelL D σ (.ref l) (.int i) H :=
  ⟨l, ps.map V.ref, i, j, rfl, rfl, w.putGet p, by omega, by omega, by rw [seqIx (by omega) (by rw [List.length_map]; omega)]; subst e; rfl, by rw [← eraseIdx_map']; exact q _ (w.put p)⟩
theorem k_popAtR {i : Int} {j : Nat} {y : Addr} (w : Own L H) (e : i = (j : Int)) (h2 : ps.length ≤ 16000000) (hy : ps[j]? = some y) (p : Put L l (.lst (ps.map V.ref)) (.lst ((ps.eraseIdx j).map V.ref)) M) (q : ∀ H', Own M H' → Q (.ref y) H') : rPopAt (.ref l) [.int i] H Q := by
  have h1 := (List.getElem?_eq_some_iff.mp hy).1
  exact k_popAt (z := j) w (by rw [eraseIdx_map'] at p; exact p) (by omega) (by omega) (by rw [seqIx (by omega) (by rw [List.length_map]; omega)]; subst e; rfl) (by rw [List.getElem?_map, hy]; rfl) q
theorem k_clear (w : Own L H) (p : Put L l (.lst xs) (.lst []) M) (q : ∀ H', Own M H' → Q .non H') : rClear (.ref l) [] H Q := ⟨l, xs, rfl, rfl, w.putGet p, q _ (w.put p)⟩
theorem k_reverse (w : Own L H) (p : Put L l (.lst xs) (.lst xs.reverse) M) (q : ∀ H', Own M H' → Q .non H') : rReverse (.ref l) [] H Q := ⟨l, xs, rfl, rfl, w.putGet p, q _ (w.put p)⟩
theorem w_ixR {j : Nat} (g : SqL K H a (ps.map V.ref)) (h : ps[j]? = some r) (q : Q (.ref r) H) : rIxL K (.ref a) (.int (j : Int)) H Q := w_ixL g (atI_ref h rfl) q
theorem w_ixR0 (g : SqL K H a (ps.map V.ref)) (h : ps[0]? = some r) (q : Q (.ref r) H) : rIxL K (.ref a) (.int 0) H Q := w_ixL g (atI_ref (a := 0) h rfl) q
theorem w_ixRc (g : SqL K H a ((r :: ps).map V.ref)) (q : Q (.ref r) H) : rIxL K (.ref a) (.int 0) H Q := w_ixL g (atI_ref (a := 0) rfl rfl) q
theorem ix_neg1 {α : Type} {xs : List α} {y : α} (h : xs.getLast? = some y) : atI xs (-1) = some y := by
  have hl : 0 < xs.length := by
    cases xs with
    | nil => cases h
    | cons _ _ => exact Nat.succ_pos _
  unfold atI ixN
  rw [if_neg (by omega)]
  rw [List.getLast?_eq_getElem?] at h
  split
  · show xs[_]? = _
    rw [← h]
    congr 1
    omega
  · omega
theorem w_ixLastR (g : SqL K H a (ps.map V.ref)) (h : ps.getLast? = some r) (q : Q (.ref r) H) : rIxL K (.ref a) (.int (-1)) H Q := w_ixL g (ix_neg1 (by rw [List.getLast?_map, h]; rfl)) q
theorem cut_init {xs : List V} : cutV xs none (some (-1)) = xs.dropLast := by
  have e : HT.sIx xs.length xs.length (some (-1)) = xs.length - 1 := by
    show (if (-1 : Int) < 0 then ((-1 : Int) + (xs.length : Int)).toNat else min (-1 : Int).toNat xs.length) = _
    rw [if_pos (by decide)]
    omega
  unfold cutV
  rw [HT.sIx_none, e, List.drop_zero, Nat.sub_zero, List.dropLast_eq_take]
theorem k_slinitR (w : Own L H) (g : SqL K H a (ps.map V.ref)) (q : ∀ p H', Own (pt p (.lst (ps.dropLast.map V.ref)) :: L) H' → Q (.ref p) H') : rSlL K (.ref a) none (some (-1)) H Q := w_slL g fun p hp => by
  rw [cut_init, ← List.map_dropLast]
  exact q p _ (w.new hp)
theorem k_lst1R (w : Own L H) (q : ∀ p H', Own (pt p (.lst ([r].map V.ref)) :: L) H' → Q (.ref p) H') : kLst Q [.ref r] H := k_lst rfl w q
theorem k_lst1I (w : Own L H) (q : ∀ p H', Own (pt p (.lst ([i].map V.int)) :: L) H' → Q (.ref p) H') : kLst Q [.int i] H := k_lst rfl w q
theorem w_gTup {nn : Nat} {t : TGs} {Qs : L2.St → Hp → Prop} (g : SqT K H a xs) (h : xs.length = nn) (q : t xs σ H Qs) : gTup K nn t (.ref a) σ H Qs := ⟨a, xs, rfl, g, h, q⟩
theorem w_gCons {t : TG} {u : TGs} {Qs : L2.St → Hp → Prop} (q : t v σ H fun σ' H' => u xs σ' H' Qs) : gCons t u (v :: xs) σ H Qs := ⟨v, xs, rfl, q⟩
theorem w_gNil {Qs : L2.St → Hp → Prop} (q : Qs σ H) : gNil [] σ H Qs := ⟨rfl, q⟩
theorem w_lenLI (g : SqL K H a (ns.map V.int)) (q : Q (.int (ns.length : Int)) H) : gLen K [.ref a] H Q := w_lenL g (by rw [List.length_map]; exact q)
theorem w_lenLR (g : SqL K H a (ps.map V.ref)) (q : Q (.int (ps.length : Int)) H) : gLen K [.ref a] H Q := w_lenL g (by rw [List.length_map]; exact q)
theorem w_ixI (g : SqL K H a (ns.map V.int)) (h0 : 0 ≤ i) (h1 : i < (ns.length : Int)) (q : Q (.int (ns.getD i.toNat 0)) H) : rIxL K (.ref a) (.int i) H Q := w_ixL g (atI_int (a := i.toNat) (by omega) (by omega)) q
theorem emp_len {α : Type} (xs : List α) : (!xs.isEmpty) = decide (0 < xs.length) := by cases xs <;> simp
theorem k_truR {P : Bool → Prop} (g : SqL K H a (ps.map V.ref)) (q : P (decide (0 < ps.length))) : ∃ k, TruV K (.ref a) H k ∧ P k := ⟨_, .inl ⟨_, g, rfl⟩, by rw [emp_len, List.length_map]; exact q⟩
theorem k_truI {P : Bool → Prop} (g : SqL K H a (ns.map V.int)) (q : P (decide (0 < ns.length))) : ∃ k, TruV K (.ref a) H k ∧ P k := ⟨_, .inl ⟨_, g, rfl⟩, by rw [emp_len, List.length_map]; exact q⟩
theorem k_truL {P : Bool → Prop} (g : SqL K H a xs) (q : P (decide (0 < xs.length))) : ∃ k, TruV K (.ref a) H k ∧ P k := ⟨_, .inl ⟨_, g, rfl⟩, by rw [emp_len]; exact q⟩
/-! while -/
def NV (Pv : Nat → L2.St → Hp → Prop) (m : Nat) : L2.St → Hp → Prop := fun σ' H' => ∃ m', m' < m ∧ Pv m' σ' H'
def kWhT (Pv : Nat → L2.St → Hp → Prop) (tb : TS) (D : Ends) (m : Nat) (σ : L2.St) (H1 : Hp) : Prop := ∃ N : L2.St → Hp → Prop, (∀ σ' H', N σ' H' → ∃ m', m' < m ∧ Pv m' σ' H') ∧ tb { D with nx := N, ct := N, bk := D.nx } σ H1
theorem w_whileO {c : TT} {tb : TS} {m0 : Nat} (Pv : Nat → L2.St → Hp → Prop) (h0 : Pv m0 σ H) (hs : ∀ m σ H, Pv m σ H → c σ H fun b H1 => if b = true then kWhT Pv tb D m σ H1 else D.nx σ H1) : tWhile c tb D σ H := ⟨Pv, ⟨m0, h0⟩, hs⟩
theorem k_whT {Pv : Nat → L2.St → Hp → Prop} {tb : TS} {m : Nat} (h : tb { D with nx := NV Pv m, ct := NV Pv m, bk := D.nx } σ H) : kWhT Pv tb D m σ H := ⟨NV Pv m, fun _ _ h => h, h⟩
/-! the laws' helpers -/
theorem o_start {n c : Int} (w : Own L H) (q : ∀ p H', Own (Drw p :: L) H' → Q (.ref p) H') : gsStart K [.int c, .int n] H Q EX := c_start fun n p hp => q p _ (w.new hp).drw
theorem o_digit {m : Int} (w : Own L H) (p : Pick L (Drw s) R) (h0 : 0 < m) (h1 : m < 1099511627776) (q : ∀ d H', 0 ≤ d → d < m → Own (Drw s :: R) H' → Q (.int d) H') : gsDigit K [.ref s, .int m] H Q EX := by
  obtain ⟨n, w1⟩ := (w.pick p).ex
  exact c_digit w1.get' h0 h1 fun d n' d0 d1 => q d _ d0 d1 (w1.put .here).drw
/-! comprehensions -/
def PvO (Pv : Nat → List V → List HP → Prop) (D : Addr) (i : Nat) (H' : Hp) : Prop := ∃ A L, Pv i A L ∧ Own (pt D (.lst A) :: L) H'
theorem lc_addO {Pv : Nat → List V → List HP → Prop} {Da : Addr} {i : Nat} {A : List V} (w : Own L H) (p : Pick L (pt Da (.lst A)) R) (hl : A.length < sizeLine) (q : Pv (i + 1) (A ++ [y]) R) : LcAdd Da (PvO Pv Da) i y H := by
  have w1 := w.pick p
  exact ⟨A, w1.get', hl, _, R, q, w1.put .here⟩
theorem lc_skipO {Pv : Nat → List V → List HP → Prop} {Da : Addr} {i : Nat} {A : List V} (w : Own L H) (p : Pick L (pt Da (.lst A)) R) (q : Pv (i + 1) A R) : PvO Pv Da (i + 1) H := ⟨A, R, q, w.pick p⟩
variable {g : TG} {tt : TT} {te : TE} {ws : List Nat} {w₀ : Nat}
/-- over any walk -/
theorem lcO {J : It} {n : Nat} {G : Hp → Prop} {Y : Nat → Hp → V → Hp → Prop} (wk : Walk J n G Y) (Pv : Nat → List V → List HP → Prop) (w : Own L H) (h0 : Pv 0 [] L) (hG : ∀ i A L D H', Pv i A L → Own (pt D (.lst A) :: L) H' → G H')
    (hs : ∀ i x D A L H1 H2, i < n → Pv i A L → Own (pt D (.lst A) :: L) H1 → Y i H1 x H2 → g x (wipe σ ws) H2 fun σ2 H2 => wipe σ2 ws = wipe σ ws ∧ tt σ2 H2 fun b H3 =>
      if b = true then te σ2 H3 fun y H4 => LcAdd D (PvO Pv D) i y H4 else PvO Pv D (i + 1) H3)
    (hd : ∀ D A L H1, Pv n A L → Own (pt D (.lst A) :: L) H1 → Q (.ref D) H1) : rLc J g tt te ws σ H Q :=
  lcG wk (PvO Pv) (fun D hD => ⟨[], L, h0, w.new hD⟩) (fun D i H' ⟨A, L, p, w⟩ => hG i A L D H' p w) (fun i x D H1 H2 hi _ ⟨A, L, p, w⟩ y => hs i x D A L H1 H2 hi p w y) fun D H1 _ ⟨A, L, p, w⟩ => hd D A L H1 p w
theorem lcR1O {n : Nat} (Pv : Nat → List V → List HP → Prop) (w : Own L H) (h0 : Pv 0 [] L) (hj : j = (n : Int)) (hn : n < 16000000)
    (hs : ∀ (i : Nat) D A L H1, i < n → Pv i A L → Own (pt D (.lst A) :: L) H1 → te ((σ.set w₀ none).set w₀ (some (.int (i : Int)))) H1 fun y H4 => LcAdd D (PvO Pv D) i y H4)
    (hd : ∀ D A L H1, Pv n A L → Own (pt D (.lst A) :: L) H1 → Q (.ref D) H1) : rLcR1 (gName w₀) tYes te [w₀] σ Q [.int j] H := by
  subst hj
  refine ⟨(n : Int), rfl, by omega, by omega, lcO walk_range Pv w h0 (fun _ _ _ _ _ _ _ => trivial) ?_ (by rw [Int.toNat_natCast]; exact hd)⟩
  rintro i x D A L H1 H2 hi hP ho ⟨rfl, rfl⟩
  refine ⟨wipe1, ?_⟩
  show te ((σ.set w₀ none).set w₀ (some (.int (0 + (i : Int))))) H2 _
  rw [Int.zero_add]
  exact hs i D A L H2 (by omega) hP ho
theorem lcR1FO {n : Nat} (Pv : Nat → List V → List HP → Prop) (w : Own L H) (h0 : Pv 0 [] L) (hj : j = (n : Int)) (hn : n < 16000000)
    (hs : ∀ (i : Nat) D A L H1, i < n → Pv i A L → Own (pt D (.lst A) :: L) H1 → tt ((σ.set w₀ none).set w₀ (some (.int (i : Int)))) H1 fun b H3 => if b = true then te ((σ.set w₀ none).set w₀ (some (.int (i : Int)))) H3 fun y H4 => LcAdd D (PvO Pv D) i y H4 else PvO Pv D (i + 1) H3)
    (hd : ∀ D A L H1, Pv n A L → Own (pt D (.lst A) :: L) H1 → Q (.ref D) H1) : rLcR1 (gName w₀) tt te [w₀] σ Q [.int j] H := by
  subst hj
  refine ⟨(n : Int), rfl, by omega, by omega, lcO walk_range Pv w h0 (fun _ _ _ _ _ _ _ => trivial) ?_ (by rw [Int.toNat_natCast]; exact hd)⟩
  rintro i x D A L H1 H2 hi hP ho ⟨rfl, rfl⟩
  refine ⟨wipe1, ?_⟩
  have e : (0 : Int) + (i : Int) = (i : Int) := Int.zero_add _
  show tt ((σ.set w₀ none).set w₀ (some (.int (0 + (i : Int))))) H2 (fun b H3 => if b = true then te ((σ.set w₀ none).set w₀ (some (.int (0 + (i : Int))))) H3 fun y H4 => LcAdd D (PvO Pv D) i y H4 else PvO Pv D (i + 1) H3)
  rw [e]
  exact hs i D A L H2 (by omega) hP ho
theorem lcR2O {lo hi : Int} (Pv : Nat → List V → List HP → Prop) (w : Own L H) (h0 : Pv 0 [] L) (hn : -4000000000 < lo ∧ lo < 4000000000 ∧ -4000000000 < hi ∧ hi < 4000000000) (hn2 : hi - lo < 16000000)
    (hs : ∀ (i : Nat) D A L H1, lo + i < hi → Pv i A L → Own (pt D (.lst A) :: L) H1 → te ((σ.set w₀ none).set w₀ (some (.int (lo + (i : Int))))) H1 fun y H4 => LcAdd D (PvO Pv D) i y H4)
    (hd : ∀ D A L H1, Pv (hi - lo).toNat A L → Own (pt D (.lst A) :: L) H1 → Q (.ref D) H1) : rLcR2 (gName w₀) tYes te [w₀] σ Q [.int lo, .int hi] H := by
  refine ⟨lo, hi, rfl, ⟨by omega, by omega, by omega, by omega⟩, lcO walk_range Pv w h0 (fun _ _ _ _ _ _ _ => trivial) ?_ hd⟩
  rintro i x D A L H1 H2 hi hP ho ⟨rfl, rfl⟩
  exact ⟨wipe1, hs i D A L H2 (by omega) hP ho⟩
theorem lcLO {vs : List V} (Pv : Nat → List V → List HP → Prop) (w : Own L H) (h0 : Pv 0 [] L) (hx : ∀ i A L D H', Pv i A L → Own (pt D (.lst A) :: L) H' → SqL K H' a vs)
    (hx0 : SqL K H a vs) (hs : ∀ (i : Nat) x D A L H1, vs[i]? = some x → Pv i A L → Own (pt D (.lst A) :: L) H1 → te ((σ.set w₀ none).set w₀ (some x)) H1 fun y H4 => LcAdd D (PvO Pv D) i y H4)
    (hd : ∀ D A L H1, Pv vs.length A L → Own (pt D (.lst A) :: L) H1 → Q (.ref D) H1) : rLcL K (gName w₀) tYes te [w₀] σ Q (.ref a) H := by
  refine ⟨a, rfl, ⟨_, hx0⟩, lcO walk_list Pv w h0 hx ?_ hd⟩
  rintro i x D A L H1 H2 hi hP ho ⟨rfl, hxi⟩
  exact ⟨wipe1, hs i x D A L H2 hxi hP ho⟩
theorem lcLFO {vs : List V} (Pv : Nat → List V → List HP → Prop) (w : Own L H) (h0 : Pv 0 [] L) (hx : ∀ i A L D H', Pv i A L → Own (pt D (.lst A) :: L) H' → SqL K H' a vs)
    (hx0 : SqL K H a vs) (hs : ∀ (i : Nat) x D A L H1, vs[i]? = some x → Pv i A L → Own (pt D (.lst A) :: L) H1 → tt ((σ.set w₀ none).set w₀ (some x)) H1 fun b H3 =>
      if b = true then te ((σ.set w₀ none).set w₀ (some x)) H3 fun y H4 => LcAdd D (PvO Pv D) i y H4 else PvO Pv D (i + 1) H3)
    (hd : ∀ D A L H1, Pv vs.length A L → Own (pt D (.lst A) :: L) H1 → Q (.ref D) H1) : rLcL K (gName w₀) tt te [w₀] σ Q (.ref a) H := by
  refine ⟨a, rfl, ⟨_, hx0⟩, lcO walk_list Pv w h0 hx ?_ hd⟩
  rintro i x D A L H1 H2 hi hP ho ⟨rfl, hxi⟩
  exact ⟨wipe1, hs i x D A L H2 hxi hP ho⟩
theorem lcTO {vs : List V} (Pv : Nat → List V → List HP → Prop) (w : Own L H) (h0 : Pv 0 [] L) (hx : ∀ i A L D H', Pv i A L → Own (pt D (.lst A) :: L) H' → SqT K H' a vs)
    (hx0 : SqT K H a vs) (hs : ∀ (i : Nat) x D A L H1, vs[i]? = some x → Pv i A L → Own (pt D (.lst A) :: L) H1 → te ((σ.set w₀ none).set w₀ (some x)) H1 fun y H4 => LcAdd D (PvO Pv D) i y H4)
    (hd : ∀ D A L H1, Pv vs.length A L → Own (pt D (.lst A) :: L) H1 → Q (.ref D) H1) : rLcT K (gName w₀) tYes te [w₀] σ Q (.ref a) H := by
  refine ⟨a, rfl, ⟨_, hx0⟩, lcO walk_tup Pv w h0 hx ?_ hd⟩
  rintro i x D A L H1 H2 hi hP ho ⟨rfl, hxi⟩
  exact ⟨wipe1, hs i x D A L H2 hxi hP ho⟩
/-- drawn numbers: [digit(state, m) for k in range(n)] -/
theorem lcDrawO {m : Int} {n : Nat} (w : Own L H) (p : Pick L (Drw s) R) (hj : j = (n : Int)) (hn : n < 16000000) (h0 : 0 < m) 
    (hb : ∀ (i : Nat) H1 n1, H1 s = some (.lst [.int n1]) → te ((σ.set w₀ none).set w₀ (some (.int (i : Int)))) H1 fun y H4 => ∃ d n2, y = .int d ∧ 0 ≤ d ∧ d < m ∧ H4 = upd H1 s (.lst [.int n2]))
    (mono : ∀ (σ : L2.St) H (Q Q' : VK), (∀ y H1, Q y H1 → Q' y H1) → te σ H Q → te σ H Q')
    (hd : ∀ D (ds : List Int) H1, ds.length = n → (∀ d ∈ ds, 0 ≤ d ∧ d < m) → Own (pt D (.lst (ds.map V.int)) :: Drw s :: R) H1 → Q (.ref D) H1) : rLcR1 (gName w₀) tYes te [w₀] σ Q [.int j] H := by
  refine lcR1O (fun i A L => L = Drw s :: R ∧ ∃ ds : List Int, ds.length = i ∧ (∀ d ∈ ds, 0 ≤ d ∧ d < m) ∧ A = ds.map V.int) (w.pick p) ⟨rfl, [], rfl, (fun d hd => by cases hd), rfl⟩ hj hn ?_ ?_
  · rintro i D A L H1 hi ⟨rfl, ds, hl, hds, rfl⟩ ho
    obtain ⟨n1, w1⟩ := ho.swap.ex
    refine mono _ _ _ _ ?_ (hb i H1 n1 w1.get')
    rintro y H4 ⟨d, n2, rfl, d0, d1, rfl⟩
    refine lc_addO ((w1.put .here).drw.swap) .here (by rw [List.length_map]; exact small16l (by omega)) ⟨rfl, ds ++ [d], by rw [List.length_append, hl]; rfl, ?_, by rw [List.map_append]; rfl⟩
    intro z hz
    rcases List.mem_append.mp hz with hz | hz
    · exact hds z hz
    · rw [List.mem_singleton.mp hz]
      exact ⟨d0, d1⟩
  · rintro D A L H1 ⟨rfl, ds, hl, hds, rfl⟩ ho
    exact hd D ds H1 hl hds ho
theorem mono_digit {t1 t2 : TE} {K : PySem.W.Frag} (m1 : ∀ (σ : L2.St) H (Q Q' : VK), (∀ y H1, Q y H1 → Q' y H1) → t1 σ H Q → t1 σ H Q') (m2 : ∀ (σ : L2.St) H (Q Q' : VK), (∀ y H1, Q y H1 → Q' y H1) → t2 σ H Q → t2 σ H Q') :
    ∀ (σ : L2.St) H (Q Q' : VK), (∀ y H1, Q y H1 → Q' y H1) → tCallS (gsDigit K) E (tCons t1 (tCons t2 tNil)) σ H Q → tCallS (gsDigit K) E (tCons t1 (tCons t2 tNil)) σ H Q' := fun σ H Q Q' hq h =>
  m1 σ H _ _ (fun y H1 h => m2 σ H1 _ _ (fun z H2 h => by
    obtain ⟨p, n, m, e, h1, h2, h3, h4⟩ := h
    exact ⟨p, n, m, e, h1, h2, h3, fun d n' a b => hq _ _ (h4 d n' a b)⟩) h) h
theorem mono_var {n : Nat} : ∀ (σ : L2.St) H (Q Q' : VK), (∀ y H1, Q y H1 → Q' y H1) → tVar n σ H Q → tVar n σ H Q' := fun _ _ _ _ hq ⟨v, e, q⟩ => ⟨v, e, hq _ _ q⟩
theorem mono_c {v : V} : ∀ (σ : L2.St) H (Q Q' : VK), (∀ y H1, Q y H1 → Q' y H1) → tC v σ H Q → tC v σ H Q' := fun _ _ _ _ hq q => hq _ _ q
end
end G

/-! the laws' own helpers, once for all laws -/
namespace G
open PySem PySem.Spec PyProof.Rows L2
abbrev GN_law_cell : List Str := ["script", "k"]
abbrev GN_law_start : List Str := ["cell", "k", "prime", "mixed", "number", "turn"]
abbrev GN_law_digit : List Str := ["state", "many", "digit"]
abbrev GN_law_is_integer : List Str := ["told"]
def gt_law_cell (K : PySem.W.Frag) (E : XK) : TS :=
  (tSeq (tIfS (tTest (tOp gLt (tVar 1) (tCB (gLen K) (tCons (tVar 0) tNil))))
  (tRet (tOp (rIxL K) (tVar 0) (tVar 1)))
  tNext)
  (tRet (tC (.int 0))))
def gt_law_start (K : PySem.W.Frag) (E : XK) : TS :=
  (tSeq (tAsg (tC (.int 618970019642690137449562111)) (gName 2))
  (tSeq (tIfS (tTest (tChain gLt gLt (tUn gNeg (tC (.int 1000000000000000000))) (tVar 0) (tC (.int 1000000000000000000))))
  (tSeq (tAsg (tOp gMod (tCB gInt1 (tCons (tOp gAdd (tOp gMul (tVar 0) (tC (.int 2654435761))) (tOp gMul (tOp gAdd (tVar 1) (tC (.int 1))) (tC (.int 6700417)))) tNil)) (tVar 2)) (gName 3))
  (tSeq (tAsg (tC (.int 0)) (gName 4))
  (tSeq (tFor (iRng1 (tCons (tC (.int 4)) tNil)) (gName 5)
  (tSeq (tAsg (tOp gMod (tCB gInt1 (tCons (tOp gAdd (tOp gAdd (tOp gAdd (tOp gMulW (tVar 3) (tVar 3)) (tOp gMul (tC (.int 7)) (tVar 3))) (tVar 1)) (tVar 5)) tNil)) (tVar 2)) (gName 3))
  (tAsg (tOp gAdd (tOp gMulW (tVar 4) (tVar 2)) (tVar 3)) (gName 4))))
  (tRet (tLst (tCons (tVar 4) tNil))))))
  tNext)
  (tRet (tLst (tCons (tVar 0) tNil)))))
def gt_law_digit (K : PySem.W.Frag) (E : XK) : TS :=
  (tSeq (tAsg (tOp gMod (tCB gInt1 (tCons (tOp (rIxL K) (tVar 0) (tC (.int 0))) tNil)) (tVar 1)) (gName 2))
  (tSeq (tAsg (tOp gDivW (tOp (rIxL K) (tVar 0) (tC (.int 0))) (tVar 1)) (gSub (tVar 0) (tC (.int 0)) rSetL))
  (tRet (tVar 2))))
def gt_law_is_integer (K : PySem.W.Frag) (E : XK) : TS :=
  (tRet (tAndV (tCB (rIsi K) (tCons (tVar 0) (tCons (tC (.ty "int")) tNil))) (tNotV (tCB (rIsi K) (tCons (tVar 0) (tCons (tC (.ty "bool")) tNil))))))
section
local macro_rules | `(tactic| wtm_at "g_get") => `(tactic| first | fail)
local macro_rules | `(tactic| wtm_at "g_set") => `(tactic| first | fail)
local macro_rules | `(tactic| wtm_at "g_set2") => `(tactic| first | fail)
local macro_rules | `(tactic| wtm_at "g_mt") => `(tactic| first | fail)
local macro_rules | `(tactic| wtm_at "g_call") => `(tactic| first | fail)
local macro_rules | `(tactic| wtm_at "g_eq") => `(tactic| first | fail)
local macro_rules | `(tactic| wtm_at "g_ne") => `(tactic| first
  | (with_reducible assumption) | (with_reducible exact Ne.symm (by assumption)) | (with_reducible exact ne_of_none (by assumption) (by assumption)) | (with_reducible exact (ne_of_none (by assumption) (by assumption)).symm)
  | fail)
local macro_rules | `(tactic| wtm_at "g_hp") => `(tactic| first
  | (with_reducible assumption) | (with_reducible exact upd_same) | ((with_reducible refine' up_nn ?k1 ?k2); (case k1 => with_reducible assumption); (case k2 => wtm_at "g_hp")) | ((with_reducible refine' up_k' ?k1 ?k2); (case k1 => wtm_at "g_ne"); (case k2 => wtm_at "g_hp"))
  | ((with_reducible refine' up_ko ?k1 ?k2 ?k3); (case k1 => wtm_at "g_hp"); (case k2 => wtm_at "g_hp"); (case k3 => (intro z; cases z)))
  | ((with_reducible refine' ext_get ?k1 ?k2); (case k1 => assumption); (case k2 => wtm_at "g_hp"))
  | ((with_reducible refine' extp_get ?k1 ?k2 ?k3); (case k1 => assumption); (case k2 => wtm_at "g_ne"); (case k3 => wtm_at "g_hp"))
  | ((with_reducible refine' exts_get ?k1 ?k2 ?k3); (case k1 => assumption); (case k2 => wtm_at "g_ni"); (case k3 => wtm_at "g_hp"))
  | fail)
local macro_rules | `(tactic| wtm_at "g_ni") => `(tactic| first
  | (with_reducible assumption) | (with_reducible exact ni_nil)
  | ((with_reducible refine' ni_cons ?k1 ?k2); (case k1 => wtm_at "g_ne"); (case k2 => wtm_at "g_ni"))
  | fail)
local macro_rules | `(tactic| wtm_at "g_mem") => `(tactic| first
  | (with_reducible assumption) | (with_reducible exact mem_hd)
  | ((with_reducible refine' mem_tl ?k1); (case k1 => wtm_at "g_mem"))
  | fail)
local macro_rules | `(tactic| wtm_at "g_sub") => `(tactic| first
  | (with_reducible assumption) | (with_reducible exact SubN.nil)
  | ((with_reducible refine' SubN.inn ?k1 ?k2); (case k1 => wtm_at "g_mem"); (case k2 => wtm_at "g_sub"))
  | ((with_reducible refine' SubN.new ?k1 ?k2); (case k1 => wtm_at "g_nn"); (case k2 => wtm_at "g_sub"))
  | fail)
local macro_rules | `(tactic| wtm_at "g_nn") => `(tactic| first
  | (with_reducible assumption) | ((with_reducible refine' none_up ?k1 ?k2); (case k1 => wtm_at "g_ne"); (case k2 => wtm_at "g_nn")) | ((with_reducible refine' none_dn ?k1); (case k1 => with_reducible assumption))
  | ((with_reducible refine' exts_none ?k1 ?k2); (case k1 => assumption); (case k2 => with_reducible assumption)) | ((with_reducible refine' ext_none ?k1 ?k2); (case k1 => assumption); (case k2 => with_reducible assumption))
  | fail)
local macro_rules | `(tactic| wtm_at "g_ex") => `(tactic| first
  | (with_reducible assumption) | (with_reducible exact Ext.rfl') | (with_reducible exact ExtP.rfl')
  | ((with_reducible refine' ext_up ?k1 ?k2); (case k1 => wtm_at "g_nn"); (case k2 => wtm_at "g_ex"))
  | ((with_reducible refine' ext_put ?k1 ?k2); (case k1 => wtm_at "g_nn"); (case k2 => wtm_at "g_ex"))
  | ((with_reducible refine' ext_via ?k1 ?k2); (case k1 => assumption); (case k2 => wtm_at "g_ex"))
  | ((with_reducible refine' ext_thr ?k1 ?k2 ?k3); (case k2 => assumption); (case k1 => wtm_at "g_nn"); (case k3 => wtm_at "g_ex"))
  | ((with_reducible refine' extp_put ?k1); (case k1 => wtm_at "g_ex"))
  | ((with_reducible refine' extp_up ?k1 ?k2); (case k1 => wtm_at "g_nn"); (case k2 => wtm_at "g_ex"))
  | ((with_reducible refine' extp_putn ?k1 ?k2); (case k1 => wtm_at "g_nn"); (case k2 => wtm_at "g_ex"))
  | ((with_reducible refine' extp_via ?k1 ?k2); (case k1 => assumption); (case k2 => wtm_at "g_ex"))
  | ((with_reducible refine' extp_viae ?k1 ?k2); (case k1 => assumption); (case k2 => wtm_at "g_ex"))
  | ((with_reducible refine' extp_thr ?k1 ?k2 ?k3); (case k2 => assumption); (case k1 => wtm_at "g_nn"); (case k3 => wtm_at "g_ex"))
  | (with_reducible exact ExtS.rfl')
  | ((with_reducible refine' exts_up ?k1 ?k2); (case k1 => wtm_at "g_nn"); (case k2 => wtm_at "g_ex"))
  | ((with_reducible refine' exts_put ?k1 ?k2); (case k1 => wtm_at "g_sub"); (case k2 => wtm_at "g_ex"))
  | ((with_reducible refine' exts_thrE ?k1 ?k2); (case k1 => assumption); (case k2 => wtm_at "g_ex"))
  | ((with_reducible refine' exts_thrP ?k1 ?k2 ?k3 ?k4); (case k1 => assumption); (case k2 => assumption); (case k3 => wtm_at "g_sub"); (case k4 => wtm_at "g_ex"))
  | ((with_reducible refine' exts_thr ?k1 ?k2 ?k3); (case k1 => assumption); (case k2 => wtm_at "g_sub"); (case k3 => wtm_at "g_ex"))
  | fail)
local macro_rules | `(tactic| wtm_at "g_thw") => `(tactic| first
  | (with_reducible assumption) | ((with_reducible refine' Thw.lst ?k1); (case k1 => wtm_at "g_hp")) | ((with_reducible refine' Thw.ins ?k1); (case k1 => wtm_at "g_hp"))
  | fail)
local macro_rules | `(tactic| wtm_at "g_sc") => `(tactic| first
  | (with_reducible assumption) | ((with_reducible refine' scr_new' ?k1 ?k2); (case k1 => wtm_at "g_nn"); (case k2 => wtm_at "g_sc")) | ((with_reducible refine' scr_put' ?k1 ?k2); (case k1 => wtm_at "g_thw"); (case k2 => wtm_at "g_sc"))
  | ((with_reducible refine' scr_ext ?k1 ?k2); (case k1 => assumption); (case k2 => wtm_at "g_sc")) | ((with_reducible refine' scr_extp ?k1 ?k2 ?k3); (case k1 => assumption); (case k2 => wtm_at "g_thw"); (case k3 => wtm_at "g_sc")) | ((with_reducible refine' scr_extn ?k1 ?k2 ?k3); (case k1 => assumption); (case k2 => wtm_at "g_nn"); (case k3 => wtm_at "g_sc"))
  | fail)
local macro_rules | `(tactic| wtm_at "g_sq") => `(tactic| first
  | (with_reducible assumption) | ((with_reducible refine' SqL.of ?k1); (case k1 => wtm_at "g_hp")) | ((with_reducible refine' Scr.sq ?k1); (case k1 => wtm_at "g_sc")) | ((with_reducible refine' sq_new' ?k1 ?k2); (case k1 => wtm_at "g_nn"); (case k2 => wtm_at "g_sq")) | ((with_reducible refine' sq_put' ?k1 ?k2); (case k1 => wtm_at "g_ne"); (case k2 => wtm_at "g_sq"))
  | ((with_reducible refine' sq_ext ?k1 ?k2); (case k1 => assumption); (case k2 => wtm_at "g_sq"))
  | fail)
local macro_rules | `(tactic| wtm_at "g_sqt") => `(tactic| first
  | (with_reducible assumption) | ((with_reducible refine' SqT.of' ?k1); (case k1 => wtm_at "g_hp")) | ((with_reducible refine' sqt_ext ?k1 ?k2); (case k1 => assumption); (case k2 => wtm_at "g_sqt"))
  | fail)
local macro_rules | `(tactic| wtm_at "g_st") => `(tactic| first
  | (with_reducible first
      | refine w_seq ?_ | refine w_asg ?_ | refine w_nm ?_ | refine w_next ?_ | refine w_if ?_ | refine w_ret ?_ | refine w_retN ?_ | refine w_drop ?_
      | refine w_var rfl ?_ | refine w_c ?_ | refine w_op ?_ | refine w_I0 ?_
      | refine w_eqI ?_ | refine w_neI ?_ | refine w_eqB ?_ | refine w_neB ?_ | refine w_eqS ?_ | refine w_neS ?_ | refine w_isN0 ?_ | refine w_isNi ?_ | refine w_isNr ?_ | refine w_isNb ?_ | refine w_isNs ?_ | refine w_notN0 ?_ | refine w_notNi ?_ | refine w_notNr ?_ | refine w_notNb ?_ | refine w_notNs ?_ | refine w_isN ?_ | refine w_notN ?_ | refine w_isB ?_ | refine w_notB ?_
      | refine w_un ?_ | refine w_U ?_ | refine w_chain ?_ | refine w_k ?_ | refine w_test ?_ | refine w_tB ?_ | refine w_tru ?_ | refine w_not ?_ | refine w_and ?_ | refine w_or ?_
      | refine w_andV ?_ | refine w_orV ?_ | refine w_notV ?_ | refine w_ife ?_ | refine w_nil ?_ | refine w_cons ?_ | refine w_tup ?_ | refine w_lst ?_ | refine w_small rfl ?_
      | refine w_call ?_ | refine w_mk ?_ | refine w_mt ?_ | refine w_cb ?_ | refine w_min2 ?_ | refine w_max2 ?_ | refine w_abs ?_ | refine w_int ?_
      | refine w_fld0 ?_ | refine w_bm ?_ | refine w_bm0 ?_ | refine w_sub ?_ | refine w_sfld ?_ | refine w_sfa ?_ | refine w_radd ?_ | refine w_rsub ?_ | refine w_ip ?_ | refine w_rs ?_ | refine w_pr ?_
      | refine w_lcR1 ?_ | refine w_lcR2 ?_ | refine w_lcL ?_ | refine w_lcT ?_ | refine w_yes ?_ | refine w_disp ?_ | refine w_prs ?_ | refine w_prn ?_ | refine w_dget ?_ | refine w_sl ?_ | refine w_nopart ?_ | refine w_part ?_ | refine w_pint ?_
      | refine w_for3 ?_ | refine w_mkK ?_ | refine w_forR1 ?_ | refine w_forR2 ?_ | refine w_forL ?_ | refine w_forT ?_ | refine w_aug rfl ?_ | refine w_par ?_ | refine w_brk ?_ | refine w_cont ?_
      | refine w_isi_ii ?_ | refine w_isi_ib ?_ | refine w_isi_bi ?_ | refine w_isi_bb ?_ | refine w_isi_ss ?_ | refine w_isi_is ?_ | refine w_isi_il ?_ | refine w_isi_it ?_ | refine w_isi_sl ?_ | refine w_isi_st ?_ | refine w_isi_nl ?_ | refine w_isi_nt ?_
      | refine if_T ?_ | refine if_F ?_ | refine if_nT ?_ | refine if_nF ?_)
  | ((with_reducible refine' w_lenL ?k1 ?_); (case k1 => wtm_at "g_sq"))
  | ((with_reducible refine' w_lenT ?k1 ?_); (case k1 => wtm_at "g_sqt"))
  | ((with_reducible refine' w_isi_ll ?k1 ?_); (case k1 => wtm_at "g_hp"))
  | ((with_reducible refine' w_isi_tt ?k1 ?_); (case k1 => wtm_at "g_hp"))
  | ((with_reducible refine' w_isi_lt ?k1 ?_); (case k1 => wtm_at "g_hp"))
  | ((with_reducible refine' w_isi_tl ?k1 ?_); (case k1 => wtm_at "g_hp"))
  | ((with_reducible refine' w_ll ?k1 ?k2 ?_); (case k1 => rfl); (case k2 => rfl))
  | wtm_at "g_get"
  | wtm_at "g_mt"
  | wtm_at "g_set"
  | wtm_at "g_set2"
  | wtm_at "g_call"
  | fail)
local macro_rules | `(tactic| wtm_at "g_go") => `(tactic| repeat wtm_at "g_st")
local macro_rules | `(tactic| wtm_at "g_ifo") => `(tactic| first
  | (refine if_nno rfl ?_) | (refine if_yes rfl ?_)
  | (refine if_no (by omega) ?_)
  | (refine if_yes (by omega) ?_)
  | (refine if_nno (by omega) ?_)
  | (refine if_nyes (by omega) ?_)
  | (refine if_nno (decide_eq_false (by omega)).symm ?_)
  | (refine if_nno (decide_eq_true (by omega)).symm ?_)
  | fail)
local macro_rules | `(tactic| wtm_at "g_goo") => `(tactic| repeat (first | wtm_at "g_st" | wtm_at "g_ifo"))
section
variable {K : PySem.W.Frag} {mg : Str → Option Value} {base : Heap}
theorem g_law_cell (vs : List V) (H : Hp) (Q : VK) (E : XK) (h : gsCell K vs H Q E) : gt_law_cell K E { nx := fun _ H' => Q .non H', rt := Q } (start GN_law_cell vs) H := by
  obtain ⟨a, ns, k, rfl, hS, h0, q⟩ := h
  unfold gt_law_cell
  wtm_at "g_go"
  rw [List.length_map]
  refine if_d (fun hk => ?_) (fun hk => ?_)
  · wtm_at "g_go"
    obtain ⟨z, hz⟩ : ∃ z, ns[k.toNat]? = some z := ⟨ns[k.toNat], List.getElem?_eq_getElem (by omega)⟩
    refine w_ixL hS (at_of (j := k.toNat) (v := V.int z) (by omega) (by rw [List.getElem?_map, hz]; rfl)) (q z)
  · wtm_at "g_go"
    exact q 0
theorem g_law_digit (vs : List V) (H : Hp) (Q : VK) (E : XK) (h : gsDigit K vs H Q E) : gt_law_digit K E { nx := fun _ H' => Q .non H', rt := Q } (start GN_law_digit vs) H := by
  obtain ⟨p, n, m, rfl, hp, h0, h1, q⟩ := h
  unfold gt_law_digit
  wtm_at "g_go"
  refine w_ixL (SqL.of hp) (v := .int n) rfl ?_
  wtm_at "g_go"
  refine w_I h0 ?_
  wtm_at "g_go"
  refine w_ixL (SqL.of hp) (v := .int n) rfl ?_
  wtm_at "g_go"
  refine w_I (digit_div h0 h1 _) ?_
  wtm_at "g_go"
  refine w_setL hp (j := 0) rfl ?_
  wtm_at "g_go"
  exact q _ _ (Int.emod_nonneg _ (by omega)) (Int.emod_lt_of_pos _ h0)
theorem g_law_start (vs : List V) (H : Hp) (Q : VK) (E : XK) (h : gsStart K vs H Q E) : gt_law_start K E { nx := fun _ H' => Q .non H', rt := Q } (start GN_law_start vs) H := by
  obtain ⟨c, k, rfl, q⟩ := h
  unfold gt_law_start
  wtm_at "g_go"
  refine if_d (fun h1 => ?_) (fun h1 => ?_)
  · wtm_at "g_go"
    refine if_d (fun h2 => ?_) (fun h2 => ?_)
    · wtm_at "g_go"
      refine w_I (.inr (by decide)) ?_
      wtm_at "g_go"
      refine w_I (.inr (by decide)) ?_
      wtm_at "g_go"
      refine w_I (by decide) ?_
      wtm_at "g_go"
      refine loop1 (n := 4) (fun i σ H' => H' = H ∧ ∃ (m n : Int) (v : Option V), σ = [some (.int c), some (.int k), some (.int 618970019642690137449562111), some (.int m), some (.int n), v] ∧ 0 ≤ m ∧ m < 618970019642690137449562111 ∧ 0 ≤ n ∧ n < (618970019642690137449562111 : Int) ^ i) rfl (by decide)
        ⟨rfl, _, _, _, rfl, Int.emod_nonneg _ (by decide), Int.emod_lt_of_pos _ (by decide), by decide, by decide⟩ ?_ ?_
      · rintro i σ H' hi ⟨rfl, m, n, v, rfl, m0, m1, n0, n1⟩
        obtain ⟨b1, b2⟩ := pr_pow i hi
        have e3 : (618970019642690137449562111 : Int) < 618970019642690137449562111 ^ 3 + 1 := by decide +kernel
        wtm_at "g_go"
        refine w_I (wide_mul (a := 300) (b := 300) (small_w m0 (Int.lt_trans m1 e3)) (small_w m0 (Int.lt_trans m1 e3)) (by decide) (by decide) (by decide)) ?_
        wtm_at "g_go"
        refine w_I (.inl (by decide)) ?_
        wtm_at "g_go"
        refine w_I (by decide) ?_
        wtm_at "g_go"
        refine w_I (wide_mul (a := 300) (b := 300) (small_w n0 (Int.lt_trans n1 b1)) (small_w (by decide) e3) (by decide) (by decide) (by decide)) ?_
        wtm_at "g_go"
        refine ⟨rfl, _, _, _, rfl, Int.emod_nonneg _ (by decide), Int.emod_lt_of_pos _ (by decide), ?_⟩
        rw [Int.pow_succ]
        exact num_step n0 n1 (Int.emod_nonneg _ (by decide)) (Int.emod_lt_of_pos _ (by decide))
      · rintro σ H' ⟨rfl, m, n, v, rfl, m0, m1, n0, n1⟩
        wtm_at "g_go"
        exact q n
    · wtm_at "g_go"
      exact q c
  · wtm_at "g_go"
    exact q c
end
section
variable {K : PySem.W.Frag} {mg : Str → Option Value} {base : Heap}
theorem g_law_is_integer (vs : List V) (H : Hp) (Q : VK) (E : XK) (h : gsIsInt K vs H Q E) : gt_law_is_integer K E { nx := fun _ H' => Q .non H', rt := Q } (start GN_law_is_integer vs) H := by
  obtain ⟨x, rfl, ⟨i, rfl, q⟩ | ⟨i, rfl, q⟩⟩ := h
  · unfold gt_law_is_integer
    wtm_at "g_go"
    exact q
  · unfold gt_law_is_integer
    wtm_at "g_go"
    exact q
end
end
end G

/-! sorted: tuples that their first items, ints, tell apart -/
namespace SrtO
open PySem PySem.Spec PyProof.Rows Srt
section
variable {prog : Program} {w : World} {A : Around} {E : Value → Shared → Prop} {s : Shared}
theorem eqBool_self {v : Value} {Q : Bool → Shared → Prop} (h : Q true s) : wpAny (model prog w) A (eqBool v v) Q E s := by
  unfold eqBool
  refine wpAny_holding ?_
  refine wpAny_ite_split (fun _ => ?_) (fun e => absurd (beq_self_eq_true v) e)
  exact wpAny_bind (wpAny_rule (wpAny_pure h))
theorem kat_same {b fin : Bool} {Q : Bool → Shared → Prop} (h : Q fin s) : ∀ (l : List Value) (i : Nat), PySem.W.KatLex prog w A b fin Q (l.zip l) i s
  | [], _ => PySem.W.kat_nil h
  | v :: l, i => PySem.W.kat_cons (eqBool_self (PySem.W.kat_yes (kat_same h l (i + 1))))
def IsKey (h : Heap) (v : Value) (x : Int) : Prop := ∃ a o t xs tl n, v = .ref a ∧ h.get? a = some o ∧ o.cls = .type "tuple" ∧ o.data = .seq xs n ∧ xs.toList = .int x t :: tl
theorem IsKey.keeps {h h' : Heap} {v : Value} {x : Int} (p : IsKey h v x) (k : ∀ b o, h.get? b = some o → o.cls = .type "tuple" → h'.get? b = some o) : IsKey h' v x := by
  obtain ⟨a, o, t, xs, tl, n, e, ho, hc, hd⟩ := p
  exact ⟨a, o, t, xs, tl, n, e, k _ _ ho hc, hc, hd⟩
theorem swo_key (k : Value → Int) : Swo fun v u => decide (k v < k u) := by
  refine ⟨fun x y h => ?_, fun x y z h1 h2 => ?_⟩
  · have a := of_decide_eq_true h
    exact decide_eq_false (by omega)
  · have a := of_decide_eq_false h1
    have b := of_decide_eq_false h2
    exact decide_eq_false (by omega)
theorem key_cmp {vs : List Value} {k : Value → Int} (hp : ∀ v ∈ vs, IsKey s.heap v (k v)) (inj : ∀ v ∈ vs, ∀ u ∈ vs, k v = k u → v = u) : Cmp prog w A s (tuples' true) (fun p => p.1 ∈ vs) (lt2 fun v u => decide (k v < k u)) := by
  intro p q hm hm'
  show wpAny (model prog w) A (keyLt' (tuples' true) p.1 q.1) (fun r s' => s' = s ∧ r = decide (k p.1 < k q.1)) (fun _ _ => False) s
  by_cases e : k p.1 = k q.1
  · have ev := inj _ hm _ hm' e
    obtain ⟨a, o, t, xs, tl, n, e1, ho, hc, hd, hx⟩ := hp _ hm
    rw [← ev, e1]
    refine PySem.W.kat_lt ho hd ho hd ?_
    refine kat_same ?_ _ _
    exact ⟨rfl, by rw [decide_eq_false (Nat.lt_irrefl _), decide_eq_false (Int.lt_irrefl _)]⟩
  · obtain ⟨a, o, t, xs, tl, n, e1, ho, hc, hd, hx⟩ := hp _ hm
    obtain ⟨a', o', t', xs', tl', n', e1', ho', hc', hd', hx'⟩ := hp _ hm'
    generalize k p.1 = i at *
    generalize k q.1 = j at *
    rw [e1, e1']
    refine PySem.W.kat_lt ho hd ho' hd' ?_
    rw [hx, hx']
    show PySem.W.KatLex prog w A true _ _ ((Value.int i t, Value.int j t') :: tl.zip tl') 0 s
    refine PySem.W.kat_cons (SeqAt.EqAt.int_int i t j t' prog w _ _ ?_)
    refine PySem.W.kat_go (fun e1 => absurd (show i = j by simpa using e1) e) (fun e1 => ?_)
    exact PySem.W.kat_no (oneLt_int ⟨rfl, rfl⟩)
theorem keyfirsts_of {h : Heap} {k : Value → Int} : ∀ {vs : List Value}, (∀ v ∈ vs, IsKey h v (k v)) → ∃ fs : List Value, PySem.W.KatTups h vs fs ∧ fs.length = vs.length ∧ ∀ f ∈ fs, ∃ x t, f = Value.int x t
  | [], _ => ⟨[], PySem.W.KatTups.nil, rfl, fun _ hm => by simp at hm⟩
  | v :: vs, hp => by
    obtain ⟨fs, h1, h2, h3⟩ := keyfirsts_of (vs := vs) fun v' hm => hp v' (List.mem_cons_of_mem _ hm)
    obtain ⟨a, o, t, xs, tl, n, e, ho, hc, hd, hx⟩ := hp v (List.mem_cons_self ..)
    rw [e]
    refine ⟨.int (k v) t :: fs, PySem.W.KatTups.cons ho hc hd ?_ h1, by rw [List.length_cons, List.length_cons, h2], fun f hm => ?_⟩
    · have z := congrArg (fun l : List Value => l[0]?) hx
      simpa using z
    · rcases List.mem_cons.mp hm with rfl | hm
      · exact ⟨_, t, rfl⟩
      · exact h3 f hm
theorem key_sortableO {a : Addr} {vs : List Value} {k : Value → Int} (h0 : 0 < vs.length) (hp : ∀ v ∈ vs, IsKey s.heap v (k v)) (inj : ∀ v ∈ vs, ∀ u ∈ vs, k v = k u → v = u) (ha : ∀ o, s.heap.get? a = some o → o.cls ≠ .type "tuple") : SortableO prog w A s a vs fun v u => decide (k v < k u) := by
  intro h' keep
  have hp' : ∀ v ∈ vs, IsKey h' v (k v) := fun v hm => (hp v hm).keeps fun b o e c => keep b o (fun z => by subst z; exact ha o e c) e
  obtain ⟨fs, h1, h2, h3⟩ := keyfirsts_of hp'
  refine ⟨tuples' true, fun Q E hq => ?_, key_cmp hp' inj⟩
  refine PySem.W.kat_kind (T := .type "int") h1 (by omega) (fun f hm => ?_) (by rfl) ?_
  · obtain ⟨x, t, rfl⟩ := h3 f hm
    exact PySem.W.Looks.now
  · have e : (Value.type "int" != Value.type "tuple") = true := by first | decide +kernel | rfl | decide
    rw [e]
    exact hq
theorem sorted_keyO {l : Addr} {vs : List Value} {k : Value → Int} {Q : Value → Shared → Prop} (hl : s.heap.IsList l vs.toArray) (hz : vs.length ≤ sizeLine) (hp : ∀ v ∈ vs, IsKey s.heap v (k v)) (inj : ∀ v ∈ vs, ∀ u ∈ vs, k v = k u → v = u)
    (h : ∀ (h' : Heap) (d : Addr) (out : List Value), Srtd (fun v u => decide (k v < k u)) out → Stb (fun v u => decide (k v < k u)) out vs → (∀ b o, s.heap.get? b = some o → h'.get? b = some o) → s.heap.objs.size ≤ d → (∃ n, h'.get? d = some (seqObj "list" out.toArray n)) → Q (.ref d) { s with heap := h' }) :
    wpAny (model prog w) A (call (.builtin "sorted") [.ref l]) Q E s := by
  refine sorted_ord (swo_key k) hl hz (fun h2 h₁ a ha kk => ?_) fun out hs hb => ?_
  · refine key_sortableO (s := { s with heap := h₁ }) (by omega) (fun v hm => (hp v hm).keeps fun b o e _ => (kk b o e).2) inj fun o e => ?_
    have e' : some o = some (seqObj "list" vs.toArray 0) := e.symm.trans ha
    cases e'
    intro c
    exact absurd (Value.type.inj c) (by decide)
  · exact h _ _ out hs hb (fun b o e => sortedAll_old e) (Nat.le_succ _) (sortedAll_at s.heap vs out.toArray)
end
end SrtO
namespace G
open PySem PySem.Spec PyProof.Rows L2
theorem units65 {k : Nat} {A : Around} (r : Room k A) : A.units + 65 < cLine := by
  have := r.un
  omega
/-- sorted(xs): xs are tuples that their first items, ints, tell apart -/
def rSortedD (K : PySem.W.Frag) : List V → Hp → VK → Prop := fun vs H Q => ∃ (a : Addr) (xs : List V) (k : V → Int), vs = [V.ref a] ∧ SqL K H a xs ∧ (∀ x ∈ xs, ∃ t tl, x = V.ref t ∧ H t = some (.tup (.int (k x) :: tl))) ∧ (∀ x ∈ xs, ∀ y ∈ xs, k x = k y → x = y) ∧
  ∀ ys p, ys.Pairwise (fun x y => k x ≤ k y) → ys.Perm xs → H p = none → Q (.ref p) (upd H p (.lst ys))
theorem cr_sortedD {X : Cx} : CallR X (.builtin "sorted") (rSortedD X.K) := by
  intro pins s σ H vs us Q I r h
  obtain ⟨a, xs, k, rfl, hs, hx, hj, q⟩ := h
  obtain ⟨its, rv, hl, hz⟩ := I.list hs
  obtain ⟨u, rfl, ru⟩ := vals1 r
  obtain rfl : u = Value.ref a := ru
  obtain ⟨e1, e2⟩ := refs_back rv fun x m => by
    obtain ⟨t, _, e, _⟩ := hx x m
    exact ⟨t, e⟩
  refine SrtO.sorted_keyO (k := fun u => k (backV u)) hl.isList (by rw [← rv.length]; exact hz) (fun v hv => ?_) (fun v hv u hu e => ?_) fun h' d out h1 h2 kp hd hn => ?_
  · obtain ⟨t, rfl⟩ := e2 v hv
    have hm : V.ref t ∈ xs := by rw [e1]; exact List.mem_map.mpr ⟨_, hv, rfl⟩
    obtain ⟨t', tl, e, ht⟩ := hx _ hm
    cases e
    obtain ⟨_, its2, r2, o, ho, hc, n, hd⟩ := I.hok _ _ ht
    cases r2 with
    | cons ri rt =>
      obtain ⟨t1, rfl⟩ := ri
      exact ⟨t, o, t1, _, _, n, rfl, ho, hc, hd, rfl⟩
  · have m1 : backV v ∈ xs := by rw [e1]; exact List.mem_map.mpr ⟨_, hv, rfl⟩
    have m2 : backV u ∈ xs := by rw [e1]; exact List.mem_map.mpr ⟨_, hu, rfl⟩
    obtain ⟨a1, rfl⟩ := e2 v hv
    obtain ⟨a2, rfl⟩ := e2 u hu
    have := hj _ m1 _ m2 e
    cases this
    rfl
  · have h3 : ∀ u ∈ out, ∃ a, u = Value.ref a := fun u hu => e2 u (h2.perm.mem_iff.mp hu)
    obtain ⟨n, hn⟩ := hn
    refine ⟨.ref d, upd H d (.lst (out.map backV)), I.laid (t' := s.toks) kp hd ⟨?_, out, n, vals_back h3, hn⟩, rfl, q _ d ?_ ?_ (I.hok.fresh hd)⟩
    · rw [List.length_map, h2.perm.length_eq, ← rv.length]; exact hz
    · refine List.pairwise_map.mpr (h1.imp fun {x y} h => ?_)
      have := of_decide_eq_false h
      omega
    · rw [e1]; exact h2.perm.map backV
end G

/-! comprehensions over a list whose rows are claims -/
namespace G
open PySem PySem.Spec PyProof.Rows L2
theorem mra {ps : List Addr} {i : Nat} {x : V} (h : (ps.map V.ref)[i]? = some x) : ∃ p, ps[i]? = some p ∧ V.ref p = x := by
  rw [List.getElem?_map] at h
  cases e : ps[i]? with
  | none => rw [e] at h; cases h
  | some p => rw [e] at h; cases h; exact ⟨p, rfl, rfl⟩
theorem aol {α β : Type} {as : List α} {bs : List β} {i : Nat} {a : α} (h : as[i]? = some a) (l : as.length = bs.length) : ∃ b, bs[i]? = some b := by
  have := (List.getElem?_eq_some_iff.mp h).1
  exact ⟨bs[i]'(by omega), List.getElem?_eq_getElem (by omega)⟩
theorem fltT {α : Type} {P : α → Bool} {xs : List α} {i : Nat} {x : α} (h : xs[i]? = some x) : (xs.take (i + 1)).filter P = (xs.take i).filter P ++ if P x = true then [x] else [] := by
  rw [List.take_add_one, h, List.filter_append]
  congr 1
  show [x].filter P = _
  rw [List.filter_cons, List.filter_nil]
theorem filter_tt {α : Type} (xs : List α) : xs.filter (fun _ => true) = xs := List.filter_eq_self.mpr fun _ _ => rfl
section
variable {K : PySem.W.Frag} {l : Addr} {L L1 R : List HP} {H : Hp} {Q : VK} {σ : L2.St} {c : Bool} {g : TG} {tt : TT} {te : TE} {ws : List Nat} {β γ : Type} {F : Addr → β → HP} {G : Addr → γ → HP} {ps : List Addr} {xs : List β}
/-- the heap stays -/
theorem lcSel (P : β → Bool) (gv : β → V) (hn : xs.length ≤ 1000000) (w : Own L H) (p1 : Pick L (cell c l (.lst (ps.map V.ref))) L1) (p2 : Pick L1 (big F ps xs) R)
    (ht : ∀ (i : Nat) (a : Addr) (x : β) (H1 : Hp) (X : HP) (B0 : Hp → Prop) (B1 : VK), ps[i]? = some a → xs[i]? = some x → Own (X :: cell c l (.lst (ps.map V.ref)) :: big F ps xs :: R) H1 →
      (P x = false → B0 H1) → (P x = true → B1 (gv x) H1) → g (.ref a) (wipe σ ws) H1 fun σ2 H2 => wipe σ2 ws = wipe σ ws ∧ tt σ2 H2 fun b H3 => if b = true then te σ2 H3 B1 else B0 H3)
    (q : ∀ D H', Own (pt D (.lst ((xs.filter P).map gv)) :: cell c l (.lst (ps.map V.ref)) :: big F ps xs :: R) H' → Q (.ref D) H') : rLcL K g tt te ws σ Q (.ref l) H := by
  have w1 := w.take2 p1 p2
  have hlen := w1.swap.bigLen
  refine ⟨l, rfl, ⟨_, w1.sql .here⟩, lcO (walk_list (xs := ps.map V.ref)) (fun i A L => A = ((xs.take i).filter P).map gv ∧ L = cell c l (.lst (ps.map V.ref)) :: big F ps xs :: R) w1 ⟨rfl, rfl⟩ ?_ ?_ ?_⟩
  · rintro i A L D H' ⟨rfl, rfl⟩ w'
    exact w'.sql (.next .here)
  · rintro i y D A L H1 H2 hi ⟨rfl, rfl⟩ w' ⟨rfl, hy⟩
    obtain ⟨a, ha, rfl⟩ := mra hy
    obtain ⟨x, hx⟩ := aol ha hlen
    have hil := (List.getElem?_eq_some_iff.mp hx).1
    refine ht i a x _ _ _ _ ha hx w' (fun hP => ?_) (fun hP => ?_)
    · refine lc_skipO w' .here ⟨?_, rfl⟩
      rw [fltT hx, if_neg (by rw [hP]; decide), List.append_nil]
    · refine lc_addO w' .here (by rw [List.length_map]; exact small16l (Nat.lt_of_le_of_lt (List.length_filter_le _ _) (by rw [List.length_take]; omega))) ⟨?_, rfl⟩
      rw [fltT hx, if_pos hP, List.map_append]
      rfl
  · rintro D A L H1 ⟨rfl, rfl⟩ w'
    rw [List.length_map, hlen, List.take_length] at w'
    exact q D H1 w'
/-- new objects, one for each -/
theorem lcBig (P : β → Bool) (gv : β → γ) (G : Addr → γ → HP) (hn : xs.length ≤ 1000000) (w : Own L H) (p1 : Pick L (cell c l (.lst (ps.map V.ref))) L1) (p2 : Pick L1 (big F ps xs) R)
    (ht : ∀ (i : Nat) (a : Addr) (x : β) (H1 : Hp) (X Y : HP) (B0 : Hp → Prop) (B1 : VK), ps[i]? = some a → xs[i]? = some x → Own (X :: Y :: cell c l (.lst (ps.map V.ref)) :: big F ps xs :: R) H1 →
      (P x = false → ∀ H2, Own (X :: Y :: cell c l (.lst (ps.map V.ref)) :: big F ps xs :: R) H2 → B0 H2) → (P x = true → ∀ H2 t, Own (G t (gv x) :: X :: Y :: cell c l (.lst (ps.map V.ref)) :: big F ps xs :: R) H2 → B1 (.ref t) H2) →
      g (.ref a) (wipe σ ws) H1 fun σ2 H2 => wipe σ2 ws = wipe σ ws ∧ tt σ2 H2 fun b H3 => if b = true then te σ2 H3 B1 else B0 H3)
    (q : ∀ D ts H', Own (pt D (.lst (ts.map V.ref)) :: big G ts ((xs.filter P).map gv) :: cell c l (.lst (ps.map V.ref)) :: big F ps xs :: R) H' → Q (.ref D) H') : rLcL K g tt te ws σ Q (.ref l) H := by
  have w1 := w.take2 p1 p2
  have hlen := w1.swap.bigLen
  refine ⟨l, rfl, ⟨_, w1.sql .here⟩, lcO (walk_list (xs := ps.map V.ref)) (fun i A L => ∃ ts : List Addr, A = ts.map V.ref ∧ ts.length ≤ i ∧ L = big G ts (((xs.take i).filter P).map gv) :: cell c l (.lst (ps.map V.ref)) :: big F ps xs :: R) (Own.bigNil w1) ⟨[], rfl, Nat.le_refl _, rfl⟩ ?_ ?_ ?_⟩
  · rintro i A L D H' ⟨ts, rfl, hts, rfl⟩ w'
    exact w'.sql (.next (.next .here))
  · rintro i y D A L H1 H2 hi ⟨ts, rfl, hts, rfl⟩ w' ⟨rfl, hy⟩
    obtain ⟨a, ha, rfl⟩ := mra hy
    obtain ⟨x, hx⟩ := aol ha hlen
    have hil := (List.getElem?_eq_some_iff.mp hx).1
    refine ht i a x _ _ _ _ _ ha hx w' (fun hP H2 w2 => ?_) (fun hP H2 t w2 => ?_)
    · refine lc_skipO w2 .here ⟨ts, rfl, Nat.le_succ_of_le hts, ?_⟩
      rw [fltT hx, if_neg (by rw [hP]; decide), List.append_nil]
    · have w3 : Own (big G ts (((xs.take i).filter P).map gv) :: G t (gv x) :: pt D (.lst (ts.map V.ref)) :: cell c l (.lst (ps.map V.ref)) :: big F ps xs :: R) H2 := Own.sel w2 (Sel.cons (.next (.next .here)) .rf)
      have w4 := w3.bigSnoc.swap
      refine lc_addO w4 .here (by rw [List.length_map]; exact small16l (by omega)) ⟨ts ++ [t], by rw [List.map_append]; rfl, by rw [List.length_append]; simp only [List.length_cons, List.length_nil]; omega, ?_⟩
      rw [fltT hx, if_pos hP, List.map_append]
      rfl
  · rintro D A L H1 ⟨ts, rfl, hts, rfl⟩ w'
    rw [List.length_map, hlen, List.take_length] at w'
    exact q D ts H1 w'
/-- some of a row of claims that are only read -/
theorem Own.bigPickAt [rc : ∀ x y, Ro (F x y)] {d1 : Addr} {d2 : β} {as : List Addr} {bs : List β} {L : List HP} : ∀ {ns : List Nat}, (∀ n ∈ ns, n < as.length) → Own (big F as bs :: L) H → Own (big F (ns.map (fun n => as.getD n d1)) (ns.map (fun n => bs.getD n d2)) :: big F as bs :: L) H
  | [], _, w => w.bigNil
  | n :: ns, h, w => by
    have ih := Own.bigPickAt (d1 := d1) (d2 := d2) (ns := ns) (fun m hm => h m (List.mem_cons_of_mem _ hm)) w
    have hl := w.bigLen
    have hn := h n List.mem_cons_self
    have w2 := (ih.swap).bigAt (i := n) (List.getElem?_eq_getElem hn) (List.getElem?_eq_getElem (by omega))
    have e1 : as[n] = as.getD n d1 := by rw [List.getD_eq_getElem?_getD, List.getElem?_eq_getElem hn]; rfl
    have e2 : bs[n]'(by omega) = bs.getD n d2 := by rw [List.getD_eq_getElem?_getD, List.getElem?_eq_getElem (by omega)]; rfl
    rw [e1, e2] at w2
    exact Own.bigCons (Own.sel w2 (Sel.cons .here (Sel.cons (.next .here) .rf)))
end
section
variable {K : PySem.W.Frag} {a b : Addr} {L : List HP} {H : Hp} {Q : VK} {xs ys : List V} {lo hi : Option Int}
theorem k_slT (w : Own L H) (g : Got L a (.tup xs)) (ne : (Nat.beq (HT.sIx xs.length 0 lo) 0 && Nat.beq (HT.sIx xs.length xs.length hi) xs.length) = false) (e : cutV xs lo hi = ys) (q : ∀ p H', Own (ro p (.tup ys) :: L) H' → Q (.ref p) H') : rSlT K (.ref a) lo hi H Q :=
  ⟨a, xs, rfl, SqT.of' (w.get g), (fun ⟨h1, h2⟩ => by rw [h1, h2, Nat.beq_refl, Nat.beq_refl] at ne; cases ne), fun p hp => by rw [e]; exact q p _ (w.newT hp)⟩
theorem k_catT (w : Own L H) (g1 : Got L a (.tup xs)) (g2 : Got L b (.tup ys)) (hx : xs.isEmpty = false) (hy : ys.isEmpty = false) (hl : Nat.ble (xs.length + ys.length) 1000 = true) (q : ∀ p H', Own (ro p (.tup (xs ++ ys)) :: L) H' → Q (.ref p) H') : rCatT K (.ref a) (.ref b) H Q :=
  ⟨a, b, xs, ys, rfl, rfl, SqT.of' (w.get g1), SqT.of' (w.get g2), (fun e => by rw [e] at hx; cases hx), Nat.le_trans (Nat.le_of_ble_eq_true hl) (by decide), (fun e => by rw [e] at hy; cases hy), fun _ p hp => q p _ (w.newT hp)⟩
end
end G

namespace K76
open PySem PySem.Spec PyProof.Rows L2 G

def top (i : Nat) : Stmt := PySem.Challenge.pw_throughway_k76_adverts_in_octets.main.body.getD i (.Pass ⟨0, 0, 0, 0⟩)

abbrev s_write_number : Stmt := top 6
abbrev N_write_number : List Str := ["number", "size", "octets", "_"]
abbrev P_write_number : List Str := ["number", "size"]

theorem sc_write_number : FnScope N_write_number P_write_number (defScope s_write_number) := ⟨rfl, rfl, rfl, by decide +kernel, rfl, by decide +kernel, by decide +kernel⟩

abbrev D_write_number : He.DefD := ⟨("write_number", none), "write_number", "write_number", defArgs s_write_number, defBody s_write_number, defScope s_write_number, [], []⟩

abbrev s_read_number : Stmt := top 7
abbrev N_read_number : List Str := ["octets", "number", "octet"]
abbrev P_read_number : List Str := ["octets"]

theorem sc_read_number : FnScope N_read_number P_read_number (defScope s_read_number) := ⟨rfl, rfl, rfl, by decide +kernel, rfl, by decide +kernel, by decide +kernel⟩

abbrev D_read_number : He.DefD := ⟨("read_number", none), "read_number", "read_number", defArgs s_read_number, defBody s_read_number, defScope s_read_number, [], []⟩

abbrev s_span_of : Stmt := top 12
abbrev N_span_of : List Str := ["length"]
abbrev P_span_of : List Str := ["length"]

theorem sc_span_of : FnScope N_span_of P_span_of (defScope s_span_of) := ⟨rfl, rfl, rfl, by decide +kernel, rfl, by decide +kernel, by decide +kernel⟩

abbrev D_span_of : He.DefD := ⟨("span_of", none), "span_of", "span_of", defArgs s_span_of, defBody s_span_of, defScope s_span_of, [], []⟩

abbrev s_Prefix_init : Stmt := inClass (top 13) 0
abbrev N_Prefix_init : List Str := ["self", "base", "length"]
abbrev P_Prefix_init : List Str := ["self", "base", "length"]

theorem sc_Prefix_init : FnScope N_Prefix_init P_Prefix_init (defScope s_Prefix_init) := ⟨rfl, rfl, rfl, by decide +kernel, rfl, by decide +kernel, by decide +kernel⟩

abbrev D_Prefix_init : He.DefD := ⟨("Prefix", some "__init__"), "__init__", "Prefix.__init__", defArgs s_Prefix_init, defBody s_Prefix_init, defScope s_Prefix_init, [], []⟩

abbrev s_Prefix_pair : Stmt := inClass (top 13) 2
abbrev N_Prefix_pair : List Str := ["self"]
abbrev P_Prefix_pair : List Str := ["self"]

theorem sc_Prefix_pair : FnScope N_Prefix_pair P_Prefix_pair (defScope s_Prefix_pair) := ⟨rfl, rfl, rfl, by decide +kernel, rfl, by decide +kernel, by decide +kernel⟩

abbrev D_Prefix_pair : He.DefD := ⟨("Prefix", some "pair"), "pair", "Prefix.pair", defArgs s_Prefix_pair, defBody s_Prefix_pair, defScope s_Prefix_pair, [], []⟩

abbrev s_write_advert : Stmt := top 18
abbrev N_write_advert : List Str := ["rows", "octets", "prefix", "cost"]
abbrev P_write_advert : List Str := ["rows"]

theorem sc_write_advert : FnScope N_write_advert P_write_advert (defScope s_write_advert) := ⟨rfl, rfl, rfl, by decide +kernel, rfl, by decide +kernel, by decide +kernel⟩

abbrev D_write_advert : He.DefD := ⟨("write_advert", none), "write_advert", "write_advert", defArgs s_write_advert, defBody s_write_advert, defScope s_write_advert, [], []⟩

abbrev s_read_row : Stmt := top 19
abbrev N_read_row : List Str := ["octets", "base"]
abbrev P_read_row : List Str := ["octets"]

theorem sc_read_row : FnScope N_read_row P_read_row (defScope s_read_row) := ⟨rfl, rfl, rfl, by decide +kernel, rfl, by decide +kernel, by decide +kernel⟩

abbrev D_read_row : He.DefD := ⟨("read_row", none), "read_row", "read_row", defArgs s_read_row, defBody s_read_row, defScope s_read_row, [], []⟩

abbrev s_read_advert : Stmt := top 20
abbrev N_read_advert : List Str := ["octets", "count", "rows", "k", "row"]
abbrev P_read_advert : List Str := ["octets"]

theorem sc_read_advert : FnScope N_read_advert P_read_advert (defScope s_read_advert) := ⟨rfl, rfl, rfl, by decide +kernel, rfl, by decide +kernel, by decide +kernel⟩

abbrev D_read_advert : He.DefD := ⟨("read_advert", none), "read_advert", "read_advert", defArgs s_read_advert, defBody s_read_advert, defScope s_read_advert, [], []⟩

abbrev s_law_span : Stmt := top 22
abbrev N_law_span : List Str := ["length"]
abbrev P_law_span : List Str := ["length"]

theorem sc_law_span : FnScope N_law_span P_law_span (defScope s_law_span) := ⟨rfl, rfl, rfl, by decide +kernel, rfl, by decide +kernel, by decide +kernel⟩

abbrev D_law_span : He.DefD := ⟨("_law_span", none), "_law_span", "_law_span", defArgs s_law_span, defBody s_law_span, defScope s_law_span, [], []⟩

abbrev s_law_cell : Stmt := top 23
abbrev N_law_cell : List Str := ["script", "k"]
abbrev P_law_cell : List Str := ["script", "k"]

theorem sc_law_cell : FnScope N_law_cell P_law_cell (defScope s_law_cell) := ⟨rfl, rfl, rfl, by decide +kernel, rfl, by decide +kernel, by decide +kernel⟩

abbrev D_law_cell : He.DefD := ⟨("_law_cell", none), "_law_cell", "_law_cell", defArgs s_law_cell, defBody s_law_cell, defScope s_law_cell, [], []⟩

abbrev s_law_start : Stmt := top 24
abbrev N_law_start : List Str := ["cell", "k", "prime", "mixed", "number", "turn"]
abbrev P_law_start : List Str := ["cell", "k"]

theorem sc_law_start : FnScope N_law_start P_law_start (defScope s_law_start) := ⟨rfl, rfl, rfl, by decide +kernel, rfl, by decide +kernel, by decide +kernel⟩

abbrev D_law_start : He.DefD := ⟨("_law_start", none), "_law_start", "_law_start", defArgs s_law_start, defBody s_law_start, defScope s_law_start, [], []⟩

abbrev s_law_digit : Stmt := top 25
abbrev N_law_digit : List Str := ["state", "many", "digit"]
abbrev P_law_digit : List Str := ["state", "many"]

theorem sc_law_digit : FnScope N_law_digit P_law_digit (defScope s_law_digit) := ⟨rfl, rfl, rfl, by decide +kernel, rfl, by decide +kernel, by decide +kernel⟩

abbrev D_law_digit : He.DefD := ⟨("_law_digit", none), "_law_digit", "_law_digit", defArgs s_law_digit, defBody s_law_digit, defScope s_law_digit, [], []⟩

abbrev s_law_rows : Stmt := top 26
abbrev N_law_rows : List Str := ["state", "keys", "k", "length", "address", "key"]
abbrev P_law_rows : List Str := ["state"]

theorem sc_law_rows : FnScope N_law_rows P_law_rows (defScope s_law_rows) := ⟨rfl, rfl, rfl, by decide +kernel, rfl, by decide +kernel, by decide +kernel⟩

abbrev D_law_rows : He.DefD := ⟨("_law_rows", none), "_law_rows", "_law_rows", defArgs s_law_rows, defBody s_law_rows, defScope s_law_rows, [], []⟩

abbrev s_law_octets : Stmt := top 27
abbrev N_law_octets : List Str := ["rows", "octets", "base", "length", "cost"]
abbrev P_law_octets : List Str := ["rows"]

theorem sc_law_octets : FnScope N_law_octets P_law_octets (defScope s_law_octets) := ⟨rfl, rfl, rfl, by decide +kernel, rfl, by decide +kernel, by decide +kernel⟩

abbrev D_law_octets : He.DefD := ⟨("_law_octets", none), "_law_octets", "_law_octets", defArgs s_law_octets, defBody s_law_octets, defScope s_law_octets, [], []⟩

abbrev s_law_expected : Stmt := top 28
abbrev N_law_expected : List Str := ["octets", "rows", "at", "base", "length"]
abbrev P_law_expected : List Str := ["octets"]

theorem sc_law_expected : FnScope N_law_expected P_law_expected (defScope s_law_expected) := ⟨rfl, rfl, rfl, by decide +kernel, rfl, by decide +kernel, by decide +kernel⟩

abbrev D_law_expected : He.DefD := ⟨("_law_expected", none), "_law_expected", "_law_expected", defArgs s_law_expected, defBody s_law_expected, defScope s_law_expected, [], []⟩

abbrev s_law_read : Stmt := top 29
abbrev N_law_read : List Str := ["octets", "prefix", "cost"]
abbrev P_law_read : List Str := ["octets"]

theorem sc_law_read : FnScope N_law_read P_law_read (defScope s_law_read) := ⟨rfl, rfl, rfl, by decide +kernel, rfl, by decide +kernel, by decide +kernel⟩

abbrev D_law_read : He.DefD := ⟨("_law_read", none), "_law_read", "_law_read", defArgs s_law_read, defBody s_law_read, defScope s_law_read, [], []⟩

abbrev s_law_twisted : Stmt := top 30
abbrev N_law_twisted : List Str := ["state", "octets", "at", "octet", "kind"]
abbrev P_law_twisted : List Str := ["state", "octets"]

theorem sc_law_twisted : FnScope N_law_twisted P_law_twisted (defScope s_law_twisted) := ⟨rfl, rfl, rfl, by decide +kernel, rfl, by decide +kernel, by decide +kernel⟩

abbrev D_law_twisted : He.DefD := ⟨("_law_twisted", none), "_law_twisted", "_law_twisted", defArgs s_law_twisted, defBody s_law_twisted, defScope s_law_twisted, [], []⟩

abbrev s_law_round : Stmt := top 31
abbrev N_law_round : List Str := ["state", "rows", "given", "row", "octets", "pair", "twisted", "small", "k", "asked"]
abbrev P_law_round : List Str := ["state"]

theorem sc_law_round : FnScope N_law_round P_law_round (defScope s_law_round) := ⟨rfl, rfl, rfl, by decide +kernel, rfl, by decide +kernel, by decide +kernel⟩

abbrev D_law_round : He.DefD := ⟨("_law_round", none), "_law_round", "_law_round", defArgs s_law_round, defBody s_law_round, defScope s_law_round, [], []⟩

abbrev s_law : Stmt := top 32
abbrev N_law : List Str := ["script", "k"]
abbrev P_law : List Str := ["script"]

theorem sc_law : FnScope N_law P_law (defScope s_law) := ⟨rfl, rfl, rfl, by decide +kernel, rfl, by decide +kernel, by decide +kernel⟩

abbrev D_law : He.DefD := ⟨("law", none), "law", "law", defArgs s_law, defBody s_law, defScope s_law, [], []⟩

abbrev fn : List He.DefD := [D_write_number, D_read_number, D_span_of, D_Prefix_init, D_Prefix_pair, D_write_advert, D_read_row, D_read_advert, D_law_span, D_law_cell, D_law_start, D_law_digit, D_law_rows, D_law_octets, D_law_expected, D_law_read, D_law_twisted, D_law_round, D_law]

abbrev fa : List He.Fa := [.exm "InvalidAdvert" "InvalidAdvert" true, .free "range", .glo "SPANS", .int "BITS" 16, .exc "InvalidPrefix", .glo "InvalidPrefix", .int "ADDRESSES" 65536, .int "HEAD" 2, .free "len", .exc "InvalidAdvert", .glo "InvalidAdvert", .int "FAR" 16, .int "ROW" 4, .free "int", .free "sorted", .free "min", .glo "write_number", .glo "read_number", .glo "span_of", .glo "Prefix", .mkr "Prefix", .cls "Prefix", .meth "Prefix" "pair", .glo "write_advert", .glo "read_row", .glo "read_advert", .glo "_law_span", .glo "_law_cell", .glo "_law_start", .glo "_law_digit", .glo "_law_rows", .glo "_law_octets", .glo "_law_expected", .glo "_law_read", .glo "_law_twisted", .glo "_law_round", .glo "law", .noat "Prefix" "base", .noat "Prefix" "length"]

abbrev pr : List Pr := []
abbrev ex : List Ex := [(tupX "SPANS" [.int 65536, .int 32768, .int 16384, .int 8192, .int 4096, .int 2048, .int 1024, .int 512, .int 256, .int 128, .int 64, .int 32, .int 16, .int 8, .int 4, .int 2, .int 1])]
abbrev TX (K : PySem.W.Frag) (mg : Str → Option Value) (base : Heap) : Prop := TxB fa fn pr ex K mg base

abbrev v_SPANS : List V := [.int 65536, .int 32768, .int 16384, .int 8192, .int 4096, .int 2048, .int 1024, .int 512, .int 256, .int 128, .int 64, .int 32, .int 16, .int 8, .int 4, .int 2, .int 1]
theorem kx_SPANS {K : PySem.W.Frag} {mg : Str → Option Value} {base : Heap} (T : TX K mg base) (H : Hp) : SqT K H (He.ga K "SPANS") v_SPANS := He.tupB_ok (x := "SPANS") (vs := [.int 65536, .int 32768, .int 16384, .int 8192, .int 4096, .int 2048, .int 1024, .int 512, .int 256, .int 128, .int 64, .int 32, .int 16, .int 8, .int 4, .int 2, .int 1]) (T.b.ex_ 0) H

section
variable {K : PySem.W.Frag} {mg : Str → Option Value} {base : Heap}

theorem cl_Prefix (T : TX K mg base) : Cls K (He.ga K "Prefix") := T.cls 21

theorem na_Prefix_base (T : TX K mg base) : NoAttr K (He.ga K "Prefix") "base" := T.noat 37

theorem na_Prefix_length (T : TX K mg base) : NoAttr K (He.ga K "Prefix") "length" := T.noat 38

/-- the attributes of a Prefix, in the order of its __init__ -/
abbrev fPrefix (x0 x1 : V) : List (Str × V) := [("base", x0), ("length", x1)]

theorem lk_Prefix_base {x0 x1 : V} : (fPrefix x0 x1).lookup ("base" : Str) = some x0 := by kernel_rfl

theorem pt_Prefix_base {x0 x1 y : V} : putF "base" y (fPrefix x0 x1) = fPrefix y x1 := by kernel_rfl

theorem pn_Prefix_base { y : V} : putF "base" y ([] : List (Str × V)) = ([("base", y)] : List (Str × V)) := by kernel_rfl

theorem lk_Prefix_length {x0 x1 : V} : (fPrefix x0 x1).lookup ("length" : Str) = some x1 := by kernel_rfl

theorem pt_Prefix_length {x0 x1 y : V} : putF "length" y (fPrefix x0 x1) = fPrefix x0 y := by kernel_rfl

theorem pn_Prefix_length {x0 y : V} : putF "length" y ([("base", x0)] : List (Str × V)) = ([("base", x0), ("length", y)] : List (Str × V)) := by kernel_rfl

theorem ln_Prefix_pair {x0 x1 : V} : (fPrefix x0 x1).lookup ("pair" : Str) = none := by kernel_rfl

end
end K76

namespace K76
open PySem PySem.Spec PyProof.Rows L2 G
/-! ### prefixes -/
abbrev cP (K : PySem.W.Frag) : Addr := He.ga K "Prefix"
abbrev eP (K : PySem.W.Frag) : Value := .ref (He.ga K "InvalidPrefix")
/-- how many addresses a prefix of this length has -/
def sn (l : Int) : Int := 2 ^ (16 - l.toNat)
abbrev Px : Type := Int × Int
def Ok (x : Px) : Prop := 0 ≤ x.2 ∧ x.2 ≤ 16 ∧ 0 ≤ x.1 ∧ x.1 < 65536 ∧ x.1 % sn x.2 = 0
instance (x : Px) : Decidable (Ok x) := inferInstanceAs (Decidable (_ ∧ _))
theorem sn_lit : ∀ l : Int, 0 ≤ l → l ≤ 16 → (l = 0 ∧ sn l = 65536) ∨ (l = 1 ∧ sn l = 32768) ∨ (l = 2 ∧ sn l = 16384) ∨ (l = 3 ∧ sn l = 8192) ∨ (l = 4 ∧ sn l = 4096) ∨ (l = 5 ∧ sn l = 2048) ∨ (l = 6 ∧ sn l = 1024) ∨ (l = 7 ∧ sn l = 512) ∨ (l = 8 ∧ sn l = 256) ∨
    (l = 9 ∧ sn l = 128) ∨ (l = 10 ∧ sn l = 64) ∨ (l = 11 ∧ sn l = 32) ∨ (l = 12 ∧ sn l = 16) ∨ (l = 13 ∧ sn l = 8) ∨ (l = 14 ∧ sn l = 4) ∨ (l = 15 ∧ sn l = 2) ∨ (l = 16 ∧ sn l = 1) := by
  intro l h0 h1
  have h : l = 0 ∨ l = 1 ∨ l = 2 ∨ l = 3 ∨ l = 4 ∨ l = 5 ∨ l = 6 ∨ l = 7 ∨ l = 8 ∨ l = 9 ∨ l = 10 ∨ l = 11 ∨ l = 12 ∨ l = 13 ∨ l = 14 ∨ l = 15 ∨ l = 16 := by omega
  rcases h with h | h | h | h | h | h | h | h | h | h | h | h | h | h | h | h | h <;> (subst h; decide +kernel)
theorem sn_pos {l : Int} : 0 < sn l := by
  unfold sn
  exact Int.pow_pos (by decide)
theorem sn_small {l : Int} (h0 : 0 ≤ l) (h1 : l ≤ 16) : sn l ≤ 65536 := by
  have := sn_lit l h0 h1
  omega
theorem of_ok {a l : Int} (h0 : 0 ≤ l) (h1 : l ≤ 16) (h2 : 0 ≤ a) (h3 : a < 65536) : Ok (a - a % sn l, l) := by
  have h6 := sn_lit l h0 h1
  unfold Ok
  dsimp only
  generalize sn l = z at *
  rcases h6 with h6 | h6 | h6 | h6 | h6 | h6 | h6 | h6 | h6 | h6 | h6 | h6 | h6 | h6 | h6 | h6 | h6 <;> (obtain ⟨_, rfl⟩ := h6; omega)
def PfP (K : PySem.W.Frag) (p : Addr) (x : Px) : HP := hex fun dx => ro p (.ins (cP K) dx (fPrefix (.int x.1) (.int x.2)))
instance {K : PySem.W.Frag} {p : Addr} {x : Px} : Ro (PfP K p x) := by unfold PfP; infer_instance
theorem tell_pf {K : PySem.W.Frag} {p : Addr} {x : Px} : Tell (PfP K p x) (fun H => ∃ dx, H p = some (.ins (cP K) dx (fPrefix (.int x.1) (.int x.2)))) := fun h ⟨dx, q⟩ H e => ⟨dx, e _ _ _ q⟩
theorem tell_pf_base {K : PySem.W.Frag} {p : Addr} {x : Px} : TFld (PfP K p x) p (cP K) "base" (.int x.1) := fun h z H e => let ⟨dx, w⟩ := tell_pf h z H e; ⟨dx, _, w, lk_Prefix_base⟩
theorem tell_pf_length {K : PySem.W.Frag} {p : Addr} {x : Px} : TFld (PfP K p x) p (cP K) "length" (.int x.2) := fun h z H e => let ⟨dx, w⟩ := tell_pf h z H e; ⟨dx, _, w, lk_Prefix_length⟩
theorem tell_pf_m {K : PySem.W.Frag} {p : Addr} {x : Px} {m : Str} (ln : ∀ {x0 x1 : V}, (fPrefix x0 x1).lookup m = none) : TMt (PfP K p x) p (cP K) m := fun h z H e => let ⟨dx, w⟩ := tell_pf h z H e; ⟨dx, _, w, ln⟩
def sp_span_of (K : PySem.W.Frag) : Sp := fun vs H Q _ => ∃ l : Int, vs = [.int l] ∧ 0 ≤ l ∧ l ≤ 16 ∧ Q (.int (sn l)) H
def sp_law_span (K : PySem.W.Frag) : Sp := fun vs H Q _ => ∃ (l : Int) (R : List HP), vs = [.int l] ∧ 0 ≤ l ∧ l ≤ 16 ∧ Own R H ∧ ∀ H', Own R H' → Q (.int (sn l)) H'
def sp_Prefix_init (K : PySem.W.Frag) : Sp := fun vs H Q E => ∃ (p dx : Addr) (b l : Int) (R : List HP), vs = [.ref p, .int b, .int l] ∧ Own (pt p (.ins (cP K) dx []) :: R) H ∧ (¬ Ok (b, l) → ∀ H', Own R H' → E (eP K) none H') ∧ (Ok (b, l) → ∀ H', Own (PfP K p (b, l) :: R) H' → Q .non H')
def sp_Prefix_pair (K : PySem.W.Frag) : Sp := fun vs H Q _ => ∃ (p : Addr) (x : Px) (R : List HP), vs = [.ref p] ∧ Own (PfP K p x :: R) H ∧ ∀ H' t, Own (ro t (.tup [.int x.1, .int x.2]) :: R) H' → Q (.ref t) H'
section
variable {K : PySem.W.Frag} {L R : List HP} {H : Hp} {Q : VK} {E : XK} {p dx : Addr} {x : Px} {l b : Int}
theorem c_span_of (h0 : 0 ≤ l) (h1 : l ≤ 16) (k : Q (.int (sn l)) H) : sp_span_of K [.int l] H Q E := ⟨l, rfl, h0, h1, k⟩
theorem c_law_span (h0 : 0 ≤ l) (h1 : l ≤ 16) (w : Own R H) (k : ∀ H', Own R H' → Q (.int (sn l)) H') : sp_law_span K [.int l] H Q E := ⟨l, R, rfl, h0, h1, w, k⟩
theorem c_pair (w : Own L H) (pk : Pick L (PfP K p x) R) (k : ∀ H' t, Own (ro t (.tup [.int x.1, .int x.2]) :: R) H' → Q (.ref t) H') : sp_Prefix_pair K [.ref p] H Q E := ⟨p, x, R, rfl, w.pick pk, k⟩
theorem c_pf (o : Ok (b, l)) (w : Own L H) (pk : Pick L (pt p (.ins (cP K) dx [])) R) (k : ∀ H', Own (PfP K p (b, l) :: R) H' → Q .non H') : sp_Prefix_init K [.ref p, .int b, .int l] H Q E := ⟨p, dx, b, l, R, rfl, w.pick pk, fun n => absurd o n, fun _ => k⟩
end
/-! ### adverts -/
abbrev eA (K : PySem.W.Frag) : Value := .ref (He.ga K "InvalidAdvert")
structure Rw where
  b : Int
  l : Int
  c : Int
abbrev Rw.px (r : Rw) : Px := (r.b, r.l)
def Rw.d (r : Rw) : PyData := .tuple [.int r.b, .int r.l, .int r.c]
def dO : Option (List Rw) → PyData
  | none => .none
  | some rs => .list (rs.map Rw.d)
def numV (xs : List Int) : Int := xs.foldl (fun n o => n * 256 + o) 0
abbrev two (n : Int) : List Int := [n / 256 % 256, n % 256]
def wr (n : Int) : Nat → List Int
  | 0 => []
  | k + 1 => wr (n / 256) k ++ [n % 256]
def encR (r : Rw) : List Int := two r.b ++ [r.l, r.c]
def enc (rs : List Rw) : List Int := two (rs.length : Nat) ++ (rs.map encR).flatten
/-- the pair after the one before -/
def aft (p : Option Rw) (r : Rw) : Bool := match p with
  | none => true
  | some p => decide (p.b < r.b ∨ p.b = r.b ∧ p.l < r.l)
def good (r : Rw) : Bool := decide (r.l ≤ 16 ∧ r.b % sn r.l = 0 ∧ r.c ≤ 16)
def rowAt (xs : List Int) : Rw := ⟨xs.getD 0 0 * 256 + xs.getD 1 0, xs.getD 2 0, xs.getD 3 0⟩
def rdL : Nat → List Int → List Rw → Option (List Rw)
  | 0, _, acc => some acc
  | n + 1, ys, acc => if good (rowAt ys) && aft acc.getLast? (rowAt ys) then rdL n (ys.drop 4) (acc ++ [rowAt ys]) else none
def rd (xs : List Int) : Option (List Rw) := if xs.length < 2 then none else if (xs.length : Int) ≠ 2 + 4 * numV (xs.take 2) then none else rdL (numV (xs.take 2)).toNat (xs.drop 2) []
def Oct (xs : List Int) : Prop := ∀ x ∈ xs, 0 ≤ x ∧ x ≤ 255
structure OkR (rs : List Rw) : Prop where
  ok : ∀ r ∈ rs, Ok r.px ∧ 0 ≤ r.c ∧ r.c ≤ 16
  asc : rs.Pairwise (fun p r => p.b < r.b ∨ p.b = r.b ∧ p.l < r.l)
  len : rs.length ≤ 100
/-- a row as the law has it; with a prefix -/
def RwP (t : Addr) (r : Rw) : HP := ro t (.tup [.int r.b, .int r.l, .int r.c])
def PrP (K : PySem.W.Frag) (t : Addr) (r : Rw) : HP := hex fun p : Addr => stars [ro t (.tup [.ref p, .int r.c]), PfP K p r.px]
def KyP (t : Addr) (x : Px) : HP := ro t (.tup [.int x.1, .int x.2])
instance {t : Addr} {r : Rw} : Ro (RwP t r) := by unfold RwP; infer_instance
instance {K : PySem.W.Frag} {t : Addr} {r : Rw} : Ro (PrP K t r) := by unfold PrP; infer_instance
instance {t : Addr} {r : Px} : Ro (KyP t r) := by unfold KyP; infer_instance
theorem pr_in {K : PySem.W.Frag} {t p : Addr} {r : Rw} {L : List HP} {H : Hp} (w : Own (ro t (.tup [.ref p, .int r.c]) :: PfP K p r.px :: L) H) : Own (PrP K t r :: L) H := Own.exi p (Own.fold (L := [_, _]) w)
theorem pr_out {K : PySem.W.Frag} {t : Addr} {r : Rw} {L : List HP} {H : Hp} (w : Own (PrP K t r :: L) H) : ∃ p, Own (ro t (.tup [.ref p, .int r.c]) :: PfP K p r.px :: L) H := by
  obtain ⟨p, w⟩ := w.ex
  exact ⟨p, Own.flat (L := [_, _]) w⟩
abbrev sp_law_cell := gsCell
abbrev sp_law_start := gsStart
abbrev sp_law_digit := gsDigit
def sp_write_number (K : PySem.W.Frag) : Sp := fun vs H Q _ => ∃ (n : Int) (k : Nat) (R : List HP), vs = [.int n, .int (k : Int)] ∧ k ≤ 8 ∧ Own R H ∧ ∀ H' t, Own (pt t (.lst ((wr n k).map V.int)) :: R) H' → Q (.ref t) H'
def sp_read_number (K : PySem.W.Frag) : Sp := fun vs H Q _ => ∃ (l : Addr) (xs : List Int) (R : List HP), vs = [.ref l] ∧ Own R H ∧ GotL K R l (xs.map V.int) ∧ ∀ H', Own R H' → Q (.int (numV xs)) H'
def sp_write_advert (K : PySem.W.Frag) : Sp := fun vs H Q _ => ∃ (l : Addr) (ts : List Addr) (rs : List Rw) (R : List HP), vs = [.ref l] ∧ rs.length ≤ 100 ∧ Own (pt l (.lst (ts.map V.ref)) :: big (PrP K) ts rs :: R) H ∧ ∀ H' t, Own (pt t (.lst ((enc rs).map V.int)) :: pt l (.lst (ts.map V.ref)) :: big (PrP K) ts rs :: R) H' → Q (.ref t) H'
def sp_read_row (K : PySem.W.Frag) : Sp := fun vs H Q E => ∃ (l : Addr) (xs : List Int) (R : List HP), vs = [.ref l] ∧ xs.length = 4 ∧ Oct xs ∧ Own R H ∧ GotL K R l (xs.map V.int) ∧ (good (rowAt xs) = false → ∀ H', Own R H' → E (eA K) none H') ∧ (good (rowAt xs) = true → ∀ H' t, Own (PrP K t (rowAt xs) :: R) H' → Q (.ref t) H')
def sp_read_advert (K : PySem.W.Frag) : Sp := fun vs H Q E => ∃ (l : Addr) (xs : List Int) (R : List HP), vs = [.ref l] ∧ Oct xs ∧ xs.length ≤ 10000 ∧ Own R H ∧ GotL K R l (xs.map V.int) ∧ (rd xs = none → ∀ H', Own R H' → E (eA K) none H') ∧ (∀ rs, rd xs = some rs → ∀ H' t ts, Own (pt t (.lst (ts.map V.ref)) :: big (PrP K) ts rs :: R) H' → Q (.ref t) H')
def sp_law_rows (K : PySem.W.Frag) : Sp := fun vs H Q _ => ∃ (s : Addr) (R : List HP), vs = [.ref s] ∧ Own (Drw s :: R) H ∧ ∀ H' t ts rs, OkR rs → Own (pt t (.lst (ts.map V.ref)) :: big RwP ts rs :: Drw s :: R) H' → Q (.ref t) H'
def sp_law_octets (K : PySem.W.Frag) : Sp := fun vs H Q _ => ∃ (l : Addr) (ts : List Addr) (rs : List Rw) (R : List HP), vs = [.ref l] ∧ OkR rs ∧ Own (pt l (.lst (ts.map V.ref)) :: big RwP ts rs :: R) H ∧ ∀ H' t, Own (pt t (.lst ((enc rs).map V.int)) :: pt l (.lst (ts.map V.ref)) :: big RwP ts rs :: R) H' → Q (.ref t) H'
def sp_law_expected (K : PySem.W.Frag) : Sp := fun vs H Q _ => ∃ (l : Addr) (xs : List Int) (R : List HP), vs = [.ref l] ∧ Oct xs ∧ xs.length ≤ 10000 ∧ Own R H ∧ GotL K R l (xs.map V.int) ∧ ∀ H' v, Own (Rd (DT K v (dO (rd xs))) :: R) H' → Q v H'
abbrev sp_law_read := sp_law_expected
def sp_law_twisted (K : PySem.W.Frag) : Sp := fun vs H Q _ => ∃ (s l : Addr) (xs : List Int) (R : List HP), vs = [.ref s, .ref l] ∧ Oct xs ∧ xs.length ≤ 5000 ∧ Own (Drw s :: R) H ∧ Got R l (.lst (xs.map V.int)) ∧ ∀ H' t (ys : List Int), Oct ys → ys.length ≤ 2 * xs.length + 5 → Own (pt t (.lst (ys.map V.int)) :: Drw s :: R) H' → Q (.ref t) H'
def sp_law_round (K : PySem.W.Frag) : Sp := fun vs H Q _ => ∃ (s : Addr) (R : List HP), vs = [.ref s] ∧ Own (Drw s :: R) H ∧ ∀ H', Own R H' → Q (.bl true) H'
def sp_law (K : PySem.W.Frag) : Sp := fun vs H Q _ => ∃ (a : Addr) (ns : List Int), vs = [.ref a] ∧ Own [ScP K a (ns.map V.int)] H ∧ ∀ H', Q (.bl true) H'
theorem law_start {K : PySem.W.Frag} {H : Hp} {a : Addr} {ns : List Int} {E : XK} (hl : ns.length ≤ 63) (hb : ∀ z ∈ ns, Builtin.Int.intBits z ≤ 1048576) (hO : Only H) (hS : SqL K H a (ns.map V.int)) :
    sp_law K [.ref a] H (fun v _ => v = .bl true) E := ⟨a, ns, rfl, .ofScr (.of hO hS), fun _ => rfl⟩
section
variable {K : PySem.W.Frag} {L R : List HP} {H : Hp} {Q : VK} {E : XK} {l : Addr} {n : Int} {xs : List Int}
theorem c_wn2 (w : Own R H) (k : ∀ H' t, Own (pt t (.lst ((two n).map V.int)) :: R) H' → Q (.ref t) H') : sp_write_number K [.int n, .int 2] H Q E := ⟨n, 2, R, rfl, by omega, w, fun H' t w' => k H' t w'⟩
theorem c_rn (w : Own R H) (g : GotL K R l (xs.map V.int)) (k : ∀ H', Own R H' → Q (.int (numV xs)) H') : sp_read_number K [.ref l] H Q E := ⟨l, xs, R, rfl, w, g, k⟩
end
end K76

namespace K76
open PySem PySem.Spec PyProof.Rows L2 G

/-- write_number -/
def t_write_number (K : PySem.W.Frag) (E : XK) : TS :=
  (tSeq (tAsg (tLst tNil) (gName 2))
  (tSeq (tFor (iRng1 (tCons (tVar 1) tNil)) (gName 3)
  (tSeq (tDrop (tBM K "list" rAppend (tVar 2) (tCons (tOp gMod (tVar 0) (tC (.int 256))) tNil)))
  (tAsg (tOp gDiv (tVar 0) (tC (.int 256))) (gName 0))))
  (tSeq (tDrop (tBM0 K "list" rReverse (tVar 2)))
  (tRet (tVar 2)))))

/-- read_number -/
def t_read_number (K : PySem.W.Frag) (E : XK) : TS :=
  (tSeq (tAsg (tC (.int 0)) (gName 1))
  (tSeq (tFor (iList K (tVar 0)) (gName 2)
  (tAsg (tOp gAdd (tOp gMul (tVar 1) (tC (.int 256))) (tVar 2)) (gName 1)))
  (tRet (tVar 1))))

/-- span_of -/
def t_span_of (K : PySem.W.Frag) (E : XK) : TS :=
  (tRet (tOp (rIxT K) (tC (.ref (He.ga K "SPANS"))) (tVar 0)))

/-- Prefix.__init__ -/
def t_Prefix_init (K : PySem.W.Frag) (E : XK) : TS :=
  (tSeq (tIfS (tNot (tTest (tChain gLe gLe (tC (.int 0)) (tVar 2) (tC (.int 16)))))
  (tRs (He.ga K "InvalidPrefix") (wB E))
  tNext)
  (tSeq (tIfS (tNot (tTest (tChain gLe gLt (tC (.int 0)) (tVar 1) (tC (.int 65536)))))
  (tRs (He.ga K "InvalidPrefix") (wB E))
  tNext)
  (tSeq (tIfS (tTest (tOp rNe (tOp gMod (tVar 1) (tCallS (sp_span_of K) (WE (wB E)) (tCons (tVar 2) tNil))) (tC (.int 0))))
  (tRs (He.ga K "InvalidPrefix") (wB E))
  tNext)
  (tSeq (sFld K (tVar 0) (tVar 1) "base")
  (sFld K (tVar 0) (tVar 2) "length")))))

/-- Prefix.pair -/
def t_Prefix_pair (K : PySem.W.Frag) (E : XK) : TS :=
  (tRet (tTup (tCons (tFld K (tVar 0) "base") (tCons (tFld K (tVar 0) "length") tNil))))

/-- write_advert -/
def t_write_advert (K : PySem.W.Frag) (E : XK) : TS :=
  (tSeq (tAsg (tCallS (sp_write_number K) (WE (wB E)) (tCons (tCB (gLen K) (tCons (tVar 0) tNil)) (tCons (tC (.int 2)) tNil))) (gName 1))
  (tSeq (tFor (iList K (tVar 0)) (gTup K 2 (gCons (gName 2) (gCons (gName 3) gNil)))
  (tSeq (tDrop (tBM K "list" rExtend (tVar 1) (tCons (tCallS (sp_write_number K) (WE (wB E)) (tCons (tFld K (tVar 2) "base") (tCons (tC (.int 2)) tNil))) tNil)))
  (tSeq (tDrop (tBM K "list" rAppend (tVar 1) (tCons (tFld K (tVar 2) "length") tNil)))
  (tDrop (tBM K "list" rAppend (tVar 1) (tCons (tVar 3) tNil))))))
  (tRet (tVar 1))))

/-- read_row -/
def t_read_row (K : PySem.W.Frag) (E : XK) : TS :=
  (tSeq (tAsg (tCallS (sp_read_number K) (WE (wB E)) (tCons (tSl (rSlL K) (tVar 0) tNoPart (tPart (tC (.int 2)))) tNil)) (gName 1))
  (tSeq (tIfS (tOr (tTest (tOp gGt (tOp (rIxL K) (tVar 0) (tC (.int 2))) (tC (.int 16)))) (tTest (tOp rNe (tOp gMod (tVar 1) (tCallS (sp_span_of K) (WE (wB E)) (tCons (tOp (rIxL K) (tVar 0) (tC (.int 2))) tNil))) (tC (.int 0)))))
  (tRs (He.ga K "InvalidAdvert") (wB E))
  tNext)
  (tSeq (tIfS (tTest (tOp gGt (tOp (rIxL K) (tVar 0) (tC (.int 3))) (tC (.int 16))))
  (tRs (He.ga K "InvalidAdvert") (wB E))
  tNext)
  (tRet (tTup (tCons (tMk (He.ga K "Prefix") (sp_Prefix_init K) (WE (wB E)) (tCons (tVar 1) (tCons (tOp (rIxL K) (tVar 0) (tC (.int 2))) tNil))) (tCons (tOp (rIxL K) (tVar 0) (tC (.int 3))) tNil)))))))

/-- read_advert -/
def t_read_advert (K : PySem.W.Frag) (E : XK) : TS :=
  (tSeq (tIfS (tTest (tOp gLt (tCB (gLen K) (tCons (tVar 0) tNil)) (tC (.int 2))))
  (tRs (He.ga K "InvalidAdvert") (wB E))
  tNext)
  (tSeq (tAsg (tCallS (sp_read_number K) (WE (wB E)) (tCons (tSl (rSlL K) (tVar 0) tNoPart (tPart (tC (.int 2)))) tNil)) (gName 1))
  (tSeq (tIfS (tTest (tOp rNe (tCB (gLen K) (tCons (tVar 0) tNil)) (tOp gAdd (tC (.int 2)) (tOp gMul (tC (.int 4)) (tVar 1)))))
  (tRs (He.ga K "InvalidAdvert") (wB E))
  tNext)
  (tSeq (tAsg (tLst tNil) (gName 2))
  (tSeq (tFor (iRng1 (tCons (tVar 1) tNil)) (gName 3)
  (tSeq (tAsg (tCallS (sp_read_row K) (WE (wB E)) (tCons (tSl (rSlL K) (tVar 0) (tPart (tOp gAdd (tC (.int 2)) (tOp gMul (tC (.int 4)) (tVar 3)))) (tPart (tOp gAdd (tOp gAdd (tC (.int 2)) (tOp gMul (tC (.int 4)) (tVar 3))) (tC (.int 4))))) tNil)) (gName 4))
  (tSeq (tIfS (tAnd (tTest (tOp gGt (tVar 3) (tC (.int 0)))) (tTest (tOp (rLeT K) (tMt (He.ga K "Prefix") "pair" (sp_Prefix_pair K) (WE (wB E)) (tOp (rIxT K) (tVar 4) (tC (.int 0))) tNil) (tMt (He.ga K "Prefix") "pair" (sp_Prefix_pair K) (WE (wB E)) (tOp (rIxT K) (tOp (rIxL K) (tVar 2) (tUn gNeg (tC (.int 1)))) (tC (.int 0))) tNil))))
  (tRs (He.ga K "InvalidAdvert") (wB E))
  tNext)
  (tDrop (tBM K "list" rAppend (tVar 2) (tCons (tVar 4) tNil))))))
  (tRet (tVar 2)))))))

/-- _law_span -/
def t_law_span (K : PySem.W.Frag) (E : XK) : TS :=
  (tRet (tOp (rIxT K) (tTup (tCons (tC (.int 65536)) (tCons (tC (.int 32768)) (tCons (tC (.int 16384)) (tCons (tC (.int 8192)) (tCons (tC (.int 4096)) (tCons (tC (.int 2048)) (tCons (tC (.int 1024)) (tCons (tC (.int 512)) (tCons (tC (.int 256)) (tCons (tC (.int 128)) (tCons (tC (.int 64)) (tCons (tC (.int 32)) (tCons (tC (.int 16)) (tCons (tC (.int 8)) (tCons (tC (.int 4)) (tCons (tC (.int 2)) (tCons (tC (.int 1)) tNil)))))))))))))))))) (tVar 0)))

/-- _law_cell -/
def t_law_cell (K : PySem.W.Frag) (E : XK) : TS :=
  (tSeq (tIfS (tTest (tOp gLt (tVar 1) (tCB (gLen K) (tCons (tVar 0) tNil))))
  (tRet (tOp (rIxL K) (tVar 0) (tVar 1)))
  tNext)
  (tRet (tC (.int 0))))

/-- _law_start -/
def t_law_start (K : PySem.W.Frag) (E : XK) : TS :=
  (tSeq (tAsg (tC (.int 618970019642690137449562111)) (gName 2))
  (tSeq (tIfS (tTest (tChain gLt gLt (tUn gNeg (tC (.int 1000000000000000000))) (tVar 0) (tC (.int 1000000000000000000))))
  (tSeq (tAsg (tOp gMod (tCB gInt1 (tCons (tOp gAdd (tOp gMul (tVar 0) (tC (.int 2654435761))) (tOp gMul (tOp gAdd (tVar 1) (tC (.int 1))) (tC (.int 6700417)))) tNil)) (tVar 2)) (gName 3))
  (tSeq (tAsg (tC (.int 0)) (gName 4))
  (tSeq (tFor (iRng1 (tCons (tC (.int 4)) tNil)) (gName 5)
  (tSeq (tAsg (tOp gMod (tCB gInt1 (tCons (tOp gAdd (tOp gAdd (tOp gAdd (tOp gMulW (tVar 3) (tVar 3)) (tOp gMul (tC (.int 7)) (tVar 3))) (tVar 1)) (tVar 5)) tNil)) (tVar 2)) (gName 3))
  (tAsg (tOp gAdd (tOp gMulW (tVar 4) (tVar 2)) (tVar 3)) (gName 4))))
  (tRet (tLst (tCons (tVar 4) tNil))))))
  tNext)
  (tRet (tLst (tCons (tVar 0) tNil)))))

/-- _law_digit -/
def t_law_digit (K : PySem.W.Frag) (E : XK) : TS :=
  (tSeq (tAsg (tOp gMod (tCB gInt1 (tCons (tOp (rIxL K) (tVar 0) (tC (.int 0))) tNil)) (tVar 1)) (gName 2))
  (tSeq (tAsg (tOp gDivW (tOp (rIxL K) (tVar 0) (tC (.int 0))) (tVar 1)) (gSub (tVar 0) (tC (.int 0)) rSetL))
  (tRet (tVar 2))))

/-- _law_rows -/
def t_law_rows (K : PySem.W.Frag) (E : XK) : TS :=
  (tSeq (tAsg (tLst tNil) (gName 1))
  (tSeq (tFor (iRng1 (tCons (tCallS (sp_law_digit K) (WE (wB E)) (tCons (tVar 0) (tCons (tC (.int 13)) tNil))) tNil)) (gName 2)
  (tSeq (tAsg (tCallS (sp_law_digit K) (WE (wB E)) (tCons (tVar 0) (tCons (tC (.int 17)) tNil))) (gName 3))
  (tSeq (tAsg (tCallS (sp_law_digit K) (WE (wB E)) (tCons (tVar 0) (tCons (tC (.int 65536)) tNil))) (gName 4))
  (tSeq (tAsg (tTup (tCons (tOp gMinus (tVar 4) (tOp gMod (tVar 4) (tCallS (sp_law_span K) (WE (wB E)) (tCons (tVar 3) tNil)))) (tCons (tVar 3) tNil))) (gName 5))
  (tIfS (tTest (tOp (rNotInD K) (tVar 5) (tVar 1)))
  (tDrop (tBM K "list" rAppend (tVar 1) (tCons (tVar 5) tNil)))
  tNext)))))
  (tRet (tLc (iList K (tCB (rSortedPO K) (tCons (tVar 1) tNil))) (gName 5) tYes (tTup (tCons (tOp (rIxT K) (tVar 5) (tC (.int 0))) (tCons (tOp (rIxT K) (tVar 5) (tC (.int 1))) (tCons (tOp gMod (tCB gInt1 (tCons (tOp gAdd (tOp gAdd (tOp gMul (tOp (rIxT K) (tVar 5) (tC (.int 0))) (tC (.int 7))) (tOp (rIxT K) (tVar 5) (tC (.int 1)))) (tCB (gLen K) (tCons (tVar 1) tNil))) tNil)) (tC (.int 17))) tNil)))) [5]))))

/-- _law_octets -/
def t_law_octets (K : PySem.W.Frag) (E : XK) : TS :=
  (tSeq (tAsg (tLst (tCons (tOp gDiv (tCB (gLen K) (tCons (tVar 0) tNil)) (tC (.int 256))) (tCons (tOp gMod (tCB (gLen K) (tCons (tVar 0) tNil)) (tC (.int 256))) tNil))) (gName 1))
  (tSeq (tFor (iList K (tVar 0)) (gTup K 3 (gCons (gName 2) (gCons (gName 3) (gCons (gName 4) gNil))))
  (tAsg (tOp rCat (tVar 1) (tLst (tCons (tOp gDiv (tVar 2) (tC (.int 256))) (tCons (tOp gMod (tVar 2) (tC (.int 256))) (tCons (tVar 3) (tCons (tVar 4) tNil)))))) (gName 1)))
  (tRet (tVar 1))))

/-- _law_expected -/
def t_law_expected (K : PySem.W.Frag) (E : XK) : TS :=
  (tSeq (tIfS (tOr (tTest (tOp gLt (tCB (gLen K) (tCons (tVar 0) tNil)) (tC (.int 2)))) (tTest (tOp rNe (tCB (gLen K) (tCons (tVar 0) tNil)) (tOp gAdd (tC (.int 2)) (tOp gMul (tC (.int 4)) (tOp gAdd (tOp gMul (tOp (rIxL K) (tVar 0) (tC (.int 0))) (tC (.int 256))) (tOp (rIxL K) (tVar 0) (tC (.int 1)))))))))
  (tRet (tC .non))
  tNext)
  (tSeq (tAsg (tLst tNil) (gName 1))
  (tSeq (tFor (iRng3 (tCons (tC (.int 2)) (tCons (tCB (gLen K) (tCons (tVar 0) tNil)) (tCons (tC (.int 4)) tNil)))) (gName 2)
  (tSeq (tAsg (tOp gAdd (tOp gMul (tOp (rIxL K) (tVar 0) (tVar 2)) (tC (.int 256))) (tOp (rIxL K) (tVar 0) (tOp gAdd (tVar 2) (tC (.int 1))))) (gName 3))
  (tSeq (tAsg (tOp (rIxL K) (tVar 0) (tOp gAdd (tVar 2) (tC (.int 2)))) (gName 4))
  (tSeq (tIfS (tOr (tTest (tOp gGt (tVar 4) (tC (.int 16)))) (tOr (tTest (tOp rNe (tOp gMod (tVar 3) (tCallS (sp_law_span K) (WE (wB E)) (tCons (tVar 4) tNil))) (tC (.int 0)))) (tTest (tOp gGt (tOp (rIxL K) (tVar 0) (tOp gAdd (tVar 2) (tC (.int 3)))) (tC (.int 16))))))
  (tRet (tC .non))
  tNext)
  (tSeq (tIfS (tAnd (tTest (tOp gGt (tCB (gLen K) (tCons (tVar 1) tNil)) (tC (.int 0)))) (tTest (tOp (rLeT K) (tTup (tCons (tVar 3) (tCons (tVar 4) tNil))) (tTup (tCons (tOp (rIxT K) (tOp (rIxL K) (tVar 1) (tUn gNeg (tC (.int 1)))) (tC (.int 0))) (tCons (tOp (rIxT K) (tOp (rIxL K) (tVar 1) (tUn gNeg (tC (.int 1)))) (tC (.int 1))) tNil))))))
  (tRet (tC .non))
  tNext)
  (tDrop (tBM K "list" rAppend (tVar 1) (tCons (tTup (tCons (tVar 3) (tCons (tVar 4) (tCons (tOp (rIxL K) (tVar 0) (tOp gAdd (tVar 2) (tC (.int 3)))) tNil)))) tNil))))))))
  (tRet (tVar 1)))))

/-- _law_read -/
def t_law_read (K : PySem.W.Frag) (E : XK) : TS :=
  (fun D σ H => (fun W1 : WX => (tRet (tLc (iList K (tCallS (sp_read_advert K) (WE W1) (tCons (tVar 0) tNil))) (gTup K 2 (gCons (gName 1) (gCons (gName 2) gNil))) tYes (tTup (tCons (tFld K (tVar 1) "base") (tCons (tFld K (tVar 1) "length") (tCons (tVar 2) tNil)))) [1, 2]))) (wOnly K (.ref (He.ga K "InvalidAdvert")) (fun (aX : Addr) (clX : Value) (dX : Option Addr) => (tRet (tC .non))) (wB E) D) D σ H)

/-- _law_twisted -/
def t_law_twisted (K : PySem.W.Frag) (E : XK) : TS :=
  (tSeq (tAsg (tCallS (sp_law_digit K) (WE (wB E)) (tCons (tVar 0) (tCons (tOp gAdd (tCB (gLen K) (tCons (tVar 1) tNil)) (tC (.int 1))) tNil))) (gName 2))
  (tSeq (tAsg (tOp (rIxT K) (tTup (tCons (tC (.int 0)) (tCons (tC (.int 1)) (tCons (tC (.int 2)) (tCons (tC (.int 15)) (tCons (tC (.int 16)) (tCons (tC (.int 17)) (tCons (tC (.int 128)) (tCons (tC (.int 255)) tNil))))))))) (tCallS (sp_law_digit K) (WE (wB E)) (tCons (tVar 0) (tCons (tC (.int 8)) tNil)))) (gName 3))
  (tSeq (tAsg (tCallS (sp_law_digit K) (WE (wB E)) (tCons (tVar 0) (tCons (tC (.int 5)) tNil))) (gName 4))
  (tSeq (tIfS (tTest (tOp rEq (tVar 4) (tC (.int 0))))
  (tRet (tOp rCat (tOp rCat (tSl (rSlL K) (tVar 1) tNoPart (tPart (tVar 2))) (tLst (tCons (tVar 3) tNil))) (tSl (rSlL K) (tVar 1) (tPart (tVar 2)) tNoPart)))
  tNext)
  (tSeq (tIfS (tTest (tOp rEq (tVar 4) (tC (.int 1))))
  (tRet (tOp rCat (tSl (rSlL K) (tVar 1) tNoPart (tPart (tVar 2))) (tSl (rSlL K) (tVar 1) (tPart (tOp gAdd (tVar 2) (tC (.int 1)))) tNoPart)))
  tNext)
  (tSeq (tIfS (tTest (tOp rEq (tVar 4) (tC (.int 2))))
  (tRet (tOp rCat (tVar 1) (tSl (rSlL K) (tVar 1) (tPart (tC (.int 2))) (tPart (tC (.int 6))))))
  tNext)
  (tSeq (tIfS (tAnd (tTest (tOp rEq (tVar 4) (tC (.int 3)))) (tTest (tOp gGt (tCB (gLen K) (tCons (tVar 1) tNil)) (tC (.int 2)))))
  (tRet (tOp rCat (tOp rCat (tOp rCat (tSl (rSlL K) (tVar 1) tNoPart (tPart (tC (.int 1)))) (tLst (tCons (tOp gMod (tCB gInt1 (tCons (tOp gAdd (tOp (rIxL K) (tVar 1) (tC (.int 1))) (tC (.int 1))) tNil)) (tC (.int 256))) tNil))) (tSl (rSlL K) (tVar 1) (tPart (tC (.int 2))) tNoPart)) (tSl (rSlL K) (tVar 1) (tPart (tOp gMinus (tCB (gLen K) (tCons (tVar 1) tNil)) (tC (.int 4)))) tNoPart)))
  tNext)
  (tRet (tOp rCat (tOp rCat (tSl (rSlL K) (tVar 1) tNoPart (tPart (tVar 2))) (tLst (tCons (tVar 3) tNil))) (tSl (rSlL K) (tVar 1) (tPart (tOp gAdd (tVar 2) (tC (.int 1)))) tNoPart))))))))))

/-- _law_round -/
def t_law_round (K : PySem.W.Frag) (E : XK) : TS :=
  (tSeq (tAsg (tCallS (sp_law_rows K) (WE (wB E)) (tCons (tVar 0) tNil)) (gName 1))
  (tSeq (tAsg (tLc (iList K (tVar 1)) (gName 3) tYes (tTup (tCons (tMk (He.ga K "Prefix") (sp_Prefix_init K) (fun _ => E0) (tCons (tOp (rIxT K) (tVar 3) (tC (.int 0))) (tCons (tOp (rIxT K) (tVar 3) (tC (.int 1))) tNil))) (tCons (tOp (rIxT K) (tVar 3) (tC (.int 2))) tNil))) [3]) (gName 2))
  (tSeq (tAsg (tCallS (sp_write_advert K) (WE (wB E)) (tCons (tVar 2) tNil)) (gName 4))
  (tSeq (tIfS (tOr (tTest (tOp (rNeD K) (tVar 4) (tCallS (sp_law_octets K) (WE (wB E)) (tCons (tVar 1) tNil)))) (tTest (tOp (rNeD K) (tLc (iList K (tVar 2)) (gName 5) tYes (tTup (tCons (tMt (He.ga K "Prefix") "pair" (sp_Prefix_pair K) (fun _ => E0) (tOp (rIxT K) (tVar 5) (tC (.int 0))) tNil) (tCons (tOp (rIxT K) (tVar 5) (tC (.int 1))) tNil))) [5]) (tLc (iList K (tVar 1)) (gName 3) tYes (tTup (tCons (tSl (rSlT K) (tVar 3) tNoPart (tPart (tC (.int 2)))) (tCons (tOp (rIxT K) (tVar 3) (tC (.int 2))) tNil))) [3]))))
  (tRet (tC (.bl false)))
  tNext)
  (tSeq (tIfS (tOr (tTest (tOp (rNeD K) (tCallS (sp_law_read K) (WE (wB E)) (tCons (tVar 4) tNil)) (tVar 1))) (tTest (tOp (rNeD K) (tVar 4) (tCallS (sp_law_octets K) (WE (wB E)) (tCons (tVar 1) tNil)))))
  (tRet (tC (.bl false)))
  tNext)
  (tSeq (tAsg (tCallS (sp_law_twisted K) (WE (wB E)) (tCons (tVar 0) (tCons (tVar 4) tNil))) (gName 6))
  (tSeq (tAsg (tLc (iRng1 (tCons (tCallS (sp_law_digit K) (WE (wB E)) (tCons (tVar 0) (tCons (tC (.int 7)) tNil))) tNil)) (gName 8) tYes (tCallS (sp_law_digit K) (fun _ => E0) (tCons (tVar 0) (tCons (tC (.int 3)) tNil))) [8]) (gName 7))
  (tSeq (tFor (iTup K (tTup (tCons (tVar 6) (tCons (tCallS (sp_law_twisted K) (WE (wB E)) (tCons (tVar 0) (tCons (tVar 6) tNil))) (tCons (tVar 7) tNil))))) (gName 9)
  (tIfS (tTest (tOp (rNeD K) (tCallS (sp_law_read K) (WE (wB E)) (tCons (tVar 9) tNil)) (tCallS (sp_law_expected K) (WE (wB E)) (tCons (tVar 9) tNil))))
  (tRet (tC (.bl false)))
  tNext))
  (tRet (tC (.bl true)))))))))))

/-- law -/
def t_law (K : PySem.W.Frag) (E : XK) : TS :=
  (tSeq (tFor (iRng1 (tCons (tCB gMin2 (tCons (tC (.int 40)) (tCons (tOp gAdd (tC (.int 1)) (tCB (gLen K) (tCons (tVar 0) tNil))) tNil))) tNil)) (gName 1)
  (tIfS (tNot (tB (tCallS (sp_law_round K) (WE (wB E)) (tCons (tCallS (sp_law_start K) (WE (wB E)) (tCons (tCallS (sp_law_cell K) (WE (wB E)) (tCons (tVar 0) (tCons (tVar 1) tNil))) (tCons (tVar 1) tNil))) tNil))))
  (tRet (tC (.bl false)))
  tNext))
  (tRet (tC (.bl true))))

end K76

namespace K76
open PySem PySem.Spec PyProof.Rows L2 G
section
variable {P : Program} {w : World} {K : PySem.W.Frag} {mg : Str → Option Value} {base : Heap}

theorem d_write_number (T : TX K mg base)  {cdv : Value} {A : Around} {outer : List Env} {s : Shared} {H : Hp} {E : XK} (hr : Room 0 (A.deeper (envOfC "write_number" (defScope s_write_number) s.heap.objs.size (He.ga K "write_number") cdv))) :
    PSs (cxOf (L2.CX P w) P w K mg base N_write_number "write_number" (defScope s_write_number) (He.ga K "write_number") cdv A outer s H E) (defBody s_write_number) (t_write_number K E) := by
  have tk : Takes (cxOf (L2.CX P w) P w K mg base N_write_number "write_number" (defScope s_write_number) (He.ga K "write_number") cdv A outer s H E) (wB E) := takes_of rfl rfl rfl rfl
  have po : PassesOwn (model P w) (cxOf (L2.CX P w) P w K mg base N_write_number "write_number" (defScope s_write_number) (He.ga K "write_number") cdv A outer s H E).A (cxOf (L2.CX P w) P w K mg base N_write_number "write_number" (defScope s_write_number) (He.ga K "write_number") cdv A outer s H E).env (cxOf (L2.CX P w) P w K mg base N_write_number "write_number" (defScope s_write_number) (He.ga K "write_number") cdv A outer s H E).xe := passes_of rfl
  exact (pss_cons (ps_set (i := 2) sc_write_number.nd rfl (Or.inl rfl) (pe_lst pa_nil))
  (pss_cons (ps_for po rfl (pi_range1 rfl (T.free 1) (pa_cons (pv 1) pa_nil)) (pg_name (i := 3) sc_write_number.nd rfl (Or.inl rfl))
  (pss_cons (ps_expr (pe_bm PySem.F.plainAttrs_list PySem.F.slot_list_append PySem.F.type_list_append mt_append (pv 2) (pa_cons (pe_op op_mod (pv 0) pe_int) pa_nil)))
  (pss_one (ps_set (i := 0) sc_write_number.nd rfl (Or.inl rfl) (pe_op op_fdiv (pv 0) pe_int)))))
  (pss_cons (ps_expr (pe_bm0 PySem.F.plainAttrs_list PySem.F.slot_list_reverse PySem.F.type_list_reverse mt_reverse (pv 2)))
  (pss_one (ps_ret (pv 2))))))

theorem d_read_number (T : TX K mg base)  {cdv : Value} {A : Around} {outer : List Env} {s : Shared} {H : Hp} {E : XK} (hr : Room 0 (A.deeper (envOfC "read_number" (defScope s_read_number) s.heap.objs.size (He.ga K "read_number") cdv))) :
    PSs (cxOf (L2.CX P w) P w K mg base N_read_number "read_number" (defScope s_read_number) (He.ga K "read_number") cdv A outer s H E) (defBody s_read_number) (t_read_number K E) := by
  have tk : Takes (cxOf (L2.CX P w) P w K mg base N_read_number "read_number" (defScope s_read_number) (He.ga K "read_number") cdv A outer s H E) (wB E) := takes_of rfl rfl rfl rfl
  have po : PassesOwn (model P w) (cxOf (L2.CX P w) P w K mg base N_read_number "read_number" (defScope s_read_number) (He.ga K "read_number") cdv A outer s H E).A (cxOf (L2.CX P w) P w K mg base N_read_number "read_number" (defScope s_read_number) (He.ga K "read_number") cdv A outer s H E).env (cxOf (L2.CX P w) P w K mg base N_read_number "read_number" (defScope s_read_number) (He.ga K "read_number") cdv A outer s H E).xe := passes_of rfl
  exact (pss_cons (ps_set (i := 1) sc_read_number.nd rfl (Or.inl rfl) pe_int)
  (pss_cons (ps_for po rfl (pi_list (pv 0)) (pg_name (i := 2) sc_read_number.nd rfl (Or.inl rfl))
  (pss_one (ps_set (i := 1) sc_read_number.nd rfl (Or.inl rfl) (pe_op op_add (pe_op op_mul (pv 1) pe_int) (pv 2)))))
  (pss_one (ps_ret (pv 1)))))

theorem d_span_of (T : TX K mg base)  {cdv : Value} {A : Around} {outer : List Env} {s : Shared} {H : Hp} {E : XK} (hr : Room 0 (A.deeper (envOfC "span_of" (defScope s_span_of) s.heap.objs.size (He.ga K "span_of") cdv))) :
    PSs (cxOf (L2.CX P w) P w K mg base N_span_of "span_of" (defScope s_span_of) (He.ga K "span_of") cdv A outer s H E) (defBody s_span_of) (t_span_of K E) := by
  have tk : Takes (cxOf (L2.CX P w) P w K mg base N_span_of "span_of" (defScope s_span_of) (He.ga K "span_of") cdv A outer s H E) (wB E) := takes_of rfl rfl rfl rfl
  exact (pss_one (ps_ret (pe_ix ix_tup (pe_gref rfl (T.glo 2)) (pv 0) (fun _ _ => rfl))))

theorem d_Prefix_init (T : TX K mg base) (h_span_of : Has P w K mg base 1 "span_of" P_span_of (sp_span_of K)) {cdv : Value} {A : Around} {outer : List Env} {s : Shared} {H : Hp} {E : XK} (hr : Room 1 (A.deeper (envOfC "Prefix.__init__" (defScope s_Prefix_init) s.heap.objs.size (He.ma K (He.ga K "Prefix") "__init__") cdv))) :
    PSs (cxOf (L2.CX P w) P w K mg base N_Prefix_init "Prefix.__init__" (defScope s_Prefix_init) (He.ma K (He.ga K "Prefix") "__init__") cdv A outer s H E) (defBody s_Prefix_init) (t_Prefix_init K E) := by
  have tk : Takes (cxOf (L2.CX P w) P w K mg base N_Prefix_init "Prefix.__init__" (defScope s_Prefix_init) (He.ma K (He.ga K "Prefix") "__init__") cdv A outer s H E) (wB E) := takes_of rfl rfl rfl rfl
  exact (pss_cons (ps_if (pt_not (pt_chain op_le op_le pe_int (pv 2) (pe_gint rfl (T.int 3))))
  (pss_one (ps_rs rfl tk (T.exc 4 5) rfl))
  pss_nil)
  (pss_cons (ps_if (pt_not (pt_chain op_le op_lt pe_int (pv 1) (pe_gint rfl (T.int 6))))
  (pss_one (ps_rs rfl tk (T.exc 4 5) rfl))
  pss_nil)
  (pss_cons (ps_if (pt_cmpR op_ne (pe_op op_mod (pv 1) (pe_h h_span_of (hr.mono (by decide)) rfl (fun σ => passAt tk σ) (pa_cons (pv 2) pa_nil))) pe_int (nomark _))
  (pss_one (ps_rs rfl tk (T.exc 4 5) rfl))
  pss_nil)
  (pss_cons (ps_fld (pv 0) (pv 1) rfl)
  (pss_one (ps_fld (pv 0) (pv 2) rfl))))))

theorem d_Prefix_pair (T : TX K mg base)  {cdv : Value} {A : Around} {outer : List Env} {s : Shared} {H : Hp} {E : XK} (hr : Room 0 (A.deeper (envOfC "Prefix.pair" (defScope s_Prefix_pair) s.heap.objs.size (He.ma K (He.ga K "Prefix") "pair") cdv))) :
    PSs (cxOf (L2.CX P w) P w K mg base N_Prefix_pair "Prefix.pair" (defScope s_Prefix_pair) (He.ma K (He.ga K "Prefix") "pair") cdv A outer s H E) (defBody s_Prefix_pair) (t_Prefix_pair K E) := by
  have tk : Takes (cxOf (L2.CX P w) P w K mg base N_Prefix_pair "Prefix.pair" (defScope s_Prefix_pair) (He.ma K (He.ga K "Prefix") "pair") cdv A outer s H E) (wB E) := takes_of rfl rfl rfl rfl
  exact (pss_one (ps_ret (pe_tup (pa_cons (pe_fld (pv 0) rfl) (pa_cons (pe_fld (pv 0) rfl) pa_nil)))))

theorem d_write_advert (T : TX K mg base) (h_write_number : Has P w K mg base 1 "write_number" P_write_number (sp_write_number K)) {cdv : Value} {A : Around} {outer : List Env} {s : Shared} {H : Hp} {E : XK} (hr : Room 1 (A.deeper (envOfC "write_advert" (defScope s_write_advert) s.heap.objs.size (He.ga K "write_advert") cdv))) :
    PSs (cxOf (L2.CX P w) P w K mg base N_write_advert "write_advert" (defScope s_write_advert) (He.ga K "write_advert") cdv A outer s H E) (defBody s_write_advert) (t_write_advert K E) := by
  have tk : Takes (cxOf (L2.CX P w) P w K mg base N_write_advert "write_advert" (defScope s_write_advert) (He.ga K "write_advert") cdv A outer s H E) (wB E) := takes_of rfl rfl rfl rfl
  have po : PassesOwn (model P w) (cxOf (L2.CX P w) P w K mg base N_write_advert "write_advert" (defScope s_write_advert) (He.ga K "write_advert") cdv A outer s H E).A (cxOf (L2.CX P w) P w K mg base N_write_advert "write_advert" (defScope s_write_advert) (He.ga K "write_advert") cdv A outer s H E).env (cxOf (L2.CX P w) P w K mg base N_write_advert "write_advert" (defScope s_write_advert) (He.ga K "write_advert") cdv A outer s H E).xe := passes_of rfl
  exact (pss_cons (ps_set (i := 1) sc_write_advert.nd rfl (Or.inl rfl) (pe_h h_write_number (hr.mono (by decide)) rfl (fun σ => passAt tk σ) (pa_cons (pe_callB call_len (by rfl) (T.free 8) PySem.boot_len (pa_cons (pv 0) pa_nil)) (pa_cons (pe_gint rfl (T.int 7)) pa_nil))))
  (pss_cons (ps_for po rfl (pi_list (pv 0)) (pg_tup rfl (pgs_cons (pg_name (i := 2) sc_write_advert.nd rfl (Or.inl rfl)) (pgs_cons (pg_name (i := 3) sc_write_advert.nd rfl (Or.inl rfl)) pgs_nil)))
  (pss_cons (ps_expr (pe_bm PySem.F.plainAttrs_list PySem.F.slot_list_extend PySem.F.type_list_extend mt_extend (pv 1) (pa_cons (pe_h h_write_number (hr.mono (by decide)) rfl (fun σ => passAt tk σ) (pa_cons (pe_fld (pv 2) rfl) (pa_cons pe_int pa_nil))) pa_nil)))
  (pss_cons (ps_expr (pe_bm PySem.F.plainAttrs_list PySem.F.slot_list_append PySem.F.type_list_append mt_append (pv 1) (pa_cons (pe_fld (pv 2) rfl) pa_nil)))
  (pss_one (ps_expr (pe_bm PySem.F.plainAttrs_list PySem.F.slot_list_append PySem.F.type_list_append mt_append (pv 1) (pa_cons (pv 3) pa_nil)))))))
  (pss_one (ps_ret (pv 1)))))

theorem d_read_row (T : TX K mg base) (h_read_number : Has P w K mg base 1 "read_number" P_read_number (sp_read_number K)) (h_span_of : Has P w K mg base 1 "span_of" P_span_of (sp_span_of K)) (h_Prefix_init : HasI P w K mg base 2 "Prefix" P_Prefix_init (sp_Prefix_init K)) {cdv : Value} {A : Around} {outer : List Env} {s : Shared} {H : Hp} {E : XK} (hr : Room 3 (A.deeper (envOfC "read_row" (defScope s_read_row) s.heap.objs.size (He.ga K "read_row") cdv))) :
    PSs (cxOf (L2.CX P w) P w K mg base N_read_row "read_row" (defScope s_read_row) (He.ga K "read_row") cdv A outer s H E) (defBody s_read_row) (t_read_row K E) := by
  have tk : Takes (cxOf (L2.CX P w) P w K mg base N_read_row "read_row" (defScope s_read_row) (He.ga K "read_row") cdv A outer s H E) (wB E) := takes_of rfl rfl rfl rfl
  exact (pss_cons (ps_set (i := 1) sc_read_row.nd rfl (Or.inl rfl) (pe_h h_read_number (hr.mono (by decide)) rfl (fun σ => passAt tk σ) (pa_cons (pe_slice sl_list (pv 0) po_none (po_some pe_int)) pa_nil)))
  (pss_cons (ps_if (PW.pt (pw_or (pt_cmpR op_gt (pe_ix ix_list (pv 0) pe_int (fun _ _ => rfl)) (pe_gint rfl (T.int 3)) (nomark _)) (pw_or1 (pt_cmpR op_ne (pe_op op_mod (pv 1) (pe_h h_span_of (hr.mono (by decide)) rfl (fun σ => passAt tk σ) (pa_cons (pe_ix ix_list (pv 0) pe_int (fun _ _ => rfl)) pa_nil))) pe_int (nomark _)))))
  (pss_one (ps_rs rfl tk (T.exc 9 10) rfl))
  pss_nil)
  (pss_cons (ps_if (pt_cmpR op_gt (pe_ix ix_list (pv 0) pe_int (fun _ _ => rfl)) (pe_gint rfl (T.int 11)) (nomark _))
  (pss_one (ps_rs rfl tk (T.exc 9 10) rfl))
  pss_nil)
  (pss_one (ps_ret (pe_tup (pa_cons (pe_i h_Prefix_init (hr.mono (by decide)) rfl (fun σ => passAt tk σ) (pa_cons (pv 1) (pa_cons (pe_ix ix_list (pv 0) pe_int (fun _ _ => rfl)) pa_nil))) (pa_cons (pe_ix ix_list (pv 0) pe_int (fun _ _ => rfl)) pa_nil))))))))

theorem d_read_advert (T : TX K mg base) (h_read_number : Has P w K mg base 1 "read_number" P_read_number (sp_read_number K)) (h_read_row : Has P w K mg base 4 "read_row" P_read_row (sp_read_row K)) (h_Prefix_pair : HasM P w K mg base 1 "Prefix" "pair" P_Prefix_pair (sp_Prefix_pair K)) {cdv : Value} {A : Around} {outer : List Env} {s : Shared} {H : Hp} {E : XK} (hr : Room 4 (A.deeper (envOfC "read_advert" (defScope s_read_advert) s.heap.objs.size (He.ga K "read_advert") cdv))) :
    PSs (cxOf (L2.CX P w) P w K mg base N_read_advert "read_advert" (defScope s_read_advert) (He.ga K "read_advert") cdv A outer s H E) (defBody s_read_advert) (t_read_advert K E) := by
  have tk : Takes (cxOf (L2.CX P w) P w K mg base N_read_advert "read_advert" (defScope s_read_advert) (He.ga K "read_advert") cdv A outer s H E) (wB E) := takes_of rfl rfl rfl rfl
  have po : PassesOwn (model P w) (cxOf (L2.CX P w) P w K mg base N_read_advert "read_advert" (defScope s_read_advert) (He.ga K "read_advert") cdv A outer s H E).A (cxOf (L2.CX P w) P w K mg base N_read_advert "read_advert" (defScope s_read_advert) (He.ga K "read_advert") cdv A outer s H E).env (cxOf (L2.CX P w) P w K mg base N_read_advert "read_advert" (defScope s_read_advert) (He.ga K "read_advert") cdv A outer s H E).xe := passes_of rfl
  exact (pss_cons (ps_if (pt_cmpR op_lt (pe_callB call_len (by rfl) (T.free 8) PySem.boot_len (pa_cons (pv 0) pa_nil)) (pe_gint rfl (T.int 7)) (nomark _))
  (pss_one (ps_rs rfl tk (T.exc 9 10) rfl))
  pss_nil)
  (pss_cons (ps_set (i := 1) sc_read_advert.nd rfl (Or.inl rfl) (pe_h h_read_number (hr.mono (by decide)) rfl (fun σ => passAt tk σ) (pa_cons (pe_slice sl_list (pv 0) po_none (po_some (pe_gint rfl (T.int 7)))) pa_nil)))
  (pss_cons (ps_if (pt_cmpR op_ne (pe_callB call_len (by rfl) (T.free 8) PySem.boot_len (pa_cons (pv 0) pa_nil)) (pe_op op_add (pe_gint rfl (T.int 7)) (pe_op op_mul (pe_gint rfl (T.int 12)) (pv 1))) (nomark _))
  (pss_one (ps_rs rfl tk (T.exc 9 10) rfl))
  pss_nil)
  (pss_cons (ps_set (i := 2) sc_read_advert.nd rfl (Or.inl rfl) (pe_lst pa_nil))
  (pss_cons (ps_for po rfl (pi_range1 rfl (T.free 1) (pa_cons (pv 1) pa_nil)) (pg_name (i := 3) sc_read_advert.nd rfl (Or.inl rfl))
  (pss_cons (ps_set (i := 4) sc_read_advert.nd rfl (Or.inl rfl) (pe_h h_read_row (hr.mono (by decide)) rfl (fun σ => passAt tk σ) (pa_cons (pe_slice sl_list (pv 0) (po_some (pe_op op_add (pe_gint rfl (T.int 7)) (pe_op op_mul (pe_gint rfl (T.int 12)) (pv 3)))) (po_some (pe_op op_add (pe_op op_add (pe_gint rfl (T.int 7)) (pe_op op_mul (pe_gint rfl (T.int 12)) (pv 3))) (pe_gint rfl (T.int 12))))) pa_nil)))
  (pss_cons (ps_if (PW.pt (pw_and (pt_cmpR op_gt (pv 3) pe_int (nomark _)) (pw_and1 (pt_cmpR (op_leT hr.units0) (pe_m0 (pe_ix ix_tup (pv 4) pe_int (fun _ _ => rfl)) h_Prefix_pair (hr.mono (by decide)) (fun σ => passAt tk σ)) (pe_m0 (pe_ix ix_tup (pe_ix ix_list (pv 2) (pe_un un_neg pe_int) (fun _ _ => rfl)) pe_int (fun _ _ => rfl)) h_Prefix_pair (hr.mono (by decide)) (fun σ => passAt tk σ)) (nomark _)))))
  (pss_one (ps_rs rfl tk (T.exc 9 10) rfl))
  pss_nil)
  (pss_one (ps_expr (pe_bm PySem.F.plainAttrs_list PySem.F.slot_list_append PySem.F.type_list_append mt_append (pv 2) (pa_cons (pv 4) pa_nil)))))))
  (pss_one (ps_ret (pv 2))))))))

theorem d_law_span (T : TX K mg base)  {cdv : Value} {A : Around} {outer : List Env} {s : Shared} {H : Hp} {E : XK} (hr : Room 0 (A.deeper (envOfC "_law_span" (defScope s_law_span) s.heap.objs.size (He.ga K "_law_span") cdv))) :
    PSs (cxOf (L2.CX P w) P w K mg base N_law_span "_law_span" (defScope s_law_span) (He.ga K "_law_span") cdv A outer s H E) (defBody s_law_span) (t_law_span K E) := by
  have tk : Takes (cxOf (L2.CX P w) P w K mg base N_law_span "_law_span" (defScope s_law_span) (He.ga K "_law_span") cdv A outer s H E) (wB E) := takes_of rfl rfl rfl rfl
  exact (pss_one (ps_ret (pe_ix ix_tup (pe_tup (pa_cons pe_int (pa_cons pe_int (pa_cons pe_int (pa_cons pe_int (pa_cons pe_int (pa_cons pe_int (pa_cons pe_int (pa_cons pe_int (pa_cons pe_int (pa_cons pe_int (pa_cons pe_int (pa_cons pe_int (pa_cons pe_int (pa_cons pe_int (pa_cons pe_int (pa_cons pe_int (pa_cons pe_int pa_nil)))))))))))))))))) (pv 0) (fun _ _ => rfl))))

theorem d_law_cell (T : TX K mg base)  {cdv : Value} {A : Around} {outer : List Env} {s : Shared} {H : Hp} {E : XK} (hr : Room 0 (A.deeper (envOfC "_law_cell" (defScope s_law_cell) s.heap.objs.size (He.ga K "_law_cell") cdv))) :
    PSs (cxOf (L2.CX P w) P w K mg base N_law_cell "_law_cell" (defScope s_law_cell) (He.ga K "_law_cell") cdv A outer s H E) (defBody s_law_cell) (t_law_cell K E) := by
  have tk : Takes (cxOf (L2.CX P w) P w K mg base N_law_cell "_law_cell" (defScope s_law_cell) (He.ga K "_law_cell") cdv A outer s H E) (wB E) := takes_of rfl rfl rfl rfl
  exact (pss_cons (ps_if (pt_cmpR op_lt (pv 1) (pe_callB call_len (by rfl) (T.free 8) PySem.boot_len (pa_cons (pv 0) pa_nil)) (nomark _))
  (pss_one (ps_ret (pe_ix ix_list (pv 0) (pv 1) (fun _ _ => rfl))))
  pss_nil)
  (pss_one (ps_ret pe_int)))

theorem d_law_start (T : TX K mg base)  {cdv : Value} {A : Around} {outer : List Env} {s : Shared} {H : Hp} {E : XK} (hr : Room 0 (A.deeper (envOfC "_law_start" (defScope s_law_start) s.heap.objs.size (He.ga K "_law_start") cdv))) :
    PSs (cxOf (L2.CX P w) P w K mg base N_law_start "_law_start" (defScope s_law_start) (He.ga K "_law_start") cdv A outer s H E) (defBody s_law_start) (t_law_start K E) := by
  have tk : Takes (cxOf (L2.CX P w) P w K mg base N_law_start "_law_start" (defScope s_law_start) (He.ga K "_law_start") cdv A outer s H E) (wB E) := takes_of rfl rfl rfl rfl
  have po : PassesOwn (model P w) (cxOf (L2.CX P w) P w K mg base N_law_start "_law_start" (defScope s_law_start) (He.ga K "_law_start") cdv A outer s H E).A (cxOf (L2.CX P w) P w K mg base N_law_start "_law_start" (defScope s_law_start) (He.ga K "_law_start") cdv A outer s H E).env (cxOf (L2.CX P w) P w K mg base N_law_start "_law_start" (defScope s_law_start) (He.ga K "_law_start") cdv A outer s H E).xe := passes_of rfl
  exact (pss_cons (ps_set (i := 2) sc_law_start.nd rfl (Or.inl rfl) pe_int)
  (pss_cons (ps_if (pt_chain op_lt op_lt (pe_un un_neg pe_int) (pv 0) pe_int)
  (pss_cons (ps_set (i := 3) sc_law_start.nd rfl (Or.inl rfl) (pe_op op_mod (pe_callTy call_int1 (by rfl) (T.free 13) (by decide +kernel) (pa_cons (pe_op op_add (pe_op op_mul (pv 0) pe_int) (pe_op op_mul (pe_op op_add (pv 1) pe_int) pe_int)) pa_nil)) (pv 2)))
  (pss_cons (ps_set (i := 4) sc_law_start.nd rfl (Or.inl rfl) pe_int)
  (pss_cons (ps_for po rfl (pi_range1 rfl (T.free 1) (pa_cons pe_int pa_nil)) (pg_name (i := 5) sc_law_start.nd rfl (Or.inl rfl))
  (pss_cons (ps_set (i := 3) sc_law_start.nd rfl (Or.inl rfl) (pe_op op_mod (pe_callTy call_int1 (by rfl) (T.free 13) (by decide +kernel) (pa_cons (pe_op op_add (pe_op op_add (pe_op op_add (pe_op op_mulW (pv 3) (pv 3)) (pe_op op_mul pe_int (pv 3))) (pv 1)) (pv 5)) pa_nil)) (pv 2)))
  (pss_one (ps_set (i := 4) sc_law_start.nd rfl (Or.inl rfl) (pe_op op_add (pe_op op_mulW (pv 4) (pv 2)) (pv 3))))))
  (pss_one (ps_ret (pe_lst (pa_cons (pv 4) pa_nil)))))))
  pss_nil)
  (pss_one (ps_ret (pe_lst (pa_cons (pv 0) pa_nil))))))

theorem d_law_digit (T : TX K mg base)  {cdv : Value} {A : Around} {outer : List Env} {s : Shared} {H : Hp} {E : XK} (hr : Room 0 (A.deeper (envOfC "_law_digit" (defScope s_law_digit) s.heap.objs.size (He.ga K "_law_digit") cdv))) :
    PSs (cxOf (L2.CX P w) P w K mg base N_law_digit "_law_digit" (defScope s_law_digit) (He.ga K "_law_digit") cdv A outer s H E) (defBody s_law_digit) (t_law_digit K E) := by
  have tk : Takes (cxOf (L2.CX P w) P w K mg base N_law_digit "_law_digit" (defScope s_law_digit) (He.ga K "_law_digit") cdv A outer s H E) (wB E) := takes_of rfl rfl rfl rfl
  exact (pss_cons (ps_set (i := 2) sc_law_digit.nd rfl (Or.inl rfl) (pe_op op_mod (pe_callTy call_int1 (by rfl) (T.free 13) (by decide +kernel) (pa_cons (pe_ix ix_list (pv 0) pe_int (fun _ _ => rfl)) pa_nil)) (pv 1)))
  (pss_cons (ps_asg (pe_op op_fdivW (pe_ix ix_list (pv 0) pe_int (fun _ _ => rfl)) (pv 1)) (pg_sub (pv 0) pe_int set_list))
  (pss_one (ps_ret (pv 2)))))

theorem d_law_rows (T : TX K mg base) (h_law_digit : Has P w K mg base 1 "_law_digit" P_law_digit (sp_law_digit K)) (h_law_span : Has P w K mg base 1 "_law_span" P_law_span (sp_law_span K)) {cdv : Value} {A : Around} {outer : List Env} {s : Shared} {H : Hp} {E : XK} (hr : Room 1 (A.deeper (envOfC "_law_rows" (defScope s_law_rows) s.heap.objs.size (He.ga K "_law_rows") cdv))) :
    PSs (cxOf (L2.CX P w) P w K mg base N_law_rows "_law_rows" (defScope s_law_rows) (He.ga K "_law_rows") cdv A outer s H E) (defBody s_law_rows) (t_law_rows K E) := by
  have tk : Takes (cxOf (L2.CX P w) P w K mg base N_law_rows "_law_rows" (defScope s_law_rows) (He.ga K "_law_rows") cdv A outer s H E) (wB E) := takes_of rfl rfl rfl rfl
  have po : PassesOwn (model P w) (cxOf (L2.CX P w) P w K mg base N_law_rows "_law_rows" (defScope s_law_rows) (He.ga K "_law_rows") cdv A outer s H E).A (cxOf (L2.CX P w) P w K mg base N_law_rows "_law_rows" (defScope s_law_rows) (He.ga K "_law_rows") cdv A outer s H E).env (cxOf (L2.CX P w) P w K mg base N_law_rows "_law_rows" (defScope s_law_rows) (He.ga K "_law_rows") cdv A outer s H E).xe := passes_of rfl
  exact (pss_cons (ps_set (i := 1) sc_law_rows.nd rfl (Or.inr rfl) (pe_lst pa_nil))
  (pss_cons (ps_for po rfl (pi_range1 rfl (T.free 1) (pa_cons (pe_h h_law_digit (hr.mono (by decide)) rfl (fun σ => passAt tk σ) (pa_cons (pv 0) (pa_cons pe_int pa_nil))) pa_nil)) (pg_name (i := 2) sc_law_rows.nd rfl (Or.inl rfl))
  (pss_cons (ps_set (i := 3) sc_law_rows.nd rfl (Or.inl rfl) (pe_h h_law_digit (hr.mono (by decide)) rfl (fun σ => passAt tk σ) (pa_cons (pv 0) (pa_cons pe_int pa_nil))))
  (pss_cons (ps_set (i := 4) sc_law_rows.nd rfl (Or.inl rfl) (pe_h h_law_digit (hr.mono (by decide)) rfl (fun σ => passAt tk σ) (pa_cons (pv 0) (pa_cons pe_int pa_nil))))
  (pss_cons (ps_set (i := 5) sc_law_rows.nd rfl (Or.inl rfl) (pe_tup (pa_cons (pe_op op_sub (pv 4) (pe_op op_mod (pv 4) (pe_h h_law_span (hr.mono (by decide)) rfl (fun σ => passAt tk σ) (pa_cons (pv 3) pa_nil)))) (pa_cons (pv 3) pa_nil))))
  (pss_one (ps_if (pt_cmpR (op_notInD (units65 hr)) (pv 5) (pv 1) (by first | exact nomark _ | rfl | (with_unfolding_all rfl)))
  (pss_one (ps_expr (pe_bm PySem.F.plainAttrs_list PySem.F.slot_list_append PySem.F.type_list_append mt_append (pv 1) (pa_cons (pv 5) pa_nil))))
  pss_nil))))))
  (pss_one (ps_ret (pe_lc (own := [("key", 5)]) (g := (gName 5)) (tt := tYes) rfl sc_law_rows.nd (pi_list (pe_callB cr_sortedPO (by rfl) (T.free 14) (by decide +kernel) (pa_cons (pv 1) pa_nil))) (blkOk_by (own := [("key", 5)]) (N := N_law_rows) (sc := defScope s_law_rows) (by decide +kernel)) (fun _ _ _ _ _ => (pg_name (i := 5) sc_law_rows.nd rfl (Or.inl rfl))) (fun _ _ _ _ _ => pts_nil) (fun _ _ _ _ _ => (pe_tup (pa_cons (pe_ix ix_tup (pv 5) pe_int (fun _ _ => rfl)) (pa_cons (pe_ix ix_tup (pv 5) pe_int (fun _ _ => rfl)) (pa_cons (pe_op op_mod (pe_callTy call_int1 (by rfl) (T.free 13) (by decide +kernel) (pa_cons (pe_op op_add (pe_op op_add (pe_op op_mul (pe_ix ix_tup (pv 5) pe_int (fun _ _ => rfl)) pe_int) (pe_ix ix_tup (pv 5) pe_int (fun _ _ => rfl))) (pe_callB call_len (by rfl) (T.free 8) PySem.boot_len (pa_cons (pv 1) pa_nil))) pa_nil)) pe_int) pa_nil))))))))))

theorem d_law_octets (T : TX K mg base)  {cdv : Value} {A : Around} {outer : List Env} {s : Shared} {H : Hp} {E : XK} (hr : Room 0 (A.deeper (envOfC "_law_octets" (defScope s_law_octets) s.heap.objs.size (He.ga K "_law_octets") cdv))) :
    PSs (cxOf (L2.CX P w) P w K mg base N_law_octets "_law_octets" (defScope s_law_octets) (He.ga K "_law_octets") cdv A outer s H E) (defBody s_law_octets) (t_law_octets K E) := by
  have tk : Takes (cxOf (L2.CX P w) P w K mg base N_law_octets "_law_octets" (defScope s_law_octets) (He.ga K "_law_octets") cdv A outer s H E) (wB E) := takes_of rfl rfl rfl rfl
  have po : PassesOwn (model P w) (cxOf (L2.CX P w) P w K mg base N_law_octets "_law_octets" (defScope s_law_octets) (He.ga K "_law_octets") cdv A outer s H E).A (cxOf (L2.CX P w) P w K mg base N_law_octets "_law_octets" (defScope s_law_octets) (He.ga K "_law_octets") cdv A outer s H E).env (cxOf (L2.CX P w) P w K mg base N_law_octets "_law_octets" (defScope s_law_octets) (He.ga K "_law_octets") cdv A outer s H E).xe := passes_of rfl
  exact (pss_cons (ps_set (i := 1) sc_law_octets.nd rfl (Or.inl rfl) (pe_lst (pa_cons (pe_op op_fdiv (pe_callB call_len (by rfl) (T.free 8) PySem.boot_len (pa_cons (pv 0) pa_nil)) pe_int) (pa_cons (pe_op op_mod (pe_callB call_len (by rfl) (T.free 8) PySem.boot_len (pa_cons (pv 0) pa_nil)) pe_int) pa_nil))))
  (pss_cons (ps_for po rfl (pi_list (pv 0)) (pg_tup rfl (pgs_cons (pg_name (i := 2) sc_law_octets.nd rfl (Or.inl rfl)) (pgs_cons (pg_name (i := 3) sc_law_octets.nd rfl (Or.inl rfl)) (pgs_cons (pg_name (i := 4) sc_law_octets.nd rfl (Or.inl rfl)) pgs_nil))))
  (pss_one (ps_set (i := 1) sc_law_octets.nd rfl (Or.inl rfl) (pe_op op_cat (pv 1) (pe_lst (pa_cons (pe_op op_fdiv (pv 2) pe_int) (pa_cons (pe_op op_mod (pv 2) pe_int) (pa_cons (pv 3) (pa_cons (pv 4) pa_nil)))))))))
  (pss_one (ps_ret (pv 1)))))

theorem d_law_expected (T : TX K mg base) (h_law_span : Has P w K mg base 1 "_law_span" P_law_span (sp_law_span K)) {cdv : Value} {A : Around} {outer : List Env} {s : Shared} {H : Hp} {E : XK} (hr : Room 1 (A.deeper (envOfC "_law_expected" (defScope s_law_expected) s.heap.objs.size (He.ga K "_law_expected") cdv))) :
    PSs (cxOf (L2.CX P w) P w K mg base N_law_expected "_law_expected" (defScope s_law_expected) (He.ga K "_law_expected") cdv A outer s H E) (defBody s_law_expected) (t_law_expected K E) := by
  have tk : Takes (cxOf (L2.CX P w) P w K mg base N_law_expected "_law_expected" (defScope s_law_expected) (He.ga K "_law_expected") cdv A outer s H E) (wB E) := takes_of rfl rfl rfl rfl
  have po : PassesOwn (model P w) (cxOf (L2.CX P w) P w K mg base N_law_expected "_law_expected" (defScope s_law_expected) (He.ga K "_law_expected") cdv A outer s H E).A (cxOf (L2.CX P w) P w K mg base N_law_expected "_law_expected" (defScope s_law_expected) (He.ga K "_law_expected") cdv A outer s H E).env (cxOf (L2.CX P w) P w K mg base N_law_expected "_law_expected" (defScope s_law_expected) (He.ga K "_law_expected") cdv A outer s H E).xe := passes_of rfl
  exact (pss_cons (ps_if (PW.pt (pw_or (pt_cmpR op_lt (pe_callB call_len (by rfl) (T.free 8) PySem.boot_len (pa_cons (pv 0) pa_nil)) pe_int (nomark _)) (pw_or1 (pt_cmpR op_ne (pe_callB call_len (by rfl) (T.free 8) PySem.boot_len (pa_cons (pv 0) pa_nil)) (pe_op op_add pe_int (pe_op op_mul pe_int (pe_op op_add (pe_op op_mul (pe_ix ix_list (pv 0) pe_int (fun _ _ => rfl)) pe_int) (pe_ix ix_list (pv 0) pe_int (fun _ _ => rfl))))) (nomark _)))))
  (pss_one (ps_ret pe_non))
  pss_nil)
  (pss_cons (ps_set (i := 1) sc_law_expected.nd rfl (Or.inl rfl) (pe_lst pa_nil))
  (pss_cons (ps_for po rfl (pi_range3 rfl (T.free 1) (pa_cons pe_int (pa_cons (pe_callB call_len (by rfl) (T.free 8) PySem.boot_len (pa_cons (pv 0) pa_nil)) (pa_cons pe_int pa_nil)))) (pg_name (i := 2) sc_law_expected.nd rfl (Or.inl rfl))
  (pss_cons (ps_set (i := 3) sc_law_expected.nd rfl (Or.inl rfl) (pe_op op_add (pe_op op_mul (pe_ix ix_list (pv 0) (pv 2) (fun _ _ => rfl)) pe_int) (pe_ix ix_list (pv 0) (pe_op op_add (pv 2) pe_int) (fun _ _ => rfl))))
  (pss_cons (ps_set (i := 4) sc_law_expected.nd rfl (Or.inl rfl) (pe_ix ix_list (pv 0) (pe_op op_add (pv 2) pe_int) (fun _ _ => rfl)))
  (pss_cons (ps_if (PW.pt (pw_or (pt_cmpR op_gt (pv 4) pe_int (nomark _)) (pw_or (pt_cmpR op_ne (pe_op op_mod (pv 3) (pe_h h_law_span (hr.mono (by decide)) rfl (fun σ => passAt tk σ) (pa_cons (pv 4) pa_nil))) pe_int (nomark _)) (pw_or1 (pt_cmpR op_gt (pe_ix ix_list (pv 0) (pe_op op_add (pv 2) pe_int) (fun _ _ => rfl)) pe_int (nomark _))))))
  (pss_one (ps_ret pe_non))
  pss_nil)
  (pss_cons (ps_if (PW.pt (pw_and (pt_cmpR op_gt (pe_callB call_len (by rfl) (T.free 8) PySem.boot_len (pa_cons (pv 1) pa_nil)) pe_int (nomark _)) (pw_and1 (pt_cmpR (op_leT hr.units0) (pe_tup (pa_cons (pv 3) (pa_cons (pv 4) pa_nil))) (pe_tup (pa_cons (pe_ix ix_tup (pe_ix ix_list (pv 1) (pe_un un_neg pe_int) (fun _ _ => rfl)) pe_int (fun _ _ => rfl)) (pa_cons (pe_ix ix_tup (pe_ix ix_list (pv 1) (pe_un un_neg pe_int) (fun _ _ => rfl)) pe_int (fun _ _ => rfl)) pa_nil))) (nomark _)))))
  (pss_one (ps_ret pe_non))
  pss_nil)
  (pss_one (ps_expr (pe_bm PySem.F.plainAttrs_list PySem.F.slot_list_append PySem.F.type_list_append mt_append (pv 1) (pa_cons (pe_tup (pa_cons (pv 3) (pa_cons (pv 4) (pa_cons (pe_ix ix_list (pv 0) (pe_op op_add (pv 2) pe_int) (fun _ _ => rfl)) pa_nil)))) pa_nil)))))))))
  (pss_one (ps_ret (pv 1))))))

theorem d_law_read (T : TX K mg base) (h_read_advert : Has P w K mg base 5 "read_advert" P_read_advert (sp_read_advert K)) {cdv : Value} {A : Around} {outer : List Env} {s : Shared} {H : Hp} {E : XK} (hr : Room 5 (A.deeper (envOfC "_law_read" (defScope s_law_read) s.heap.objs.size (He.ga K "_law_read") cdv))) :
    PSs (cxOf (L2.CX P w) P w K mg base N_law_read "_law_read" (defScope s_law_read) (He.ga K "_law_read") cdv A outer s H E) (defBody s_law_read) (t_law_read K E) := by
  have tk : Takes (cxOf (L2.CX P w) P w K mg base N_law_read "_law_read" (defScope s_law_read) (He.ga K "_law_read") cdv A outer s H E) (wB E) := takes_of rfl rfl rfl rfl
  exact (pss_one (ps_try_only (tb := fun W1 => (tRet (tLc (iList K (tCallS (sp_read_advert K) (WE W1) (tCons (tVar 0) tNil))) (gTup K 2 (gCons (gName 1) (gCons (gName 2) gNil))) tYes (tTup (tCons (tFld K (tVar 1) "base") (tCons (tFld K (tVar 1) "length") (tCons (tVar 2) tNil)))) [1, 2]))) (ts := (fun (aX : Addr) (clX : Value) (dX : Option Addr) => (tRet (tC .non)))) (Wout := (wB E)) rfl rfl ⟨rfl, by decide, .inl (T.glo 10)⟩ tk (fun W1 pn xe tk1 po1 => (pss_one (ps_ret (pe_lc (own := [("prefix", 1), ("cost", 2)]) (g := (gTup K 2 (gCons (gName 1) (gCons (gName 2) gNil)))) (tt := tYes) rfl sc_law_read.nd (pi_list (pe_h h_read_advert (hr.mono (by decide)) rfl (fun σ => passAt tk1 σ) (pa_cons (pv 0) pa_nil))) (blkOk_by (own := [("prefix", 1), ("cost", 2)]) (N := N_law_read) (sc := defScope s_law_read) (by decide +kernel)) (fun _ _ _ _ _ => (pg_tup rfl (pgs_cons (pg_name (i := 1) sc_law_read.nd rfl (Or.inl rfl)) (pgs_cons (pg_name (i := 2) sc_law_read.nd rfl (Or.inl rfl)) pgs_nil)))) (fun _ _ _ _ _ => pts_nil) (fun _ _ _ _ _ => (pe_tup (pa_cons (pe_fld (pv 1) rfl) (pa_cons (pe_fld (pv 1) rfl) (pa_cons (pv 2) pa_nil))))))))) (fun aX oX clX dX pn hzX hfX => (pss_one (ps_ret pe_non)))))

theorem d_law_twisted (T : TX K mg base) (h_law_digit : Has P w K mg base 1 "_law_digit" P_law_digit (sp_law_digit K)) {cdv : Value} {A : Around} {outer : List Env} {s : Shared} {H : Hp} {E : XK} (hr : Room 1 (A.deeper (envOfC "_law_twisted" (defScope s_law_twisted) s.heap.objs.size (He.ga K "_law_twisted") cdv))) :
    PSs (cxOf (L2.CX P w) P w K mg base N_law_twisted "_law_twisted" (defScope s_law_twisted) (He.ga K "_law_twisted") cdv A outer s H E) (defBody s_law_twisted) (t_law_twisted K E) := by
  have tk : Takes (cxOf (L2.CX P w) P w K mg base N_law_twisted "_law_twisted" (defScope s_law_twisted) (He.ga K "_law_twisted") cdv A outer s H E) (wB E) := takes_of rfl rfl rfl rfl
  exact (pss_cons (ps_set (i := 2) sc_law_twisted.nd rfl (Or.inl rfl) (pe_h h_law_digit (hr.mono (by decide)) rfl (fun σ => passAt tk σ) (pa_cons (pv 0) (pa_cons (pe_op op_add (pe_callB call_len (by rfl) (T.free 8) PySem.boot_len (pa_cons (pv 1) pa_nil)) pe_int) pa_nil))))
  (pss_cons (ps_set (i := 3) sc_law_twisted.nd rfl (Or.inl rfl) (pe_ix ix_tup (pe_tup (pa_cons pe_int (pa_cons pe_int (pa_cons pe_int (pa_cons pe_int (pa_cons pe_int (pa_cons pe_int (pa_cons pe_int (pa_cons pe_int pa_nil))))))))) (pe_h h_law_digit (hr.mono (by decide)) rfl (fun σ => passAt tk σ) (pa_cons (pv 0) (pa_cons pe_int pa_nil))) (fun _ _ => rfl)))
  (pss_cons (ps_set (i := 4) sc_law_twisted.nd rfl (Or.inl rfl) (pe_h h_law_digit (hr.mono (by decide)) rfl (fun σ => passAt tk σ) (pa_cons (pv 0) (pa_cons pe_int pa_nil))))
  (pss_cons (ps_if (pt_cmpR op_eq (pv 4) pe_int (nomark _))
  (pss_one (ps_ret (pe_op op_cat (pe_op op_cat (pe_slice sl_list (pv 1) po_none (po_some (pv 2))) (pe_lst (pa_cons (pv 3) pa_nil))) (pe_slice sl_list (pv 1) (po_some (pv 2)) po_none))))
  pss_nil)
  (pss_cons (ps_if (pt_cmpR op_eq (pv 4) pe_int (nomark _))
  (pss_one (ps_ret (pe_op op_cat (pe_slice sl_list (pv 1) po_none (po_some (pv 2))) (pe_slice sl_list (pv 1) (po_some (pe_op op_add (pv 2) pe_int)) po_none))))
  pss_nil)
  (pss_cons (ps_if (pt_cmpR op_eq (pv 4) pe_int (nomark _))
  (pss_one (ps_ret (pe_op op_cat (pv 1) (pe_slice sl_list (pv 1) (po_some pe_int) (po_some pe_int)))))
  pss_nil)
  (pss_cons (ps_if (PW.pt (pw_and (pt_cmpR op_eq (pv 4) pe_int (nomark _)) (pw_and1 (pt_cmpR op_gt (pe_callB call_len (by rfl) (T.free 8) PySem.boot_len (pa_cons (pv 1) pa_nil)) pe_int (nomark _)))))
  (pss_one (ps_ret (pe_op op_cat (pe_op op_cat (pe_op op_cat (pe_slice sl_list (pv 1) po_none (po_some pe_int)) (pe_lst (pa_cons (pe_op op_mod (pe_callTy call_int1 (by rfl) (T.free 13) (by decide +kernel) (pa_cons (pe_op op_add (pe_ix ix_list (pv 1) pe_int (fun _ _ => rfl)) pe_int) pa_nil)) pe_int) pa_nil))) (pe_slice sl_list (pv 1) (po_some pe_int) po_none)) (pe_slice sl_list (pv 1) (po_some (pe_op op_sub (pe_callB call_len (by rfl) (T.free 8) PySem.boot_len (pa_cons (pv 1) pa_nil)) pe_int)) po_none))))
  pss_nil)
  (pss_one (ps_ret (pe_op op_cat (pe_op op_cat (pe_slice sl_list (pv 1) po_none (po_some (pv 2))) (pe_lst (pa_cons (pv 3) pa_nil))) (pe_slice sl_list (pv 1) (po_some (pe_op op_add (pv 2) pe_int)) po_none)))))))))))

theorem d_law_round (T : TX K mg base) (h_law_rows : Has P w K mg base 2 "_law_rows" P_law_rows (sp_law_rows K)) (h_Prefix_init : HasI P w K mg base 2 "Prefix" P_Prefix_init (sp_Prefix_init K)) (h_write_advert : Has P w K mg base 2 "write_advert" P_write_advert (sp_write_advert K)) (h_law_octets : Has P w K mg base 1 "_law_octets" P_law_octets (sp_law_octets K)) (h_Prefix_pair : HasM P w K mg base 1 "Prefix" "pair" P_Prefix_pair (sp_Prefix_pair K)) (h_law_read : Has P w K mg base 6 "_law_read" P_law_read (sp_law_read K)) (h_law_twisted : Has P w K mg base 2 "_law_twisted" P_law_twisted (sp_law_twisted K)) (h_law_digit : Has P w K mg base 1 "_law_digit" P_law_digit (sp_law_digit K)) (h_law_expected : Has P w K mg base 2 "_law_expected" P_law_expected (sp_law_expected K)) {cdv : Value} {A : Around} {outer : List Env} {s : Shared} {H : Hp} {E : XK} (hr : Room 6 (A.deeper (envOfC "_law_round" (defScope s_law_round) s.heap.objs.size (He.ga K "_law_round") cdv))) :
    PSs (cxOf (L2.CX P w) P w K mg base N_law_round "_law_round" (defScope s_law_round) (He.ga K "_law_round") cdv A outer s H E) (defBody s_law_round) (t_law_round K E) := by
  have tk : Takes (cxOf (L2.CX P w) P w K mg base N_law_round "_law_round" (defScope s_law_round) (He.ga K "_law_round") cdv A outer s H E) (wB E) := takes_of rfl rfl rfl rfl
  have po : PassesOwn (model P w) (cxOf (L2.CX P w) P w K mg base N_law_round "_law_round" (defScope s_law_round) (He.ga K "_law_round") cdv A outer s H E).A (cxOf (L2.CX P w) P w K mg base N_law_round "_law_round" (defScope s_law_round) (He.ga K "_law_round") cdv A outer s H E).env (cxOf (L2.CX P w) P w K mg base N_law_round "_law_round" (defScope s_law_round) (He.ga K "_law_round") cdv A outer s H E).xe := passes_of rfl
  exact (pss_cons (ps_set (i := 1) sc_law_round.nd rfl (Or.inl rfl) (pe_h h_law_rows (hr.mono (by decide)) rfl (fun σ => passAt tk σ) (pa_cons (pv 0) pa_nil)))
  (pss_cons (ps_setLc (i := 2) (own := [("row", 3)]) (g := (gName 3)) (tt := tYes) rfl sc_law_round.nd rfl rfl (sw_true rfl rfl rfl (by decide +kernel)) (pi_list (pv 1)) (blkOk_by (own := [("row", 3)]) (N := N_law_round) (sc := defScope s_law_round) (by decide +kernel)) (fun _ _ _ _ _ => (pg_name (i := 3) sc_law_round.nd rfl (Or.inl rfl))) (fun _ _ _ _ _ => pts_nil) (fun _ _ _ _ _ => (pe_tup (pa_cons (pe_i h_Prefix_init (hr.mono (by decide)) rfl (fun σ => passZ σ) (pa_cons (pe_ix ix_tup (pv 3) pe_int (fun _ _ => rfl)) (pa_cons (pe_ix ix_tup (pv 3) pe_int (fun _ _ => rfl)) pa_nil))) (pa_cons (pe_ix ix_tup (pv 3) pe_int (fun _ _ => rfl)) pa_nil)))))
  (pss_cons (ps_set (i := 4) sc_law_round.nd rfl (Or.inl rfl) (pe_h h_write_advert (hr.mono (by decide)) rfl (fun σ => passAt tk σ) (pa_cons (pv 2) pa_nil)))
  (pss_cons (ps_if (PW.pt (pw_or (pt_cmpR (op_neD hr.units) (pv 4) (pe_h h_law_octets (hr.mono (by decide)) rfl (fun σ => passAt tk σ) (pa_cons (pv 1) pa_nil)) (nomark _)) (pw_or1 (pt_cmpR (op_neD hr.units) (pe_lc (own := [("pair", 5)]) (g := (gName 5)) (tt := tYes) rfl sc_law_round.nd (pi_list (pv 2)) (blkOk_by (own := [("pair", 5)]) (N := N_law_round) (sc := defScope s_law_round) (by decide +kernel)) (fun _ _ _ _ _ => (pg_name (i := 5) sc_law_round.nd rfl (Or.inl rfl))) (fun _ _ _ _ _ => pts_nil) (fun _ _ _ _ _ => (pe_tup (pa_cons (pe_m0 (pe_ix ix_tup (pv 5) pe_int (fun _ _ => rfl)) h_Prefix_pair (hr.mono (by decide)) (fun σ => passZ σ)) (pa_cons (pe_ix ix_tup (pv 5) pe_int (fun _ _ => rfl)) pa_nil))))) (pe_lc (own := [("row", 3)]) (g := (gName 3)) (tt := tYes) rfl sc_law_round.nd (pi_list (pv 1)) (blkOk_by (own := [("row", 3)]) (N := N_law_round) (sc := defScope s_law_round) (by decide +kernel)) (fun _ _ _ _ _ => (pg_name (i := 3) sc_law_round.nd rfl (Or.inl rfl))) (fun _ _ _ _ _ => pts_nil) (fun _ _ _ _ _ => (pe_tup (pa_cons (pe_slice sl_tup (pv 3) po_none (po_some pe_int)) (pa_cons (pe_ix ix_tup (pv 3) pe_int (fun _ _ => rfl)) pa_nil))))) (nomark _)))))
  (pss_one (ps_ret pe_bl))
  pss_nil)
  (pss_cons (ps_if (PW.pt (pw_or (pt_cmpR (op_neD hr.units) (pe_h h_law_read (hr.mono (by decide)) rfl (fun σ => passAt tk σ) (pa_cons (pv 4) pa_nil)) (pv 1) (nomark _)) (pw_or1 (pt_cmpR (op_neD hr.units) (pv 4) (pe_h h_law_octets (hr.mono (by decide)) rfl (fun σ => passAt tk σ) (pa_cons (pv 1) pa_nil)) (nomark _)))))
  (pss_one (ps_ret pe_bl))
  pss_nil)
  (pss_cons (ps_set (i := 6) sc_law_round.nd rfl (Or.inl rfl) (pe_h h_law_twisted (hr.mono (by decide)) rfl (fun σ => passAt tk σ) (pa_cons (pv 0) (pa_cons (pv 4) pa_nil))))
  (pss_cons (ps_setLc (i := 7) (own := [("k", 8)]) (g := (gName 8)) (tt := tYes) rfl sc_law_round.nd rfl rfl (sw_true rfl rfl rfl (by decide +kernel)) (pi_range1 rfl (T.free 1) (pa_cons (pe_h h_law_digit (hr.mono (by decide)) rfl (fun σ => passAt tk σ) (pa_cons (pv 0) (pa_cons pe_int pa_nil))) pa_nil)) (blkOk_by (own := [("k", 8)]) (N := N_law_round) (sc := defScope s_law_round) (by decide +kernel)) (fun _ _ _ _ _ => (pg_name (i := 8) sc_law_round.nd rfl (Or.inl rfl))) (fun _ _ _ _ _ => pts_nil) (fun _ _ _ _ _ => (pe_h h_law_digit (hr.mono (by decide)) rfl (fun σ => passZ σ) (pa_cons (pv 0) (pa_cons pe_int pa_nil)))))
  (pss_cons (ps_for po rfl (pi_tup (pe_tup (pa_cons (pv 6) (pa_cons (pe_h h_law_twisted (hr.mono (by decide)) rfl (fun σ => passAt tk σ) (pa_cons (pv 0) (pa_cons (pv 6) pa_nil))) (pa_cons (pv 7) pa_nil))))) (pg_name (i := 9) sc_law_round.nd rfl (Or.inl rfl))
  (pss_one (ps_if (pt_cmpR (op_neD hr.units) (pe_h h_law_read (hr.mono (by decide)) rfl (fun σ => passAt tk σ) (pa_cons (pv 9) pa_nil)) (pe_h h_law_expected (hr.mono (by decide)) rfl (fun σ => passAt tk σ) (pa_cons (pv 9) pa_nil)) (nomark _))
  (pss_one (ps_ret pe_bl))
  pss_nil)))
  (pss_one (ps_ret pe_bl))))))))))

theorem d_law (T : TX K mg base) (h_law_round : Has P w K mg base 7 "_law_round" P_law_round (sp_law_round K)) (h_law_start : Has P w K mg base 1 "_law_start" P_law_start (sp_law_start K)) (h_law_cell : Has P w K mg base 1 "_law_cell" P_law_cell (sp_law_cell K)) {cdv : Value} {A : Around} {outer : List Env} {s : Shared} {H : Hp} {E : XK} (hr : Room 7 (A.deeper (envOfC "law" (defScope s_law) s.heap.objs.size (He.ga K "law") cdv))) :
    PSs (cxOf (L2.CX P w) P w K mg base N_law "law" (defScope s_law) (He.ga K "law") cdv A outer s H E) (defBody s_law) (t_law K E) := by
  have tk : Takes (cxOf (L2.CX P w) P w K mg base N_law "law" (defScope s_law) (He.ga K "law") cdv A outer s H E) (wB E) := takes_of rfl rfl rfl rfl
  have po : PassesOwn (model P w) (cxOf (L2.CX P w) P w K mg base N_law "law" (defScope s_law) (He.ga K "law") cdv A outer s H E).A (cxOf (L2.CX P w) P w K mg base N_law "law" (defScope s_law) (He.ga K "law") cdv A outer s H E).env (cxOf (L2.CX P w) P w K mg base N_law "law" (defScope s_law) (He.ga K "law") cdv A outer s H E).xe := passes_of rfl
  exact (pss_cons (ps_for po rfl (pi_range1 rfl (T.free 1) (pa_cons (pe_callB (call_min2 rfl) (by rfl) (T.free 15) (by decide +kernel) (pa_cons pe_int (pa_cons (pe_op op_add pe_int (pe_callB call_len (by rfl) (T.free 8) PySem.boot_len (pa_cons (pv 0) pa_nil))) pa_nil))) pa_nil)) (pg_name (i := 1) sc_law.nd rfl (Or.inl rfl))
  (pss_one (ps_if (pt_not (pt_val (pe_h h_law_round (hr.mono (by decide)) rfl (fun σ => passAt tk σ) (pa_cons (pe_h h_law_start (hr.mono (by decide)) rfl (fun σ => passAt tk σ) (pa_cons (pe_h h_law_cell (hr.mono (by decide)) rfl (fun σ => passAt tk σ) (pa_cons (pv 0) (pa_cons (pv 1) pa_nil))) (pa_cons (pv 1) pa_nil))) pa_nil))))
  (pss_one (ps_ret pe_bl))
  pss_nil)))
  (pss_one (ps_ret pe_bl)))

end
end K76

namespace K76
open PySem PySem.Spec PyProof.Rows L2 G
local macro_rules | `(tactic| wtm_at "g_get") => `(tactic| first
  | ((with_reducible refine' w_fld ?k1 (cl_Prefix (by assumption)) (na_Prefix_base (by assumption)) lk_Prefix_base ?_); (case k1 => wtm_at "g_hp"))
  | ((with_reducible refine' w_fld ?k1 (cl_Prefix (by assumption)) (na_Prefix_length (by assumption)) lk_Prefix_length ?_); (case k1 => wtm_at "g_hp"))
  | fail)
local macro_rules | `(tactic| wtm_at "g_set") => `(tactic| first
  | ((with_reducible refine' k_fld ?k1 ?k2 (cl_Prefix (by assumption)) (na_Prefix_base (by assumption)) pt_Prefix_base rfl ?_); (case k1 => wtm_at "g_own"); (case k2 => wtm_at "g_put"); intro HH ww)
  | ((with_reducible refine' k_fld ?k1 ?k2 (cl_Prefix (by assumption)) (na_Prefix_base (by assumption)) pn_Prefix_base rfl ?_); (case k1 => wtm_at "g_own"); (case k2 => wtm_at "g_put"); intro HH ww)
  | ((with_reducible refine' k_fld ?k1 ?k2 (cl_Prefix (by assumption)) (na_Prefix_length (by assumption)) pt_Prefix_length rfl ?_); (case k1 => wtm_at "g_own"); (case k2 => wtm_at "g_put"); intro HH ww)
  | ((with_reducible refine' k_fld ?k1 ?k2 (cl_Prefix (by assumption)) (na_Prefix_length (by assumption)) pn_Prefix_length rfl ?_); (case k1 => wtm_at "g_own"); (case k2 => wtm_at "g_put"); intro HH ww)
  | fail)
local macro_rules | `(tactic| wtm_at "g_set2") => `(tactic| first
  | ((with_reducible refine' k_fa ?k1 ?k2 pt_Prefix_base rfl ?_); (case k1 => wtm_at "g_own"); (case k2 => wtm_at "g_put"); intro HH ww)
  | ((with_reducible refine' k_fa ?k1 ?k2 pt_Prefix_length rfl ?_); (case k1 => wtm_at "g_own"); (case k2 => wtm_at "g_put"); intro HH ww)
  | fail)
local macro_rules | `(tactic| wtm_at "g_mt") => `(tactic| first
  | ((with_reducible refine' w_mt1 ?k1 ln_Prefix_pair ?_); (case k1 => wtm_at "g_hp"))
  | fail)
local macro_rules | `(tactic| wtm_at "g_mkk") => `(tactic| first
  | fail
  | fail)
local macro_rules | `(tactic| wtm_at "g_callpf") => `(tactic| first
  | ((with_reducible refine' c_span_of ?k1 ?k2 ?_); (case k1 => omega); (case k2 => omega))
  | ((with_reducible refine' c_law_span ?k1 ?k2 ?k3 ?_); (case k1 => omega); (case k2 => omega); (case k3 => wtm_at "g_own"); intro HH ww)
  | ((with_reducible refine' w_fldT tell_pf_base ?k1 ?k2 (cl_Prefix (by assumption)) (na_Prefix_base (by assumption)) ?_); (case k1 => wtm_at "g_own"); (case k2 => wtm_at "g_pk"); intro dz fz; (try clear fz dz))
  | ((with_reducible refine' w_fldT tell_pf_length ?k1 ?k2 (cl_Prefix (by assumption)) (na_Prefix_length (by assumption)) ?_); (case k1 => wtm_at "g_own"); (case k2 => wtm_at "g_pk"); intro dz fz; (try clear fz dz))
  | ((with_reducible refine' w_mtT (tell_pf_m ln_Prefix_pair) ?k1 ?k2 ?_); (case k1 => wtm_at "g_own"); (case k2 => wtm_at "g_pk"))
  | ((with_reducible refine' c_pair ?k1 ?k2 ?_); (case k1 => wtm_at "g_own"); (case k2 => wtm_at "g_pk"); intro HH tt ww)
  | ((with_reducible refine' c_pf ?k0 ?k1 ?k2 ?_); (case k0 => with_reducible assumption); (case k1 => wtm_at "g_own"); (case k2 => wtm_at "g_pk"); intro HH ww)
  | fail)
local macro_rules | `(tactic| wtm_at "g_call") => `(tactic| first
  | wtm_at "g_callpf"
  | ((with_reducible refine' c_wn2 ?k1 ?_); (case k1 => wtm_at "g_own"); intro HH tt ww)
  | ((with_reducible refine' c_rn ?k1 ?k2 ?_); (case k1 => wtm_at "g_own"); (case k2 => wtm_at "g_gl"); intro HH ww)
  | fail)
local macro_rules | `(tactic| wtm_at "g_own") => `(tactic| first
  | (with_reducible assumption)
  | ((with_reducible refine' Own.newT ?k1 ?k2); (case k1 => with_reducible assumption); (case k2 => wtm_at "g_own"))
  | ((with_reducible refine' Own.new ?k1 ?k2); (case k1 => with_reducible assumption); (case k2 => wtm_at "g_own"))
  | ((with_reducible refine' Own.put ?k1 ?k2); (case k1 => wtm_at "g_own"); (case k2 => wtm_at "g_put"))
  | ((with_reducible refine' Own.sel ?k1 ?k2); (case k1 => with_reducible assumption); (case k2 => wtm_at "g_sel"))
  | fail)
local macro_rules | `(tactic| wtm_at "g_sel") => `(tactic| first
  | (with_reducible exact Sel.rf) | (with_reducible exact Sel.nil)
  | ((with_reducible refine' Sel.cons ?k1 ?k2); (case k1 => wtm_at "g_pk"); (case k2 => wtm_at "g_sel"))
  | ((with_reducible refine' Sel.drop ?k1); (case k1 => wtm_at "g_sel"))
  | fail)
local macro_rules | `(tactic| wtm_at "g_got") => `(tactic| first
  | (with_reducible assumption) | (with_reducible exact Got.here)
  | ((with_reducible refine' Got.next ?k1); (case k1 => wtm_at "g_got"))
  | fail)
local macro_rules | `(tactic| wtm_at "g_gl") => `(tactic| first
  | (with_reducible assumption) | (with_reducible exact GotL.here) | (with_reducible exact GotL.hereS)
  | ((with_reducible refine' GotL.next ?k1); (case k1 => wtm_at "g_gl"))
  | fail)
local macro_rules | `(tactic| wtm_at "g_put") => `(tactic| first
  | (with_reducible assumption) | (with_reducible exact Put.here)
  | ((with_reducible refine' Put.next ?k1); (case k1 => wtm_at "g_put"))
  | fail)
local macro_rules | `(tactic| wtm_at "g_pk") => `(tactic| first
  | (with_reducible assumption) | (with_reducible exact Pick.keep) | (with_reducible exact Pick.here)
  | ((with_reducible refine' Pick.next ?k1); (case k1 => wtm_at "g_pk"))
  | fail)
local macro_rules | `(tactic| wtm_at "g_hp") => `(tactic| first
  | (with_reducible assumption) | (with_reducible exact upd_same)
  | ((with_reducible refine' Own.get ?k1 ?k2); (case k1 => wtm_at "g_own"); (case k2 => wtm_at "g_got"))
  | fail)
local macro_rules | `(tactic| wtm_at "g_sq") => `(tactic| first
  | (with_reducible assumption)
  | ((with_reducible refine' Own.sql ?k1 ?k2); (case k1 => wtm_at "g_own"); (case k2 => wtm_at "g_gl"))
  | ((with_reducible refine' SqL.of ?k1); (case k1 => wtm_at "g_hp"))
  | fail)
local macro_rules | `(tactic| wtm_at "g_sqt") => `(tactic| first
  | (with_reducible assumption) | ((with_reducible refine' SqT.of' ?k1); (case k1 => wtm_at "g_hp"))
  | fail)
local macro_rules | `(tactic| wtm_at "g_sz") => `(tactic| first
  | (with_reducible assumption) | (exact small_le rfl)
  | ((with_reducible refine' small16 ?k1); (case k1 => (try simp only [List.length_append, List.length_map, List.length_cons, List.length_nil, List.length_take, List.length_drop, List.length_set, List.length_range]); omega))
  | ((with_reducible refine' small16l ?k1); (case k1 => (try simp only [List.length_append, List.length_map, List.length_cons, List.length_nil, List.length_take, List.length_drop, List.length_set, List.length_range]); omega))
  | fail)
local macro_rules | `(tactic| wtm_at "g_gd") => `(tactic| first
  | (with_reducible assumption) | (with_reducible exact GotD.here) | (with_reducible exact GotD.hereR) | (with_reducible exact GotD.ints)
  | ((with_reducible refine' GotD.next ?k1); (case k1 => wtm_at "g_gd"))
  | fail)
local macro_rules | `(tactic| wtm_at "g_dp") => `(tactic| first
  | (with_reducible assumption)
  | ((with_reducible refine' Own.dpG ?k1 ?k2); (case k1 => wtm_at "g_own"); (case k2 => wtm_at "g_gd"))
  | fail)
local macro_rules | `(tactic| wtm_at "g_ar") => `(tactic| first
  | decide | (exact ⟨by decide, by decide⟩) | (exact Or.inr ⟨by decide, by decide⟩) | (exact Or.inl ⟨by decide, by decide⟩) | omega | (exact Or.inr ⟨by omega, by omega⟩) | (exact Or.inl ⟨by omega, by omega⟩) | (exact ⟨by omega, by omega⟩)
  | fail)
local macro_rules | `(tactic| wtm_at "g_ow") => `(tactic| first
  | wtm_at "g_own"
  | ((simp only [List.map_cons, List.map_nil]); wtm_at "g_own")
  | fail)
local macro_rules | `(tactic| wtm_at "g_callc") => `(tactic| first
  | ((with_reducible refine' o_digit ?k1 ?k2 ?k3 ?k4 ?_); (case k1 => wtm_at "g_own"); (case k2 => wtm_at "g_pk"); (case k3 => omega); (case k4 => omega); intro d HH d0 d1 ww)
  | ((with_reducible refine' o_start ?k1 ?_); (case k1 => wtm_at "g_own"); intro p HH ww)
  | ((with_reducible refine' c_cell ?k1 ?k2 ?_); (case k1 => wtm_at "g_sq"); (case k2 => omega); intro n)
  | ((with_reducible refine' c_isint ?_))
  | fail)
local macro_rules | `(tactic| wtm_at "g_st") => `(tactic| first
  | (with_reducible first
      | refine w_seq ?_ | refine w_asg ?_ | refine w_nm ?_ | refine w_next ?_ | refine w_if ?_ | refine w_ret ?_ | refine w_retN ?_ | refine w_drop ?_
      | refine w_var rfl ?_ | refine w_c ?_ | refine w_op ?_ | refine w_I0 ?_
      | refine w_eqI ?_ | refine w_neI ?_ | refine w_eqB ?_ | refine w_neB ?_ | refine w_eqS ?_ | refine w_neS ?_ | refine w_isN0 ?_ | refine w_isNi ?_ | refine w_isNr ?_ | refine w_isNb ?_ | refine w_isNs ?_ | refine w_notN0 ?_ | refine w_notNi ?_ | refine w_notNr ?_ | refine w_notNb ?_ | refine w_notNs ?_ | refine w_isN ?_ | refine w_notN ?_ | refine w_isB ?_ | refine w_notB ?_
      | refine w_un ?_ | refine w_U ?_ | refine w_chain ?_ | refine w_k ?_ | refine w_test ?_ | refine w_tB ?_ | refine w_tru ?_ | refine w_not ?_ | refine w_and ?_ | refine w_or ?_
      | refine w_andV ?_ | refine w_orV ?_ | refine w_notV ?_ | refine w_ife ?_ | refine w_nil ?_ | refine w_cons ?_ | refine w_tupK ?_ | refine w_lstK ?_ | refine w_small rfl ?_
      | refine w_call ?_ | refine w_mkQ ?_ | refine w_mt ?_ | refine k_ini ?_ | refine w_cb ?_ | refine w_min2 ?_ | refine w_max2 ?_ | refine w_abs ?_ | refine w_int ?_ | refine w_intb ?_
      | refine w_fld0 ?_ | refine w_bm ?_ | refine w_bm0 ?_ | refine w_sub ?_ | refine w_sfldQ ?_ | refine w_sfaQ ?_ | refine w_delQ ?_ | refine k_whT ?_ | refine w_radd ?_ | refine w_rsub ?_ | refine w_ip ?_ | refine w_rs ?_ | refine w_pr ?_
      | refine w_lcR1 ?_ | refine w_lcR2 ?_ | refine w_lcL ?_ | refine w_lcT ?_ | refine w_yes ?_ | refine w_disp ?_ | refine w_prs ?_ | refine w_prn ?_ | refine w_dget ?_ | refine w_sl ?_ | refine w_nopart ?_ | refine w_part ?_ | refine w_pint ?_
      | refine w_for3 ?_ | refine w_mkKQ ?_ | refine w_forR1 ?_ | refine w_forR2 ?_ | refine w_forL ?_ | refine w_forT ?_ | refine w_aug rfl ?_ | refine w_par ?_ | refine w_brk ?_ | refine w_cont ?_
      | refine w_isi_ii ?_ | refine w_isi_ib ?_ | refine w_isi_bi ?_ | refine w_isi_bb ?_ | refine w_isi_ss ?_ | refine w_isi_is ?_ | refine w_isi_il ?_ | refine w_isi_it ?_ | refine w_isi_sl ?_ | refine w_isi_st ?_ | refine w_isi_nl ?_ | refine w_isi_nt ?_
      | refine if_T ?_ | refine if_F ?_ | refine if_nT ?_ | refine if_nF ?_)
  | ((with_reducible refine' k_tup rfl ?k1 ?_); (case k1 => wtm_at "g_own"); intro p HH ww)
  | ((with_reducible refine' k_lst1R ?k1 ?_); (case k1 => wtm_at "g_own"); intro p HH ww)
  | ((with_reducible refine' k_lst1I ?k1 ?_); (case k1 => wtm_at "g_own"); intro p HH ww)
  | ((with_reducible refine' k_lst rfl ?k1 ?_); (case k1 => wtm_at "g_own"); intro p HH ww)
  | ((with_reducible refine' k_mk ?k1 ?_); (case k1 => wtm_at "g_own"); intro p dx HH ww)
  | wtm_at "g_mkk"
  | ((with_reducible refine' k_listL ?k1 ?k2 ?_); (case k1 => wtm_at "g_own"); (case k2 => wtm_at "g_sq"); intro p HH ww)
  | ((with_reducible refine' k_listT ?k1 ?k2 ?_); (case k1 => wtm_at "g_own"); (case k2 => wtm_at "g_sqt"); intro p HH ww)
  | ((with_reducible refine' k_tupL ?k1 ?k2 ?_); (case k1 => wtm_at "g_own"); (case k2 => wtm_at "g_sq"); intro p HH ww)
  | ((with_reducible refine' k_slfromRs ?k1 ?k2 ?_); (case k1 => wtm_at "g_own"); (case k2 => wtm_at "g_sq"); intro p HH ww)
  | ((with_reducible refine' k_slfromR1 ?k1 ?k2 ?_); (case k1 => wtm_at "g_own"); (case k2 => wtm_at "g_sq"); intro p HH ww)
  | ((with_reducible refine' k_slfromRn ?k1 ?k2 ?_); (case k1 => wtm_at "g_own"); (case k2 => wtm_at "g_sq"); intro p HH ww)
  | ((with_reducible refine' k_sltoR1 ?k1 ?k2 ?_); (case k1 => wtm_at "g_own"); (case k2 => wtm_at "g_sq"); intro p HH ww)
  | ((with_reducible refine' k_sltoRn ?k1 ?k2 ?_); (case k1 => wtm_at "g_own"); (case k2 => wtm_at "g_sq"); intro p HH ww)
  | ((with_reducible refine' k_slfromIs ?k1 ?k2 ?_); (case k1 => wtm_at "g_own"); (case k2 => wtm_at "g_sq"); intro p HH ww)
  | ((with_reducible refine' k_slfromI1 ?k1 ?k2 ?_); (case k1 => wtm_at "g_own"); (case k2 => wtm_at "g_sq"); intro p HH ww)
  | ((with_reducible refine' k_slfromIn ?k1 ?k2 ?_); (case k1 => wtm_at "g_own"); (case k2 => wtm_at "g_sq"); intro p HH ww)
  | ((with_reducible refine' k_sltoI1 ?k1 ?k2 ?_); (case k1 => wtm_at "g_own"); (case k2 => wtm_at "g_sq"); intro p HH ww)
  | ((with_reducible refine' k_sltoIn ?k1 ?k2 ?_); (case k1 => wtm_at "g_own"); (case k2 => wtm_at "g_sq"); intro p HH ww)
  | ((with_reducible refine' k_slfromI ?k1 ?k2 ?k3 ?_); (case k1 => wtm_at "g_own"); (case k2 => wtm_at "g_sq"); (case k3 => omega); intro p HH ww)
  | ((with_reducible refine' k_sltoI ?k1 ?k2 ?k3 ?_); (case k1 => wtm_at "g_own"); (case k2 => wtm_at "g_sq"); (case k3 => omega); intro p HH ww)
  | ((with_reducible refine' k_slmidI ?k1 ?k2 ?k3 ?k4 ?_); (case k1 => wtm_at "g_own"); (case k2 => wtm_at "g_sq"); (case k3 => omega); (case k4 => omega); intro p HH ww)
  | ((with_reducible refine' k_catI ?k1 ?k2 ?k3 ?k4 ?_); (case k1 => wtm_at "g_own"); (case k2 => wtm_at "g_got"); (case k3 => wtm_at "g_got"); (case k4 => wtm_at "g_sz"); intro p HH ww)
  | ((with_reducible refine' k_catR ?k1 ?k2 ?k3 ?k4 ?_); (case k1 => wtm_at "g_own"); (case k2 => wtm_at "g_got"); (case k3 => wtm_at "g_got"); (case k4 => wtm_at "g_sz"); intro p HH ww)
  | ((with_reducible refine' k_slfromR ?k1 ?k2 ?k3 ?_); (case k1 => wtm_at "g_own"); (case k2 => wtm_at "g_sq"); (case k3 => omega); intro p HH ww)
  | ((with_reducible refine' k_sltoR ?k1 ?k2 ?k3 ?_); (case k1 => wtm_at "g_own"); (case k2 => wtm_at "g_sq"); (case k3 => omega); intro p HH ww)
  | ((with_reducible refine' k_appI ?k1 ?k2 ?k3 ?_); (case k1 => wtm_at "g_own"); (case k2 => wtm_at "g_put"); (case k3 => wtm_at "g_sz"); intro HH ww)
  | ((with_reducible refine' k_appR ?k1 ?k2 ?k3 ?_); (case k1 => wtm_at "g_own"); (case k2 => wtm_at "g_put"); (case k3 => wtm_at "g_sz"); intro HH ww)
  | ((with_reducible refine' k_extendI ?k1 ?k2 ?k3 ?k4 ?_); (case k1 => wtm_at "g_own"); (case k2 => wtm_at "g_put"); (case k3 => wtm_at "g_got"); (case k4 => wtm_at "g_sz"); intro HH ww)
  | ((with_reducible refine' k_slfrom ?k1 ?k2 ?k3 ?_); (case k1 => wtm_at "g_own"); (case k2 => wtm_at "g_sq"); (case k3 => omega); intro p HH ww)
  | ((with_reducible refine' k_slto ?k1 ?k2 ?k3 ?_); (case k1 => wtm_at "g_own"); (case k2 => wtm_at "g_sq"); (case k3 => omega); intro p HH ww)
  | ((with_reducible refine' k_slmid ?k1 ?k2 ?k3 ?k4 ?_); (case k1 => wtm_at "g_own"); (case k2 => wtm_at "g_sq"); (case k3 => omega); (case k4 => omega); intro p HH ww)
  | ((with_reducible refine' k_cat ?k1 ?k2 ?k3 ?k4 ?_); (case k1 => wtm_at "g_own"); (case k2 => wtm_at "g_got"); (case k3 => wtm_at "g_got"); (case k4 => wtm_at "g_sz"); intro p HH ww)
  | ((with_reducible refine' k_app ?k1 ?k2 ?k3 ?_); (case k1 => wtm_at "g_own"); (case k2 => wtm_at "g_put"); (case k3 => wtm_at "g_sz"); intro HH ww)
  | ((with_reducible refine' ty_list ?k1 ?_); (case k1 => wtm_at "g_hp"))
  | ((with_reducible refine' k_truR ?k1 ?_); (case k1 => wtm_at "g_sq"))
  | ((with_reducible refine' k_truI ?k1 ?_); (case k1 => wtm_at "g_sq"))
  | ((with_reducible refine' k_truL ?k1 ?_); (case k1 => wtm_at "g_sq"))
  | ((with_reducible refine' w_lenLI ?k1 ?_); (case k1 => wtm_at "g_sq"))
  | ((with_reducible refine' w_lenLR ?k1 ?_); (case k1 => wtm_at "g_sq"))
  | ((with_reducible refine' w_ixT ?k1 ?k2 ?_); (case k1 => wtm_at "g_sqt"); (case k2 => first | rfl | fail))
  | ((with_reducible refine' w_ixRc ?k1 ?_); (case k1 => wtm_at "g_sq"))
  | ((with_reducible refine' w_ixR0 ?k1 ?k2 ?_); (case k1 => wtm_at "g_sq"); (case k2 => with_reducible assumption))
  | ((with_reducible refine' w_ixR ?k1 ?k2 ?_); (case k1 => wtm_at "g_sq"); (case k2 => with_reducible assumption))
  | ((with_reducible refine' w_ixLastR ?k1 ?k2 ?_); (case k1 => wtm_at "g_sq"); (case k2 => with_reducible assumption))
  | ((with_reducible refine' k_slinitR ?k1 ?k2 ?_); (case k1 => wtm_at "g_own"); (case k2 => wtm_at "g_sq"); intro p HH ww)
  | ((with_reducible refine' w_gTup ?k1 ?k2 ?_); (case k1 => wtm_at "g_sqt"); (case k2 => rfl))
  | (with_reducible refine w_gCons ?_)
  | (with_reducible refine w_gNil ?_)
  | ((with_reducible refine' w_ixI ?k1 ?k2 ?k3 ?_); (case k1 => wtm_at "g_sq"); (case k2 => omega); (case k3 => omega))
  | ((with_reducible refine' w_I ?k1 ?_); (case k1 => wtm_at "g_ar"))
  | ((with_reducible refine' k_reverse ?k1 ?k2 ?_); (case k1 => wtm_at "g_own"); (case k2 => wtm_at "g_put"); intro HH ww)
  | ((with_reducible refine' w_lenL ?k1 ?_); (case k1 => wtm_at "g_sq"))
  | ((with_reducible refine' w_lenT ?k1 ?_); (case k1 => wtm_at "g_sqt"))
  | ((with_reducible refine' w_isi_ll ?k1 ?_); (case k1 => wtm_at "g_hp"))
  | ((with_reducible refine' w_isi_tt ?k1 ?_); (case k1 => wtm_at "g_hp"))
  | ((with_reducible refine' w_isi_lt ?k1 ?_); (case k1 => wtm_at "g_hp"))
  | ((with_reducible refine' w_isi_tl ?k1 ?_); (case k1 => wtm_at "g_hp"))
  | ((with_reducible refine' w_ll ?k1 ?k2 ?_); (case k1 => rfl); (case k2 => rfl))
  | wtm_at "g_get"
  | wtm_at "g_mt"
  | wtm_at "g_set"
  | wtm_at "g_set2"
  | wtm_at "g_call"
  | wtm_at "g_callc"
  | fail)
local macro_rules | `(tactic| wtm_at "g_go") => `(tactic| repeat wtm_at "g_st")
local macro_rules | `(tactic| wtm_at "g_ifo") => `(tactic| first
  | (refine if_nno rfl ?_) | (refine if_yes rfl ?_)
  | (refine if_no (by omega) ?_)
  | (refine if_yes (by omega) ?_)
  | (refine if_nno (by omega) ?_)
  | (refine if_nyes (by omega) ?_)
  | (refine if_nno (decide_eq_false (by omega)).symm ?_)
  | (refine if_nno (decide_eq_true (by omega)).symm ?_)
  | fail)
local macro_rules | `(tactic| wtm_at "g_goo") => `(tactic| repeat (first | wtm_at "g_st" | wtm_at "g_ifo"))
section
variable {K : PySem.W.Frag} {mg : Str → Option Value} {base : Heap}
theorem pure_law_cell (T : TX K mg base) (vs : List V) (H : Hp) (Q : VK) (E : XK) (h : sp_law_cell K vs H Q E) : t_law_cell K E { nx := fun _ H' => Q .non H', rt := Q } (start N_law_cell vs) H := g_law_cell vs H Q E h
theorem pure_law_digit (T : TX K mg base) (vs : List V) (H : Hp) (Q : VK) (E : XK) (h : sp_law_digit K vs H Q E) : t_law_digit K E { nx := fun _ H' => Q .non H', rt := Q } (start N_law_digit vs) H := g_law_digit vs H Q E h
theorem pure_law_start (T : TX K mg base) (vs : List V) (H : Hp) (Q : VK) (E : XK) (h : sp_law_start K vs H Q E) : t_law_start K E { nx := fun _ H' => Q .non H', rt := Q } (start N_law_start vs) H := g_law_start vs H Q E h
end
section
variable {K : PySem.W.Frag} {mg : Str → Option Value} {base : Heap}
theorem spans_at {l : Int} (h0 : 0 ≤ l) (h1 : l ≤ 16) : atI v_SPANS l = some (V.int (sn l)) := by
  have h : l = 0 ∨ l = 1 ∨ l = 2 ∨ l = 3 ∨ l = 4 ∨ l = 5 ∨ l = 6 ∨ l = 7 ∨ l = 8 ∨ l = 9 ∨ l = 10 ∨ l = 11 ∨ l = 12 ∨ l = 13 ∨ l = 14 ∨ l = 15 ∨ l = 16 := by omega
  rcases h with h | h | h | h | h | h | h | h | h | h | h | h | h | h | h | h | h <;> (subst h; rfl)
theorem pure_span_of (T : TX K mg base) (vs : List V) (H : Hp) (Q : VK) (E : XK) (h : sp_span_of K vs H Q E) : t_span_of K E { nx := fun _ H' => Q .non H', rt := Q } (start N_span_of vs) H := by
  obtain ⟨l, rfl, h0, h1, q⟩ := h
  unfold t_span_of
  wtm_at "g_go"
  exact w_ixT (kx_SPANS T H) (spans_at h0 h1) q
theorem pure_law_span (T : TX K mg base) (vs : List V) (H : Hp) (Q : VK) (E : XK) (h : sp_law_span K vs H Q E) : t_law_span K E { nx := fun _ H' => Q .non H', rt := Q } (start N_law_span vs) H := by
  obtain ⟨l, R, rfl, h0, h1, w, q⟩ := h
  unfold t_law_span
  wtm_at "g_go"
  rename_i t H1 w1
  exact w_ixT (xs := v_SPANS) (SqT.of' w1.get') (spans_at h0 h1) (q _ w1.tail)
theorem pure_Prefix_init (T : TX K mg base) (vs : List V) (H : Hp) (Q : VK) (E : XK) (h : sp_Prefix_init K vs H Q E) : t_Prefix_init K E { nx := fun _ H' => Q .non H', rt := Q } (start N_Prefix_init vs) H := by
  obtain ⟨p, dx, b, l, R, rfl, w, q1, q2⟩ := h
  have q1 := fun n => q1 n H w.tail
  unfold t_Prefix_init
  wtm_at "g_go"
  by_cases h0 : 0 ≤ l
  case neg =>
    wtm_at "g_goo"
    exact q1 fun o => h0 o.1
  by_cases h1 : l ≤ 16
  case neg =>
    wtm_at "g_goo"
    exact q1 fun o => h1 o.2.1
  wtm_at "g_goo"
  by_cases h2 : 0 ≤ b
  case neg =>
    wtm_at "g_goo"
    exact q1 fun o => h2 o.2.2.1
  by_cases h3 : b < 65536
  case neg =>
    wtm_at "g_goo"
    exact q1 fun o => h3 o.2.2.2.1
  wtm_at "g_goo"
  refine w_I sn_pos ?_
  wtm_at "g_go"
  refine if_nd (fun h4 => ?_) (fun h4 => ?_)
  · wtm_at "g_go"
    exact q1 fun o => h4 o.2.2.2.2
  · wtm_at "g_go"
    refine q2 ⟨h0, h1, h2, h3, h4⟩ _ (Own.exi dx (Own.toRo ?_))
    wtm_at "g_own"
theorem pure_Prefix_pair (T : TX K mg base) (vs : List V) (H : Hp) (Q : VK) (E : XK) (h : sp_Prefix_pair K vs H Q E) : t_Prefix_pair K E { nx := fun _ H' => Q .non H', rt := Q } (start N_Prefix_pair vs) H := by
  obtain ⟨p, x, R, rfl, w, q⟩ := h
  unfold t_Prefix_pair
  wtm_at "g_go"
  exact q _ _ (by wtm_at "g_own")
end
section
variable {K : PySem.W.Frag} {mg : Str → Option Value} {base : Heap}
def low (n : Int) : Nat → List Int
  | 0 => []
  | k + 1 => n % 256 :: low (n / 256) k
def its (n : Int) : Nat → Int
  | 0 => n
  | k + 1 => its n k / 256
theorem its_s (n : Int) : ∀ k, its (n / 256) k = its n k / 256
  | 0 => rfl
  | k + 1 => by rw [its, its_s n k, its]
theorem low_s : ∀ (n : Int) (k : Nat), low n (k + 1) = low n k ++ [its n k % 256]
  | n, 0 => rfl
  | n, k + 1 => by
    rw [low, low_s (n / 256) k, low, its_s]
    rfl
theorem low_rev : ∀ (n : Int) (k : Nat), (low n k).reverse = wr n k
  | n, 0 => rfl
  | n, k + 1 => by rw [low, List.reverse_cons, low_rev, wr]
theorem low_len : ∀ (n : Int) (k : Nat), (low n k).length = k
  | n, 0 => rfl
  | n, k + 1 => by rw [low, List.length_cons, low_len]
theorem pure_write_number (T : TX K mg base) (vs : List V) (H : Hp) (Q : VK) (E : XK) (h : sp_write_number K vs H Q E) : t_write_number K E { nx := fun _ H' => Q .non H', rt := Q } (start N_write_number vs) H := by
  obtain ⟨n, k, R, rfl, hk, w, q⟩ := h
  unfold t_write_number
  wtm_at "g_go"
  rename_i t H1 w1
  refine loop1 (n := k) (fun i σ H' => ∃ v3, σ = [some (.int (its n i)), some (.int (k : Int)), some (.ref t), v3] ∧ Own (pt t (.lst ((low n i).map V.int)) :: R) H') rfl (by omega) ⟨_, rfl, w1⟩ ?_ ?_
  · rintro i σ H' hi ⟨v3, rfl, w'⟩
    have := low_len n i
    wtm_at "g_go"
    exact ⟨_, rfl, by rw [low_s]; wtm_at "g_own"⟩
  · rintro σ H' ⟨v3, rfl, w'⟩
    wtm_at "g_go"
    refine q _ _ ?_
    rw [← low_rev, List.map_reverse]
    wtm_at "g_own"
theorem numV_s (xs : List Int) (x : Int) : numV (xs ++ [x]) = numV xs * 256 + x := by
  unfold numV
  rw [List.foldl_append]
  rfl
theorem rn_loop {a : Addr} {xs : List Int} {n : Nat} {H : Hp} {i : Nat} {x : V} (hx : (xs.map V.int)[i]? = some x) : ∃ z, x = .int z ∧ xs.take (i + 1) = xs.take i ++ [z] := by
  rw [List.getElem?_map] at hx
  cases e : xs[i]? with
  | none => rw [e] at hx; cases hx
  | some z =>
    rw [e] at hx
    cases hx
    exact ⟨z, rfl, by rw [List.take_add_one, e]; rfl⟩
theorem pure_read_number (T : TX K mg base) (vs : List V) (H : Hp) (Q : VK) (E : XK) (h : sp_read_number K vs H Q E) : t_read_number K E { nx := fun _ H' => Q .non H', rt := Q } (start N_read_number vs) H := by
  obtain ⟨l, xs, R, rfl, w, g, q⟩ := h
  unfold t_read_number
  wtm_at "g_go"
  refine loopL (xs := xs.map V.int) (fun i σ H' => ∃ v2, σ = [some (.ref l), some (.int (numV (xs.take i))), v2] ∧ Own R H') (by wtm_at "g_sq") ⟨_, rfl, w⟩ ?_ ?_ ?_
  · rintro i σ H' hi ⟨v2, rfl, w'⟩
    wtm_at "g_sq"
  · rintro i x σ H' hx ⟨v2, rfl, w'⟩
    obtain ⟨z, rfl, e⟩ := rn_loop (a := 0) (n := 0) (H := H) hx
    wtm_at "g_go"
    exact ⟨_, by rw [e, numV_s]; rfl, w'⟩
  · rintro σ H' ⟨v2, rfl, w'⟩
    wtm_at "g_go"
    rw [List.length_map, List.take_length]
    exact q _ w'
theorem take_map_s {α β : Type} {f : α → β} {xs : List α} {i : Nat} {x : α} (h : xs[i]? = some x) : (xs.take (i + 1)).map f = (xs.take i).map f ++ [f x] := by
  rw [List.take_add_one, h, List.map_append]
  rfl
theorem encs_len : ∀ rs : List Rw, ((rs.map encR).flatten).length = 4 * rs.length
  | [] => rfl
  | r :: rs => by
    rw [List.map_cons, List.flatten_cons, List.length_append, encs_len rs, List.length_cons]
    show 4 + _ = _
    omega
theorem encs_s {rs : List Rw} {i : Nat} {r : Rw} (h : rs[i]? = some r) : ((rs.take (i + 1)).map encR).flatten = ((rs.take i).map encR).flatten ++ encR r := by
  rw [take_map_s h, List.flatten_append]
  simp
theorem pure_write_advert (T : TX K mg base) (vs : List V) (H : Hp) (Q : VK) (E : XK) (h : sp_write_advert K vs H Q E) : t_write_advert K E { nx := fun _ H' => Q .non H', rt := Q } (start N_write_advert vs) H := by
  obtain ⟨l, ts, rs, R, rfl, hl, w, q⟩ := h
  have hlen := w.swap.bigLen
  unfold t_write_advert
  wtm_at "g_go"
  rename_i H1 o w1
  refine loopL (xs := ts.map V.ref) (fun i σ H' => ∃ v2 v3, σ = [some (.ref l), some (.ref o), v2, v3] ∧ Own (pt o (.lst ((two (rs.length : Nat) ++ ((rs.take i).map encR).flatten).map V.int)) :: pt l (.lst (ts.map V.ref)) :: big (PrP K) ts rs :: R) H') (by wtm_at "g_sq") ⟨_, _, rfl, ?_⟩ ?_ ?_ ?_
  · rw [hlen] at w1
    show Own (pt o (.lst ((two (rs.length : Nat) ++ []).map V.int)) :: _) H1
    rw [List.append_nil]
    wtm_at "g_own"
  · rintro i σ H' hi ⟨v2, v3, rfl, w'⟩
    wtm_at "g_sq"
  · rintro i x σ H2 hx ⟨v2, v3, rfl, w2⟩
    obtain ⟨t, ht, rfl⟩ := mra hx
    obtain ⟨r, hr⟩ := aol ht hlen
    have hil := (List.getElem?_eq_some_iff.mp hr).1
    have hel := encs_len (rs.take i)
    rw [List.length_take] at hel
    obtain ⟨p, w3⟩ := pr_out ((w2.pick (.next (.next .here))).bigAt ht hr)
    wtm_at "g_go"
    rename_i H3 w4
    refine ⟨_, _, rfl, ?_⟩
    have e : two (rs.length : Nat) ++ ((rs.take (i + 1)).map encR).flatten = two (rs.length : Nat) ++ ((rs.take i).map encR).flatten ++ two r.b ++ [r.l] ++ [r.c] := by
      rw [encs_s hr]
      simp [encR]
    rw [e]
    wtm_at "g_own"
  · rintro σ H2 ⟨v2, v3, rfl, w2⟩
    wtm_at "g_go"
    rw [List.length_map, hlen, List.take_length] at w2
    exact q _ o w2
theorem pure_law_octets (T : TX K mg base) (vs : List V) (H : Hp) (Q : VK) (E : XK) (h : sp_law_octets K vs H Q E) : t_law_octets K E { nx := fun _ H' => Q .non H', rt := Q } (start N_law_octets vs) H := by
  obtain ⟨l, ts, rs, R, rfl, hok, w, q⟩ := h
  have hlen := w.swap.bigLen
  have hl := hok.len
  unfold t_law_octets
  wtm_at "g_go"
  rename_i o H1 w1
  refine loopL (xs := ts.map V.ref) (fun i σ H' => ∃ o v2 v3 v4, σ = [some (.ref l), some (.ref o), v2, v3, v4] ∧ Own (pt o (.lst ((two (rs.length : Nat) ++ ((rs.take i).map encR).flatten).map V.int)) :: pt l (.lst (ts.map V.ref)) :: big RwP ts rs :: R) H') (by wtm_at "g_sq") ⟨o, _, _, _, rfl, ?_⟩ ?_ ?_ ?_
  · have e : (two (rs.length : Nat) ++ (((rs.take 0).map encR).flatten)).map V.int = [V.int ((ts.length : Nat) / 256), V.int ((ts.length : Nat) % 256)] := by
      show [V.int ((rs.length : Int) / 256 % 256), V.int ((rs.length : Int) % 256)] = _
      rw [hlen, show (rs.length : Int) / 256 % 256 = (rs.length : Int) / 256 by omega]
    rw [e]
    wtm_at "g_own"
  · rintro i σ H' hi ⟨o, v2, v3, v4, rfl, w'⟩
    wtm_at "g_sq"
  · rintro i x σ H2 hx ⟨o, v2, v3, v4, rfl, w2⟩
    obtain ⟨t, ht, rfl⟩ := mra hx
    obtain ⟨r, hr⟩ := aol ht hlen
    have hil := (List.getElem?_eq_some_iff.mp hr).1
    have hel := encs_len (rs.take i)
    rw [List.length_take] at hel
    have w3 : Own (ro t (.tup [.int r.b, .int r.l, .int r.c]) :: big RwP ts rs :: _ :: _ :: R) H2 := (w2.pick (.next (.next .here))).bigAt ht hr
    have hro := (hok.ok r (List.mem_of_getElem? hr)).1
    have hb0 : 0 ≤ r.b := hro.2.2.1
    have hb1 : r.b < 65536 := hro.2.2.2.1
    wtm_at "g_go"
    rename_i l4 H4 w4 o5 H5 w5
    refine ⟨o5, _, _, _, rfl, ?_⟩
    have e : (two (rs.length : Nat) ++ ((rs.take (i + 1)).map encR).flatten).map V.int = (two (rs.length : Nat) ++ ((rs.take i).map encR).flatten).map V.int ++ [V.int (r.b / 256), V.int (r.b % 256), V.int r.l, V.int r.c] := by
      rw [encs_s hr, ← List.append_assoc, List.map_append]
      congr 1
      show [V.int (r.b / 256 % 256), _, _, _] = _
      rw [show r.b / 256 % 256 = r.b / 256 by omega]
    rw [e]
    wtm_at "g_own"
  · rintro σ H2 ⟨o, v2, v3, v4, rfl, w2⟩
    wtm_at "g_go"
    rw [List.length_map, hlen, List.take_length] at w2
    exact q _ o w2
theorem numV_nn {xs : List Int} (h : Oct xs) : 0 ≤ numV xs := by
  have : ∀ (xs : List Int) (n : Int), 0 ≤ n → (∀ x ∈ xs, 0 ≤ x ∧ x ≤ 255) → 0 ≤ xs.foldl (fun n o => n * 256 + o) n := by
    intro xs
    induction xs with
    | nil => exact fun n h _ => h
    | cons x xs ih =>
      intro n hn hx
      have := hx x List.mem_cons_self
      exact ih (n * 256 + x) (by omega) fun y hy => hx y (List.mem_cons_of_mem _ hy)
  exact this xs 0 (Int.le_refl _) h
theorem pure_read_row (T : TX K mg base) (vs : List V) (H : Hp) (Q : VK) (E : XK) (h : sp_read_row K vs H Q E) : t_read_row K E { nx := fun _ H' => Q .non H', rt := Q } (start N_read_row vs) H := by
  obtain ⟨l, xs, R, rfl, hl, ho, w, g, q1, q2⟩ := h
  obtain ⟨a, b, c, d, rfl⟩ : ∃ a b c d, xs = [a, b, c, d] := by
    match xs, hl with
    | [a, b, c, d], _ => exact ⟨a, b, c, d, rfl⟩
  have ha := ho a (by simp)
  have hb := ho b (by simp)
  have hc := ho c (by simp)
  have hd := ho d (by simp)
  have e : rowAt [a, b, c, d] = ⟨a * 256 + b, c, d⟩ := rfl
  have hln : ([a, b, c, d] : List Int).length = 4 := rfl
  rw [e] at q1 q2
  unfold t_read_row
  wtm_at "g_go"
  rename_i l2 H2 w2 H3 w3
  have q1 := fun n => q1 n H3 (by wtm_at "g_own")
  have hn : numV (List.take (Int.toNat 2) [a, b, c, d]) = a * 256 + b := by
    show (0 * 256 + a) * 256 + b = _
    omega
  rw [hn]
  refine if_d (fun h1 => ?_) (fun h1 => ?_)
  · wtm_at "g_go"
    have h1 : 16 < c := h1
    exact q1 (by unfold good; rw [decide_eq_false]; dsimp only; omega)
  have h1 : ¬ 16 < c := h1
  have hg2 : [a, b, c, d].getD (Int.toNat 2) 0 = c := rfl
  have hg3 : [a, b, c, d].getD (Int.toNat 3) 0 = d := rfl
  wtm_at "g_go"
  rw [hg2]
  refine w_I sn_pos ?_
  wtm_at "g_go"
  refine if_nd (fun h2 => ?_) (fun h2 => ?_)
  · wtm_at "g_go"
    exact q1 (by unfold good; rw [decide_eq_false]; dsimp only; omega)
  wtm_at "g_go"
  rw [hg3]
  refine if_d (fun h3 => ?_) (fun h3 => ?_)
  · wtm_at "g_go"
    exact q1 (by unfold good; rw [decide_eq_false]; dsimp only; omega)
  wtm_at "g_go"
  rw [hg2]
  rename_i p4 dx4 H5 w5
  have o : Ok (a * 256 + b, c) := ⟨hc.1, by dsimp only; omega, by dsimp only; omega, by dsimp only; omega, h2⟩
  refine c_pf o w5 .here fun H6 w6 => ?_
  wtm_at "g_go"
  rename_i t7 H7 w7
  rw [hg3] at w7
  refine q2 (by unfold good; rw [decide_eq_true]; exact ⟨by dsimp only; omega, h2, by dsimp only; omega⟩) _ t7 (pr_in (p := p4) ?_)
  wtm_at "g_own"
end
section
variable {K : PySem.W.Frag} {mg : Str → Option Value} {base : Heap}
theorem w_leT2 {H : Hp} {Q : VK} {a b : Addr} {x1 x2 y1 y2 : Int} (h1 : SqT K H a [.int x1, .int x2]) (h2 : SqT K H b [.int y1, .int y2]) (q : Q (.bl (decide (x1 < y1 ∨ x1 = y1 ∧ x2 ≤ y2))) H) : rLeT K (.ref a) (.ref b) H Q := by
  refine ⟨a, b, [x1, x2], [y1, y2], rfl, rfl, h1, h2, ?_⟩
  have e : Ob.lexAt (fun j => decide ([x1, x2].getD j 0 = [y1, y2].getD j 0)) (fun j => decide ([x1, x2].getD j 0 ≤ [y1, y2].getD j 0)) (decide ([x1, x2].length ≤ [y1, y2].length)) 0 (min [x1, x2].length [y1, y2].length) = decide (x1 < y1 ∨ x1 = y1 ∧ x2 ≤ y2) := by
    show (if decide (x1 = y1) = true then (if decide (x2 = y2) = true then decide (2 ≤ 2) else decide (x2 ≤ y2)) else decide (x1 ≤ y1)) = _
    by_cases h : x1 = y1
    · rw [decide_eq_true h, if_pos rfl]
      by_cases h' : x2 = y2
      · rw [decide_eq_true h', if_pos rfl]
        exact (decide_eq_true (show x1 < y1 ∨ x1 = y1 ∧ x2 ≤ y2 from Or.inr ⟨h, by omega⟩)).symm
      · rw [decide_eq_false h', if_neg Bool.false_ne_true]
        exact decide_eq_decide.mpr (by omega)
    · rw [decide_eq_false h, if_neg Bool.false_ne_true]
      exact decide_eq_decide.mpr (by omega)
  rw [e]
  exact q
theorem rowAt_take {ys : List Int} : rowAt (ys.take 4) = rowAt ys := by
  unfold rowAt
  simp only [List.getD_eq_getElem?_getD, List.getElem?_take]
  rfl
theorem last_at' {α : Type} {as : List α} {a : α} (h : as.getLast? = some a) : as[as.length - 1]? = some a := by
  rw [← h, List.getLast?_eq_getElem?]
theorem oct_take {xs : List Int} (h : Oct xs) (i j : Nat) : Oct ((xs.drop i).take j) := fun x hx => h x (List.mem_of_mem_drop (List.mem_of_mem_take hx))
theorem rdL_no {n : Nat} {ys : List Int} {acc : List Rw} (h : good (rowAt ys) = false) : rdL (n + 1) ys acc = none := by
  rw [rdL, h]
  rfl
theorem rdL_no2 {n : Nat} {ys : List Int} {acc : List Rw} (h : aft acc.getLast? (rowAt ys) = false) : rdL (n + 1) ys acc = none := by
  rw [rdL, h, Bool.and_false]
  rfl
theorem rdL_yes {n : Nat} {ys : List Int} {acc : List Rw} (h : good (rowAt ys) = true) (h2 : aft acc.getLast? (rowAt ys) = true) : rdL (n + 1) ys acc = rdL n (ys.drop 4) (acc ++ [rowAt ys]) := by
  rw [rdL, h, h2]
  rfl
theorem pure_read_advert (T : TX K mg base) (vs : List V) (H : Hp) (Q : VK) (E : XK) (h : sp_read_advert K vs H Q E) : t_read_advert K E { nx := fun _ H' => Q .non H', rt := Q } (start N_read_advert vs) H := by
  obtain ⟨l, xs, R, rfl, ho, hl, w, g, q1, q2⟩ := h
  unfold t_read_advert
  wtm_at "g_go"
  refine if_d (fun h1 => ?_) (fun h1 => ?_)
  · wtm_at "g_go"
    exact q1 (by rw [rd, if_pos (by omega)]) _ w
  wtm_at "g_go"
  rename_i l2 H2 w2 H3 w3
  have hn0 : 0 ≤ numV (xs.take 2) := numV_nn fun x hx => ho x (List.mem_of_mem_take hx)
  have e2 : List.take (Int.toNat 2) xs = xs.take 2 := rfl
  rw [e2]
  refine if_nd (fun h3 => ?_) (fun h3 => ?_)
  · wtm_at "g_go"
    exact q1 (by rw [rd, if_neg (by omega)]; exact if_pos h3) _ (by wtm_at "g_own")
  have hrd : rd xs = rdL (numV (xs.take 2)).toNat (xs.drop 2) [] := by rw [rd, if_neg (by omega)]; exact if_neg (fun z => z h3)
  rw [hrd] at q1 q2
  obtain ⟨N, hN⟩ := Int.eq_ofNat_of_zero_le hn0
  rw [hN] at q1 q2 h3
  rw [Int.toNat_natCast] at q1 q2
  wtm_at "g_go"
  rename_i t H4 w4
  have w4 : Own (pt t (.lst []) :: R) H4 := by wtm_at "g_own"
  refine loop1 (n := N) (fun i σ H' => ∃ v3 v4 ts acc, σ = [some (.ref l), some (.int (numV (xs.take 2))), some (.ref t), v3, v4] ∧ acc.length = i ∧ rdL N (xs.drop 2) [] = rdL (N - i) (xs.drop (2 + 4 * i)) acc ∧ Own (pt t (.lst (ts.map V.ref)) :: big (PrP K) ts acc :: R) H') hN (by omega) ⟨_, _, [], [], rfl, rfl, rfl, Own.swap (Own.bigNil w4)⟩ ?_ ?_
  · rintro i σ H' hi ⟨v3, v4, ts, acc, rfl, hal, hr, w'⟩
    have hlen := w'.swap.bigLen
    have hNi : N - i = (N - (i + 1)) + 1 := by omega
    rw [hNi] at hr
    wtm_at "g_go"
    rename_i l5 H5 w5
    have hys : (xs.drop (2 + 4 * i)).length = xs.length - (2 + 4 * i) := List.length_drop ..
    have hsl : List.take ((2 + 4 * (i : Int) + 4) - (2 + 4 * (i : Int))).toNat (xs.drop (2 + 4 * (i : Int)).toNat) = (xs.drop (2 + 4 * i)).take 4 := by
      rw [show ((2 + 4 * (i : Int) + 4) - (2 + 4 * (i : Int))).toNat = 4 by omega, show (2 + 4 * (i : Int)).toNat = 2 + 4 * i by omega]
    rw [hsl] at w5
    have hl4 : ((xs.drop (2 + 4 * i)).take 4).length = 4 := by rw [List.length_take, hys]; omega
    generalize hgen : xs.drop (2 + 4 * i) = ys at *
    have hd : xs.drop (2 + 4 * (i + 1)) = ys.drop 4 := by rw [← hgen, List.drop_drop]; congr 1
    have ho4 : Oct (ys.take 4) := by rw [← hgen]; exact oct_take ho _ _
    refine ⟨l5, ys.take 4, _, rfl, hl4, ho4, w5, .here, fun hb H6 w6 => ?_, fun hb H6 t6 w6 => ?_⟩
    · rw [rowAt_take] at hb
      rw [rdL_no hb] at hr
      exact q1 hr _ (by wtm_at "g_own")
    rw [rowAt_take] at hb w6
    obtain ⟨p6, w7⟩ := pr_out w6
    have pack : ∀ H', Own (ro t6 (.tup [.ref p6, .int (rowAt ys).c]) :: PfP K p6 (rowAt ys).px :: pt l5 (.lst ((ys.take 4).map V.int)) :: pt t (.lst ((ts ++ [t6]).map V.ref)) :: big (PrP K) ts acc :: R) H' → Own (pt t (.lst ((ts ++ [t6]).map V.ref)) :: big (PrP K) (ts ++ [t6]) (acc ++ [rowAt ys]) :: R) H' := fun H' wz => by
      have w8 := pr_in wz
      have w9 : Own (big (PrP K) ts acc :: PrP K t6 (rowAt ys) :: pt t (.lst ((ts ++ [t6]).map V.ref)) :: R) H' := by wtm_at "g_own"
      exact w9.bigSnoc.swap
    wtm_at "g_go"
    refine if_d (fun h7 => ?_) (fun h7 => ?_)
    · obtain ⟨tl, htl⟩ : ∃ tl, ts.getLast? = some tl := by
        cases hz : ts.getLast? with
        | none => rw [List.getLast?_eq_none_iff] at hz; subst hz; simp at hlen; omega
        | some tl => exact ⟨tl, rfl⟩
      have htl2 := last_at' htl
      obtain ⟨rl, hrl⟩ := aol htl2 hlen
      have hal2 : acc.getLast? = some rl := by rw [List.getLast?_eq_getElem?, ← hlen]; exact hrl
      obtain ⟨pl, w8⟩ := pr_out ((w7.pick (P := big (PrP K) ts acc) (by wtm_at "g_pk")).bigAt htl2 hrl)
      wtm_at "g_go"
      rename_i H9 t9 w9 H10 t10 w10
      refine w_leT2 (SqT.of' (w10.get (t := by wtm_at "g_got"))) (SqT.of' (w10.get (t := by wtm_at "g_got"))) ?_
      wtm_at "g_go"
      refine if_d (fun h11 => ?_) (fun h11 => ?_)
      · wtm_at "g_go"
        have : aft acc.getLast? (rowAt ys) = false := by
          rw [hal2]
          exact decide_eq_false (by simp only at h11; omega)
        rw [rdL_no2 this] at hr
        exact q1 hr _ (by wtm_at "g_own")
      · wtm_at "g_go"
        rename_i H12 w12
        have : aft acc.getLast? (rowAt ys) = true := by
          rw [hal2]
          exact decide_eq_true (by simp only at h11; omega)
        rw [rdL_yes hb this, ← hd] at hr
        exact ⟨_, _, ts ++ [t6], acc ++ [rowAt ys], rfl, by rw [List.length_append, hal]; rfl, hr, pack _ (by wtm_at "g_own")⟩
    · wtm_at "g_go"
      rename_i H12 w12
      have : aft acc.getLast? (rowAt ys) = true := by
        have : acc = [] := List.length_eq_zero_iff.mp (by omega)
        rw [this]
        rfl
      rw [rdL_yes hb this, ← hd] at hr
      exact ⟨_, _, ts ++ [t6], acc ++ [rowAt ys], rfl, by rw [List.length_append, hal]; rfl, hr, pack _ (by wtm_at "g_own")⟩
  · rintro σ H' ⟨v3, v4, ts, acc, rfl, hal, hr, w'⟩
    wtm_at "g_go"
    rw [Nat.sub_self] at hr
    exact q2 acc hr _ t ts w'
end
section
variable {K : PySem.W.Frag} {mg : Str → Option Value} {base : Heap}
theorem rgC24 {N : Nat} (hN : N < 1000000) : RgC 2 (2 + 4 * (N : Int)) 4 N := by
  have e : Builtin.Range.rangeSize 2 (2 + 4 * (N : Int)) 4 = N := by
    unfold Builtin.Range.rangeSize
    rw [if_pos (by decide)]
    split <;> omega
  refine ⟨by omega, by omega, ?_, e⟩
  have f : ∀ z : Int, -4611686018427387904 ≤ z → z < 4611686018427387904 → Builtin.Range.rangeFitsLong z = true := fun z h1 h2 => by
    unfold Builtin.Range.rangeFitsLong
    rw [decide_eq_true (by omega), decide_eq_true (by omega)]
    rfl
  unfold Builtin.Range.small
  rw [e, f 2 (by omega) (by omega), f _ (by omega) (by omega), f 4 (by omega) (by omega), f _ (by omega) (by omega), if_pos (by decide), f _ (by omega) (by omega), Bool.or_true]
  rfl
theorem getD_drop {xs : List Int} {k j : Nat} : (xs.drop k).getD j 0 = xs.getD (k + j) 0 := by
  rw [List.getD_eq_getElem?_getD, List.getD_eq_getElem?_getD, List.getElem?_drop]
theorem oct_getD {xs : List Int} (h : Oct xs) (k : Nat) : 0 ≤ xs.getD k 0 ∧ xs.getD k 0 ≤ 255 := by
  rw [List.getD_eq_getElem?_getD]
  cases e : xs[k]? with
  | none => exact ⟨Int.le_refl _, by decide⟩
  | some x => exact h x (List.mem_of_getElem? e)
theorem dpAll_of {H : Hp} {α β : Type} {f : α → V} {g : β → PyData} : ∀ {as : List α} {bs : List β}, as.length = bs.length → (∀ (i : Nat) a b, as[i]? = some a → bs[i]? = some b → Dp K H (f a) (g b)) → DpAll K H (as.map f) (bs.map g)
  | [], [], _, _ => .nil
  | a :: as, b :: bs, e, h => .cons (h 0 a b rfl rfl) (dpAll_of (Nat.succ.inj e) fun i x y hx hy => h (i + 1) x y hx hy)
  | [], _ :: _, e, _ => nomatch e
  | _ :: _, [], e, _ => nomatch e
theorem dp_rw {H : Hp} {t : Addr} {r : Rw} (h : H t = some (.tup [.int r.b, .int r.l, .int r.c])) : Dp K H (.ref t) r.d := .tup (SqT.of' h) (.cons (.int _) (.cons (.int _) (.cons (.int _) .nil)))
theorem rows_dt {L : List HP} {H : Hp} {l : Addr} {c : Bool} {ts : List Addr} {rs : List Rw} (w : Own (cell c l (.lst (ts.map V.ref)) :: big RwP ts rs :: L) H) : Own (DT K (.ref l) (.list (rs.map Rw.d)) :: L) H :=
  w.join fun h1 h2 h s t p q H e => .lst (SqL.of (e _ _ _ (s _ _ p))) (dpAll_of (big_len_h q) fun i a b ha hb => by
    obtain ⟨g, s2, z⟩ := big_at_h q ha hb
    exact dp_rw (e _ _ _ (t _ _ (s2 _ _ z))))
theorem pure_law_expected (T : TX K mg base) (vs : List V) (H : Hp) (Q : VK) (E : XK) (h : sp_law_expected K vs H Q E) : t_law_expected K E { nx := fun _ H' => Q .non H', rt := Q } (start N_law_expected vs) H := by
  obtain ⟨l, xs, R, rfl, ho, hl, w, g, q⟩ := h
  have qn : rd xs = none → ∀ H', Own R H' → Q .non H' := fun e H' w' => q _ _ (by rw [e]; exact (Own.dtScalar (fun H => .non) w').dtRd)
  unfold t_law_expected
  wtm_at "g_go"
  refine if_d (fun h1 => ?_) (fun h1 => ?_)
  · wtm_at "g_go"
    exact qn (by rw [rd, if_pos (by omega)]) _ w
  wtm_at "g_go"
  have hn : numV (xs.take 2) = xs.getD 0 0 * 256 + xs.getD 1 0 := by
    match xs, h1 with
    | a :: b :: ys, _ => show (0 * 256 + a) * 256 + b = a * 256 + b; omega
    | [_], h1 => exact absurd (by simp) h1
    | [], h1 => exact absurd (by simp) h1
  have hg0 : xs.getD (Int.toNat 0) 0 = xs.getD 0 0 := rfl
  have hg1 : xs.getD (Int.toNat 1) 0 = xs.getD 1 0 := rfl
  rw [hg0, hg1]
  refine if_nd (fun h3 => ?_) (fun h3 => ?_)
  · wtm_at "g_go"
    exact qn (by rw [rd, if_neg (by omega)]; exact if_pos (by rw [hn]; exact h3)) _ w
  have hrd : rd xs = rdL (numV (xs.take 2)).toNat (xs.drop 2) [] := by rw [rd, if_neg (by omega)]; exact if_neg (fun z => z (by rw [hn]; exact h3))
  have hn0 : 0 ≤ numV (xs.take 2) := numV_nn fun x hx => ho x (List.mem_of_mem_take hx)
  obtain ⟨N, hN⟩ := Int.eq_ofNat_of_zero_le hn0
  rw [hN, Int.toNat_natCast] at hrd
  rw [← hn, hN] at h3
  wtm_at "g_go"
  rename_i t H4 w4
  rw [h3]
  refine ⟨2, 2 + 4 * (N : Int), 4, N, rfl, rgC24 (by omega), for_rangeC (lo := 2) (c := 4) (n := N) (fun i σ H' => ∃ v2 v3 v4 ts acc, σ = [some (.ref l), some (.ref t), v2, v3, v4] ∧ acc.length = i ∧ rdL N (xs.drop 2) [] = rdL (N - i) (xs.drop (2 + 4 * i)) acc ∧ Own (pt t (.lst (ts.map V.ref)) :: big RwP ts acc :: R) H') ⟨_, _, _, [], [], rfl, rfl, rfl, Own.swap (Own.bigNil w4)⟩ ?_ ?_⟩
  · rintro i σ H' hi ⟨v2, v3, v4, ts, acc, rfl, hal, hr, w'⟩
    have hlen := w'.swap.bigLen
    have hNi : N - i = (N - (i + 1)) + 1 := by omega
    rw [hNi] at hr
    have hx0 : xs.getD (2 + (i : Int) * 4).toNat 0 = (xs.drop (2 + 4 * i)).getD 0 0 := by rw [getD_drop]; congr 1; omega
    have hx1 : xs.getD (2 + (i : Int) * 4 + 1).toNat 0 = (xs.drop (2 + 4 * i)).getD 1 0 := by rw [getD_drop]; congr 1; omega
    have hx2 : xs.getD (2 + (i : Int) * 4 + 2).toNat 0 = (xs.drop (2 + 4 * i)).getD 2 0 := by rw [getD_drop]; congr 1; omega
    have hx3 : xs.getD (2 + (i : Int) * 4 + 3).toNat 0 = (xs.drop (2 + 4 * i)).getD 3 0 := by rw [getD_drop]; congr 1; omega
    have hoy : Oct (xs.drop (2 + 4 * i)) := fun x hx => ho x (List.mem_of_mem_drop hx)
    have hd : xs.drop (2 + 4 * (i + 1)) = (xs.drop (2 + 4 * i)).drop 4 := by rw [List.drop_drop]; congr 1
    generalize hgen : xs.drop (2 + 4 * i) = ys at *
    have o2 := oct_getD hoy 2
    have er : rowAt ys = ⟨ys.getD 0 0 * 256 + ys.getD 1 0, ys.getD 2 0, ys.getD 3 0⟩ := rfl
    wtm_at "g_go"
    rw [hx0, hx1]
    wtm_at "g_go"
    rw [hx2]
    generalize ys.getD 0 0 * 256 + ys.getD 1 0 = yb at *
    generalize ys.getD 2 0 = yl at *
    refine if_d (fun h5 => ?_) (fun h5 => ?_)
    · wtm_at "g_go"
      rw [rdL_no (by rw [er]; exact decide_eq_false (by dsimp only; omega))] at hr
      exact qn (hrd.trans hr) _ (by wtm_at "g_own")
    wtm_at "g_go"
    rename_i H6 w6
    refine w_I sn_pos ?_
    wtm_at "g_go"
    refine if_nd (fun h7 => ?_) (fun h7 => ?_)
    · wtm_at "g_go"
      rw [rdL_no (by rw [er]; exact decide_eq_false (by dsimp only; omega))] at hr
      exact qn (hrd.trans hr) _ (by wtm_at "g_own")
    wtm_at "g_go"
    rw [hx3]
    generalize ys.getD 3 0 = yc at *
    refine if_d (fun h8 => ?_) (fun h8 => ?_)
    · wtm_at "g_go"
      rw [rdL_no (by rw [er]; exact decide_eq_false (by dsimp only; omega))] at hr
      exact qn (hrd.trans hr) _ (by wtm_at "g_own")
    have hb : good (rowAt ys) = true := by rw [er]; exact decide_eq_true ⟨by dsimp only; omega, h7, by dsimp only; omega⟩
    have pack : ∀ H' t6, Own (pt t (.lst ((ts ++ [t6]).map V.ref)) :: ro t6 (.tup [.int yb, .int yl, .int yc]) :: big RwP ts acc :: R) H' → Own (pt t (.lst ((ts ++ [t6]).map V.ref)) :: big RwP (ts ++ [t6]) (acc ++ [rowAt ys]) :: R) H' := fun H' t6 wz => by
      have w9 : Own (big RwP ts acc :: RwP t6 (rowAt ys) :: pt t (.lst ((ts ++ [t6]).map V.ref)) :: R) H' := by
        rw [er]
        show Own (_ :: ro t6 (.tup [.int yb, .int yl, .int yc]) :: _) H'
        wtm_at "g_own"
      exact w9.bigSnoc.swap
    wtm_at "g_go"
    refine if_d (fun h9 => ?_) (fun h9 => ?_)
    · obtain ⟨tl, htl⟩ : ∃ tl, ts.getLast? = some tl := by
        cases hz : ts.getLast? with
        | none => rw [List.getLast?_eq_none_iff] at hz; subst hz; simp at h9
        | some tl => exact ⟨tl, rfl⟩
      have htl2 := last_at' htl
      obtain ⟨rl, hrl⟩ := aol htl2 hlen
      have hal2 : acc.getLast? = some rl := by rw [List.getLast?_eq_getElem?, ← hlen]; exact hrl
      have w8 : Own (ro tl (.tup [.int rl.b, .int rl.l, .int rl.c]) :: big RwP ts acc :: _) H6 := (w6.pick (P := big RwP ts acc) (by wtm_at "g_pk")).bigAt htl2 hrl
      wtm_at "g_go"
      rename_i t9 H9 w9 t10 H10 w10
      refine w_leT2 (SqT.of' (w10.get (t := by wtm_at "g_got"))) (SqT.of' (w10.get (t := by wtm_at "g_got"))) ?_
      wtm_at "g_go"
      refine if_d (fun h11 => ?_) (fun h11 => ?_)
      · wtm_at "g_go"
        have : aft acc.getLast? (rowAt ys) = false := by
          rw [hal2, er]
          exact decide_eq_false (by simp only at h11 ⊢; omega)
        rw [rdL_no2 this] at hr
        exact qn (hrd.trans hr) _ (by wtm_at "g_own")
      · wtm_at "g_go"
        rename_i t12 H12 w12 H13 w13
        rw [hx3] at w13
        have : aft acc.getLast? (rowAt ys) = true := by
          rw [hal2, er]
          exact decide_eq_true (by simp only at h11 ⊢; omega)
        rw [rdL_yes hb this, ← hd] at hr
        exact ⟨_, _, _, ts ++ [t12], acc ++ [rowAt ys], rfl, by rw [List.length_append, hal]; rfl, hr, pack _ t12 (by wtm_at "g_own")⟩
    · wtm_at "g_go"
      rename_i t12 H12 w12 H13 w13
      rw [hx3] at w13
      have : aft acc.getLast? (rowAt ys) = true := by
        have : acc = [] := List.length_eq_zero_iff.mp (by omega)
        rw [this]
        rfl
      rw [rdL_yes hb this, ← hd] at hr
      exact ⟨_, _, _, ts ++ [t12], acc ++ [rowAt ys], rfl, by rw [List.length_append, hal]; rfl, hr, pack _ t12 (by wtm_at "g_own")⟩
  · rintro σ H' ⟨v2, v3, v4, ts, acc, rfl, hal, hr, w'⟩
    wtm_at "g_go"
    rw [Nat.sub_self] at hr
    refine q _ _ ?_
    rw [hrd.trans hr]
    exact (rows_dt w').dtRd
theorem rdL_len : ∀ {n : Nat} {ys : List Int} {acc rs : List Rw}, rdL n ys acc = some rs → rs.length = acc.length + n
  | 0, ys, acc, rs, h => by cases h; rfl
  | n + 1, ys, acc, rs, h => by
    rw [rdL] at h
    split at h
    · have := rdL_len h
      rw [List.length_append] at this
      simp only [List.length_cons, List.length_nil] at this
      omega
    · cases h
theorem rd_len {xs : List Int} {rs : List Rw} (ho : Oct xs) (hl : xs.length ≤ 10000) (h : rd xs = some rs) : rs.length ≤ 1000000 := by
  have hn0 : 0 ≤ numV (xs.take 2) := numV_nn fun x hx => ho x (List.mem_of_mem_take hx)
  unfold rd at h
  split at h
  · cases h
  · split at h
    · cases h
    · have := rdL_len h
      simp only [List.length_nil] at this
      omega
theorem pure_law_read (T : TX K mg base) (vs : List V) (H : Hp) (Q : VK) (E : XK) (h : sp_law_read K vs H Q E) : t_law_read K E { nx := fun _ H' => Q .non H', rt := Q } (start N_law_read vs) H := by
  obtain ⟨l, xs, R, rfl, ho, hl, w, g, q⟩ := h
  unfold t_law_read
  wtm_at "g_go"
  refine ⟨l, xs, R, rfl, ho, hl, w, g, fun h1 H' w' => ⟨true, T.exm 0, fun _ x hx => ?_, fun z => Bool.noConfusion z⟩, fun rs hr H' t ts w' => ?_⟩
  · wtm_at "g_go"
    refine q _ _ ?_
    rw [h1]
    exact (Own.dtScalar (fun H => .non) w').dtRd
  · have hlen := w'.swap.bigLen
    have hrl : rs.length ≤ 1000000 := rd_len ho hl hr
    refine lcBig (F := PrP K) (xs := rs) (ps := ts) (l := t) (fun _ => true) (fun r => r) RwP hrl w' .here .here (fun i a r H1 X Y B0 B1 ha hr w1 h0 h1 => ?_) (fun D ts2 H1 w1 => ?_)
    · obtain ⟨p, w2⟩ := pr_out ((w1.pick (.next (.next (.next .here)))).bigAt ha hr)
      wtm_at "g_go"
      refine ⟨rfl, ?_⟩
      wtm_at "g_go"
      rename_i t3 H3 w3
      refine h1 rfl _ t3 (show Own (ro t3 (.tup [.int r.b, .int r.l, .int r.c]) :: _) H3 from ?_)
      wtm_at "g_own"
    · rw [filter_tt, List.map_id'] at w1
      refine q _ _ ?_
      rw [hr]
      exact (rows_dt (c := false) (l := D) (ts := ts2) (rs := rs) (L := R) (by wtm_at "g_own")).dtRd
end
section
variable {K : PySem.W.Frag} {mg : Str → Option Value} {base : Heap}
def kd (x : Px) : PyData := .tuple ([x.1, x.2].map PyData.int)
theorem any_eqv {x : Px} : ∀ ks : List Px, (ks.map kd).any (fun z => PyData.eqv z (kd x)) = decide (x ∈ ks)
  | [] => by simp
  | y :: ks => by
    rw [List.map_cons, List.any_cons, any_eqv ks]
    have e : PyData.eqv (kd y) (kd x) = decide (y = x) := by
      show PyData.eqvAll ([y.1, y.2].map PyData.int) ([x.1, x.2].map PyData.int) = _
      rw [eqv_ints]
      refine decide_eq_decide.mpr ⟨fun h => ?_, fun h => by rw [h]⟩
      obtain ⟨y1, y2⟩ := y
      obtain ⟨x1, x2⟩ := x
      simp only [List.cons.injEq, and_true] at h
      rw [h.1, h.2]
    rw [e]
    by_cases h : y = x
    · subst h; simp
    · rw [decide_eq_false h, Bool.false_or]
      refine decide_eq_decide.mpr ?_
      rw [List.mem_cons]
      exact ⟨fun h2 => .inr h2, fun h2 => h2.resolve_left fun z => h z.symm⟩
theorem kds_shaped {ks : List Px} : SeqAt.shaped (.list (ks.map kd)) = true := shaped_lm (fun x _ => by
  have h := lay_ints [x.1, x.2]
  exact h) fun x _ => by
  have h := depth_ints [x.1, x.2]
  unfold kd
  simp only [PyData.depth, h]
  decide
theorem kd_dp {H : Hp} {t : Addr} {x : Px} (h : H t = some (.tup [.int x.1, .int x.2])) : Dp K H (.ref t) (kd x) := .tup (SqT.of' h) (dp_ints [x.1, x.2])
theorem tell_ky {t : Addr} {x : Px} : Tell (KyP t x) (fun H => H t = some (.tup [.int x.1, .int x.2])) := fun h q H e => e _ _ _ q
/-- claims that are only read, in another order -/
theorem Own.bigOf {β : Type} {F : Addr → β → HP} [rc : ∀ x y, Ro (F x y)] {as : List Addr} {bs : List β} {L : List HP} {H : Hp} {h : Addr → β} : ∀ {ts : List Addr}, (∀ t ∈ ts, ∃ i : Nat, as[i]? = some t ∧ bs[i]? = some (h t)) → Own (big F as bs :: L) H → Own (big F ts (ts.map h) :: big F as bs :: L) H
  | [], _, w => w.bigNil
  | t :: ts, hs, w => by
    obtain ⟨i, h1, h2⟩ := hs t List.mem_cons_self
    have ih := Own.bigOf (fun u hu => hs u (List.mem_cons_of_mem _ hu)) w
    exact Own.bigCons (Own.sel (ih.swap.bigAt h1 h2) (Sel.cons .here (Sel.cons (.next .here) .rf)))
def kOf (H : Hp) (v : V) : Int × Int := match v with
  | .ref t => match H t with
    | some (.tup [.int a, .int b]) => (a, b)
    | _ => (0, 0)
  | _ => (0, 0)
theorem pure_law_rows (T : TX K mg base) (vs : List V) (H : Hp) (Q : VK) (E : XK) (h : sp_law_rows K vs H Q E) : t_law_rows K E { nx := fun _ H' => Q .non H', rt := Q } (start N_law_rows vs) H := by
  obtain ⟨s, R, rfl, w, q⟩ := h
  unfold t_law_rows
  wtm_at "g_go"
  rename_i kl H1 w1 d H2 d0 d1 w2
  obtain ⟨N, rfl⟩ := Int.eq_ofNat_of_zero_le d0
  have w2 : Own (pt kl (.lst (([] : List Addr).map V.ref)) :: Drw s :: R) H2 := by wtm_at "g_ow"
  refine loop1 (n := N) (fun i σ H' => ∃ v2 v3 v4 v5 ts ks, σ = [some (.ref s), some (.ref kl), v2, v3, v4, v5] ∧ ks.length ≤ i ∧ ks.Nodup ∧ (∀ x ∈ ks, Ok x) ∧ Own (pt kl (.lst (ts.map V.ref)) :: big KyP ts ks :: Drw s :: R) H') rfl (by omega) ⟨_, _, _, _, [], [], rfl, Nat.le_refl _, List.nodup_nil, (fun x hx => by cases hx), Own.swap (Own.bigNil w2)⟩ ?_ ?_
  · rintro i σ H' hi ⟨v2, v3, v4, v5, ts, ks, rfl, hl, hnd, hok, w'⟩
    have hlen := w'.swap.bigLen
    wtm_at "g_go"
    rename_i l H3 l0 l1 w3 a H4 a0 a1 w4 H5 w5
    refine w_I sn_pos ?_
    wtm_at "g_go"
    rename_i t H6 w6
    have hmod : (a - a % sn l) = (a - a % sn l) := rfl
    have hokk := of_ok l0 (by omega : l ≤ 16) a0 (by omega : a < 65536)
    generalize (a - a % sn l) = b at *
    have hkd : Dp K H6 (.ref t) (kd (b, l)) := kd_dp (w6.get (t := by wtm_at "g_got"))
    have w7 : Own (pt kl (.lst (ts.map V.ref)) :: big KyP ts ks :: KyP t (b, l) :: Drw s :: R) H6 := by
      show Own (_ :: _ :: ro t (.tup [.int b, .int l]) :: _) H6
      wtm_at "g_own"
    have hks : Dp K H6 (.ref kl) (.list (ks.map kd)) := .lst (SqL.of w7.get') (dpAll_of hlen fun i a x ha hx => kd_dp (w7.swap.bigTell ha hx tell_ky))
    refine ⟨_, _, hkd, hks, shaped_ti, kds_shaped, ?_⟩
    rw [any_eqv]
    wtm_at "g_go"
    refine if_nd (fun hin => ?_) (fun hin => ?_)
    · wtm_at "g_go"
      rename_i H8 w8
      have w9 : Own (big KyP ts ks :: KyP t (b, l) :: pt kl (.lst ((ts ++ [t]).map V.ref)) :: Drw s :: R) H8 := by wtm_at "g_own"
      refine ⟨_, _, _, _, ts ++ [t], ks ++ [(b, l)], rfl, by rw [List.length_append]; simp only [List.length_cons, List.length_nil]; omega, ?_, ?_, w9.bigSnoc.swap⟩
      · rw [List.nodup_append]
        exact ⟨hnd, by simp, fun x hx y hy e => hin (by rw [List.mem_singleton] at hy; rw [← hy, ← e]; exact hx)⟩
      · intro x hx
        rcases List.mem_append.mp hx with hx | hx
        · exact hok x hx
        · rw [List.mem_singleton.mp hx]
          exact hokk
    · wtm_at "g_go"
      exact ⟨_, _, _, _, ts, ks, rfl, by omega, hnd, hok, by wtm_at "g_own"⟩
  · rintro σ H' ⟨v2, v3, v4, v5, ts, ks, rfl, hl, hnd, hok, w'⟩
    have hlen := w'.swap.bigLen
    have hat : ∀ (i : Nat) t x, ts[i]? = some t → ks[i]? = some x → H' t = some (.tup [.int x.1, .int x.2]) := fun i t x h1 h2 => w'.swap.bigTell h1 h2 tell_ky
    have hk : ∀ (i : Nat) t x, ts[i]? = some t → ks[i]? = some x → kOf H' (.ref t) = x := fun i t x h1 h2 => by
      unfold kOf
      dsimp only
      rw [hat i t x h1 h2]
    have hks : ks = ts.map (fun t => kOf H' (.ref t)) := by
      refine List.ext_getElem? fun i => ?_
      rw [List.getElem?_map]
      cases h1 : ts[i]? with
      | none => rw [List.getElem?_eq_none_iff] at h1; rw [List.getElem?_eq_none_iff.mpr (by omega)]; rfl
      | some t =>
        obtain ⟨x, hx⟩ := aol h1 hlen
        rw [hx]
        exact congrArg some (hk i t x h1 hx).symm
    wtm_at "g_go"
    refine ⟨kl, ts.map V.ref, kOf H', rfl, by wtm_at "g_sq", fun x hx => ?_, fun ys p srt stb hp => ?_⟩
    · obtain ⟨t, ht, rfl⟩ := List.mem_map.mp hx
      obtain ⟨i, hi⟩ := List.getElem?_of_mem ht
      obtain ⟨x, hx⟩ := aol hi hlen
      refine ⟨t, rfl, ?_⟩
      rw [hk i t x hi hx]
      exact hat i t x hi hx
    have w3 := w'.new (o := .lst ys) hp
    have hys : ∃ ts2 : List Addr, ys = ts2.map V.ref ∧ ts2.Perm ts := by
      refine ⟨ys.map (fun v => match v with | .ref a => a | _ => 0), ?_, ?_⟩
      · rw [List.map_map]
        refine (List.map_id ys).symm.trans (List.map_congr_left fun v hv => ?_)
        obtain ⟨t, _, rfl⟩ := List.mem_map.mp (stb.perm.mem_iff.mp hv)
        rfl
      · have := stb.perm.map (fun v => match v with | .ref a => a | _ => 0)
        rw [List.map_map] at this
        refine this.trans ?_
        have e : ts.map ((fun v => match v with | V.ref a => a | _ => 0) ∘ V.ref) = ts := List.map_id ts
        rw [e]
    obtain ⟨ts2, rfl, hperm⟩ := hys
    have w4 := Own.bigOf (F := KyP) (h := fun t => kOf H' (.ref t)) (ts := ts2) (fun t ht => by
      obtain ⟨i, hi⟩ := List.getElem?_of_mem (hperm.mem_iff.mp ht)
      obtain ⟨x, hx⟩ := aol hi hlen
      exact ⟨i, hi, by rw [hx, hk i t x hi hx]⟩) (w3.pick (P := big KyP ts ks) (.next (.next .here)))
    have hp2 : (ts2.map (fun t => kOf H' (.ref t))).Perm ks := by rw [hks]; exact hperm.map _
    have hsrt : (ts2.map (fun t => kOf H' (.ref t))).Pairwise (fun x y => SrtO.lexB y x = false) := by
      rw [List.pairwise_map]
      exact List.pairwise_map.mp srt
    have hnd2 := hp2.nodup_iff.mpr hnd
    have hok2 : ∀ x ∈ ts2.map (fun t => kOf H' (.ref t)), Ok x := fun x hx => hok x (hp2.mem_iff.mp hx)
    have hl2 := hp2.length_eq
    generalize ts2.map (fun t => kOf H' (.ref t)) = ks2 at *
    clear hks hk hat
    refine lcBig (F := KyP) (xs := ks2) (ps := ts2) (l := p) (fun _ => true) (fun x => ⟨x.1, x.2, (x.1 * 7 + x.2 + (ts.length : Nat)) % 17⟩) RwP (by omega) w4 (by wtm_at "g_pk") (by wtm_at "g_pk") (fun i a x H1 X Y B0 B1 ha hx w5 h0 h1 => ?_) (fun D ts3 H5 w5 => ?_)
    · have w6 : Own (ro a (.tup [.int x.1, .int x.2]) :: big KyP ts2 ks2 :: X :: Y :: _) H1 := (w5.pick (.next (.next (.next .here)))).bigAt ha hx
      wtm_at "g_go"
      refine ⟨wipe1, ?_⟩
      wtm_at "g_go"
      rename_i t7 H7 w7
      refine h1 rfl _ t7 (show Own (ro t7 (.tup [.int x.1, .int x.2, .int ((x.1 * 7 + x.2 + (ts.length : Nat)) % 17)]) :: _) H7 from ?_)
      wtm_at "g_own"
    · rw [filter_tt] at w5
      refine q _ D ts3 _ ?_ (Own.sel w5 (Sel.cons .here (Sel.cons (by wtm_at "g_pk") (Sel.cons (by wtm_at "g_pk") (by wtm_at "g_sel")))))
      refine ⟨fun r hr => ?_, ?_, by rw [List.length_map]; omega⟩
      · obtain ⟨x, hx, rfl⟩ := List.mem_map.mp hr
        exact ⟨hok2 x hx, Int.emod_nonneg _ (by decide), by have := Int.emod_lt_of_pos (x.1 * 7 + x.2 + (ts.length : Nat)) (b := 17) (by decide); dsimp only; omega⟩
      · rw [List.pairwise_map]
        refine (hsrt.and hnd2).imp fun {x y} ⟨h1, h2⟩ => ?_
        have h3 : ¬ (y.1 < x.1 ∨ y.1 = x.1 ∧ y.2 < x.2) := fun z => by
          rw [SrtO.lexB] at h1
          split at h1
          · have := of_decide_eq_false h1
            omega
          · have := of_decide_eq_false h1
            omega
        have h4 : ¬ (x.1 = y.1 ∧ x.2 = y.2) := fun ⟨a, b⟩ => h2 (Prod.ext a b)
        dsimp only
        omega
end
section
variable {K : PySem.W.Frag} {mg : Str → Option Value} {base : Heap}
theorem oct_app {a b : List Int} (h1 : Oct a) (h2 : Oct b) : Oct (a ++ b) := fun x hx => (List.mem_append.mp hx).elim (h1 x) (h2 x)
theorem oct_tk {a : List Int} (h : Oct a) (i : Nat) : Oct (a.take i) := fun x hx => h x (List.mem_of_mem_take hx)
theorem oct_dr {a : List Int} (h : Oct a) (i : Nat) : Oct (a.drop i) := fun x hx => h x (List.mem_of_mem_drop hx)
theorem oct_1 {o : Int} (h0 : 0 ≤ o) (h1 : o ≤ 255) : Oct [o] := fun x hx => by rw [List.mem_singleton.mp hx]; exact ⟨h0, h1⟩
theorem cut_ints {xs : List Int} {lo hi : Option Int} : ∃ i j, cutV (xs.map V.int) lo hi = ((xs.drop i).take j).map V.int := ⟨_, _, by unfold cutV; rw [List.map_take, List.map_drop]⟩
theorem pure_law_twisted (T : TX K mg base) (vs : List V) (H : Hp) (Q : VK) (E : XK) (h : sp_law_twisted K vs H Q E) : t_law_twisted K E { nx := fun _ H' => Q .non H', rt := Q } (start N_law_twisted vs) H := by
  obtain ⟨s, l, xs, R, rfl, ho, hl, w, g, q⟩ := h
  have g2 : GotL K R l (xs.map V.int) := fun h s H e => SqL.of (g h s H e)
  unfold t_law_twisted
  wtm_at "g_go"
  rename_i a H1 a0 a1 w1 tp H3 w3 d H4 d0 d1 w4
  obtain ⟨o, hoo, o0, o1⟩ : ∃ o : Int, atI [V.int 0, V.int 1, V.int 2, V.int 15, V.int 16, V.int 17, V.int 128, V.int 255] d = some (.int o) ∧ 0 ≤ o ∧ o ≤ 255 := by
    have : d = 0 ∨ d = 1 ∨ d = 2 ∨ d = 3 ∨ d = 4 ∨ d = 5 ∨ d = 6 ∨ d = 7 := by omega
    rcases this with rfl | rfl | rfl | rfl | rfl | rfl | rfl | rfl
    · exact ⟨0, rfl, by decide, by decide⟩
    · exact ⟨1, rfl, by decide, by decide⟩
    · exact ⟨2, rfl, by decide, by decide⟩
    · exact ⟨15, rfl, by decide, by decide⟩
    · exact ⟨16, rfl, by decide, by decide⟩
    · exact ⟨17, rfl, by decide, by decide⟩
    · exact ⟨128, rfl, by decide, by decide⟩
    · exact ⟨255, rfl, by decide, by decide⟩
  refine w_ixT (xs := [V.int 0, V.int 1, V.int 2, V.int 15, V.int 16, V.int 17, V.int 128, V.int 255]) (by wtm_at "g_sqt") hoo ?_
  wtm_at "g_go"
  refine if_d (fun h1 => ?_) (fun h1 => ?_)
  · wtm_at "g_go"
    refine q _ _ (xs.take a.toNat ++ [o] ++ xs.drop a.toNat) (oct_app (oct_app (oct_tk ho _) (oct_1 o0 o1)) (oct_dr ho _)) (by simp; omega) ?_
    wtm_at "g_own"
  wtm_at "g_go"
  refine if_d (fun h2 => ?_) (fun h2 => ?_)
  · wtm_at "g_go"
    refine q _ _ (xs.take a.toNat ++ xs.drop (a + 1).toNat) (oct_app (oct_tk ho _) (oct_dr ho _)) (by simp; omega) ?_
    wtm_at "g_own"
  wtm_at "g_go"
  refine if_d (fun h3 => ?_) (fun h3 => ?_)
  · wtm_at "g_go"
    refine q _ _ (xs ++ (xs.drop (Int.toNat 2)).take (Int.toNat (6 - 2))) (oct_app ho (oct_tk (oct_dr ho _) _)) (by rw [List.length_append, List.length_take]; show xs.length + min 4 _ ≤ _; omega) ?_
    wtm_at "g_own"
  wtm_at "g_go"
  have fin : ∀ H5 c', Own (pt c' (.lst ((xs.take a.toNat ++ [o] ++ xs.drop (a + 1).toNat).map V.int)) :: Drw s :: R) H5 → Q (.ref c') H5 := fun H5 c' w5 => q _ c' (xs.take a.toNat ++ [o] ++ xs.drop (a + 1).toNat) (oct_app (oct_app (oct_tk ho _) (oct_1 o0 o1)) (oct_dr ho _)) (by simp; omega) w5
  refine if_d (fun h4 => ?_) (fun h4 => ?_)
  · wtm_at "g_go"
    refine if_d (fun h5 => ?_) (fun h5 => ?_)
    · wtm_at "g_go"
      rename_i l5 H5 w5
      refine w_slL (w5.sql (by wtm_at "g_gl")) fun l6 hp6 => ?_
      obtain ⟨i, j, ec⟩ := cut_ints (xs := xs) (lo := some ((xs.length : Int) - 4)) (hi := none)
      have w6 := w5.new (o := .lst (cutV (xs.map V.int) (some ((xs.length : Int) - 4)) none)) hp6
      rw [ec] at w6 ⊢
      wtm_at "g_go"
      rename_i l7 H7 w7
      refine q _ _ _ (oct_app ?_ (oct_tk (oct_dr ho i) j)) ?_ (by wtm_at "g_own")
      · exact oct_app (oct_app (oct_tk ho _) (oct_1 (by omega) (by omega))) (oct_dr ho _)
      · simp only [List.length_append, List.length_take, List.length_drop, List.length_cons, List.length_nil]
        show min 1 xs.length + _ + (xs.length - 2) + _ ≤ _
        omega
    · wtm_at "g_go"
      exact fin _ _ (by wtm_at "g_own")
  · wtm_at "g_go"
    exact fin _ _ (by wtm_at "g_own")
theorem rowAt_enc {r : Rw} {ys : List Int} (h : Ok r.px) : rowAt (encR r ++ ys) = r := by
  have h1 : 0 ≤ r.b := h.2.2.1
  have h2 : r.b < 65536 := h.2.2.2.1
  obtain ⟨b, l, c⟩ := r
  show (⟨b / 256 % 256 * 256 + b % 256, l, c⟩ : Rw) = ⟨b, l, c⟩
  dsimp only at h1 h2
  congr 1
  omega
theorem good_ok {r : Rw} (h : Ok r.px) (h2 : r.c ≤ 16) : good r = true := decide_eq_true ⟨h.2.1, h.2.2.2.2, h2⟩
theorem rdL_enc : ∀ (rs acc : List Rw), (∀ r ∈ rs, Ok r.px ∧ 0 ≤ r.c ∧ r.c ≤ 16) → (acc ++ rs).Pairwise (fun p r => p.b < r.b ∨ p.b = r.b ∧ p.l < r.l) → rdL rs.length ((rs.map encR).flatten) acc = some (acc ++ rs)
  | [], acc, _, _ => by rw [List.append_nil]; rfl
  | r :: rs, acc, hok, hasc => by
    obtain ⟨h1, h2, h3⟩ := hok r List.mem_cons_self
    rw [List.map_cons, List.flatten_cons, List.length_cons, rdL_yes (by rw [rowAt_enc h1]; exact good_ok h1 h3) ?_, rowAt_enc h1]
    · have e : (encR r ++ (rs.map encR).flatten).drop 4 = (rs.map encR).flatten := rfl
      rw [e, rdL_enc rs (acc ++ [r]) (fun x hx => hok x (List.mem_cons_of_mem _ hx)) (by rw [List.append_assoc]; exact hasc), List.append_assoc]
      rfl
    · rw [rowAt_enc h1]
      cases hz : acc.getLast? with
      | none => rfl
      | some p =>
        have hp := List.mem_of_getLast? hz
        rw [List.pairwise_append] at hasc
        exact decide_eq_true (hasc.2.2 p hp r List.mem_cons_self)
theorem rd_enc {rs : List Rw} (h : OkR rs) : rd (enc rs) = some rs := by
  have hl := h.len
  have hel : (enc rs).length = 2 + 4 * rs.length := by
    unfold enc
    rw [List.length_append, encs_len]
    rfl
  have h2 : (enc rs).take 2 = two (rs.length : Nat) := rfl
  have h3 : (enc rs).drop 2 = (rs.map encR).flatten := rfl
  have hn : numV (two (rs.length : Nat)) = (rs.length : Nat) := by
    show (0 * 256 + (rs.length : Int) / 256 % 256) * 256 + (rs.length : Int) % 256 = _
    omega
  unfold rd
  rw [h2, h3, hn, if_neg (by omega), if_neg (by omega), Int.toNat_natCast, rdL_enc rs [] h.ok h.asc]
  rfl
theorem oct_enc {rs : List Rw} (h : OkR rs) : Oct (enc rs) := by
  have hl := h.len
  refine oct_app (fun x hx => ?_) fun x hx => ?_
  · simp only [two, List.mem_cons, List.not_mem_nil, or_false] at hx
    rcases hx with rfl | rfl <;> omega
  · obtain ⟨l, hl, hx⟩ := List.mem_flatten.mp hx
    obtain ⟨r, hr, rfl⟩ := List.mem_map.mp hl
    obtain ⟨h1, h2, h3⟩ := h.ok r hr
    have h4 : 0 ≤ r.l := h1.1
    have h5 : r.l ≤ 16 := h1.2.1
    simp only [encR, two, List.mem_cons, List.mem_append, List.not_mem_nil, or_false] at hx
    rcases hx with (rfl | rfl) | rfl | rfl <;> omega
theorem rw_shaped {rs : List Rw} : SeqAt.shaped (.list (rs.map Rw.d)) = true := shaped_lm (fun r _ => by simp [Rw.d, PyData.canLay0, PyData.canLayAll0]) fun r _ => by simp [Rw.d, PyData.depth, PyData.depthAll]
theorem dO_shaped : ∀ r : Option (List Rw), SeqAt.shaped (dO r) = true
  | none => by decide +kernel
  | some r => rw_shaped
/-- a row as pair and cost -/
def ppD (r : Rw) : PyData := .tuple [.tuple [.int r.b, .int r.l], .int r.c]
def PpP (t : Addr) (r : Rw) : HP := hex fun u : Addr => stars [ro t (.tup [.ref u, .int r.c]), ro u (.tup [.int r.b, .int r.l])]
instance {t : Addr} {r : Rw} : Ro (PpP t r) := by unfold PpP; infer_instance
theorem tell_pp {t : Addr} {r : Rw} : Tell (PpP t r) (fun H => Dp K H (.ref t) (ppD r)) := fun h ⟨u, h1, h2, d, s1, s2, p, h3, h4, _, s3, _, q, _⟩ H e => .tup (SqT.of' (e _ _ _ (s1 _ _ p))) (.cons (.tup (SqT.of' (e _ _ _ (s2 _ _ (s3 _ _ q)))) (.cons (.int _) (.cons (.int _) .nil))) (.cons (.int _) .nil))
theorem pps_shaped {rs : List Rw} : SeqAt.shaped (.list (rs.map ppD)) = true := shaped_lm (fun r _ => by simp [ppD, PyData.canLay0, PyData.canLayAll0]) fun r _ => by simp [ppD, PyData.depth, PyData.depthAll]
theorem pps_dp {L : List HP} {H : Hp} {l : Addr} {c : Bool} {ts : List Addr} {rs : List Rw} (w : Own (cell c l (.lst (ts.map V.ref)) :: big PpP ts rs :: L) H) : Dp K H (.ref l) (.list (rs.map ppD)) :=
  .lst (SqL.of w.get') (dpAll_of w.swap.bigLen fun i a b ha hb => w.swap.bigTell ha hb tell_pp)
theorem rws_dp {L : List HP} {H : Hp} {l : Addr} {c : Bool} {ts : List Addr} {rs : List Rw} (w : Own (cell c l (.lst (ts.map V.ref)) :: big RwP ts rs :: L) H) : Dp K H (.ref l) (.list (rs.map Rw.d)) := (rows_dt w).dp
theorem c_exp {L R : List HP} {H : Hp} {Q : VK} {E : XK} {l : Addr} {xs : List Int} (ho : Oct xs) (hl : xs.length ≤ 10000) (w : Own R H) (g : GotL K R l (xs.map V.int)) (k : ∀ H' v, Own (Rd (DT K v (dO (rd xs))) :: R) H' → Q v H') : sp_law_expected K [.ref l] H Q E := ⟨l, xs, R, rfl, ho, hl, w, g, k⟩
theorem c_oct {L R : List HP} {H : Hp} {Q : VK} {E : XK} {l : Addr} {ts : List Addr} {rs : List Rw} (h : OkR rs) (w : Own L H) (p1 : Pick L (pt l (.lst (ts.map V.ref))) R) (p2 : Pick R (big RwP ts rs) L1) (k : ∀ H' t, Own (pt t (.lst ((enc rs).map V.int)) :: pt l (.lst (ts.map V.ref)) :: big RwP ts rs :: L1) H' → Q (.ref t) H') : sp_law_octets K [.ref l] H Q E := ⟨l, ts, rs, L1, rfl, h, w.take2 p1 p2, k⟩
theorem pure_law_round (T : TX K mg base) (vs : List V) (H : Hp) (Q : VK) (E : XK) (h : sp_law_round K vs H Q E) : t_law_round K E { nx := fun _ H' => Q .non H', rt := Q } (start N_law_round vs) H := by
  obtain ⟨s, R, rfl, w, q⟩ := h
  unfold t_law_round
  wtm_at "g_go"
  refine ⟨s, R, rfl, w, fun H1 rl ts rs hrs w1 => ?_⟩
  have hlr := hrs.len
  have hoc := oct_enc hrs
  have hel : (enc rs).length = 2 + 4 * rs.length := by
    unfold enc
    rw [List.length_append, encs_len]
    rfl
  wtm_at "g_go"
  refine lcBig (F := RwP) (xs := rs) (ps := ts) (l := rl) (fun _ => true) (fun r => r) (PrP K) (by omega) w1 .here .here (fun i a r H2 X Y B0 B1 ha hr w2 h0 h1 => ?_) (fun gl ts2 H2 w2 => ?_)
  · have w3 : Own (ro a (.tup [.int r.b, .int r.l, .int r.c]) :: big RwP ts rs :: X :: Y :: _) H2 := (w2.pick (.next (.next (.next .here)))).bigAt ha hr
    have hok : Ok (r.b, r.l) := (hrs.ok r (List.mem_of_getElem? hr)).1
    wtm_at "g_go"
    refine ⟨wipe1, ?_⟩
    wtm_at "g_go"
    rename_i p4 dx4 H4 w4 H5 w5 t6 H6 w6
    refine h1 rfl _ t6 (pr_in (p := p4) ?_)
    show Own (_ :: PfP K p4 (r.b, r.l) :: _) H6
    wtm_at "g_own"
  rw [filter_tt, List.map_id'] at w2
  wtm_at "g_go"
  refine ⟨gl, ts2, rs, _, rfl, hlr, w2, fun H3 o w3 => ?_⟩
  wtm_at "g_go"
  refine c_oct (L := _) (ts := ts) (rs := rs) hrs w3 (by wtm_at "g_pk") (by wtm_at "g_pk") fun H4 o4 w4 => ?_
  refine w_neLI (xs := enc rs) (ys := enc rs) (by wtm_at "g_sq") (by wtm_at "g_sq") ?_
  rw [decide_eq_true rfl]
  wtm_at "g_go"
  refine lcBig (F := PrP K) (xs := rs) (ps := ts2) (l := gl) (fun _ => true) (fun r => r) PpP (by omega) w4 (by wtm_at "g_pk") (by wtm_at "g_pk") (fun i a r H2 X Y B0 B1 ha hr w2 h0 h1 => ?_) (fun l5 ts5 H5 w5 => ?_)
  · obtain ⟨p, w3⟩ := pr_out ((w2.pick (.next (.next (.next .here)))).bigAt ha hr)
    wtm_at "g_go"
    refine ⟨wipe1, ?_⟩
    wtm_at "g_go"
    rename_i H4 u4 w4 t5 H5 w5
    refine h1 rfl _ t5 (Own.exi u4 (Own.fold (L := [_, _]) ?_))
    show Own (ro t5 (.tup [.ref u4, .int r.c]) :: ro u4 (.tup [.int r.px.1, .int r.px.2]) :: X :: Y :: _) H5
    wtm_at "g_own"
  rw [filter_tt, List.map_id'] at w5
  wtm_at "g_go"
  refine lcBig (F := RwP) (xs := rs) (ps := ts) (l := rl) (fun _ => true) (fun r => r) PpP (by omega) w5 (by wtm_at "g_pk") (by wtm_at "g_pk") (fun i a r H2 X Y B0 B1 ha hr w2 h0 h1 => ?_) (fun l6 ts6 H6 w6 => ?_)
  · have w3 : Own (ro a (.tup [.int r.b, .int r.l, .int r.c]) :: big RwP ts rs :: X :: Y :: _) H2 := (w2.pick (.next (.next (.next .here)))).bigAt ha hr
    wtm_at "g_go"
    refine ⟨wipe1, ?_⟩
    wtm_at "g_go"
    refine k_slT (ys := [.int r.b, .int r.l]) w3 .here rfl rfl fun u4 H4 w4 => ?_
    wtm_at "g_go"
    rename_i t5 H5 w5
    refine h1 rfl _ t5 (Own.exi u4 (Own.fold (L := [_, _]) ?_))
    show Own (ro t5 (.tup [.ref u4, .int r.c]) :: ro u4 (.tup [.int r.b, .int r.l]) :: X :: Y :: _) H5
    wtm_at "g_own"
  rw [filter_tt, List.map_id'] at w6
  refine w_neS' (d := .list (rs.map ppD)) (pps_dp (c := false) (l := l5) (ts := ts5) (rs := rs) (L := R) (by wtm_at "g_own")) (pps_dp w6) pps_shaped ?_
  have w7 : Own (pt o (.lst ((enc rs).map V.int)) :: pt rl (.lst (ts.map V.ref)) :: big RwP ts rs :: Drw s :: R) H6 := by wtm_at "g_own"
  clear w6 w5 w4 w3 w2 w1
  wtm_at "g_go"
  refine c_exp (L := []) hoc (by omega) w7 .here fun H8 v8 w8 => ?_
  wtm_at "g_go"
  have hd8 := w8.ent (GotD.hereR)
  rw [rd_enc hrs] at hd8
  refine w_neS' (d := .list (rs.map Rw.d)) hd8 (rws_dp (c := false) (l := rl) (ts := ts) (rs := rs) (L := R) (by wtm_at "g_own")) rw_shaped ?_
  wtm_at "g_go"
  refine c_oct (L := _) (ts := ts) (rs := rs) hrs w8 (by wtm_at "g_pk") (by wtm_at "g_pk") fun H9 o9 w9 => ?_
  refine w_neLI (xs := enc rs) (ys := enc rs) (by wtm_at "g_sq") (by wtm_at "g_sq") ?_
  rw [decide_eq_true rfl]
  wtm_at "g_go"
  have w10 : Own (Drw s :: pt o (.lst ((enc rs).map V.int)) :: R) H9 := by wtm_at "g_own"
  refine ⟨s, o, enc rs, _, rfl, hoc, by omega, w10, .here, fun H11 t11 y11 o11 n11 w11 => ?_⟩
  wtm_at "g_go"
  rename_i c H12 c0 c1 w12
  obtain ⟨cm, rfl⟩ := Int.eq_ofNat_of_zero_le c0
  refine lcDrawO (n := cm) (m := 3) w12 .here rfl (by omega) (by decide) ?_ (mono_digit (K := K) mono_var mono_c) ?_
  · intro i H1 n1 hs
    exact ⟨.ref s, rfl, s, n1, 3, rfl, hs, by decide, by decide, fun d n' d0 d1 => ⟨d, n', rfl, d0, d1, rfl⟩⟩
  intro sm ds H13 hdl hds w13
  have hods : Oct ds := fun x hx => by have := hds x hx; omega
  wtm_at "g_go"
  have w14 := w13.pick (P := Drw s) (by wtm_at "g_pk")
  refine ⟨s, t11, y11, _, rfl, o11, by omega, w14, by wtm_at "g_got", fun H15 t15 y15 o15 n15 w15 => ?_⟩
  wtm_at "g_go"
  rename_i t16 H16 w16
  generalize hL : (ro t16 (.tup [.ref t11, .ref t15, .ref sm]) :: _ : List HP) = L at w16
  have hT : Got L t16 (.tup [.ref t11, .ref t15, .ref sm]) := by rw [← hL]; exact Got.here
  have g5 : GotL K L t11 (y11.map V.int) := by rw [← hL]; wtm_at "g_gl"
  have g6 : GotL K L t15 (y15.map V.int) := by rw [← hL]; wtm_at "g_gl"
  have g7 : GotL K L sm (ds.map V.int) := by rw [← hL]; wtm_at "g_gl"
  have hR : Sel L R := by rw [← hL]; wtm_at "g_sel"
  clear hL w15 w14 w13 w12 w11 w10 w9 w8 w7
  refine loopT (xs := [.ref t11, .ref t15, .ref sm]) (fun i σ H' => ∃ v1 v2 v3 v4 v5 v6 v7 v8 v9, σ = [some (.ref s), v1, v2, v3, v4, v5, v6, v7, v8, v9] ∧ Own L H') (SqT.of' (w16.get hT)) ⟨_, _, _, _, _, _, _, _, _, rfl, w16⟩ ?_ ?_ ?_
  · rintro i σ H' hi ⟨v1, v2, v3, v4, v5, v6, v7, v8, v9, rfl, w'⟩
    exact SqT.of' (w'.get hT)
  · rintro i x σ H' hx ⟨v1, v2, v3, v4, v5, v6, v7, v8, v9, rfl, w'⟩
    obtain ⟨l, zs, rfl, hg, hoz, hlz⟩ : ∃ (l : Addr) (zs : List Int), x = .ref l ∧ GotL K L l (zs.map V.int) ∧ Oct zs ∧ zs.length ≤ 10000 := by
      match i, hx with
      | 0, rfl => exact ⟨t11, y11, rfl, g5, o11, by omega⟩
      | 1, rfl => exact ⟨t15, y15, rfl, g6, o15, by omega⟩
      | 2, rfl => exact ⟨sm, ds, rfl, g7, hods, by omega⟩
    wtm_at "g_go"
    refine c_exp (L := []) hoz hlz w' hg fun H2 va w2 => ?_
    wtm_at "g_go"
    refine c_exp (L := []) hoz hlz w2 (.next hg) fun H3 vb w3 => ?_
    refine w_neS' (d := dO (rd zs)) (w3.ent (GotD.next GotD.hereR)) (w3.ent GotD.hereR) (dO_shaped _) ?_
    wtm_at "g_go"
    exact ⟨_, _, _, _, _, _, _, _, _, rfl, w3.tail.tail⟩
  · rintro σ H' ⟨v1, v2, v3, v4, v5, v6, v7, v8, v9, rfl, w'⟩
    wtm_at "g_go"
    exact q _ (w'.sel hR)
theorem pure_law (T : TX K mg base) (vs : List V) (H : Hp) (Q : VK) (E : XK) (h : sp_law K vs H Q E) : t_law K E { nx := fun _ H' => Q .non H', rt := Q } (start N_law vs) H := by
  obtain ⟨a, ns, rfl, w, q⟩ := h
  unfold t_law
  wtm_at "g_go"
  obtain ⟨N, hN, hN2⟩ : ∃ N : Nat, (if (1 : Int) + ((ns.length : Nat) : Int) < 40 then (1 : Int) + ((ns.length : Nat) : Int) else 40) = (N : Int) ∧ N ≤ 40 := ⟨(if (1 : Int) + ((ns.length : Nat) : Int) < 40 then (1 : Int) + ((ns.length : Nat) : Int) else 40).toNat, by split <;> omega, by split <;> omega⟩
  refine loop1 (n := N) (fun i σ H' => ∃ v1, σ = [some (.ref a), v1] ∧ Own [ScP K a (ns.map V.int)] H') hN (by omega) ⟨_, rfl, w⟩ ?_ ?_
  · rintro i σ H1 hi ⟨v1, rfl, w1⟩
    wtm_at "g_go"
    rename_i n st HH ww
    refine ⟨st, _, rfl, ww, fun H' w' => ?_⟩
    wtm_at "g_go"
    exact ⟨_, rfl, w'⟩
  · rintro σ H1 ⟨v1, rfl, w1⟩
    wtm_at "g_go"
    exact q _
end
end K76

namespace K76
open PySem PySem.Spec PyProof.Rows L2 G
section
variable {P : Program} {w : World} {K : PySem.W.Frag} {mg : Str → Option Value} {base : Heap}

theorem len_write_number {K : PySem.W.Frag} : ∀ vs H Q E, sp_write_number K vs H Q E → vs.length = (P_write_number : List Str).length := by
  intro vs H Q E h
  repeat first | (obtain ⟨rfl, _⟩ := h; rfl) | obtain ⟨_, h⟩ := h
theorem has_write_number (T : TX K mg base) : Has P w K mg base 1 "write_number" P_write_number (sp_write_number K) :=
  mk_has (T.glo 16) (T.says.def_ 0) sc_write_number (fun _ _ _ _ _ _ us hl => match us, hl with | [_, _], _ => rfl) len_write_number
    fun cdv A outer s H vs Q E hr h => ⟨t_write_number K E, d_write_number T  hr, pure_write_number T vs H Q E h⟩

theorem len_read_number {K : PySem.W.Frag} : ∀ vs H Q E, sp_read_number K vs H Q E → vs.length = (P_read_number : List Str).length := by
  intro vs H Q E h
  repeat first | (obtain ⟨rfl, _⟩ := h; rfl) | obtain ⟨_, h⟩ := h
theorem has_read_number (T : TX K mg base) : Has P w K mg base 1 "read_number" P_read_number (sp_read_number K) :=
  mk_has (T.glo 17) (T.says.def_ 1) sc_read_number (fun _ _ _ _ _ _ us hl => match us, hl with | [_], _ => rfl) len_read_number
    fun cdv A outer s H vs Q E hr h => ⟨t_read_number K E, d_read_number T  hr, pure_read_number T vs H Q E h⟩

theorem len_span_of {K : PySem.W.Frag} : ∀ vs H Q E, sp_span_of K vs H Q E → vs.length = (P_span_of : List Str).length := by
  intro vs H Q E h
  repeat first | (obtain ⟨rfl, _⟩ := h; rfl) | obtain ⟨_, h⟩ := h
theorem has_span_of (T : TX K mg base) : Has P w K mg base 1 "span_of" P_span_of (sp_span_of K) :=
  mk_has (T.glo 18) (T.says.def_ 2) sc_span_of (fun _ _ _ _ _ _ us hl => match us, hl with | [_], _ => rfl) len_span_of
    fun cdv A outer s H vs Q E hr h => ⟨t_span_of K E, d_span_of T  hr, pure_span_of T vs H Q E h⟩

theorem len_Prefix_init {K : PySem.W.Frag} : ∀ vs H Q E, sp_Prefix_init K vs H Q E → vs.length = (P_Prefix_init : List Str).length := by
  intro vs H Q E h
  repeat first | (obtain ⟨rfl, _⟩ := h; rfl) | obtain ⟨_, h⟩ := h
theorem has_Prefix_init (T : TX K mg base) : HasI P w K mg base 2 "Prefix" P_Prefix_init (sp_Prefix_init K) :=
  mk_hasI (T.glo 19) (T.mkr 20) (T.says.def_ 3) sc_Prefix_init (fun _ _ _ _ _ _ us hl => match us, hl with | [_, _, _], _ => rfl) len_Prefix_init
    fun cdv A outer s H vs Q E hr h => ⟨t_Prefix_init K E, d_Prefix_init T (has_span_of T) hr, pure_Prefix_init T vs H Q E h⟩

theorem len_Prefix_pair {K : PySem.W.Frag} : ∀ vs H Q E, sp_Prefix_pair K vs H Q E → vs.length = (P_Prefix_pair : List Str).length := by
  intro vs H Q E h
  repeat first | (obtain ⟨rfl, _⟩ := h; rfl) | obtain ⟨_, h⟩ := h
theorem has_Prefix_pair (T : TX K mg base) : HasM P w K mg base 1 "Prefix" "pair" P_Prefix_pair (sp_Prefix_pair K) :=
  mk_hasM (T.cls 21) (T.meth 22) (T.says.def_ 4) sc_Prefix_pair (fun _ _ _ _ _ _ us hl => match us, hl with | [_], _ => rfl) len_Prefix_pair
    fun cdv A outer s H vs Q E hr h => ⟨t_Prefix_pair K E, d_Prefix_pair T  hr, pure_Prefix_pair T vs H Q E h⟩

theorem len_write_advert {K : PySem.W.Frag} : ∀ vs H Q E, sp_write_advert K vs H Q E → vs.length = (P_write_advert : List Str).length := by
  intro vs H Q E h
  repeat first | (obtain ⟨rfl, _⟩ := h; rfl) | obtain ⟨_, h⟩ := h
theorem has_write_advert (T : TX K mg base) : Has P w K mg base 2 "write_advert" P_write_advert (sp_write_advert K) :=
  mk_has (T.glo 23) (T.says.def_ 5) sc_write_advert (fun _ _ _ _ _ _ us hl => match us, hl with | [_], _ => rfl) len_write_advert
    fun cdv A outer s H vs Q E hr h => ⟨t_write_advert K E, d_write_advert T (has_write_number T) hr, pure_write_advert T vs H Q E h⟩

theorem len_read_row {K : PySem.W.Frag} : ∀ vs H Q E, sp_read_row K vs H Q E → vs.length = (P_read_row : List Str).length := by
  intro vs H Q E h
  repeat first | (obtain ⟨rfl, _⟩ := h; rfl) | obtain ⟨_, h⟩ := h
theorem has_read_row (T : TX K mg base) : Has P w K mg base 4 "read_row" P_read_row (sp_read_row K) :=
  mk_has (T.glo 24) (T.says.def_ 6) sc_read_row (fun _ _ _ _ _ _ us hl => match us, hl with | [_], _ => rfl) len_read_row
    fun cdv A outer s H vs Q E hr h => ⟨t_read_row K E, d_read_row T (has_read_number T) (has_span_of T) (has_Prefix_init T) hr, pure_read_row T vs H Q E h⟩

theorem len_read_advert {K : PySem.W.Frag} : ∀ vs H Q E, sp_read_advert K vs H Q E → vs.length = (P_read_advert : List Str).length := by
  intro vs H Q E h
  repeat first | (obtain ⟨rfl, _⟩ := h; rfl) | obtain ⟨_, h⟩ := h
theorem has_read_advert (T : TX K mg base) : Has P w K mg base 5 "read_advert" P_read_advert (sp_read_advert K) :=
  mk_has (T.glo 25) (T.says.def_ 7) sc_read_advert (fun _ _ _ _ _ _ us hl => match us, hl with | [_], _ => rfl) len_read_advert
    fun cdv A outer s H vs Q E hr h => ⟨t_read_advert K E, d_read_advert T (has_read_number T) (has_read_row T) (has_Prefix_pair T) hr, pure_read_advert T vs H Q E h⟩

theorem len_law_span {K : PySem.W.Frag} : ∀ vs H Q E, sp_law_span K vs H Q E → vs.length = (P_law_span : List Str).length := by
  intro vs H Q E h
  repeat first | (obtain ⟨rfl, _⟩ := h; rfl) | obtain ⟨_, h⟩ := h
theorem has_law_span (T : TX K mg base) : Has P w K mg base 1 "_law_span" P_law_span (sp_law_span K) :=
  mk_has (T.glo 26) (T.says.def_ 8) sc_law_span (fun _ _ _ _ _ _ us hl => match us, hl with | [_], _ => rfl) len_law_span
    fun cdv A outer s H vs Q E hr h => ⟨t_law_span K E, d_law_span T  hr, pure_law_span T vs H Q E h⟩

theorem len_law_cell {K : PySem.W.Frag} : ∀ vs H Q E, sp_law_cell K vs H Q E → vs.length = (P_law_cell : List Str).length := by
  intro vs H Q E h
  repeat first | (obtain ⟨rfl, _⟩ := h; rfl) | obtain ⟨_, h⟩ := h
theorem has_law_cell (T : TX K mg base) : Has P w K mg base 1 "_law_cell" P_law_cell (sp_law_cell K) :=
  mk_has (T.glo 27) (T.says.def_ 9) sc_law_cell (fun _ _ _ _ _ _ us hl => match us, hl with | [_, _], _ => rfl) len_law_cell
    fun cdv A outer s H vs Q E hr h => ⟨t_law_cell K E, d_law_cell T  hr, pure_law_cell T vs H Q E h⟩

theorem len_law_start {K : PySem.W.Frag} : ∀ vs H Q E, sp_law_start K vs H Q E → vs.length = (P_law_start : List Str).length := by
  intro vs H Q E h
  repeat first | (obtain ⟨rfl, _⟩ := h; rfl) | obtain ⟨_, h⟩ := h
theorem has_law_start (T : TX K mg base) : Has P w K mg base 1 "_law_start" P_law_start (sp_law_start K) :=
  mk_has (T.glo 28) (T.says.def_ 10) sc_law_start (fun _ _ _ _ _ _ us hl => match us, hl with | [_, _], _ => rfl) len_law_start
    fun cdv A outer s H vs Q E hr h => ⟨t_law_start K E, d_law_start T  hr, pure_law_start T vs H Q E h⟩

theorem len_law_digit {K : PySem.W.Frag} : ∀ vs H Q E, sp_law_digit K vs H Q E → vs.length = (P_law_digit : List Str).length := by
  intro vs H Q E h
  repeat first | (obtain ⟨rfl, _⟩ := h; rfl) | obtain ⟨_, h⟩ := h
theorem has_law_digit (T : TX K mg base) : Has P w K mg base 1 "_law_digit" P_law_digit (sp_law_digit K) :=
  mk_has (T.glo 29) (T.says.def_ 11) sc_law_digit (fun _ _ _ _ _ _ us hl => match us, hl with | [_, _], _ => rfl) len_law_digit
    fun cdv A outer s H vs Q E hr h => ⟨t_law_digit K E, d_law_digit T  hr, pure_law_digit T vs H Q E h⟩

theorem len_law_rows {K : PySem.W.Frag} : ∀ vs H Q E, sp_law_rows K vs H Q E → vs.length = (P_law_rows : List Str).length := by
  intro vs H Q E h
  repeat first | (obtain ⟨rfl, _⟩ := h; rfl) | obtain ⟨_, h⟩ := h
theorem has_law_rows (T : TX K mg base) : Has P w K mg base 2 "_law_rows" P_law_rows (sp_law_rows K) :=
  mk_has (T.glo 30) (T.says.def_ 12) sc_law_rows (fun _ _ _ _ _ _ us hl => match us, hl with | [_], _ => rfl) len_law_rows
    fun cdv A outer s H vs Q E hr h => ⟨t_law_rows K E, d_law_rows T (has_law_digit T) (has_law_span T) hr, pure_law_rows T vs H Q E h⟩

theorem len_law_octets {K : PySem.W.Frag} : ∀ vs H Q E, sp_law_octets K vs H Q E → vs.length = (P_law_octets : List Str).length := by
  intro vs H Q E h
  repeat first | (obtain ⟨rfl, _⟩ := h; rfl) | obtain ⟨_, h⟩ := h
theorem has_law_octets (T : TX K mg base) : Has P w K mg base 1 "_law_octets" P_law_octets (sp_law_octets K) :=
  mk_has (T.glo 31) (T.says.def_ 13) sc_law_octets (fun _ _ _ _ _ _ us hl => match us, hl with | [_], _ => rfl) len_law_octets
    fun cdv A outer s H vs Q E hr h => ⟨t_law_octets K E, d_law_octets T  hr, pure_law_octets T vs H Q E h⟩

theorem len_law_expected {K : PySem.W.Frag} : ∀ vs H Q E, sp_law_expected K vs H Q E → vs.length = (P_law_expected : List Str).length := by
  intro vs H Q E h
  repeat first | (obtain ⟨rfl, _⟩ := h; rfl) | obtain ⟨_, h⟩ := h
theorem has_law_expected (T : TX K mg base) : Has P w K mg base 2 "_law_expected" P_law_expected (sp_law_expected K) :=
  mk_has (T.glo 32) (T.says.def_ 14) sc_law_expected (fun _ _ _ _ _ _ us hl => match us, hl with | [_], _ => rfl) len_law_expected
    fun cdv A outer s H vs Q E hr h => ⟨t_law_expected K E, d_law_expected T (has_law_span T) hr, pure_law_expected T vs H Q E h⟩

theorem len_law_read {K : PySem.W.Frag} : ∀ vs H Q E, sp_law_read K vs H Q E → vs.length = (P_law_read : List Str).length := by
  intro vs H Q E h
  repeat first | (obtain ⟨rfl, _⟩ := h; rfl) | obtain ⟨_, h⟩ := h
theorem has_law_read (T : TX K mg base) : Has P w K mg base 6 "_law_read" P_law_read (sp_law_read K) :=
  mk_has (T.glo 33) (T.says.def_ 15) sc_law_read (fun _ _ _ _ _ _ us hl => match us, hl with | [_], _ => rfl) len_law_read
    fun cdv A outer s H vs Q E hr h => ⟨t_law_read K E, d_law_read T (has_read_advert T) hr, pure_law_read T vs H Q E h⟩

theorem len_law_twisted {K : PySem.W.Frag} : ∀ vs H Q E, sp_law_twisted K vs H Q E → vs.length = (P_law_twisted : List Str).length := by
  intro vs H Q E h
  repeat first | (obtain ⟨rfl, _⟩ := h; rfl) | obtain ⟨_, h⟩ := h
theorem has_law_twisted (T : TX K mg base) : Has P w K mg base 2 "_law_twisted" P_law_twisted (sp_law_twisted K) :=
  mk_has (T.glo 34) (T.says.def_ 16) sc_law_twisted (fun _ _ _ _ _ _ us hl => match us, hl with | [_, _], _ => rfl) len_law_twisted
    fun cdv A outer s H vs Q E hr h => ⟨t_law_twisted K E, d_law_twisted T (has_law_digit T) hr, pure_law_twisted T vs H Q E h⟩

theorem len_law_round {K : PySem.W.Frag} : ∀ vs H Q E, sp_law_round K vs H Q E → vs.length = (P_law_round : List Str).length := by
  intro vs H Q E h
  repeat first | (obtain ⟨rfl, _⟩ := h; rfl) | obtain ⟨_, h⟩ := h
theorem has_law_round (T : TX K mg base) : Has P w K mg base 7 "_law_round" P_law_round (sp_law_round K) :=
  mk_has (T.glo 35) (T.says.def_ 17) sc_law_round (fun _ _ _ _ _ _ us hl => match us, hl with | [_], _ => rfl) len_law_round
    fun cdv A outer s H vs Q E hr h => ⟨t_law_round K E, d_law_round T (has_law_rows T) (has_Prefix_init T) (has_write_advert T) (has_law_octets T) (has_Prefix_pair T) (has_law_read T) (has_law_twisted T) (has_law_digit T) (has_law_expected T) hr, pure_law_round T vs H Q E h⟩

theorem len_law {K : PySem.W.Frag} : ∀ vs H Q E, sp_law K vs H Q E → vs.length = (P_law : List Str).length := by
  intro vs H Q E h
  repeat first | (obtain ⟨rfl, _⟩ := h; rfl) | obtain ⟨_, h⟩ := h
theorem has_law (T : TX K mg base) : Has P w K mg base 8 "law" P_law (sp_law K) :=
  mk_has (T.glo 36) (T.says.def_ 18) sc_law (fun _ _ _ _ _ _ us hl => match us, hl with | [_], _ => rfl) len_law
    fun cdv A outer s H vs Q E hr h => ⟨t_law K E, d_law T (has_law_round T) (has_law_start T) (has_law_cell T) hr, pure_law T vs H Q E h⟩

theorem ok_law (T : TX K mg base) {fd : FuncData} (F : FunD K "law" "law" (defArgs s_law) (defBody s_law) (defScope s_law) [] [] (He.ga K "law") fd) : FnOk P w K mg base (L2.CX P w) 8 (He.ga K "law") fd P_law (sp_law K) :=
  FunD.ok (CX := L2.CX P w) F sc_law len_law fun cdv A outer s H vs Q E hr h => ⟨t_law K E, d_law T (has_law_round T) (has_law_start T) (has_law_cell T) hr, pure_law T vs H Q E h⟩

end

abbrev R : PySem.W.OpenRow := PySem.W.OpenLaw.row PySem.Challenge.rw_throughway_k76_adverts_in_octets
abbrev hk : PySem.W.Hook := hookB 5 fa fn pr ex
def ob (s : PySem.W.SharedT) : AlB := obsBG 5 fa fn pr ex (HandSHeadRun.getT s)
theorem ob_eq (s : PySem.W.SharedT) : ob s = hk.obs s.abs := obsBG_eq (HandSHeadRun.getT_eq s)
def names : List PySem.Str := (["_wall", "ThroughwayError", "InvalidPrefix", "InvalidAdvert", "write_number", "read_number", "span_of", "Prefix", "write_advert", "read_row", "read_advert", "_law_span", "_law_cell", "_law_start", "_law_digit", "_law_rows", "_law_octets", "_law_expected", "_law_read", "_law_twisted", "_law_round", "BITS", "ADDRESSES", "SPANS", "FAR", "HEAD", "ROW"] : List PySem.Str)
theorem run (w : World) : HandSHeadRun.RunEq R (PySem.W.view R.prog [32]) hk ob 4000 names w := by
  intro os
  kernel_rfl
end K76

open PySem PySem.W PySem.Calls PyProof.Rows
theorem PySem.Challenge.cw_throughway_k76_adverts_in_octets_holds : PySem.Challenge.rw_throughway_k76_adverts_in_octets.Holds := by
  w_on; o_law
  refine HandSHeadRun.head_any (r := OpenLaw.row PySem.Challenge.rw_throughway_k76_adverts_in_octets) (q := view (OpenLaw.row PySem.Challenge.rw_throughway_k76_adverts_in_octets).prog [32]) (H := K76.hk) (ob := K76.ob) (M := 4000) (loose := K76.names) (d := HandSHeadRun.topDef (OpenLaw.row PySem.Challenge.rw_throughway_k76_adverts_in_octets).prog 32) (kwd := []) K76.ob_eq
    (by kernel_rfl) (fun s => by kernel_rfl) K76.run (by kernel_rfl) (by kernel_rfl) (by kernel_rfl) (by rfl) (by first | assumption | decide +kernel) (by decide +kernel) ⟨rfl, rfl, rfl, rfl, rfl, by decide +kernel⟩ ?hw ?hc
  case hw => w_witness2
  case hc =>
    refine G.walk_ofEB (l := PySem.Challenge.rw_throughway_k76_adverts_in_octets) (n := 63) (k := 8) (x := "script") (CX := fun w => L2.CX (PySem.Challenge.rw_throughway_k76_adverts_in_octets).prog w) rfl (by decide) (by kernel_rfl) ⟨rfl, by decide, by decide⟩ ?F ?X
    case X =>
      intro w H s e s' z
      obtain ⟨_, _, _, _, _, _, _, _, _, _, _, _, z⟩ := z
      exact z.elim
    case F =>
      intro w mg fa h Y G hmg0
      obtain ⟨K, KX, c⟩ := Y
      have hmg : mg ("law" : PySem.Str) = some (.ref fa) := by
        have e : (HandSHeadRun.topDef (OpenLaw.row PySem.Challenge.rw_throughway_k76_adverts_in_octets).prog 32).name = ("law" : PySem.Str) := by kernel_rfl
        rw [← e]
        exact hmg0
      obtain ⟨fd, FD⟩ := He.SaysD.def_ c.d 18 (d := K76.D_law) rfl
      have b := L2.FunD.bindsA (ps := ["script"]) FD fun _ _ _ _ _ _ us hl => match us, hl with | [_], _ => rfl
      have eg : fa = He.ga K "law" := by
        have e := hmg.symm.trans (He.glo_ok KX G (He.SaysD.fact c.d 36 (f := .glo "law") rfl))
        cases e
        rfl
      subst eg
      exact ⟨K, fd, K76.sp_law K, KX, fun s v => b s [v] rfl, fun H a ns hl hb hO hS => K76.law_start hl hb hO hS, fun base kin hns => K76.ok_law ⟨⟨kin, hns, c.d⟩, c⟩ FD⟩
