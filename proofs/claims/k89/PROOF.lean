import PyProof.Rows.All
import Wide.All
import OpenK.AllK
import Wide.FinOn
import HandS.ForMost
import HandS.ForExc
import HandS.Wide
import HandS.Steps
import HandS.Evl
import HandS.Defaults
import HandS.IsInst
import HandS.Head0
import HandS.Head1
import HandS.Head2
import HandS.HeadEnd
import HandS.EndBits
import HandS.HeadHook1
import HandS.HeadHook2
import HandS.Property
import HandS.OwnEq
import HandS.ExcIs
import HandS.DeepEq
import HandS.HeadHook4
import HandS.TupLe
import HandS.Walk
import KE.KIndexOf
import HandS.Strs
import HandS.Dict
import HandS.MakeKwOnly
import PyProof.Rows.ChunkEnd
import HandS.Flow
import PySem.Challenge.RW_throughway_k89_lines_keep_their_rules
set_option Elab.async false
set_option linter.all false
set_option maxRecDepth 100000
set_option maxHeartbeats 4000000
/-! My own words over the hand layer: a def of the module, a method, a class, by names (Has, HasM, HasI); their calls; readings step by step. -/
namespace G
open PySem PySem.Spec PyProof.Rows L2
/-- a step that needs nothing: found by the head of the goal -/
class Stp (P : Prop) (Q : outParam Prop) : Prop where
  go : Q → P

/-! ### a call that may let an exception out, at the slots -/
section
variable {X : Cx} {k : Nat} {f C : Addr} {fd : FuncData} {ps : List Str} {sp : Sp} {E : L2.St → XK} {x m : Str} {p pos apos : Pos} {e o : Expr} {es : List Expr} {ta : TE} {t : TA}
abbrev XC (X : Cx) : CXT := L2.CX X.prog X.w
/-- nothing is let out -/
theorem passZ (σ : L2.St) : PassesAt (XC X) X σ E0 := fun _ _ _ _ _ _ c => by
  obtain ⟨_, _, _, _, _, _, _, _, _, _, _, _, z⟩ := c
  exact z.elim
theorem pe_callS0 (F : FnOk X.prog X.w X.K X.mg X.base (XC X) k f fd ps sp) (hr : Room k X.A) (hg : Gl X x) (hm : X.mg x = some (.ref f)) (hk : PySem.W.keepIn X.K (.ref f) = true) (hb : Binds X.K fd ps []) (hx : ∀ σ, PassesAt (XC X) X σ (E σ))
    (hdb : (x == ("__debug__" : Str)) = false := by decide) : PE X (.Call (.Name x p) [] [] pos) (tCallS sp E tNil) := by
  refine ⟨fun pz s σ H Q I h => ?_⟩
  refine wpAny_Call_Name_kw ?_
  refine ld_glob I hg hm ?_ hdb
  exact PySem.W.callWith_K0 I.kIn hk (run_fnS (us := []) F hr hb (hx σ) I .nil h)
/-- o.m(..) -/
def tMt (C : Addr) (m : Str) (sp : Sp) (E : L2.St → XK) (ta : TE) (t : TA) : TE := fun σ H Q => ta σ H fun x H1 => ∃ a dx fs, x = .ref a ∧ H1 a = some (.ins C dx fs) ∧ fs.lookup m = none ∧
  t σ H1 fun vs H2 => sp (x :: vs) H2 Q (E σ)
theorem pe_mt {pl : Sem Bool} (he : PE X o ta) (c : Cls X.K C) (hm : Meth X.K C m f) (F : FnOk X.prog X.w X.K X.mg X.base (XC X) k f fd ps sp) (hr : Room k X.A) (hb : Binds X.K fd ps []) (hx : ∀ σ, PassesAt (XC X) X σ (E σ)) (ha : PA X (e :: es) t)
    (hst : starEach (e :: es) X.env = (false, eval e X.env) :: starEach es X.env := by rfl) (hpl : (backTo pos (starEach es X.env)).any (·.1) = false := by rfl)
    (ht : eval (.Call (.Attribute o m apos) (e :: es) [] pos) X.env = (do
      let ov ← eval o X.env
      standAt apos.atName
      let (f, first) ← holding [ov] (getMethod ov m pl)
      callWith pos f first (backTo pos (starEach (e :: es) X.env)) (backToKw pos (keywordEach [] X.env))) := by rfl) :
    PE X (.Call (.Attribute o m apos) (e :: es) [] pos) (tMt C m sp E ta t) := by
  refine ⟨fun pz s σ H Q I h => ?_⟩
  refine PySem.W.methodCall_KW (pl := pl) (thn (he.run pz s σ H _ I h) fun u z1 ⟨x, H1, J1, rq, a, dx, fs, ex, ea, l, q⟩ => ?_) ht
  subst ex
  obtain rfl : u = Value.ref a := rq
  refine getmeth_ok J1 ea c hm l ?_
  refine PySem.W.callWith_K (first := [.ref a]) (h₀ := X.base) I.ok.mod.kin hm.kp (thn (ha.run pos pz z1 σ H1 _ J1 q) fun us s2 ⟨vs, H2, J2, r, qb⟩ => ⟨J2.kIn, ?_⟩) hst hpl
  exact run_fnS (us := .ref a :: us) (vs := .ref a :: vs) F hr hb (hx σ) J2 (.cons rfl r) qb
theorem pe_mt0 {pl : Sem Bool} (he : PE X o ta) (c : Cls X.K C) (hm : Meth X.K C m f) (F : FnOk X.prog X.w X.K X.mg X.base (XC X) k f fd ps sp) (hr : Room k X.A) (hb : Binds X.K fd ps []) (hx : ∀ σ, PassesAt (XC X) X σ (E σ))
    (ht : eval (.Call (.Attribute o m apos) [] [] pos) X.env = (do
      let ov ← eval o X.env
      standAt apos.atName
      let (f, first) ← holding [ov] (getMethod ov m pl)
      callWith pos f first (backTo pos (starEach [] X.env)) (backToKw pos (keywordEach [] X.env))) := by rfl) :
    PE X (.Call (.Attribute o m apos) [] [] pos) (tMt C m sp E ta tNil) := by
  refine ⟨fun pz s σ H Q I h => ?_⟩
  refine PySem.W.methodCall_KW (pl := pl) (thn (he.run pz s σ H _ I h) fun u z1 ⟨x, H1, J1, rq, a, dx, fs, ex, ea, l, q⟩ => ?_) ht
  subst ex
  obtain rfl : u = Value.ref a := rq
  refine getmeth_ok J1 ea c hm l ?_
  exact PySem.W.callWith_K0 (first := [.ref a]) J1.kIn hm.kp (run_fnS (us := [.ref a]) (vs := [.ref a]) F hr hb (hx σ) J1 (.cons rfl .nil) q)
/-- C(..) -/
def tMk (C : Addr) (sp : Sp) (E : L2.St → XK) (t : TA) : TE := fun σ H Q => t σ H fun vs H1 => ∀ x dx, H1 x = none → H1 dx = none → dx ≠ x →
  sp (.ref x :: vs) (upd (upd H1 dx (.own x)) x (.ins C dx [])) (fun v H2 => v = .non ∧ Q (.ref x) H2) (E σ)
theorem run_mk {pz : List (Addr × Obj)} {σ : L2.St} {H : Hp} {s : Shared} {Q : VK} {us : List Value} {vs : List V} (M : Mk X.K C f) (F : FnOk X.prog X.w X.K X.mg X.base (XC X) k f fd ps sp) (hr : Room (k + 1) X.A) (hb : Binds X.K fd ps [])
    (hx : PassesAt (XC X) X σ (E σ)) (I : Inv X pz σ H s) (r : Vals vs us)
    (h : ∀ x dx, H x = none → H dx = none → dx ≠ x → sp (.ref x :: vs) (upd (upd H dx (.own x)) x (.ins C dx [])) (fun v H2 => v = .non ∧ Q (.ref x) H2) (E σ)) :
    wpAny (model X.prog X.w) X.A (call (.ref C) us) (EP X pz σ Q) X.xe s := by
  have hqa := h (s.heap.objs.size + 1) s.heap.objs.size (I.hok.fresh (Nat.le_succ _)) (I.hok.fresh (Nat.le_refl _)) (Nat.ne_of_lt (Nat.lt_succ_self _))
  have J2 := Inv.made (C := C) I
  have rr2 : Vals (V.ref (s.heap.objs.size + 1) :: vs) (Value.ref (s.heap.objs.size + 1) :: us) := .cons rfl r
  have hl : (Value.ref (s.heap.objs.size + 1) :: us).length = ps.length := by
    have e := rr2.length
    rw [F.len _ _ _ _ hqa] at e
    exact e.symm
  have b := hb _ (Value.ref (s.heap.objs.size + 1) :: us) J2.kIn (by rw [List.append_nil]; exact hl)
  rw [List.append_nil] at b
  refine wpAny_call (make_map (f := f) I.kIn M.makes M.init (beq_iff_eq.mp M.fn) (codeAny_mono (F.run _ X.stack _ _ ⟨Value.ref (s.heap.objs.size + 1) :: us, []⟩ (Value.ref (s.heap.objs.size + 1) :: us) _ _ (E σ) (hr.make C us [])
    (J2.env0.make C us []) b rr2 hqa) fun r s' hqb => ?_))
  cases r with
  | error e => exact hx pz _ _ e s' J2 hqb
  | ok fl =>
    cases fl with
    | ret u =>
      obtain ⟨v, H', J3, rv, ev, qc⟩ := J2.after hqb
      subst ev
      exact ⟨rv, ⟨V.ref (s.heap.objs.size + 1), H', J3, rfl, qc⟩⟩
    | next => exact False.elim hqb
    | brk => exact False.elim hqb
    | cont => exact False.elim hqb
theorem pe_mk (M : Mk X.K C f) (F : FnOk X.prog X.w X.K X.mg X.base (XC X) k f fd ps sp) (hr : Room (k + 1) X.A) (hg : Gl X x) (hm : X.mg x = some (.ref C)) (hb : Binds X.K fd ps []) (hx : ∀ σ, PassesAt (XC X) X σ (E σ))
    (ha : PA X (e :: es) t) (hdb : (x == ("__debug__" : Str)) = false := by decide) (he : starEach (e :: es) X.env = (false, eval e X.env) :: starEach es X.env := by rfl) (hpl : (backTo pos (starEach es X.env)).any (·.1) = false := by rfl) :
    PE X (.Call (.Name x p) (e :: es) [] pos) (tMk C sp E t) := by
  refine ⟨fun pz s σ H Q I h => ?_⟩
  refine wpAny_Call_Name_kw ?_
  refine ld_glob I hg hm ?_ hdb
  refine PySem.W.callWith_K (h₀ := X.base) I.ok.mod.kin M.kp (thn (ha.run pos pz s σ H _ I h) fun us z1 ⟨vs, H1, J1, r, q⟩ => ⟨J1.kIn, ?_⟩) he hpl
  exact run_mk M F hr hb (hx σ) J1 r q
theorem pe_mk0 (M : Mk X.K C f) (F : FnOk X.prog X.w X.K X.mg X.base (XC X) k f fd ps sp) (hr : Room (k + 1) X.A) (hg : Gl X x) (hm : X.mg x = some (.ref C)) (hb : Binds X.K fd ps []) (hx : ∀ σ, PassesAt (XC X) X σ (E σ))
    (hdb : (x == ("__debug__" : Str)) = false := by decide) : PE X (.Call (.Name x p) [] [] pos) (tMk C sp E tNil) := by
  refine ⟨fun pz s σ H Q I h => ?_⟩
  refine wpAny_Call_Name_kw ?_
  refine ld_glob I hg hm ?_ hdb
  exact PySem.W.callWith_K0 I.kIn M.kp (run_mk (us := []) M F hr hb (hx σ) I .nil h)
end

/-! ### by names -/
section
variable (P : Program) (w : World) (K : PySem.W.Frag) (mg : Str → Option Value) (base : Heap)
/-- a def of the module -/
structure Has (k : Nat) (x : Str) (ps : List Str) (sp : Sp) : Prop where
  gl : mg x = some (.ref (He.ga K x))
  kp : PySem.W.keepIn K (.ref (He.ga K x)) = true
  ex : ∃ fd, FnOk P w K mg base (L2.CX P w) k (He.ga K x) fd ps sp ∧ Binds K fd ps []
/-- a method -/
structure HasM (k : Nat) (c m : Str) (ps : List Str) (sp : Sp) : Prop where
  cl : Cls K (He.ga K c)
  me : Meth K (He.ga K c) m (He.ma K (He.ga K c) m)
  ex : ∃ fd, FnOk P w K mg base (L2.CX P w) k (He.ma K (He.ga K c) m) fd ps sp ∧ Binds K fd ps []
/-- a class that is made by its __init__ -/
structure HasI (k : Nat) (c : Str) (ps : List Str) (sp : Sp) : Prop where
  gl : mg c = some (.ref (He.ga K c))
  mkr : Mk K (He.ga K c) (He.ma K (He.ga K c) "__init__")
  ex : ∃ fd, FnOk P w K mg base (L2.CX P w) k (He.ma K (He.ga K c) "__init__") fd ps sp ∧ Binds K fd ps []
end
section
variable {P : Program} {w : World} {K : PySem.W.Frag} {mg : Str → Option Value} {base : Heap}
theorem Has.mono {j k : Nat} {x : Str} {ps : List Str} {sp : Sp} (h : Has P w K mg base j x ps sp) (l : j ≤ k) : Has P w K mg base k x ps sp :=
  ⟨h.gl, h.kp, let ⟨fd, F, b⟩ := h.ex; ⟨fd, F.mono l, b⟩⟩
theorem HasM.mono {j k : Nat} {c m : Str} {ps : List Str} {sp : Sp} (h : HasM P w K mg base j c m ps sp) (l : j ≤ k) : HasM P w K mg base k c m ps sp :=
  ⟨h.cl, h.me, let ⟨fd, F, b⟩ := h.ex; ⟨fd, F.mono l, b⟩⟩
theorem HasI.mono {j k : Nat} {c : Str} {ps : List Str} {sp : Sp} (h : HasI P w K mg base j c ps sp) (l : j ≤ k) : HasI P w K mg base k c ps sp :=
  ⟨h.gl, h.mkr, let ⟨fd, F, b⟩ := h.ex; ⟨fd, F.mono l, b⟩⟩
end
section
variable {X : Cx} {k : Nat} {ps : List Str} {sp : Sp} {E : L2.St → XK} {x c m : Str} {p pos apos : Pos} {e o : Expr} {es : List Expr} {ta : TE} {t : TA}
theorem pe_h (h : Has X.prog X.w X.K X.mg X.base k x ps sp) (hr : Room k X.A) (hg : Gl X x) (hx : ∀ σ, PassesAt (XC X) X σ (E σ)) (ha : PA X (e :: es) t) (hdb : (x == ("__debug__" : Str)) = false := by decide)
    (he : starEach (e :: es) X.env = (false, eval e X.env) :: starEach es X.env := by rfl) (hpl : (backTo pos (starEach es X.env)).any (·.1) = false := by rfl) : PE X (.Call (.Name x p) (e :: es) [] pos) (tCallS sp E t) := by
  obtain ⟨fd, F, b⟩ := h.ex
  exact pe_callS F hr hg h.gl h.kp b hx ha hdb he hpl
theorem pe_h0 (h : Has X.prog X.w X.K X.mg X.base k x ps sp) (hr : Room k X.A) (hg : Gl X x) (hx : ∀ σ, PassesAt (XC X) X σ (E σ)) (hdb : (x == ("__debug__" : Str)) = false := by decide) : PE X (.Call (.Name x p) [] [] pos) (tCallS sp E tNil) := by
  obtain ⟨fd, F, b⟩ := h.ex
  exact pe_callS0 F hr hg h.gl h.kp b hx hdb
theorem pe_i (h : HasI X.prog X.w X.K X.mg X.base k c ps sp) (hr : Room (k + 1) X.A) (hg : Gl X c) (hx : ∀ σ, PassesAt (XC X) X σ (E σ)) (ha : PA X (e :: es) t) (hdb : (c == ("__debug__" : Str)) = false := by decide)
    (he : starEach (e :: es) X.env = (false, eval e X.env) :: starEach es X.env := by rfl) (hpl : (backTo pos (starEach es X.env)).any (·.1) = false := by rfl) : PE X (.Call (.Name c p) (e :: es) [] pos) (tMk (He.ga X.K c) sp E t) := by
  obtain ⟨fd, F, b⟩ := h.ex
  exact pe_mk h.mkr F hr hg h.gl b hx ha hdb he hpl
theorem pe_i0 (h : HasI X.prog X.w X.K X.mg X.base k c ps sp) (hr : Room (k + 1) X.A) (hg : Gl X c) (hx : ∀ σ, PassesAt (XC X) X σ (E σ)) (hdb : (c == ("__debug__" : Str)) = false := by decide) : PE X (.Call (.Name c p) [] [] pos) (tMk (He.ga X.K c) sp E tNil) := by
  obtain ⟨fd, F, b⟩ := h.ex
  exact pe_mk0 h.mkr F hr hg h.gl b hx hdb
theorem pe_m {pl : Sem Bool} (he : PE X o ta) (h : HasM X.prog X.w X.K X.mg X.base k c m ps sp) (hr : Room k X.A) (hx : ∀ σ, PassesAt (XC X) X σ (E σ)) (ha : PA X (e :: es) t)
    (hst : starEach (e :: es) X.env = (false, eval e X.env) :: starEach es X.env := by rfl) (hpl : (backTo pos (starEach es X.env)).any (·.1) = false := by rfl)
    (ht : eval (.Call (.Attribute o m apos) (e :: es) [] pos) X.env = (do
      let ov ← eval o X.env
      standAt apos.atName
      let (f, first) ← holding [ov] (getMethod ov m pl)
      callWith pos f first (backTo pos (starEach (e :: es) X.env)) (backToKw pos (keywordEach [] X.env))) := by rfl) :
    PE X (.Call (.Attribute o m apos) (e :: es) [] pos) (tMt (He.ga X.K c) m sp E ta t) := by
  obtain ⟨fd, F, b⟩ := h.ex
  exact pe_mt he h.cl h.me F hr b hx ha hst hpl ht
theorem pe_m0 {pl : Sem Bool} (he : PE X o ta) (h : HasM X.prog X.w X.K X.mg X.base k c m ps sp) (hr : Room k X.A) (hx : ∀ σ, PassesAt (XC X) X σ (E σ))
    (ht : eval (.Call (.Attribute o m apos) [] [] pos) X.env = (do
      let ov ← eval o X.env
      standAt apos.atName
      let (f, first) ← holding [ov] (getMethod ov m pl)
      callWith pos f first (backTo pos (starEach [] X.env)) (backToKw pos (keywordEach [] X.env))) := by rfl) :
    PE X (.Call (.Attribute o m apos) [] [] pos) (tMt (He.ga X.K c) m sp E ta tNil) := by
  obtain ⟨fd, F, b⟩ := h.ex
  exact pe_mt0 he h.cl h.me F hr b hx ht
/-- raise X('..'), X without an __init__ -/
def tRs (C : Addr) (W : WX) : TS := fun _ σ H => W (.ref C) none σ H
/-- what the class of an own exception must have -/
structure HasX (K : PySem.W.Frag) (mg : Str → Option Value) (c : Str) : Prop where
  gl : mg c = some (.ref (He.ga K c))
  ex : PySem.W.excIn K (He.ga K c) He.veBase "ValueError.__new__" = true
  kp : PySem.W.keepIn K (.ref (He.ga K c)) = true
  sb : PySem.W.subIn K (.ref (He.ga K c)) (.type "BaseException") = some true
  ty : PySem.W.typeIn K (.ref (He.ga K c)) = some (.type "type")
theorem ps_rs {W : WX} {msg : Str} {j : Nat} {p2 pos2 : Pos} (hc : X.calm = true) (tk : Takes X W) (h : HasX X.K X.mg c) (hg : Gl X c) (hdb : (c == ("__debug__" : Str)) = false := by decide) :
    PS X (.Raise (some (.Call (.Name c p) [.Constant (.str msg) j p2] [] pos)) none pos2) (tRs (He.ga X.K c) W) :=
  ps_raise hc tk (pmk_own PySem.F.excBase_ValueError h.ex h.gl h.kp (raises_own h.sb h.ty) hg hdb)
end

/-! ### a def of the text keeps its promise -/
section
variable {P : Program} {w : World} {K : PySem.W.Frag} {mg : Str → Option Value} {base : Heap}
/-- what the body's term and its reading are to give -/
abbrev Body (P : Program) (w : World) (K : PySem.W.Frag) (mg : Str → Option Value) (base : Heap) (k : Nat) (N : List Str) (qual : Str) (scope : Scope) (f : Addr) (body : List Stmt) (sp : Sp) : Prop :=
  ∀ (cdv : Value) (A : Around) (outer : List Env) (s : Shared) (H : Hp) (vs : List V) (Q : VK) (E : XK), Room k (A.deeper (envOfC qual scope s.heap.objs.size f cdv)) → sp vs H Q E →
      ∃ t, PSs (cxOf (L2.CX P w) P w K mg base N qual scope f cdv A outer s H E) body t ∧ t { nx := fun _ H' => Q .non H', rt := Q } (start N vs) H
theorem mk_has {k : Nat} {x qual : Str} {params : Arguments} {body : List Stmt} {scope : Scope} {N ps : List Str} {sp : Sp} (gl : mg x = some (.ref (He.ga K x)))
    (F : ∃ fd, FunD K x qual params body scope [] [] (He.fAd K (x, none)) fd) (S : FnScope N ps scope)
    (hb : ∀ (kV doc pm : Value) (an : Option Addr) (cdv ct : Value) (us : List Value), us.length = ps.length → bindArgs (PySem.W.fnOf x qual params body scope .none kV doc pm an cdv ct) ⟨us, []⟩ = pure (ps.zip us))
    (len : ∀ vs H Q E, sp vs H Q E → vs.length = ps.length) (hbody : Body P w K mg base k N qual scope (He.ga K x) body sp) : Has P w K mg base (k + 1) x ps sp := by
  obtain ⟨fd, F⟩ := F
  exact ⟨gl, F.kp, fd, FunD.ok (CX := L2.CX P w) F S len hbody, F.bindsN hb⟩
theorem mk_hasM {k : Nat} {c m qual : Str} {params : Arguments} {body : List Stmt} {scope : Scope} {N ps : List Str} {sp : Sp} (cl : Cls K (He.ga K c)) (me : Meth K (He.ga K c) m (He.ma K (He.ga K c) m))
    (F : ∃ fd, FunD K m qual params body scope [] [] (He.fAd K (c, some m)) fd) (S : FnScope N ps scope)
    (hb : ∀ (kV doc pm : Value) (an : Option Addr) (cdv ct : Value) (us : List Value), us.length = ps.length → bindArgs (PySem.W.fnOf m qual params body scope .none kV doc pm an cdv ct) ⟨us, []⟩ = pure (ps.zip us))
    (len : ∀ vs H Q E, sp vs H Q E → vs.length = ps.length) (hbody : Body P w K mg base k N qual scope (He.ma K (He.ga K c) m) body sp) : HasM P w K mg base (k + 1) c m ps sp := by
  obtain ⟨fd, F⟩ := F
  exact ⟨cl, me, fd, FunD.ok (CX := L2.CX P w) F S len hbody, F.bindsN hb⟩
theorem mk_hasI {k : Nat} {c qual : Str} {params : Arguments} {body : List Stmt} {scope : Scope} {N ps : List Str} {sp : Sp} (gl : mg c = some (.ref (He.ga K c))) (mk : Mk K (He.ga K c) (He.ma K (He.ga K c) "__init__"))
    (F : ∃ fd, FunD K "__init__" qual params body scope [] [] (He.fAd K (c, some "__init__")) fd) (S : FnScope N ps scope)
    (hb : ∀ (kV doc pm : Value) (an : Option Addr) (cdv ct : Value) (us : List Value), us.length = ps.length → bindArgs (PySem.W.fnOf "__init__" qual params body scope .none kV doc pm an cdv ct) ⟨us, []⟩ = pure (ps.zip us))
    (len : ∀ vs H Q E, sp vs H Q E → vs.length = ps.length) (hbody : Body P w K mg base k N qual scope (He.ma K (He.ga K c) "__init__") body sp) : HasI P w K mg base (k + 1) c ps sp := by
  obtain ⟨fd, F⟩ := F
  exact ⟨gl, mk, fd, FunD.ok (CX := L2.CX P w) F S len hbody, F.bindsN hb⟩
/-- the head's facts -/
structure Tx (fa : List He.Fa) (fn : List He.DefD) (K : PySem.W.Frag) (mg : Str → Option Value) (base : Heap) : Prop where
  kin : K.In base
  ns : base.Ns mainGlobals mg
  says : He.SaysD fa fn K
variable {fa : List He.Fa} {fn : List He.DefD}
theorem Tx.glo (T : Tx fa fn K mg base) {x : Str} (i : Nat) (h : fa[i]? = some (.glo x) := by rfl) : mg x = some (.ref (He.ga K x)) := He.glo_ok T.kin T.ns (T.says.fact i h)
theorem Tx.free (T : Tx fa fn K mg base) {x : Str} (i : Nat) (h : fa[i]? = some (.free x) := by rfl) : mg x = none := He.free_ok T.kin T.ns (T.says.fact i h)
theorem Tx.cls (T : Tx fa fn K mg base) {x : Str} (i : Nat) (h : fa[i]? = some (.cls x) := by rfl) : Cls K (He.ga K x) := He.cls_ok (T.says.fact i h)
theorem Tx.noat (T : Tx fa fn K mg base) {x f : Str} (i : Nat) (h : fa[i]? = some (.noat x f) := by rfl) : NoAttr K (He.ga K x) f := He.noat_ok (T.says.fact i h)
theorem Tx.meth (T : Tx fa fn K mg base) {x m : Str} (i : Nat) (h : fa[i]? = some (.meth x m) := by rfl) : Meth K (He.ga K x) m (He.ma K (He.ga K x) m) := He.meth_ok (T.says.fact i h)
theorem Tx.mkr (T : Tx fa fn K mg base) {x : Str} (i : Nat) (h : fa[i]? = some (.mkr x) := by rfl) : Mk K (He.ga K x) (He.ma K (He.ga K x) "__init__") := He.mkr_ok (T.says.fact i h)
theorem Tx.exm (T : Tx fa fn K mg base) {x y : Str} {b : Bool} (i : Nat) (h : fa[i]? = some (.exm x y b) := by rfl) : PySem.W.exmOne K (.ref (He.ga K x)) (.ref (He.ga K y)) = some b := He.exm_ok (T.says.fact i h)
theorem Tx.exc (T : Tx fa fn K mg base) {x : Str} (i j : Nat) (h : fa[i]? = some (.exc x) := by rfl) (h2 : fa[j]? = some (.glo x) := by rfl) : HasX K mg x :=
  let ⟨a, b, c, d⟩ := He.exc_ok (T.says.fact i h)
  ⟨T.glo j h2, a, b, c, d⟩
end

/-! ### the end, with the script's bits told -/
theorem walk_ofEB {l : PySem.W.OpenLaw} {n k : Nat} {q : Program} {loose : List Str} {XP : (Str → Option Value) → Heap → Prop} {YP : World → Heap → Prop} {d : DefRec} {CX : World → CXT} {x : Str}
    (hn : l.most = some n) (hn2 : n ≤ sizeLine) (hdf : d.params.defaults = []) (hr : Room k callerA)
    (F : ∀ (w : World) (mg : Str → Option Value) (fa : Addr) (h : Heap), YP w h → h.Ns mainGlobals mg → mg d.name = some (.ref fa) →
      ∃ (K : PySem.W.Frag) (fd : FuncData) (sp : Sp), K.In h ∧ (∀ (s : Shared) (u : Value), BindsTo s fd ⟨[u], []⟩ [(x, u)]) ∧
        (∀ (H : Hp) (a : Addr) (ns : List Int), ns.length ≤ n → (∀ z ∈ ns, Builtin.Int.intBits z ≤ 1048576) → Only H → SqL K H a (ns.map V.int) → sp [.ref a] H (fun v _ => v = .bl true) fun _ _ _ => False) ∧
        ∀ base : Heap, K.In base → base.Ns mainGlobals mg → FnOk l.prog w K mg base (CX w) k fa fd [x] sp)
    (hCX : ∀ (w : World) (H : Hp) (s : Shared) (e : Value) (s' : Shared), CX w [] H s (fun _ _ _ => False) e s' → False) :
    PySem.W.WalkO q loose XP YP l.row.toRowW d [] (fun f vs => PySem.call f vs) := by
  refine Att.attach_callB hn hdf fun w sA sB mg mb fa o pm cd doc a vs ns G Y ho hd hcd hmg hobj hints hlen hbits hg => ?_
  obtain ⟨K, fd, sp, kx, bd, sh, FF⟩ := F w mg fa _ Y G.T.g hmg
  exact law_call kx G.T.g G.T.b G.T.builtins G.T.nolimit hg hobj hints (Nat.le_trans hlen hn2) hr FF bd (fun H hO hS => sh H a ns hlen hbits hO hS) fun H e s' => hCX w H sB e s'
end G

/-! readings, step by step -/
namespace G
open PySem PySem.Spec PyProof.Rows L2
/-! ### names of the rules' relations -/
abbrev wB (E : XK) : WX := fun cls d _ H => E cls d H
abbrev gAdd : R2 := rI0 fun i j => .int (i + j)
abbrev gMinus : R2 := rI0 fun i j => .int (i - j)
abbrev gMul : R2 := rI CMul fun i j => .int (i * j)
abbrev gMulW : R2 := rI CMulW fun i j => .int (i * j)
abbrev gDiv : R2 := rI CDiv fun i j => .int (i / j)
abbrev gDivW : R2 := rI CDivW fun i j => .int (i / j)
abbrev gMod : R2 := rI (fun _ j => 0 < j) fun i j => .int (i % j)
abbrev gPow : R2 := rI CPow fun i j => .int (i ^ j.toNat)
abbrev gShl : R2 := rI CPow fun i j => .int (i * 2 ^ j.toNat)
abbrev gShr : R2 := rI (fun _ j => 0 ≤ j) fun i j => .int (i / 2 ^ j.toNat)
abbrev gAnd : R2 := rI0 fun i j => .int (Builtin.bitAnd i j)
abbrev gOr : R2 := rI0 fun i j => .int (Builtin.bitOr i j)
abbrev gXor : R2 := rI0 fun i j => .int (Builtin.bitXor i j)
abbrev gLt : R2 := rI0 fun i j => .bl (decide (i < j))
abbrev gLte : R2 := rI0 fun i j => .bl (decide (i ≤ j))
abbrev gGt : R2 := rI0 fun i j => .bl (decide (j < i))
abbrev gGte : R2 := rI0 fun i j => .bl (decide (j ≤ i))
abbrev gLe : R2 := gLte
abbrev gGe : R2 := gGte
abbrev gNeg : V → Hp → VK → Prop := rU fun i => .int (-i)
abbrev gCatS : R2 := fun x y H Q => ∃ i j, x = .str i ∧ y = .str j ∧ i.length + j.length ≤ sizeLine ∧ Q (.str (i ++ j)) H
abbrev gInS : R2 := rInS
abbrev gNotInS : R2 := rNotInS
abbrev gLen (K : PySem.W.Frag) : List V → Hp → VK → Prop := fun xs H Q => ∃ x n, xs = [x] ∧ LenV K x H n ∧ Q (.int (n : Nat)) H
abbrev gMin2 : List V → Hp → VK → Prop := fun xs H Q => ∃ i j, xs = [.int i, .int j] ∧ Q (.int (if j < i then j else i)) H
abbrev gMax2 : List V → Hp → VK → Prop := fun xs H Q => ∃ i j, xs = [.int i, .int j] ∧ Q (.int (if j > i then j else i)) H
abbrev gAbs : List V → Hp → VK → Prop := fun xs H Q => ∃ i, xs = [.int i] ∧ Q (.int (if i < 0 then -i else i)) H
abbrev gInt1 : List V → Hp → VK → Prop := fun xs H Q => (∃ i, xs = [.int i] ∧ Q (.int i) H) ∨ ∃ k, xs = [.bl k] ∧ Q (.int (if k then 1 else 0)) H
abbrev gBool1 : List V → Hp → VK → Prop := fun xs H Q => (∃ i, xs = [.int i] ∧ Q (.bl (i != 0)) H) ∨ ∃ k, xs = [.bl k] ∧ Q (.bl k) H
abbrev gStr1 : List V → Hp → VK → Prop := fun xs H Q => ∃ i, xs = [.int i] ∧ i.natAbs.log2 < 1920 ∧ Q (.str (toString i)) H
abbrev gListOf (K : PySem.W.Frag) : List V → Hp → VK → Prop := fun xs H Q => ∃ p ys, xs = [.ref p] ∧ (SqL K H p ys ∨ SqT K H p ys) ∧ ∀ l, H l = none → Q (.ref l) (upd H l (.lst ys))
abbrev gTupOf (K : PySem.W.Frag) : List V → Hp → VK → Prop := fun xs H Q => ∃ p ys, xs = [.ref p] ∧ ((SqL K H p ys ∧ ∀ l, H l = none → Q (.ref l) (upd H l (.tup ys))) ∨ (SqT K H p ys ∧ Q (.ref p) H))
section
variable {X : Cx} {x : Str} {pos : Pos}
theorem pe_gint {i : Int} (hg : Gl X x) (hm : ∃ t, X.mg x = some (.int i t)) (hd : (x == ("__debug__" : Str)) = false := by decide) : PE X (.Name x pos) (tC (.int i)) := by
  obtain ⟨t, hm⟩ := hm
  exact pe_glob hg hm ⟨t, rfl⟩ hd
theorem pe_gstr {z : Str} (hg : Gl X x) (hm : ∃ t, X.mg x = some (.str z t)) (hd : (x == ("__debug__" : Str)) = false := by decide) : PE X (.Name x pos) (tC (.str z)) := by
  obtain ⟨t, hm⟩ := hm
  exact pe_glob hg hm ⟨t, rfl⟩ hd
theorem pe_gref {a : Addr} (hg : Gl X x) (hm : X.mg x = some (.ref a)) (hd : (x == ("__debug__" : Str)) = false := by decide) : PE X (.Name x pos) (tC (.ref a)) := pe_glob hg hm rfl hd
end
section
variable {K : PySem.W.Frag} {mg : Str → Option Value} {base : Heap} {fa : List He.Fa} {fn : List He.DefD}
theorem Tx.int (T : Tx fa fn K mg base) {x : Str} {n : Int} (i : Nat) (h : fa[i]? = some (.int x n) := by rfl) : ∃ t, mg x = some (.int n t) := He.int_ok T.kin T.ns (T.says.fact i h)
theorem Tx.str (T : Tx fa fn K mg base) {x z : Str} (i : Nat) (h : fa[i]? = some (.str x z) := by rfl) : ∃ t, mg x = some (.str z t) := He.str_ok T.kin T.ns (T.says.fact i h)
end

/-! ### steps -/
section
variable {K : PySem.W.Frag} {σ : L2.St} {H : Hp} {Q : VK} {v x y : V} {i j : Int} {n : Nat} {ta tb tc te : TE} {r r' : R2} {g : Int → Int → V} {C : Int → Int → Prop} {tA : TA}
theorem w_var (h : σ[n]? = some (some v)) (q : Q v H) : tVar n σ H Q := ⟨v, h, q⟩
theorem w_c (q : Q v H) : tC v σ H Q := q
instance (priority := 900) i_w_c  : Stp (tC v σ H Q) (Q v H) := ⟨w_c⟩
theorem w_op (h : ta σ H fun x H1 => tb σ H1 fun y H2 => r x y H2 Q) : tOp r ta tb σ H Q := h
instance (priority := 900) i_w_op  : Stp (tOp r ta tb σ H Q) (ta σ H fun x H1 => tb σ H1 fun y H2 => r x y H2 Q) := ⟨w_op⟩
theorem w_I0 (q : Q (g i j) H) : rI0 g (.int i) (.int j) H Q := ⟨i, j, rfl, rfl, q⟩
instance (priority := 900) i_w_I0  : Stp (rI0 g (.int i) (.int j) H Q) (Q (g i j) H) := ⟨w_I0⟩
theorem w_I (c : C i j) (q : Q (g i j) H) : rI C g (.int i) (.int j) H Q := ⟨i, j, rfl, rfl, c, q⟩
theorem w_eqI (q : Q (.bl (decide (i = j))) H) : rEq (.int i) (.int j) H Q := ⟨rfl, by
  have e : decide (V.int i = V.int j) = decide (i = j) := by simp
  show Q (.bl (decide (V.int i = V.int j))) H
  rw [e]; exact q⟩
instance (priority := 900) i_w_eqI  : Stp (rEq (.int i) (.int j) H Q) (Q (.bl (decide (i = j))) H) := ⟨w_eqI⟩
theorem w_neI (q : Q (.bl (!decide (i = j))) H) : rNe (.int i) (.int j) H Q := ⟨rfl, by
  have e : decide (V.int i = V.int j) = decide (i = j) := by simp
  show Q (.bl (!decide (V.int i = V.int j))) H
  rw [e]; exact q⟩
instance (priority := 900) i_w_neI  : Stp (rNe (.int i) (.int j) H Q) (Q (.bl (!decide (i = j))) H) := ⟨w_neI⟩
theorem w_eqB {a b : Bool} (q : Q (.bl (decide (a = b))) H) : rEq (.bl a) (.bl b) H Q := ⟨rfl, by
  have e : decide (V.bl a = V.bl b) = decide (a = b) := by simp
  show Q (.bl (decide (V.bl a = V.bl b))) H
  rw [e]; exact q⟩
instance (priority := 900) i_w_eqB {a b : Bool} : Stp (rEq (.bl a) (.bl b) H Q) (Q (.bl (decide (a = b))) H) := ⟨w_eqB⟩
theorem w_neB {a b : Bool} (q : Q (.bl (!decide (a = b))) H) : rNe (.bl a) (.bl b) H Q := ⟨rfl, by
  have e : decide (V.bl a = V.bl b) = decide (a = b) := by simp
  show Q (.bl (!decide (V.bl a = V.bl b))) H
  rw [e]; exact q⟩
instance (priority := 900) i_w_neB {a b : Bool} : Stp (rNe (.bl a) (.bl b) H Q) (Q (.bl (!decide (a = b))) H) := ⟨w_neB⟩
theorem w_eqS {a b : Str} (q : Q (.bl (decide (a = b))) H) : rEq (.str a) (.str b) H Q := ⟨rfl, by
  have e : decide (V.str a = V.str b) = decide (a = b) := by simp
  show Q (.bl (decide (V.str a = V.str b))) H
  rw [e]; exact q⟩
instance (priority := 900) i_w_eqS {a b : Str} : Stp (rEq (.str a) (.str b) H Q) (Q (.bl (decide (a = b))) H) := ⟨w_eqS⟩
theorem w_neS {a b : Str} (q : Q (.bl (!decide (a = b))) H) : rNe (.str a) (.str b) H Q := ⟨rfl, by
  have e : decide (V.str a = V.str b) = decide (a = b) := by simp
  show Q (.bl (!decide (V.str a = V.str b))) H
  rw [e]; exact q⟩
instance (priority := 900) i_w_neS {a b : Str} : Stp (rNe (.str a) (.str b) H Q) (Q (.bl (!decide (a = b))) H) := ⟨w_neS⟩
theorem w_isN (q : Q (.bl (decide (x = .non))) H) : rIsN x .non H Q := ⟨rfl, q⟩
instance (priority := 900) i_w_isN  : Stp (rIsN x .non H Q) (Q (.bl (decide (x = .non))) H) := ⟨w_isN⟩
theorem w_notN (q : Q (.bl (!decide (x = .non))) H) : rNotN x .non H Q := ⟨rfl, q⟩
instance (priority := 900) i_w_notN  : Stp (rNotN x .non H Q) (Q (.bl (!decide (x = .non))) H) := ⟨w_notN⟩
theorem w_un {rr : V → Hp → VK → Prop} (h : ta σ H fun x H1 => rr x H1 Q) : tUn rr ta σ H Q := h
instance (priority := 900) i_w_un {rr : V → Hp → VK → Prop} : Stp (tUn rr ta σ H Q) (ta σ H fun x H1 => rr x H1 Q) := ⟨w_un⟩
theorem w_U {f : Int → V} (q : Q (f i) H) : rU f (.int i) H Q := ⟨i, rfl, q⟩
instance (priority := 900) i_w_U {f : Int → V} : Stp (rU f (.int i) H Q) (Q (f i) H) := ⟨w_U⟩
theorem w_chain (h : ta σ H fun x H1 => tb σ H1 fun y H2 => r x y H2 fun z H3 => ∃ k, z = .bl k ∧ (if k = true then tc σ H3 fun w' H4 => r' y w' H4 Q else Q (.bl false) H3)) : tChain r r' ta tb tc σ H Q := h
instance (priority := 900) i_w_chain  : Stp (tChain r r' ta tb tc σ H Q) (ta σ H fun x H1 => tb σ H1 fun y H2 => r x y H2 fun z H3 => ∃ k, z = .bl k ∧ (if k = true then tc σ H3 fun w' H4 => r' y w' H4 Q else Q (.bl false) H3)) := ⟨w_chain⟩
theorem w_k {b : Bool} {P : Bool → Prop} (h : P b) : ∃ k, V.bl b = .bl k ∧ P k := ⟨b, rfl, h⟩
instance (priority := 900) i_w_k {b : Bool} {P : Bool → Prop} : Stp (∃ k, V.bl b = .bl k ∧ P k) (P b) := ⟨w_k⟩
theorem w_test {Q : Bool → Hp → Prop} (h : te σ H fun x H' => ∃ k, x = .bl k ∧ Q k H') : tTest te σ H Q := h
instance (priority := 900) i_w_test {Q : Bool → Hp → Prop} : Stp (tTest te σ H Q) (te σ H fun x H' => ∃ k, x = .bl k ∧ Q k H') := ⟨w_test⟩
theorem w_tB {Q : Bool → Hp → Prop} (h : te σ H fun x H' => ∃ k, x = .bl k ∧ Q k H') : tB te σ H Q := h
instance (priority := 900) i_w_tB {Q : Bool → Hp → Prop} : Stp (tB te σ H Q) (te σ H fun x H' => ∃ k, x = .bl k ∧ Q k H') := ⟨w_tB⟩
theorem w_tru {Q : Bool → Hp → Prop} (h : te σ H fun x H' => ∃ k, TruV K x H' k ∧ Q k H') : tTru K te σ H Q := h
instance (priority := 900) i_w_tru {Q : Bool → Hp → Prop} : Stp (tTru K te σ H Q) (te σ H fun x H' => ∃ k, TruV K x H' k ∧ Q k H') := ⟨w_tru⟩
theorem w_not {Q : Bool → Hp → Prop} {t : TT} (h : t σ H fun c H1 => Q (!c) H1) : tNot t σ H Q := h
instance (priority := 900) i_w_not {Q : Bool → Hp → Prop} {t : TT} : Stp (tNot t σ H Q) (t σ H fun c H1 => Q (!c) H1) := ⟨w_not⟩
theorem w_and {Q : Bool → Hp → Prop} {t u : TT} (h : t σ H fun c H1 => if c = true then u σ H1 Q else Q false H1) : tAnd t u σ H Q := h
instance (priority := 900) i_w_and {Q : Bool → Hp → Prop} {t u : TT} : Stp (tAnd t u σ H Q) (t σ H fun c H1 => if c = true then u σ H1 Q else Q false H1) := ⟨w_and⟩
theorem w_or {Q : Bool → Hp → Prop} {t u : TT} (h : t σ H fun c H1 => if c = true then Q true H1 else u σ H1 Q) : tOr t u σ H Q := h
instance (priority := 900) i_w_or {Q : Bool → Hp → Prop} {t u : TT} : Stp (tOr t u σ H Q) (t σ H fun c H1 => if c = true then Q true H1 else u σ H1 Q) := ⟨w_or⟩
theorem w_andV (h : ta σ H fun x H1 => ∃ c, x = .bl c ∧ if c = true then tb σ H1 Q else Q (.bl false) H1) : tAndV ta tb σ H Q := h
instance (priority := 900) i_w_andV  : Stp (tAndV ta tb σ H Q) (ta σ H fun x H1 => ∃ c, x = .bl c ∧ if c = true then tb σ H1 Q else Q (.bl false) H1) := ⟨w_andV⟩
theorem w_orV (h : ta σ H fun x H1 => ∃ c, x = .bl c ∧ if c = true then Q (.bl true) H1 else tb σ H1 Q) : tOrV ta tb σ H Q := h
instance (priority := 900) i_w_orV  : Stp (tOrV ta tb σ H Q) (ta σ H fun x H1 => ∃ c, x = .bl c ∧ if c = true then Q (.bl true) H1 else tb σ H1 Q) := ⟨w_orV⟩
theorem w_notV (h : ta σ H fun x H1 => ∃ c, x = .bl c ∧ Q (.bl (!c)) H1) : tNotV ta σ H Q := h
instance (priority := 900) i_w_notV  : Stp (tNotV ta σ H Q) (ta σ H fun x H1 => ∃ c, x = .bl c ∧ Q (.bl (!c)) H1) := ⟨w_notV⟩
theorem w_ife {t : TT} (h : t σ H fun c H1 => if c = true then ta σ H1 Q else tb σ H1 Q) : tIf t ta tb σ H Q := h
instance (priority := 900) i_w_ife {t : TT} : Stp (tIf t ta tb σ H Q) (t σ H fun c H1 => if c = true then ta σ H1 Q else tb σ H1 Q) := ⟨w_ife⟩
theorem w_nil {Q : List V → Hp → Prop} (q : Q [] H) : tNil σ H Q := q
instance (priority := 900) i_w_nil {Q : List V → Hp → Prop} : Stp (tNil σ H Q) (Q [] H) := ⟨w_nil⟩
theorem w_cons {Q : List V → Hp → Prop} (h : te σ H fun x H1 => tA σ H1 fun xs H2 => Q (x :: xs) H2) : tCons te tA σ H Q := h
instance (priority := 900) i_w_cons {Q : List V → Hp → Prop} : Stp (tCons te tA σ H Q) (te σ H fun x H1 => tA σ H1 fun xs H2 => Q (x :: xs) H2) := ⟨w_cons⟩
theorem w_tup (h : tA σ H fun xs H1 => xs.length ≤ sizeLine ∧ ∀ p, H1 p = none → Q (.ref p) (upd H1 p (.tup xs))) : tTup tA σ H Q := h
theorem w_lst (h : tA σ H fun xs H1 => xs.length ≤ sizeLine ∧ ∀ p, H1 p = none → Q (.ref p) (upd H1 p (.lst xs))) : tLst tA σ H Q := h
theorem w_small {xs : List V} {P : Prop} (hl : Nat.ble xs.length 1000 = true) (h : P) : xs.length ≤ sizeLine ∧ P := ⟨Nat.le_trans (Nat.le_of_ble_eq_true hl) (by decide), h⟩
theorem w_call {sp : Sp} {E : L2.St → XK} (h : tA σ H fun vs H1 => sp vs H1 Q (E σ)) : tCallS sp E tA σ H Q := h
instance (priority := 900) i_w_call {sp : Sp} {E : L2.St → XK} : Stp (tCallS sp E tA σ H Q) (tA σ H fun vs H1 => sp vs H1 Q (E σ)) := ⟨w_call⟩
theorem w_mk {Cc : Addr} {sp : Sp} {E : L2.St → XK} (h : tA σ H fun vs H1 => ∀ x dx, H1 x = none → H1 dx = none → dx ≠ x → sp (.ref x :: vs) (upd (upd H1 dx (.own x)) x (.ins Cc dx [])) (fun v H2 => v = .non ∧ Q (.ref x) H2) (E σ)) : tMk Cc sp E tA σ H Q := h
theorem w_mt {Cc : Addr} {m : Str} {sp : Sp} {E : L2.St → XK} (h : ta σ H fun x H1 => ∃ a dx fs, x = .ref a ∧ H1 a = some (.ins Cc dx fs) ∧ fs.lookup m = none ∧ tA σ H1 fun vs H2 => sp (x :: vs) H2 Q (E σ)) : tMt Cc m sp E ta tA σ H Q := h
theorem w_cb {rr : List V → Hp → VK → Prop} (h : tA σ H fun vs H1 => rr vs H1 Q) : tCB rr tA σ H Q := h
instance (priority := 900) i_w_cb {rr : List V → Hp → VK → Prop} : Stp (tCB rr tA σ H Q) (tA σ H fun vs H1 => rr vs H1 Q) := ⟨w_cb⟩
theorem w_min2 (q : Q (.int (if j < i then j else i)) H) : gMin2 [.int i, .int j] H Q := ⟨i, j, rfl, q⟩
instance (priority := 900) i_w_min2  : Stp (gMin2 [.int i, .int j] H Q) (Q (.int (if j < i then j else i)) H) := ⟨w_min2⟩
theorem w_max2 (q : Q (.int (if j > i then j else i)) H) : gMax2 [.int i, .int j] H Q := ⟨i, j, rfl, q⟩
instance (priority := 900) i_w_max2  : Stp (gMax2 [.int i, .int j] H Q) (Q (.int (if j > i then j else i)) H) := ⟨w_max2⟩
theorem w_abs (q : Q (.int (if i < 0 then -i else i)) H) : gAbs [.int i] H Q := ⟨i, rfl, q⟩
instance (priority := 900) i_w_abs  : Stp (gAbs [.int i] H Q) (Q (.int (if i < 0 then -i else i)) H) := ⟨w_abs⟩
theorem w_int (q : Q (.int i) H) : gInt1 [.int i] H Q := .inl ⟨i, rfl, q⟩
instance (priority := 900) i_w_int  : Stp (gInt1 [.int i] H Q) (Q (.int i) H) := ⟨w_int⟩
theorem w_lenL {p : Addr} {xs : List V} (h : SqL K H p xs) (q : Q (.int (xs.length : Int)) H) : gLen K [.ref p] H Q := ⟨_, xs.length, rfl, .inl ⟨xs, h, rfl⟩, q⟩
theorem w_lenT {p : Addr} {xs : List V} (h : SqT K H p xs) (q : Q (.int (xs.length : Int)) H) : gLen K [.ref p] H Q := ⟨_, xs.length, rfl, .inr ⟨xs, h, rfl⟩, q⟩
theorem w_lenS {z : Str} (h : z.length ≤ sizeLine) (q : Q (.int (z.length : Int)) H) : gLen K [.str z] H Q := ⟨_, z.length, rfl, ⟨h, rfl⟩, q⟩
theorem w_listL {p : Addr} {xs : List V} (h : SqL K H p xs) (q : ∀ l, H l = none → Q (.ref l) (upd H l (.lst xs))) : gListOf K [.ref p] H Q := ⟨p, xs, rfl, .inl h, q⟩
theorem w_listT {p : Addr} {xs : List V} (h : SqT K H p xs) (q : ∀ l, H l = none → Q (.ref l) (upd H l (.lst xs))) : gListOf K [.ref p] H Q := ⟨p, xs, rfl, .inr h, q⟩
theorem w_ixL {p : Addr} {xs : List V} (h : SqL K H p xs) (ha : atI xs i = some v) (q : Q v H) : rIxL K (.ref p) (.int i) H Q := ⟨p, xs, i, v, rfl, rfl, h, ha, q⟩
theorem w_ixT {p : Addr} {xs : List V} (h : SqT K H p xs) (ha : atI xs i = some v) (q : Q v H) : rIxT K (.ref p) (.int i) H Q := ⟨p, xs, i, v, rfl, rfl, h, ha, q⟩
theorem w_fld {f : Str} {a Cc dx : Addr} {fs : List (Str × V)} {P : Addr → Addr → Addr → List (Str × V) → V → Prop} (h : H a = some (.ins Cc dx fs)) (c : Cls K Cc) (na : NoAttr K Cc f) (l : fs.lookup f = some v) (q : P a Cc dx fs v) :
    ∃ a' C' dx' fs' v', V.ref a = .ref a' ∧ H a' = some (.ins C' dx' fs') ∧ Cls K C' ∧ NoAttr K C' f ∧ fs'.lookup f = some v' ∧ P a' C' dx' fs' v' := ⟨a, Cc, dx, fs, v, rfl, h, c, na, l, q⟩
theorem w_mt1 {m : Str} {a Cc dx : Addr} {fs : List (Str × V)} {P : Addr → Prop} (h : H a = some (.ins Cc dx fs)) (l : fs.lookup m = none) (q : P a) :
    ∃ a' dx' fs', V.ref a = .ref a' ∧ H a' = some (.ins Cc dx' fs') ∧ fs'.lookup m = none ∧ P a' := ⟨a, dx, fs, rfl, h, l, q⟩
abbrev kGet (K : PySem.W.Frag) (f : Str) (x : V) (H1 : Hp) (Q : VK) : Prop := ∃ a C dx fs v, x = .ref a ∧ H1 a = some (.ins C dx fs) ∧ Cls K C ∧ NoAttr K C f ∧ fs.lookup f = some v ∧ Q v H1
abbrev kMt (C : Addr) (m : Str) (x : V) (H1 : Hp) (P : Prop) : Prop := ∃ a dx fs, x = .ref a ∧ H1 a = some (.ins C dx fs) ∧ fs.lookup m = none ∧ P
instance i_w_fldQ {f : Str} : Stp (tFld K ta f σ H Q) (ta σ H fun x H1 => kGet K f x H1 Q) := ⟨fun h => h⟩
instance i_w_mtQ {Cc : Addr} {m : Str} {sp : Sp} {E : L2.St → XK} : Stp (tMt Cc m sp E ta tA σ H Q) (ta σ H fun x H1 => kMt Cc m x H1 (tA σ H1 fun vs H2 => sp (x :: vs) H2 Q (E σ))) := ⟨fun h => h⟩
theorem w_fld0 {f : Str} (h : ta σ H fun x H1 => ∃ a C dx fs v, x = .ref a ∧ H1 a = some (.ins C dx fs) ∧ Cls K C ∧ NoAttr K C f ∧ fs.lookup f = some v ∧ Q v H1) : tFld K ta f σ H Q := h
theorem w_bm {T : String} {rr : V → List V → Hp → VK → Prop} (h : ta σ H fun x H1 => tyV K T x H1 ∧ tA σ H1 fun xs H2 => rr x xs H2 Q) : tBM K T rr ta tA σ H Q := h
instance (priority := 900) i_w_bm {T : String} {rr : V → List V → Hp → VK → Prop} : Stp (tBM K T rr ta tA σ H Q) (ta σ H fun x H1 => tyV K T x H1 ∧ tA σ H1 fun xs H2 => rr x xs H2 Q) := ⟨w_bm⟩
theorem w_bm0 {T : String} {rr : V → List V → Hp → VK → Prop} (h : ta σ H fun x H1 => tyV K T x H1 ∧ rr x [] H1 Q) : tBM0 K T rr ta σ H Q := h
instance (priority := 900) i_w_bm0 {T : String} {rr : V → List V → Hp → VK → Prop} : Stp (tBM0 K T rr ta σ H Q) (ta σ H fun x H1 => tyV K T x H1 ∧ rr x [] H1 Q) := ⟨w_bm0⟩
theorem w_app {l : Addr} {xs : List V} (h : H l = some (.lst xs)) (hz : xs.length < sizeLine) (q : Q .non (upd H l (.lst (xs ++ [v])))) : rAppend (.ref l) [v] H Q := ⟨l, xs, v, rfl, rfl, h, hz, q⟩
theorem ty_list {l : Addr} {xs : List V} {P : Prop} (h : H l = some (.lst xs)) (q : P) : tyV K "list" (.ref l) H ∧ P := ⟨.inl ⟨rfl, xs, .inl (.inl h)⟩, q⟩
end
section
variable {K : PySem.W.Frag} {σ : L2.St} {H : Hp} {D : Ends} {v x y : V} {n : Nat} {ta tb te : TE} {t u : TS} {tt : TT}
theorem w_seq (h : t { D with nx := u D } σ H) : tSeq t u D σ H := h
instance (priority := 900) i_w_seq  : Stp (tSeq t u D σ H) (t { D with nx := u D } σ H) := ⟨w_seq⟩
theorem w_next (h : D.nx σ H) : tNext D σ H := h
instance (priority := 900) i_w_next  : Stp (tNext D σ H) (D.nx σ H) := ⟨w_next⟩
theorem w_brk (h : D.bk σ H) : tBreak D σ H := h
instance (priority := 900) i_w_brk  : Stp (tBreak D σ H) (D.bk σ H) := ⟨w_brk⟩
theorem w_cont (h : D.ct σ H) : tCont D σ H := h
instance (priority := 900) i_w_cont  : Stp (tCont D σ H) (D.ct σ H) := ⟨w_cont⟩
theorem w_drop (h : te σ H fun _ H1 => D.nx σ H1) : tDrop te D σ H := h
instance (priority := 900) i_w_drop  : Stp (tDrop te D σ H) (te σ H fun _ H1 => D.nx σ H1) := ⟨w_drop⟩
theorem w_ret (h : te σ H D.rt) : tRet te D σ H := h
instance (priority := 900) i_w_ret  : Stp (tRet te D σ H) (te σ H D.rt) := ⟨w_ret⟩
theorem w_retN (h : D.rt .non H) : tRetN D σ H := h
instance (priority := 900) i_w_retN  : Stp (tRetN D σ H) (D.rt .non H) := ⟨w_retN⟩
theorem w_if (h : tt σ H fun b H1 => if b = true then t D σ H1 else u D σ H1) : tIfS tt t u D σ H := h
instance (priority := 900) i_w_if  : Stp (tIfS tt t u D σ H) (tt σ H fun b H1 => if b = true then t D σ H1 else u D σ H1) := ⟨w_if⟩
theorem w_asg {g : TG} (h : te σ H fun x H1 => g x σ H1 D.nx) : tAsg te g D σ H := h
instance (priority := 900) i_w_asg {g : TG} : Stp (tAsg te g D σ H) (te σ H fun x H1 => g x σ H1 D.nx) := ⟨w_asg⟩
theorem w_nm {Q : L2.St → Hp → Prop} (h : Q (σ.set n (some v)) H) : gName n v σ H Q := h
instance (priority := 900) i_w_nm {Q : L2.St → Hp → Prop} : Stp (gName n v σ H Q) (Q (σ.set n (some v)) H) := ⟨w_nm⟩
theorem w_sub {to ti : TE} {ts : TSet} {Q : L2.St → Hp → Prop} (h : to σ H fun o H1 => ti σ H1 fun i H2 => ts o i v H2 fun H3 => Q σ H3) : gSub to ti ts v σ H Q := h
instance (priority := 900) i_w_sub {to ti : TE} {ts : TSet} {Q : L2.St → Hp → Prop} : Stp (gSub to ti ts v σ H Q) (to σ H fun o H1 => ti σ H1 fun i H2 => ts o i v H2 fun H3 => Q σ H3) := ⟨w_sub⟩
theorem w_setL {l : Addr} {xs : List V} {k : Int} {j : Nat} {Q : Hp → Prop} (h : H l = some (.lst xs)) (hj : ixN xs.length k = some j) (q : Q (upd H l (.lst (xs.set j v)))) : rSetL (.ref l) (.int k) v H Q := ⟨l, xs, k, j, rfl, rfl, h, hj, q⟩
theorem w_sfld {f : Str} (h : tb σ H fun y H1 => ta σ H1 fun x H2 => ∃ a C dx fs, x = .ref a ∧ H2 a = some (.ins C dx fs) ∧ Cls K C ∧ NoAttr K C f ∧ fs.length < 1000 ∧ D.nx σ (upd H2 a (.ins C dx (putF f y fs)))) : sFld K ta tb f D σ H := h
theorem w_sput {f : Str} {a C dx : Addr} {fs fs' : List (Str × V)} (h : H a = some (.ins C dx fs)) (c : Cls K C) (na : NoAttr K C f) (e : putF f y fs = fs') (l : Nat.blt fs.length 1000 = true) (q : D.nx σ (upd H a (.ins C dx fs'))) :
    ∃ a' C' dx' fs0, V.ref a = .ref a' ∧ H a' = some (.ins C' dx' fs0) ∧ Cls K C' ∧ NoAttr K C' f ∧ fs0.length < 1000 ∧ D.nx σ (upd H a' (.ins C' dx' (putF f y fs0))) := ⟨a, C, dx, fs, rfl, h, c, na, Nat.le_of_ble_eq_true l, by rw [e]; exact q⟩
theorem w_sfa {f : Str} {rd : V → V → Hp → VK → Prop} (h : ta σ H fun x H1 => ∃ a C dx fs v, x = .ref a ∧ H1 a = some (.ins C dx fs) ∧ Cls K C ∧ NoAttr K C f ∧ fs.lookup f = some v ∧
  tb σ H1 fun y H2 => rd v y H2 fun z H3 => ∃ dx' fs', H3 a = some (.ins C dx' fs') ∧ fs'.length < 1000 ∧ D.nx σ (upd H3 a (.ins C dx' (putF f z fs')))) : sFldAug K ta tb rd f D σ H := h
theorem w_sput2 {f : Str} {a C dx : Addr} {fs fs' : List (Str × V)} (h : H a = some (.ins C dx fs)) (e : putF f y fs = fs') (l : Nat.blt fs.length 1000 = true) (q : D.nx σ (upd H a (.ins C dx fs'))) :
    ∃ dx' fs0, H a = some (.ins C dx' fs0) ∧ fs0.length < 1000 ∧ D.nx σ (upd H a (.ins C dx' (putF f y fs0))) := ⟨dx, fs, h, Nat.le_of_ble_eq_true l, by rw [e]; exact q⟩
theorem w_radd {i j : Int} {Q : VK} (q : Q (.int (i + j)) H) : L2.rAdd (.int i) (.int j) H Q := ⟨i, j, rfl, rfl, q⟩
instance (priority := 900) i_w_radd {i j : Int} {Q : VK} : Stp (L2.rAdd (.int i) (.int j) H Q) (Q (.int (i + j)) H) := ⟨w_radd⟩
theorem w_rsub {i j : Int} {Q : VK} (q : Q (.int (i - j)) H) : L2.rSub (.int i) (.int j) H Q := ⟨i, j, rfl, rfl, q⟩
instance (priority := 900) i_w_rsub {i j : Int} {Q : VK} : Stp (L2.rSub (.int i) (.int j) H Q) (Q (.int (i - j)) H) := ⟨w_rsub⟩
theorem w_aug {te : TE} {ti : TIp} (hx : σ[n]? = some (some x)) (h : te σ H fun y H1 => ti x y H1 fun z H2 => D.nx (σ.set n (some z)) H2) : tAug n te ti D σ H := ⟨x, hx, h⟩
theorem w_ip {f : Int → Int → Int} {i j : Int} {Q : VK} (q : Q (.int (f i j)) H) : ipI f (.int i) (.int j) H Q := ⟨i, j, rfl, rfl, q⟩
instance (priority := 900) i_w_ip {f : Int → Int → Int} {i j : Int} {Q : VK} : Stp (ipI f (.int i) (.int j) H Q) (Q (.int (f i j)) H) := ⟨w_ip⟩
theorem w_rs {C : Addr} {W : WX} (h : W (.ref C) none σ H) : tRs C W D σ H := h
instance (priority := 900) i_w_rs {C : Addr} {W : WX} : Stp (tRs C W D σ H) (W (.ref C) none σ H) := ⟨w_rs⟩
theorem w_par {i j : Nat} {tA : TA} (h : tA σ H fun vs H1 => ∃ v w, vs = [v, w] ∧ D.nx ((σ.set i (some v)).set j (some w)) H1) : tPar i j tA D σ H := h
instance (priority := 900) i_w_par {i j : Nat} {tA : TA} : Stp (tPar i j tA D σ H) (tA σ H fun vs H1 => ∃ v w, vs = [v, w] ∧ D.nx ((σ.set i (some v)).set j (some w)) H1) := ⟨w_par⟩
/-! ### ifs -/
theorem if_d {p : Prop} [Decidable p] {A B : Prop} (h1 : p → A) (h2 : ¬ p → B) : if decide p = true then A else B := by
  by_cases h : p
  · rw [decide_eq_true h]; exact h1 h
  · rw [decide_eq_false h]; exact h2 h
theorem if_nd {p : Prop} [Decidable p] {A B : Prop} (h1 : ¬ p → A) (h2 : p → B) : if (!decide p) = true then A else B := by
  by_cases h : p
  · rw [decide_eq_true h]; exact h2 h
  · rw [decide_eq_false h]; exact h1 h
theorem if_T {A B : Prop} (h : A) : if true = true then A else B := h
instance (priority := 900) i_if_T {A B : Prop} : Stp (if true = true then A else B) (A) := ⟨if_T⟩
theorem if_F {A B : Prop} (h : B) : if false = true then A else B := h
instance (priority := 900) i_if_F {A B : Prop} : Stp (if false = true then A else B) (B) := ⟨if_F⟩
theorem if_nT {A B : Prop} (h : B) : if (!true) = true then A else B := h
instance (priority := 900) i_if_nT {A B : Prop} : Stp (if (!true) = true then A else B) (B) := ⟨if_nT⟩
theorem if_nF {A B : Prop} (h : A) : if (!false) = true then A else B := h
instance (priority := 900) i_if_nF {A B : Prop} : Stp (if (!false) = true then A else B) (A) := ⟨if_nF⟩
theorem if_b {b : Bool} {A B : Prop} (h1 : b = true → A) (h2 : b = false → B) : if b = true then A else B := by
  cases b
  · exact h2 rfl
  · exact h1 rfl
end
/-! ### loops -/
section
variable {K : PySem.W.Frag} {g : TG} {tb : TS} {D : Ends} {σ : L2.St} {H : Hp} {tA : TA} {tl : TE}
def LoopL (K : PySem.W.Frag) (a : Addr) (g : TG) (tb : TS) (D : Ends) (σ : L2.St) (H : Hp) : Prop := (∃ xs, SqL K H a xs) ∧ ∃ W : Nat → Nat → L2.St → Hp → Prop, (∃ m, W 0 m σ H) ∧ ∀ i m σ H, W i m σ H →
  ((Itl K a).stop i H ∧ D.nx σ H) ∨ ((Itl K a).go i H ∧ ∃ N : L2.St → Hp → Prop, (∀ σ' H', N σ' H' → ∃ m', m' < m ∧ W (i + 1) m' σ' H') ∧ ∀ x H', (Itl K a).yld i H x H' → g x σ H' fun σ2 H2 => tb { D with nx := N, ct := N, bk := D.nx } σ2 H2)
def LoopT (K : PySem.W.Frag) (a : Addr) (g : TG) (tb : TS) (D : Ends) (σ : L2.St) (H : Hp) : Prop := (∃ xs, SqT K H a xs) ∧ ∃ W : Nat → Nat → L2.St → Hp → Prop, (∃ m, W 0 m σ H) ∧ ∀ i m σ H, W i m σ H →
  ((Itt K a).stop i H ∧ D.nx σ H) ∨ ((Itt K a).go i H ∧ ∃ N : L2.St → Hp → Prop, (∀ σ' H', N σ' H' → ∃ m', m' < m ∧ W (i + 1) m' σ' H') ∧ ∀ x H', (Itt K a).yld i H x H' → g x σ H' fun σ2 H2 => tb { D with nx := N, ct := N, bk := D.nx } σ2 H2)
/-- the same words by names -/
def rLoop1 (g : TG) (tb : TS) (D : Ends) (σ : L2.St) (vs : List V) (H1 : Hp) : Prop := ∃ j : Int, vs = [.int j] ∧ -(2 ^ 62) ≤ j ∧ j < 2 ^ 62 ∧ ∃ W : Nat → Nat → L2.St → Hp → Prop, (∃ m, W 0 m σ H1) ∧ ∀ i m σ H, W i m σ H →
  ((Itr 0 j.toNat).stop i H ∧ D.nx σ H) ∨ ((Itr 0 j.toNat).go i H ∧ ∃ N : L2.St → Hp → Prop, (∀ σ' H', N σ' H' → ∃ m', m' < m ∧ W (i + 1) m' σ' H') ∧ ∀ x H', (Itr 0 j.toNat).yld i H x H' → g x σ H' fun σ2 H2 => tb { D with nx := N, ct := N, bk := D.nx } σ2 H2)
def rLoop2 (g : TG) (tb : TS) (D : Ends) (σ : L2.St) (vs : List V) (H1 : Hp) : Prop := ∃ i j : Int, vs = [.int i, .int j] ∧ (-(2 ^ 62) ≤ i ∧ i < 2 ^ 62 ∧ -(2 ^ 62) ≤ j ∧ j < 2 ^ 62) ∧ ∃ W : Nat → Nat → L2.St → Hp → Prop, (∃ m, W 0 m σ H1) ∧ ∀ k m σ H, W k m σ H →
  ((Itr i (j - i).toNat).stop k H ∧ D.nx σ H) ∨ ((Itr i (j - i).toNat).go k H ∧ ∃ N : L2.St → Hp → Prop, (∀ σ' H', N σ' H' → ∃ m', m' < m ∧ W (k + 1) m' σ' H') ∧ ∀ x H', (Itr i (j - i).toNat).yld k H x H' → g x σ H' fun σ2 H2 => tb { D with nx := N, ct := N, bk := D.nx } σ2 H2)
def rLoopL (K : PySem.W.Frag) (g : TG) (tb : TS) (D : Ends) (σ : L2.St) (x : V) (H1 : Hp) : Prop := ∃ a, x = .ref a ∧ LoopL K a g tb D σ H1
def rLoopT (K : PySem.W.Frag) (g : TG) (tb : TS) (D : Ends) (σ : L2.St) (x : V) (H1 : Hp) : Prop := ∃ a, x = .ref a ∧ LoopT K a g tb D σ H1
theorem w_forR1 (h : tA σ H fun vs H1 => rLoop1 g tb D σ vs H1) : tFor (iRng1 tA) g tb D σ H := h
instance (priority := 900) i_w_forR1  : Stp (tFor (iRng1 tA) g tb D σ H) (tA σ H fun vs H1 => rLoop1 g tb D σ vs H1) := ⟨w_forR1⟩
theorem w_forR2 (h : tA σ H fun vs H1 => rLoop2 g tb D σ vs H1) : tFor (iRng2 tA) g tb D σ H := h
instance (priority := 900) i_w_forR2  : Stp (tFor (iRng2 tA) g tb D σ H) (tA σ H fun vs H1 => rLoop2 g tb D σ vs H1) := ⟨w_forR2⟩
theorem w_forL (h : tl σ H fun x H1 => rLoopL K g tb D σ x H1) : tFor (iList K tl) g tb D σ H := h
instance (priority := 900) i_w_forL  : Stp (tFor (iList K tl) g tb D σ H) (tl σ H fun x H1 => rLoopL K g tb D σ x H1) := ⟨w_forL⟩
theorem w_forT (h : tl σ H fun x H1 => rLoopT K g tb D σ x H1) : tFor (iTup K tl) g tb D σ H := h
instance (priority := 900) i_w_forT  : Stp (tFor (iTup K tl) g tb D σ H) (tl σ H fun x H1 => rLoopT K g tb D σ x H1) := ⟨w_forT⟩
/-- for i in range(n), n a Nat -/
theorem loop1 {n : Nat} (Pv : Nat → L2.St → Hp → Prop) {j : Int} (hj : j = (n : Int)) (hn : n < 4000000000) (h0 : Pv 0 σ H)
    (hs : ∀ i σ H, i < n → Pv i σ H → g (.int (i : Int)) σ H fun σ2 H2 => tb { D with nx := Pv (i + 1), ct := Pv (i + 1), bk := D.nx } σ2 H2) (hd : ∀ σ H, Pv n σ H → D.nx σ H) : rLoop1 g tb D σ [.int j] H := by
  subst hj
  refine ⟨(n : Int), rfl, by omega, by omega, for_range (lo := 0) (n := (n : Int).toNat) Pv h0 (fun i σ H hi p => ?_) (fun σ H p => hd σ H ?_)⟩
  · have e : (0 : Int) + (i : Int) = (i : Int) := Int.zero_add _
    rw [e]
    exact hs i σ H (by omega) p
  · have e : (n : Int).toNat = n := Int.toNat_natCast n
    rw [e] at p
    exact p
theorem loop2 {lo hi : Int} (Pv : Nat → L2.St → Hp → Prop) (hn : -4000000000 < lo ∧ lo < 4000000000 ∧ -4000000000 < hi ∧ hi < 4000000000) (h0 : Pv 0 σ H)
    (hs : ∀ (i : Nat) σ H, lo + i < hi → Pv i σ H → g (.int (lo + i)) σ H fun σ2 H2 => tb { D with nx := Pv (i + 1), ct := Pv (i + 1), bk := D.nx } σ2 H2) (hd : ∀ σ H, Pv (hi - lo).toNat σ H → D.nx σ H) : rLoop2 g tb D σ [.int lo, .int hi] H := by
  refine ⟨lo, hi, rfl, ⟨by omega, by omega, by omega, by omega⟩, for_range (lo := lo) (n := (hi - lo).toNat) Pv h0 (fun i σ H hi' p => hs i σ H (by omega) p) (fun σ H p => hd σ H p)⟩
theorem loopL {a : Addr} {xs : List V} (Pv : Nat → L2.St → Hp → Prop) (hx : SqL K H a xs) (h0 : Pv 0 σ H) (hl : ∀ i σ H, i ≤ xs.length → Pv i σ H → SqL K H a xs)
    (hs : ∀ i x σ H, xs[i]? = some x → Pv i σ H → g x σ H fun σ2 H2 => tb { D with nx := Pv (i + 1), ct := Pv (i + 1), bk := D.nx } σ2 H2) (hd : ∀ σ H, Pv xs.length σ H → D.nx σ H) : rLoopL K g tb D σ (.ref a) H := ⟨a, rfl, ⟨_, hx⟩, for_list Pv h0 hl hs hd⟩
theorem loopT {a : Addr} {xs : List V} (Pv : Nat → L2.St → Hp → Prop) (hx : SqT K H a xs) (h0 : Pv 0 σ H) (hl : ∀ i σ H, i ≤ xs.length → Pv i σ H → SqT K H a xs)
    (hs : ∀ i x σ H, xs[i]? = some x → Pv i σ H → g x σ H fun σ2 H2 => tb { D with nx := Pv (i + 1), ct := Pv (i + 1), bk := D.nx } σ2 H2) (hd : ∀ σ H, Pv xs.length σ H → D.nx σ H) : rLoopT K g tb D σ (.ref a) H := ⟨a, rfl, ⟨_, hx⟩, for_tup Pv h0 hl hs hd⟩
end
/-! ### heaps -/
theorem up_k {H : Hp} {a b : Addr} {o u : HO} (h : H b = some u) (n : b ≠ a) : upd H a o b = some u := (upd_ne n).trans h
theorem up_n {H : Hp} {a b : Addr} {o u : HO} (h : H b = some u) (n : H a = none) : upd H a o b = some u := up_k h (ne_of_none h n)
theorem same_new {H : Hp} {a : Addr} {o : HO} (n : H a = none) : Same H (upd H a o) := fun _ _ e => up_n e n
theorem same_trans_new {H H1 : Hp} {a : Addr} {o : HO} (s : Same H H1) (n : H1 a = none) : Same H (upd H1 a o) := fun b u e => up_n (s b u e) n
theorem seqL_new {K : PySem.W.Frag} {H : Hp} {a b : Addr} {o : HO} {xs : List V} (h : SqL K H b xs) (n : H a = none) : SqL K (upd H a o) b xs := (same_new n).seq h
theorem seqL_put {K : PySem.W.Frag} {H : Hp} {a b : Addr} {o : HO} {xs : List V} (h : SqL K H b xs) (n : a ≠ b) : SqL K (upd H a o) b xs := by
  rcases h with (h | ⟨u, h⟩) | h
  · exact .inl (.inl (up_k h n.symm))
  · exact .inl (.inr ⟨u, up_k h n.symm⟩)
  · exact .inr h
end G
namespace G
open PySem PySem.Spec PyProof.Rows L2
/-! ### the script, which nobody writes -/
/-- a list that stands still: frozen, or of the written part -/
def Scr (K : PySem.W.Frag) (H : Hp) (a : Addr) (xs : List V) : Prop := (∃ o, H a = some (.frz o (.lst xs))) ∨
    ∃ (o : Obj) (its : Array Value) (n : Nat), K.lookup a = some o ∧ o.cls = .type "list" ∧ o.dict = none ∧ o.data = .seq its n ∧ its.size ≤ sizeLine ∧ Vals xs its.toList
section
variable {K : PySem.W.Frag} {H H' : Hp} {a q : Addr} {xs : List V} {o : HO}
theorem Scr.sq (h : Scr K H a xs) : SqL K H a xs := by
  rcases h with ⟨o, h⟩ | h
  · exact .inl (.inr ⟨o, h⟩)
  · exact .inr h
theorem Scr.same (h : Scr K H a xs) (s : Same H H') : Scr K H' a xs := by
  rcases h with ⟨o, h⟩ | h
  · exact .inl ⟨o, s _ _ h⟩
  · exact .inr h
theorem Scr.of (hO : Only H) (h : SqL K H a xs) : Scr K H a xs := by
  rcases h with (h | ⟨o, h⟩) | h
  · rcases hO a with e | ⟨o, ys, e⟩
    · rw [e] at h; cases h
    · rw [e] at h; cases h
  · exact .inl ⟨o, h⟩
  · exact .inr h
theorem Scr.new (h : Scr K H a xs) (n : H q = none) : Scr K (upd H q o) a xs := h.same (same_new n)
/-- not frozen -/
def Thw (H : Hp) (q : Addr) : Prop := ∀ o u, H q ≠ some (.frz o u)
theorem Thw.lst {xs : List V} (h : H q = some (.lst xs)) : Thw H q := fun _ _ e => by rw [h] at e; cases e
theorem Thw.ins {C dx : Addr} {fs : List (Str × V)} (h : H q = some (.ins C dx fs)) : Thw H q := fun _ _ e => by rw [h] at e; cases e
theorem Scr.put (h : Scr K H a xs) (n : Thw H q) : Scr K (upd H q o) a xs := by
  rcases h with ⟨u, h⟩ | h
  · refine .inl ⟨u, up_k h ?_⟩
    intro e
    subst e
    exact n _ _ h
  · exact .inr h
/-- written objects are not frozen: what was frozen stays so -/
def FrzIn (H H' : Hp) : Prop := ∀ b o u, H b = some (.frz o u) → H' b = some (.frz o u)
theorem Scr.frz (h : Scr K H a xs) (s : FrzIn H H') : Scr K H' a xs := by
  rcases h with ⟨o, h⟩ | h
  · exact .inl ⟨o, s _ _ _ h⟩
  · exact .inr h
end
theorem up_none {H : Hp} {a b : Addr} {o : HO} (h : upd H a o b = none) : b ≠ a ∧ H b = none := by
  by_cases e : b = a
  · subst e; rw [upd_same] at h; cases h
  · rw [upd_ne e] at h; exact ⟨e, h⟩
theorem none_up {H : Hp} {a b : Addr} {o : HO} (n : b ≠ a) (h : H b = none) : upd H a o b = none := (upd_ne n).trans h
theorem if_yes {p : Prop} [Decidable p] {A B : Prop} (h : p) (q : A) : if decide p = true then A else B := by rw [decide_eq_true h]; exact q
theorem if_no {p : Prop} [Decidable p] {A B : Prop} (h : ¬ p) (q : B) : if decide p = true then A else B := by rw [decide_eq_false h]; exact q
theorem if_nyes {p : Prop} [Decidable p] {A B : Prop} (h : ¬ p) (q : A) : if (!decide p) = true then A else B := by rw [decide_eq_false h]; exact q
theorem if_nno {p : Prop} [Decidable p] {A B : Prop} (h : p) (q : B) : if (!decide p) = true then A else B := by rw [decide_eq_true h]; exact q
end G

namespace G
open PySem PySem.Spec PyProof.Rows L2
theorem w_cut {t u : TS} {D : Ends} {σ : L2.St} {H : Hp} (Mid : L2.St → Hp → Prop) (h : t { D with nx := Mid } σ H) (k : ∀ σ' H', Mid σ' H' → u D σ' H') : Evl.tCut t u D σ H := ⟨Mid, h, k⟩
theorem ixN_of {n j : Nat} {k : Int} (e : k = (j : Int)) (h : j < n) : ixN n k = some j := by
  subst e
  unfold ixN
  rw [if_pos (by omega), if_pos (by omega)]; simp
end G

namespace G
open PySem PySem.Spec PyProof.Rows L2
/-! the same, the cheap question first -/
section
variable {K : PySem.W.Frag} {H : Hp} {a b q : Addr} {o u : HO} {xs : List V}
theorem up_k' (n : b ≠ a) (h : H b = some u) : upd H a o b = some u := up_k h n
theorem scr_new' (n : H q = none) (h : Scr K H a xs) : Scr K (upd H q o) a xs := h.new n
theorem scr_put' (n : Thw H q) (h : Scr K H a xs) : Scr K (upd H q o) a xs := h.put n
theorem sq_new' (n : H a = none) (h : SqL K H b xs) : SqL K (upd H a o) b xs := seqL_new h n
theorem sq_put' (n : a ≠ b) (h : SqL K H b xs) : SqL K (upd H a o) b xs := seqL_put h n
end
end G

namespace G
open PySem PySem.Spec PyProof.Rows L2
section
variable {H : Hp} {Q : VK} {i : Int} {a : Addr} {b : Bool} {z : Str}
theorem w_isN0 (q : Q (.bl true) H) : rIsN .non .non H Q := ⟨rfl, q⟩
instance (priority := 900) i_w_isN0  : Stp (rIsN .non .non H Q) (Q (.bl true) H) := ⟨w_isN0⟩
theorem w_isNi (q : Q (.bl false) H) : rIsN (.int i) .non H Q := ⟨rfl, q⟩
instance (priority := 900) i_w_isNi  : Stp (rIsN (.int i) .non H Q) (Q (.bl false) H) := ⟨w_isNi⟩
theorem w_isNr (q : Q (.bl false) H) : rIsN (.ref a) .non H Q := ⟨rfl, q⟩
instance (priority := 900) i_w_isNr  : Stp (rIsN (.ref a) .non H Q) (Q (.bl false) H) := ⟨w_isNr⟩
theorem w_isNb (q : Q (.bl false) H) : rIsN (.bl b) .non H Q := ⟨rfl, q⟩
instance (priority := 900) i_w_isNb  : Stp (rIsN (.bl b) .non H Q) (Q (.bl false) H) := ⟨w_isNb⟩
theorem w_isNs (q : Q (.bl false) H) : rIsN (.str z) .non H Q := ⟨rfl, q⟩
instance (priority := 900) i_w_isNs  : Stp (rIsN (.str z) .non H Q) (Q (.bl false) H) := ⟨w_isNs⟩
theorem w_notN0 (q : Q (.bl false) H) : rNotN .non .non H Q := ⟨rfl, q⟩
instance (priority := 900) i_w_notN0  : Stp (rNotN .non .non H Q) (Q (.bl false) H) := ⟨w_notN0⟩
theorem w_notNi (q : Q (.bl true) H) : rNotN (.int i) .non H Q := ⟨rfl, q⟩
instance (priority := 900) i_w_notNi  : Stp (rNotN (.int i) .non H Q) (Q (.bl true) H) := ⟨w_notNi⟩
theorem w_notNr (q : Q (.bl true) H) : rNotN (.ref a) .non H Q := ⟨rfl, q⟩
instance (priority := 900) i_w_notNr  : Stp (rNotN (.ref a) .non H Q) (Q (.bl true) H) := ⟨w_notNr⟩
theorem w_notNb (q : Q (.bl true) H) : rNotN (.bl b) .non H Q := ⟨rfl, q⟩
instance (priority := 900) i_w_notNb  : Stp (rNotN (.bl b) .non H Q) (Q (.bl true) H) := ⟨w_notNb⟩
theorem w_notNs (q : Q (.bl true) H) : rNotN (.str z) .non H Q := ⟨rfl, q⟩
instance (priority := 900) i_w_notNs  : Stp (rNotN (.str z) .non H Q) (Q (.bl true) H) := ⟨w_notNs⟩
end
end G

/-! properties, own ==, isinstance, further facts of the head -/
namespace G
open PySem PySem.Spec PyProof.Rows L2

/-! ### the Hook with getters and any Bool facts -/
/-- where a property's getter stands -/
def prA (K : PySem.W.Frag) (C f : Str) : Addr := match PySem.W.recIn K (He.ma K (He.ga K C) f) "property" with
  | some (.ref g :: _) => g
  | _ => 0
structure Pr where
  cls : Str
  fld : Str
  d : He.DefD
def fnWA (K : PySem.W.Frag) (a : Addr) : He.FnW := match K.lookup a with
  | some ⟨_, _, .func fd, _⟩ => some (fd.name, fd.qualname, fd.params, fd.body, fd.scope, fd.globals, fd.closure, fd.builtins)
  | _ => none
def okA (K : PySem.W.Frag) (a : Addr) (d : He.DefD) : Bool := PySem.W.keepIn K (.ref a) && (match K.lookup a with
  | some ⟨_, _, .func fd, _⟩ => PySem.W.codeIn K fd.code d.qual && (He.dflB K fd.defaults (d.dvs K) && He.kwdB K fd.kwdefaults (d.kws K))
  | _ => false)
theorem funD_A {K : PySem.W.Frag} {d : He.DefD} {a : Addr} (e : fnWA K a = d.val) (c : okA K a d = true) : ∃ fd, FunD K d.name d.qual d.params d.body d.scope (d.dvs K) (d.kws K) a fd := by
  obtain ⟨kp, c2⟩ := He.ba c
  unfold fnWA at e
  cases q : K.lookup a with
  | none =>
    rw [q] at c2
    cases c2
  | some o =>
    obtain ⟨oc, od, dt, osl⟩ := o
    rw [q] at c2 e
    cases dt with
    | func fd =>
      obtain ⟨n1, n2, n3, n4, n5, n6, n7, n8, n9, n10, n11, n12, n13, n14, n15⟩ := fd
      have e2 : (some (n1, n2, n3, n4, n5, n6, n7, n15) : He.FnW) = some (d.name, d.qual, d.params, .stmts d.body, d.scope, mainGlobals, [], builtinsNs) := e
      simp only [Option.some.injEq, Prod.mk.injEq] at e2
      obtain ⟨h1, h2, h3, h4, h5, h6, h7, h8⟩ := e2
      subst h1 h2 h3 h4 h5 h6 h7 h8
      have c3 : (PySem.W.codeIn K n13 d.qual && (He.dflB K n8 (d.dvs K) && He.kwdB K n9 (d.kws K))) = true := c2
      obtain ⟨k1, k2⟩ := He.ba c3
      obtain ⟨k3, k4⟩ := He.ba k2
      exact ⟨_, ⟨oc, od, n8, n9, n10, n11, n12, n13, n14, osl, rfl, q, k1, He.dflB_ok k3, He.kwdB_ok k4⟩, kp⟩
    | _ => cases c2
def Pr.ok (K : PySem.W.Frag) (p : Pr) : Bool :=
  He.eqO (PySem.W.findIn K (.ref (He.ga K p.cls)) p.fld) (some (some (.ref (He.ma K (He.ga K p.cls) p.fld)))) &&
  (He.eqO (PySem.W.specialIn K (.ref (He.ma K (He.ga K p.cls) p.fld)) "__get__") (some (some (.builtin "property.__get__"))) &&
  (decide (PySem.W.takesIn K (.ref (He.ma K (He.ga K p.cls) p.fld)) = some true) &&
  ((match PySem.W.recIn K (He.ma K (He.ga K p.cls) p.fld) "property" with
    | some (.ref _ :: _) => true
    | _ => false) && okA K (prA K p.cls p.fld) p.d)))
theorem Pr.prop {K : PySem.W.Frag} {p : Pr} (h : p.ok K = true) : PropOf K (He.ga K p.cls) p.fld (He.ma K (He.ga K p.cls) p.fld) (prA K p.cls p.fld) ∧ okA K (prA K p.cls p.fld) p.d = true := by
  obtain ⟨h1, h⟩ := He.ba h
  obtain ⟨h2, h⟩ := He.ba h
  obtain ⟨h3, h⟩ := He.ba h
  obtain ⟨h4, h5⟩ := He.ba h
  refine ⟨⟨He.eqO_ok h1, He.eqO_ok h2, of_decide_eq_true h3, ?_⟩, h5⟩
  unfold prA
  split at h4
  · rename_i g rest q
    rw [q]
    exact ⟨rest, rfl⟩
  · cases h4

abbrev AlB : Type := (He.AlD × List He.FnW) × Bool
abbrev Ex : Type := PySem.W.Frag → Bool
def obsB (fa : List He.Fa) (fn : List He.DefD) (pr : List Pr) (ex : List Ex) (K : PySem.W.Frag) : AlB := ((He.obsD fa fn K, pr.map fun p => fnWA K (prA K p.cls p.fld)), (pr.all fun p => p.ok K) && ex.all fun f => f K)
def valB (fn : List He.DefD) (pr : List Pr) : AlB := ((He.valD fn, pr.map fun p => p.d.val), true)
def SaysB (fa : List He.Fa) (fn : List He.DefD) (pr : List Pr) (ex : List Ex) (K : PySem.W.Frag) : Prop := obsB fa fn pr ex K = valB fn pr
def obsBG (n : Nat) (fa : List He.Fa) (fn : List He.DefD) (pr : List Pr) (ex : List Ex) (g : Addr → Option Obj) : AlB := obsB fa fn pr ex (He.frG g (He.asD g n))
def hookB (n : Nat) (fa : List He.Fa) (fn : List He.DefD) (pr : List Pr) (ex : List Ex) : PySem.W.Hook where
  α := AlB
  obs := fun s => obsBG n fa fn pr ex s.heap.get?
  val := fun _ => valB fn pr
  says := fun _ h => ∃ K : PySem.W.Frag, K.In h ∧ SaysB fa fn pr ex K
  of := fun _ _ e => ⟨_, He.frG_in, e⟩
  keeps := fun _ _ _ ⟨K, hK, c⟩ k => ⟨K, PySem.W.Frag.In.keeps hK k, c⟩
theorem obsBG_eq {n : Nat} {fa : List He.Fa} {fn : List He.DefD} {pr : List Pr} {ex : List Ex} {g : Addr → Option Obj} {s : Shared} (h : ∀ a, g a = s.heap.get? a) : obsBG n fa fn pr ex g = (hookB n fa fn pr ex).obs s := by
  have e : g = s.heap.get? := funext h
  rw [e] <;> rfl
section
variable {fa : List He.Fa} {fn : List He.DefD} {pr : List Pr} {ex : List Ex} {K : PySem.W.Frag}
theorem SaysB.d (c : SaysB fa fn pr ex K) : He.SaysD fa fn K := congrArg (fun z : AlB => z.1.1) c
theorem SaysB.ex_ (c : SaysB fa fn pr ex K) (i : Nat) {f : Ex} (h : ex[i]? = some f := by rfl) : f K = true := by
  have c1 := (He.ba (show ((pr.all fun p => p.ok K) && ex.all fun f => f K) = true from congrArg (fun z : AlB => z.2) c)).2
  exact List.all_eq_true.mp c1 f (List.mem_of_getElem? h)
theorem SaysB.pr_ (c : SaysB fa fn pr ex K) (i : Nat) {p : Pr} (h : pr[i]? = some p := by rfl) :
    PropOf K (He.ga K p.cls) p.fld (He.ma K (He.ga K p.cls) p.fld) (prA K p.cls p.fld) ∧ ∃ fd, FunD K p.d.name p.d.qual p.d.params p.d.body p.d.scope (p.d.dvs K) (p.d.kws K) (prA K p.cls p.fld) fd := by
  have c1 := (He.ba (show ((pr.all fun p => p.ok K) && ex.all fun f => f K) = true from congrArg (fun z : AlB => z.2) c)).1
  obtain ⟨a, b⟩ := Pr.prop (List.all_eq_true.mp c1 p (List.mem_of_getElem? h))
  have e : pr.map (fun p => fnWA K (prA K p.cls p.fld)) = pr.map fun p => p.d.val := congrArg (fun z : AlB => z.1.2) c
  have e2 : (pr.map fun p => fnWA K (prA K p.cls p.fld))[i]? = (pr.map fun p => p.d.val)[i]? := by rw [e]
  rw [List.getElem?_map, List.getElem?_map, h] at e2
  exact ⟨a, funD_A (Option.some.inj e2) b⟩
end
/-- the head's facts, with getters and Bools -/
structure TxB (fa : List He.Fa) (fn : List He.DefD) (pr : List Pr) (ex : List Ex) (K : PySem.W.Frag) (mg : Str → Option Value) (base : Heap) : Prop extends Tx fa fn K mg base where
  b : SaysB fa fn pr ex K

/-! ### properties -/
section
variable (P : Program) (w : World) (K : PySem.W.Frag) (mg : Str → Option Value) (base : Heap)
structure HasP (k : Nat) (c f : Str) (ps : List Str) (sp : Sp) : Prop where
  cl : Cls K (He.ga K c)
  pr : PropOf K (He.ga K c) f (He.ma K (He.ga K c) f) (prA K c f)
  ex : ∃ fd, FnOk P w K mg base (L2.CX P w) k (prA K c f) fd ps sp ∧ Binds K fd ps []
end
theorem HasP.mono {P : Program} {w : World} {K : PySem.W.Frag} {mg : Str → Option Value} {base : Heap} {j k : Nat} {c f : Str} {ps : List Str} {sp : Sp} (h : HasP P w K mg base j c f ps sp) (l : j ≤ k) : HasP P w K mg base k c f ps sp :=
  ⟨h.cl, h.pr, let ⟨fd, F, b⟩ := h.ex; ⟨fd, F.mono l, b⟩⟩
/-- e.f -/
def tPr (C : Addr) (sp : Sp) (ta : TE) : TE := fun σ H Q => ta σ H fun x H1 => ∃ a dx fs, x = .ref a ∧ H1 a = some (.ins C dx fs) ∧ sp [.ref a] H1 Q E0
section
variable {X : Cx} {k : Nat} {C p g a dx : Addr} {fs : List (Str × V)} {c f : Str} {fd : FuncData} {ps : List Str} {sp : Sp} {E : L2.St → XK} {e : Expr} {pos : Pos} {ta : TE}
theorem getprop_okS {pins : List (Addr × Obj)} {σ : L2.St} {H : Hp} {s : Shared} {Q : VK} {b : Bool} (I : Inv X pins σ H s) (ea : H a = some (.ins C dx fs)) (c : Cls X.K C) (hp : PropOf X.K C f p g)
    (F : FnOk X.prog X.w X.K X.mg X.base (XC X) k g fd ps sp) (hr : Room (k + 1) X.A) (hb : Binds X.K fd ps []) (h : sp [.ref a] H Q E0) :
    wpAny (model X.prog X.w) X.A (getAttr (.ref a) f b) (EP X pins σ Q) X.xe s := by
  obtain ⟨mA, O, _, _, _, _⟩ := ins_get I.hok ea
  obtain ⟨od, J, _⟩ := O.look
  obtain ⟨rest, hrec⟩ := hp.rec_
  have I1 := I.tok (s.toks + 1)
  have hl : ([Value.ref a] ++ ([] : List Value)).length = ps.length := by
    rw [← F.len _ _ _ _ h]
    rfl
  have hc : (PySem.W.clsIn X.K C).isSome = true := by
    obtain ⟨cd, hc, _⟩ := PySem.W.any_some c.hd
    rw [hc]
    rfl
  refine PySem.W.get_bind I.kIn J (PySem.W.plainGet_of (c.get f)).1 (PySem.W.findObj_data hc hp.at_ hp.get hp.tak) (PySem.W.plainGet_of (c.get f)).2 (wpAny_call (PySem.W.prop_get (s := { s with toks := s.toks + 1 }) I.kIn hrec ?_))
  refine codeAny_mono (F.run X.A.in1 X.stack { s with toks := s.toks + 1 } H ⟨[.ref a], []⟩ [.ref a] [.ref a] Q E0 hr.in1 I1.env0.in1 (hb _ [.ref a] I1.kIn hl) (.cons rfl .nil) h) fun r s' hq => ?_
  cases r with
  | error er =>
    obtain ⟨_, _, _, _, _, _, _, _, _, _, _, _, z⟩ := hq
    exact z.elim
  | ok fl =>
    cases fl with
    | ret u =>
      obtain ⟨v, H', I3, rv, q3⟩ := I1.after hq
      show wpAny _ _ (handedOut u) _ _ _
      rw [PySem.W.handedOut_of (handed_of rv)]
      exact wpAny_pure ⟨v, H', I3, rv, q3⟩
    | next => exact False.elim hq
    | brk => exact False.elim hq
    | cont => exact False.elim hq
theorem pe_pr (he : PE X e ta) (h : HasP X.prog X.w X.K X.mg X.base k c f ps sp) (hr : Room (k + 1) X.A)
    (hab : attributeBase e f X.env (eval e X.env) = eval e X.env := by rfl) : PE X (.Attribute e f pos) (tPr (He.ga X.K c) sp ta) := by
  obtain ⟨fd, F, b⟩ := h.ex
  refine ⟨fun pins s σ H Q I hh => ?_⟩
  refine attr_of hab (thn (he.run pins s σ H _ I hh) fun u s1 ⟨x, H1, I1, rx, a, dx, fs, ex, ea, q⟩ => ?_)
  subst ex
  obtain rfl : u = Value.ref a := rx
  exact getprop_okS I1 ea h.cl h.pr F hr b q
end
theorem mk_hasP {P : Program} {w : World} {K : PySem.W.Frag} {mg : Str → Option Value} {base : Heap} {k : Nat} {c m name qual : Str} {params : Arguments} {body : List Stmt} {scope : Scope} {N ps : List Str} {sp : Sp} (cl : Cls K (He.ga K c))
    (F : PropOf K (He.ga K c) m (He.ma K (He.ga K c) m) (prA K c m) ∧ ∃ fd, FunD K name qual params body scope [] [] (prA K c m) fd) (S : FnScope N ps scope)
    (hb : ∀ (kV doc pm : Value) (an : Option Addr) (cdv ct : Value) (us : List Value), us.length = ps.length → bindArgs (PySem.W.fnOf name qual params body scope .none kV doc pm an cdv ct) ⟨us, []⟩ = pure (ps.zip us))
    (len : ∀ vs H Q E, sp vs H Q E → vs.length = ps.length) (hbody : Body P w K mg base k N qual scope (prA K c m) body sp) : HasP P w K mg base (k + 1) c m ps sp := by
  obtain ⟨pr, fd, F⟩ := F
  exact ⟨cl, pr, fd, FunD.ok (CX := L2.CX P w) F S len hbody, F.bindsN hb⟩
section
variable {K : PySem.W.Frag} {σ : L2.St} {H : Hp} {Q : VK} {ta : TE}
theorem w_pr {C : Addr} {sp : Sp} (h : ta σ H fun x H1 => ∃ a dx fs, x = .ref a ∧ H1 a = some (.ins C dx fs) ∧ sp [.ref a] H1 Q E0) : tPr C sp ta σ H Q := h
instance (priority := 900) i_w_pr {C : Addr} {sp : Sp} : Stp (tPr C sp ta σ H Q) (ta σ H fun x H1 => ∃ a dx fs, x = .ref a ∧ H1 a = some (.ins C dx fs) ∧ sp [.ref a] H1 Q E0) := ⟨w_pr⟩
theorem w_pr1 {a C dx : Addr} {fs : List (Str × V)} {P : Addr → Prop} (h : H a = some (.ins C dx fs)) (q : P a) : ∃ a' dx' fs', V.ref a = .ref a' ∧ H a' = some (.ins C dx' fs') ∧ P a' := ⟨a, dx, fs, rfl, h, q⟩
end

/-! ### own == -/
/-- what the right side of == may be: its type -/
def tyR (K : PySem.W.Frag) (H : Hp) (y : V) (t : Value) : Prop := (∃ C dx fs b, y = .ref b ∧ H b = some (.ins C dx fs) ∧ t = .ref C) ∨ ((∃ i, y = .int i) ∧ t = .type "int") ∨ (y = .non ∧ t = .type "NoneType") ∨ ((∃ x, y = .str x) ∧ t = .type "str") ∨
  ((∃ b, y = .bl b) ∧ t = .type "bool") ∨ (∃ a xs, y = .ref a ∧ H a = some (.lst xs) ∧ t = .type "list") ∨ (∃ a xs, y = .ref a ∧ H a = some (.tup xs) ∧ t = .type "tuple")
def rOwn (K : PySem.W.Frag) (C : Addr) (sp : Sp) : R2 := fun x y H Q => ∃ a dx fs t, x = .ref a ∧ H a = some (.ins C dx fs) ∧ tyR K H y t ∧ PySem.W.notFirst K C t = true ∧ sp [.ref a, y] H (fun v H' => ∃ b, v = .bl b ∧ Q (.bl b) H') E0
section
variable {X : Cx} {k : Nat} {c : Str} {ps : List Str} {sp : Sp}
theorem op_own (h : HasM X.prog X.w X.K X.mg X.base k c "__eq__" ps sp) (hr : Room k X.A) : OpR X (compareOp .Eq) (rOwn X.K (He.ga X.K c) sp) := by
  intro pins s σ H x y v u Q I rx ry hq
  obtain ⟨fd, F, hb⟩ := h.ex
  obtain ⟨a, dx, fs, t, ex, ea, ty, nf, q⟩ := hq
  subst ex
  obtain rfl : v = Value.ref a := rx
  obtain ⟨mA, J, _⟩ := ins_get I.hok ea
  obtain ⟨od, J, _⟩ := J.look
  obtain ⟨m, hF⟩ := I.fr
  have L : PySem.W.Looks (model X.prog X.w) s.heap (typeOf u) t := by
    rcases ty with ⟨C', dy, gs, b, rfl, eb, rfl⟩ | ⟨⟨i, rfl⟩, rfl⟩ | ⟨rfl, rfl⟩ | ⟨⟨i, rfl⟩, rfl⟩ | ⟨⟨i, rfl⟩, rfl⟩ | ⟨b, xs, rfl, eb, rfl⟩ | ⟨b, xs, rfl, eb, rfl⟩
    · obtain rfl : u = Value.ref b := ry
      obtain ⟨mB, J', _⟩ := ins_get I.hok eb
      obtain ⟨od', J', _⟩ := J'.look
      exact J'.type
    · obtain ⟨t, rfl⟩ := (show ∃ t, u = Value.int i t from ry)
      exact .now
    · obtain rfl := (show u = Value.none from ry)
      exact .now
    · obtain ⟨t, rfl⟩ := (show ∃ t, u = Value.str i t from ry)
      exact .now
    · obtain rfl := (show u = Value.bool i from ry)
      exact .now
    · obtain rfl : u = Value.ref b := ry
      obtain ⟨_, _, n, _, h1⟩ := (show ObjOk X.prog X.w H s.heap b (.lst xs) from I.hok b _ eb)
      exact (PySem.W.Looks.ld (part := none) h1).andThen .now
    · obtain rfl : u = Value.ref b := ry
      obtain ⟨_, _, _, o, h1, h2, _⟩ := (show ObjOk X.prog X.w H s.heap b (.tup xs) from I.hok b _ eb)
      refine (PySem.W.Looks.ld (part := none) h1).andThen ?_
      rw [h2]
      exact .now
  show wpAny (model X.prog X.w) X.A (richCompare .Eq (.ref a) u) (EP X pins σ Q) X.xe s
  refine PySem.W.cmp_K (op := .Eq) hr.units0 hF I.ok.mod.kin J L nf h.me.at_ h.me.fn ?_
  have hl := F.len _ _ _ _ q
  have r2 : Vals [V.ref a, y] [Value.ref a, u] := .cons rfl (.cons ry .nil)
  refine wpAny_call (codeAny_mono (F.run X.A X.stack s H ⟨[.ref a, u], []⟩ [.ref a, u] [.ref a, y] _ E0 hr I.env0 (by
    have := hb s [.ref a, u] I.kIn (by simpa using hl)
    simpa using this) r2 q) fun r s' hq => ?_)
  cases r with
  | error e => exact passZ σ pins H s e s' I hq
  | ok fl =>
    cases fl with
    | ret w =>
      obtain ⟨z, H', I', rz, b, ez, ex⟩ := I.after hq
      subst ez
      obtain rfl : w = Value.bool b := rz
      exact ⟨.bl b, H', I', rfl, ex⟩
    | next => exact False.elim hq
    | brk => exact False.elim hq
    | cont => exact False.elim hq
end
section
variable {K : PySem.W.Frag} {H : Hp} {Q : VK} {y : V} {sp : Sp}
theorem w_own {C a dx : Addr} {fs : List (Str × V)} {t : Value} (h : H a = some (.ins C dx fs)) (ty : tyR K H y t) (nf : PySem.W.notFirst K C t = true) (q : sp [.ref a, y] H (fun v H' => ∃ b, v = .bl b ∧ Q (.bl b) H') E0) : rOwn K C sp (.ref a) y H Q :=
  ⟨a, dx, fs, t, rfl, h, ty, nf, q⟩
theorem tyR_ins {b C dx : Addr} {fs : List (Str × V)} (h : H b = some (.ins C dx fs)) : tyR K H (.ref b) (.ref C) := .inl ⟨C, dx, fs, b, rfl, h, rfl⟩
theorem tyR_lst {b : Addr} {xs : List V} (h : H b = some (.lst xs)) : tyR K H (.ref b) (.type "list") := .inr (.inr (.inr (.inr (.inr (.inl ⟨b, xs, rfl, h, rfl⟩)))))
theorem tyR_tup {b : Addr} {xs : List V} (h : H b = some (.tup xs)) : tyR K H (.ref b) (.type "tuple") := .inr (.inr (.inr (.inr (.inr (.inr ⟨b, xs, rfl, h, rfl⟩)))))
theorem nf_same {C : Addr} : PySem.W.notFirst K C (.ref C) = true := by
  unfold PySem.W.notFirst
  have e : ((Value.ref C) == (Value.ref C)) = true := beq_self_eq_true _
  rw [e]
  rfl
end

/-! ### isinstance -/
/-- what an own class has for isinstance of its instances -/
structure InsC (K : PySem.W.Frag) (C : Addr) : Prop where
  cl : Cls K C
  ha : PySem.W.findIn K (.ref C) "__class__" = some (some (.builtin "object.__class__"))
  hn : PySem.W.specialIn K (.builtin "object.__class__") "__get__" = some (some (.builtin "getset_descriptor.__get__"))
  ht : PySem.W.takesIn K (.builtin "object.__class__") = some true
  hm : PySem.W.mroIn K C (.type "object") = some true
def insB (c : Str) : Ex := fun K => He.Fa.ok K (.cls c) && (He.eqO (PySem.W.findIn K (.ref (He.ga K c)) "__class__") (some (some (.builtin "object.__class__"))) &&
  (He.eqO (PySem.W.specialIn K (.builtin "object.__class__") "__get__") (some (some (.builtin "getset_descriptor.__get__"))) &&
  (decide (PySem.W.takesIn K (.builtin "object.__class__") = some true) && decide (PySem.W.mroIn K (He.ga K c) (.type "object") = some true))))
theorem insB_ok {K : PySem.W.Frag} {c : Str} (h : insB c K = true) : InsC K (He.ga K c) := by
  obtain ⟨h0, h⟩ := He.ba h
  obtain ⟨h1, h⟩ := He.ba h
  obtain ⟨h2, h⟩ := He.ba h
  obtain ⟨h3, h4⟩ := He.ba h
  exact ⟨He.cls_ok h0, He.eqO_ok h1, He.eqO_ok h2, of_decide_eq_true h3, of_decide_eq_true h4⟩
/-- isinstance of a built-in type's values and an own class; of an own class's instances and a class -/
def kitTB (t : String) (c : Str) (b : Bool) : Ex := fun K => decide (PySem.W.kitOne K (.type t) (.ref (He.ga K c)) = some b)
def kitOB (c d : Str) (b : Bool) : Ex := fun K => decide (PySem.W.kitOne K (.ref (He.ga K c)) (.ref (He.ga K d)) = some b)
def kitUB (c : Str) (t : String) (b : Bool) : Ex := fun K => decide (PySem.W.kitOne K (.ref (He.ga K c)) (.type t) = some b)
def nfB (c : Str) (t : String) : Ex := fun K => PySem.W.notFirst K (He.ga K c) (.type t)
def nfOB (c d : Str) : Ex := fun K => PySem.W.notFirst K (He.ga K c) (.ref (He.ga K d))
def tupX (x : Str) (vs : List He.Dv) : Ex := fun K => He.tupB K x vs
def lstX (x : Str) (vs : List He.Dv) : Ex := fun K => He.lstB K x vs
def excCB (c : Str) : Ex := fun K => He.eqO (PySem.W.findIn K (.ref (He.ga K c)) "__getattribute__") (some (some (.builtin "BaseException.__getattribute__"))) &&
  (He.eqO (PySem.W.findIn K (.ref (He.ga K c)) "__getattr__") (some none) && (decide (PySem.W.subIn K (.ref (He.ga K c)) (.type "BaseException") = some true) && (PySem.W.hasDictIn K (He.ga K c) &&
  (He.eqO (PySem.W.findIn K (.ref (He.ga K c)) "__class__") (some (some (.builtin "object.__class__"))) && (He.eqO (PySem.W.specialIn K (.builtin "object.__class__") "__get__") (some (some (.builtin "getset_descriptor.__get__"))) &&
  (decide (PySem.W.takesIn K (.builtin "object.__class__") = some true) && decide (PySem.W.mroIn K (He.ga K c) (.type "object") = some true)))))))
theorem excCB_ok {K : PySem.W.Frag} {c : Str} (h : excCB c K = true) : ExcC K (He.ga K c) := by
  obtain ⟨h1, h⟩ := He.ba h
  obtain ⟨h2, h⟩ := He.ba h
  obtain ⟨h3, h⟩ := He.ba h
  obtain ⟨h4, h⟩ := He.ba h
  obtain ⟨h5, h⟩ := He.ba h
  obtain ⟨h6, h⟩ := He.ba h
  obtain ⟨h7, h8⟩ := He.ba h
  exact ⟨He.eqO_ok h1, He.eqO_ok h2, of_decide_eq_true h3, h4, He.eqO_ok h5, He.eqO_ok h6, of_decide_eq_true h7, of_decide_eq_true h8⟩
/-- isinstance(e, c) in a suite -/
def rIsX (K : PySem.W.Frag) (a : Addr) (clX : Value) (dX : Option Addr) : List V → Hp → VK → Prop := fun xs H Q => ∃ (D : Addr) (c : V) (cv : Value) (b : Bool), clX = .ref D ∧ dX = none ∧ ExcC K D ∧ xs = [.ref a, c] ∧ ClsV c cv ∧ PySem.W.kitOne K (.ref D) cv = some b ∧ Q (.bl b) H
theorem call_isX {X : Cx} {a : Addr} {clX : Value} {dX : Option Addr} {oe : Obj} {pn : List (Addr × Obj)} (hz : Zc clX dX oe) (hf : ∃ vs, oe.data = .fields vs) : CallR (X.suite a ((a, oe) :: pn)) (.builtin "isinstance") (rIsX X.K a clX dX) := by
  intro pins s σ H xs us Q I r h
  obtain ⟨D, c, cv, b, e1, e2, C, ex, hc, k, q⟩ := h
  subst e1 e2
  exact call_isE C hz hf pins s σ H xs us Q I r ⟨c, cv, b, ex, fun u ru => hc.eq ru, k, q⟩
section
variable {K : PySem.W.Frag} {σ : L2.St} {H : Hp} {Q : VK}
theorem w_isX {a D : Addr} {c : V} {cv : Value} {b : Bool} (C : ExcC K D) (hc : ClsV c cv) (k : PySem.W.kitOne K (.ref D) cv = some b) (q : Q (.bl b) H) : rIsX K a (.ref D) none [.ref a, c] H Q := ⟨D, c, cv, b, rfl, rfl, C, rfl, hc, k, q⟩
theorem w_isi {x c : V} {t u : Value} {b : Bool} (k : ClsV c u) (ty : TyX K H x t) (e : PySem.W.kitOne K t u = some b) (q : Q (.bl b) H) : rIsi K [x, c] H Q := ⟨x, c, t, u, b, rfl, k, ty, e, q⟩
theorem w_isi_ii {i : Int} (q : Q (.bl true) H) : rIsi K [.int i, .ty "int"] H Q := w_isi (.ty _) (.base (.int _)) (kit_ty (by decide +kernel)) q
instance (priority := 900) i_w_isi_ii {i : Int} : Stp (rIsi K [.int i, .ty "int"] H Q) (Q (.bl true) H) := ⟨w_isi_ii⟩
theorem w_isi_ib {i : Int} (q : Q (.bl false) H) : rIsi K [.int i, .ty "bool"] H Q := w_isi (.ty _) (.base (.int _)) (kit_ty (by decide +kernel)) q
instance (priority := 900) i_w_isi_ib {i : Int} : Stp (rIsi K [.int i, .ty "bool"] H Q) (Q (.bl false) H) := ⟨w_isi_ib⟩
theorem w_isi_is {i : Int} (q : Q (.bl false) H) : rIsi K [.int i, .ty "str"] H Q := w_isi (.ty _) (.base (.int _)) (kit_ty (by decide +kernel)) q
instance (priority := 900) i_w_isi_is {i : Int} : Stp (rIsi K [.int i, .ty "str"] H Q) (Q (.bl false) H) := ⟨w_isi_is⟩
theorem w_isi_il {i : Int} (q : Q (.bl false) H) : rIsi K [.int i, .ty "list"] H Q := w_isi (.ty _) (.base (.int _)) (kit_ty (by decide +kernel)) q
instance (priority := 900) i_w_isi_il {i : Int} : Stp (rIsi K [.int i, .ty "list"] H Q) (Q (.bl false) H) := ⟨w_isi_il⟩
theorem w_isi_it {i : Int} (q : Q (.bl false) H) : rIsi K [.int i, .ty "tuple"] H Q := w_isi (.ty _) (.base (.int _)) (kit_ty (by decide +kernel)) q
instance (priority := 900) i_w_isi_it {i : Int} : Stp (rIsi K [.int i, .ty "tuple"] H Q) (Q (.bl false) H) := ⟨w_isi_it⟩
theorem w_isi_bi {i : Bool} (q : Q (.bl true) H) : rIsi K [.bl i, .ty "int"] H Q := w_isi (.ty _) (.base (.bl _)) (kit_ty (by decide +kernel)) q
instance (priority := 900) i_w_isi_bi {i : Bool} : Stp (rIsi K [.bl i, .ty "int"] H Q) (Q (.bl true) H) := ⟨w_isi_bi⟩
theorem w_isi_bb {i : Bool} (q : Q (.bl true) H) : rIsi K [.bl i, .ty "bool"] H Q := w_isi (.ty _) (.base (.bl _)) (kit_ty (by decide +kernel)) q
instance (priority := 900) i_w_isi_bb {i : Bool} : Stp (rIsi K [.bl i, .ty "bool"] H Q) (Q (.bl true) H) := ⟨w_isi_bb⟩
theorem w_isi_ss {i : Str} (q : Q (.bl true) H) : rIsi K [.str i, .ty "str"] H Q := w_isi (.ty _) (.base (.str _)) (kit_ty (by decide +kernel)) q
instance (priority := 900) i_w_isi_ss {i : Str} : Stp (rIsi K [.str i, .ty "str"] H Q) (Q (.bl true) H) := ⟨w_isi_ss⟩
theorem w_isi_sl {i : Str} (q : Q (.bl false) H) : rIsi K [.str i, .ty "list"] H Q := w_isi (.ty _) (.base (.str _)) (kit_ty (by decide +kernel)) q
instance (priority := 900) i_w_isi_sl {i : Str} : Stp (rIsi K [.str i, .ty "list"] H Q) (Q (.bl false) H) := ⟨w_isi_sl⟩
theorem w_isi_st {i : Str} (q : Q (.bl false) H) : rIsi K [.str i, .ty "tuple"] H Q := w_isi (.ty _) (.base (.str _)) (kit_ty (by decide +kernel)) q
instance (priority := 900) i_w_isi_st {i : Str} : Stp (rIsi K [.str i, .ty "tuple"] H Q) (Q (.bl false) H) := ⟨w_isi_st⟩
theorem w_isi_nl (q : Q (.bl false) H) : rIsi K [.non, .ty "list"] H Q := w_isi (.ty _) (.base .non) (kit_ty (by decide +kernel)) q
instance (priority := 900) i_w_isi_nl  : Stp (rIsi K [.non, .ty "list"] H Q) (Q (.bl false) H) := ⟨w_isi_nl⟩
theorem w_isi_nt (q : Q (.bl false) H) : rIsi K [.non, .ty "tuple"] H Q := w_isi (.ty _) (.base .non) (kit_ty (by decide +kernel)) q
instance (priority := 900) i_w_isi_nt  : Stp (rIsi K [.non, .ty "tuple"] H Q) (Q (.bl false) H) := ⟨w_isi_nt⟩
theorem w_isi_ll {a : Addr} {xs : List V} (h : H a = some (.lst xs)) (q : Q (.bl true) H) : rIsi K [.ref a, .ty "list"] H Q := w_isi (.ty _) (.base (.lst h)) (kit_ty (by decide +kernel)) q
theorem w_isi_lt {a : Addr} {xs : List V} (h : H a = some (.lst xs)) (q : Q (.bl false) H) : rIsi K [.ref a, .ty "tuple"] H Q := w_isi (.ty _) (.base (.lst h)) (kit_ty (by decide +kernel)) q
theorem w_isi_li {a : Addr} {xs : List V} (h : H a = some (.lst xs)) (q : Q (.bl false) H) : rIsi K [.ref a, .ty "int"] H Q := w_isi (.ty _) (.base (.lst h)) (kit_ty (by decide +kernel)) q
theorem w_isi_tt {a : Addr} {xs : List V} (h : H a = some (.tup xs)) (q : Q (.bl true) H) : rIsi K [.ref a, .ty "tuple"] H Q := w_isi (.ty _) (.base (.tup h)) (kit_ty (by decide +kernel)) q
theorem w_isi_tl {a : Addr} {xs : List V} (h : H a = some (.tup xs)) (q : Q (.bl false) H) : rIsi K [.ref a, .ty "list"] H Q := w_isi (.ty _) (.base (.tup h)) (kit_ty (by decide +kernel)) q
theorem w_isi_own {a C dx : Addr} {fs : List (Str × V)} {c : V} {u : Value} {b : Bool} (h : H a = some (.ins C dx fs)) (i : InsC K C) (k : ClsV c u) (e : PySem.W.kitOne K (.ref C) u = some b) (q : Q (.bl b) H) : rIsi K [.ref a, c] H Q :=
  w_isi k (.base (.ins h i.cl i.ha i.hn i.ht i.hm)) e q
end
end G

/-! == of lists and tuples, by data -/
namespace G
open PySem PySem.Spec PyProof.Rows L2
abbrev rIsB : R2 := fun x y H Q => ∃ a b, x = .bl a ∧ y = .bl b ∧ Q (.bl (decide (a = b))) H
abbrev rNotB : R2 := fun x y H Q => ∃ a b, x = .bl a ∧ y = .bl b ∧ Q (.bl (!decide (a = b))) H
section
variable {K : PySem.W.Frag} {H : Hp} {Q : VK} {x y : V} {d e : PyData} {xs ys : List Int} {a b : Addr}
theorem w_isB {p q : Bool} (h : Q (.bl (decide (p = q))) H) : rIsB (.bl p) (.bl q) H Q := ⟨p, q, rfl, rfl, h⟩
instance (priority := 900) i_w_isB {p q : Bool} : Stp (rIsB (.bl p) (.bl q) H Q) (Q (.bl (decide (p = q))) H) := ⟨w_isB⟩
theorem w_notB {p q : Bool} (h : Q (.bl (!decide (p = q))) H) : rNotB (.bl p) (.bl q) H Q := ⟨p, q, rfl, rfl, h⟩
instance (priority := 900) i_w_notB {p q : Bool} : Stp (rNotB (.bl p) (.bl q) H Q) (Q (.bl (!decide (p = q))) H) := ⟨w_notB⟩
theorem dp_ints : ∀ xs : List Int, DpAll K H (xs.map V.int) (xs.map PyData.int)
  | [] => .nil
  | x :: xs => .cons (.int x) (dp_ints xs)
theorem eqv_ints : ∀ xs ys : List Int, PyData.eqvAll (xs.map PyData.int) (ys.map PyData.int) = decide (xs = ys)
  | [], [] => by simp [PyData.eqvAll]
  | [], y :: ys => by simp [PyData.eqvAll]
  | x :: xs, [] => by simp [PyData.eqvAll]
  | x :: xs, y :: ys => by
    have h := eqv_ints xs ys
    show (PyData.eqv (.int x) (.int y) && PyData.eqvAll (xs.map PyData.int) (ys.map PyData.int)) = _
    rw [h]
    unfold PyData.eqv
    by_cases h1 : x = y <;> by_cases h2 : xs = ys <;> simp [h1, h2]
theorem lay_ints : ∀ xs : List Int, PyData.canLayAll0 (xs.map PyData.int) = true
  | [] => rfl
  | x :: xs => by
    show (PyData.canLay0 (.int x) && PyData.canLayAll0 (xs.map PyData.int)) = true
    rw [lay_ints xs]
    rfl
theorem depth_ints : ∀ xs : List Int, PyData.depthAll (xs.map PyData.int) = 0
  | [] => by simp [PyData.depthAll]
  | x :: xs => by
    have h := depth_ints xs
    simp only [List.map_cons, PyData.depthAll, PyData.depth, h]
    rfl
theorem shaped_li : SeqAt.shaped (.list (xs.map PyData.int)) = true := by
  unfold SeqAt.shaped
  have h := lay_ints xs
  have h2 := depth_ints xs
  simp [PyData.canLay0, PyData.depth, h, h2]
theorem shaped_ti : SeqAt.shaped (.tuple (xs.map PyData.int)) = true := by
  unfold SeqAt.shaped
  have h := lay_ints xs
  have h2 := depth_ints xs
  simp [PyData.canLay0, PyData.depth, h, h2]
theorem w_eqLI (h1 : SqL K H a (xs.map V.int)) (h2 : SqL K H b (ys.map V.int)) (q : Q (.bl (decide (xs = ys))) H) : rEqD K (.ref a) (.ref b) H Q :=
  ⟨_, _, .lst h1 (dp_ints xs), .lst h2 (dp_ints ys), shaped_li, shaped_li, by
    show Q (.bl (PyData.eqvAll _ _)) H
    rw [eqv_ints]; exact q⟩
theorem w_neLI (h1 : SqL K H a (xs.map V.int)) (h2 : SqL K H b (ys.map V.int)) (q : Q (.bl (!decide (xs = ys))) H) : rNeD K (.ref a) (.ref b) H Q :=
  ⟨_, _, .lst h1 (dp_ints xs), .lst h2 (dp_ints ys), shaped_li, shaped_li, by
    show Q (.bl (!PyData.eqvAll _ _)) H
    rw [eqv_ints]; exact q⟩
theorem w_eqTI (h1 : SqT K H a (xs.map V.int)) (h2 : SqT K H b (ys.map V.int)) (q : Q (.bl (decide (xs = ys))) H) : rEqD K (.ref a) (.ref b) H Q :=
  ⟨_, _, .tup h1 (dp_ints xs), .tup h2 (dp_ints ys), shaped_ti, shaped_ti, by
    show Q (.bl (PyData.eqvAll _ _)) H
    rw [eqv_ints]; exact q⟩
theorem w_neTI (h1 : SqT K H a (xs.map V.int)) (h2 : SqT K H b (ys.map V.int)) (q : Q (.bl (!decide (xs = ys))) H) : rNeD K (.ref a) (.ref b) H Q :=
  ⟨_, _, .tup h1 (dp_ints xs), .tup h2 (dp_ints ys), shaped_ti, shaped_ti, by
    show Q (.bl (!PyData.eqvAll _ _)) H
    rw [eqv_ints]; exact q⟩
theorem w_eqL' {vs ws : List V} (xs ys : List Int) (h1 : SqL K H a vs) (h2 : SqL K H b ws) (q : Q (.bl (decide (xs = ys))) H) (e1 : vs = xs.map V.int := by rfl) (e2 : ws = ys.map V.int := by rfl) : rEqD K (.ref a) (.ref b) H Q := by
  subst e1 e2
  exact w_eqLI h1 h2 q
theorem w_neL' {vs ws : List V} (xs ys : List Int) (h1 : SqL K H a vs) (h2 : SqL K H b ws) (q : Q (.bl (!decide (xs = ys))) H) (e1 : vs = xs.map V.int := by rfl) (e2 : ws = ys.map V.int := by rfl) : rNeD K (.ref a) (.ref b) H Q := by
  subst e1 e2
  exact w_neLI h1 h2 q
theorem w_eqT' {vs ws : List V} (xs ys : List Int) (h1 : SqT K H a vs) (h2 : SqT K H b ws) (q : Q (.bl (decide (xs = ys))) H) (e1 : vs = xs.map V.int := by rfl) (e2 : ws = ys.map V.int := by rfl) : rEqD K (.ref a) (.ref b) H Q := by
  subst e1 e2
  exact w_eqTI h1 h2 q
theorem w_neT' {vs ws : List V} (xs ys : List Int) (h1 : SqT K H a vs) (h2 : SqT K H b ws) (q : Q (.bl (!decide (xs = ys))) H) (e1 : vs = xs.map V.int := by rfl) (e2 : ws = ys.map V.int := by rfl) : rNeD K (.ref a) (.ref b) H Q := by
  subst e1 e2
  exact w_neTI h1 h2 q
/-! by data -/
theorem w_eqD (h1 : Dp K H x d) (h2 : Dp K H y e) (s1 : SeqAt.shaped d = true) (s2 : SeqAt.shaped e = true) (q : Q (.bl (PyData.eqv d e)) H) : rEqD K x y H Q := ⟨d, e, h1, h2, s1, s2, q⟩
theorem w_neD (h1 : Dp K H x d) (h2 : Dp K H y e) (s1 : SeqAt.shaped d = true) (s2 : SeqAt.shaped e = true) (q : Q (.bl (!PyData.eqv d e)) H) : rNeD K x y H Q := ⟨d, e, h1, h2, s1, s2, q⟩
mutual
theorem eqv_refl : ∀ d : PyData, d.canLay0 = true → PyData.eqv d d = true
  | .none, _ => by simp [PyData.eqv]
  | .bool b, _ => by simp [PyData.eqv]
  | .int i, _ => by simp [PyData.eqv]
  | .str s, _ => by simp [PyData.eqv]
  | .list xs, h => by
    have := eqvAll_refl xs (by simpa [PyData.canLay0] using h)
    simpa [PyData.eqv] using this
  | .tuple xs, h => by
    have := eqvAll_refl xs (by simpa [PyData.canLay0] using h)
    simpa [PyData.eqv] using this
  | .dict _, h => by simp [PyData.canLay0] at h
theorem eqvAll_refl : ∀ ds : List PyData, PyData.canLayAll0 ds = true → PyData.eqvAll ds ds = true
  | [], _ => by simp [PyData.eqvAll]
  | d :: ds, h => by
    have h1 : PyData.canLay0 d = true ∧ PyData.canLayAll0 ds = true := by simpa [PyData.canLayAll0] using h
    have := eqv_refl d h1.1
    have := eqvAll_refl ds h1.2
    simp [PyData.eqvAll, *]
end
theorem eqv_self {d : PyData} (h : SeqAt.shaped d = true) : PyData.eqv d d = true := eqv_refl d (SeqAt.canLay_of_shaped h)
end
end G

/-! heaps that grow; the drawn cells, as any numbers -/
namespace G
open PySem PySem.Spec PyProof.Rows L2
/-- grown, but for p -/
def ExtP (p : Addr) (H H' : Hp) : Prop := ∀ a o, a ≠ p → H a = some o → H' a = some o
section
variable {K : PySem.W.Frag} {H H1 H' : Hp} {a b p q : Addr} {o u o' : HO} {xs : List V}
theorem ext_get (e : Ext H H') (h : H b = some u) : H' b = some u := e _ _ h
theorem extp_get (e : ExtP p H H') (n : b ≠ p) (h : H b = some u) : H' b = some u := e _ _ n h
theorem ext_toP (e : Ext H H') : ExtP p H H' := fun a o _ h => e a o h
theorem ExtP.rfl' : ExtP p H H := fun _ _ _ h => h
theorem ExtP.trans (e : ExtP p H H1) (f : ExtP p H1 H') : ExtP p H H' := fun a o n h => f a o n (e a o n h)
theorem ext_via (f : Ext H1 H') (e : Ext H H1) : Ext H H' := e.trans f
theorem extp_via (f : ExtP p H1 H') (e : ExtP p H H1) : ExtP p H H' := e.trans f
theorem extp_viae (f : Ext H1 H') (e : ExtP p H H1) : ExtP p H H' := e.trans (ext_toP f)
theorem ext_up (n : H1 a = none) (e : Ext H H1) : Ext H (upd H1 a o) := fun b u h => up_n (e b u h) n
theorem extp_up (n : H1 a = none) (e : ExtP p H H1) : ExtP p H (upd H1 a o) := fun b u hb h => up_n (e b u hb h) n
theorem extp_put (e : ExtP p H H1) : ExtP p H (upd H1 p o) := fun b u hb h => up_k (e b u hb h) hb
/-- an object that was made since is written -/
theorem ext_put (n : H a = none) (e : Ext H H1) : Ext H (upd H1 a o) := fun b u h => up_k (e b u h) (ne_of_none h n)
theorem extp_putn (n : H a = none) (e : ExtP p H H1) : ExtP p H (upd H1 a o) := fun b u hb h => up_k (e b u hb h) (ne_of_none h n)
theorem ext_of_extp (n : H p = none) (e : ExtP p H H') : Ext H H' := fun a o h => e a o (ne_of_none h n) h
theorem extp_of_extp (n : H q = none) (e : ExtP q H H') : ExtP p H H' := ext_toP (ext_of_extp n e)
theorem ext_thr (n : H p = none) (f : ExtP p H1 H') (e : Ext H H1) : Ext H H' := fun a o h => f a o (ne_of_none h n) (e a o h)
theorem extp_thr (n : H q = none) (f : ExtP q H1 H') (e : ExtP p H H1) : ExtP p H H' := fun a o hp h => f a o (ne_of_none h n) (e a o hp h)
theorem Scr.ext (h : Scr K H a xs) (e : Ext H H') : Scr K H' a xs := h.same e
theorem scr_ext (e : Ext H H') (h : Scr K H a xs) : Scr K H' a xs := h.same e
theorem scr_extp (e : ExtP p H H') (n : Thw H p) (h : Scr K H a xs) : Scr K H' a xs := h.frz fun b o u hb => e b _ (fun z => by subst z; exact n o u hb) hb
theorem scr_extn (e : ExtP p H H') (n : H p = none) (h : Scr K H a xs) : Scr K H' a xs := h.frz fun b o u hb => e b _ (ne_of_none hb n) hb
theorem sq_ext (e : Ext H H') (h : SqL K H a xs) : SqL K H' a xs := h.ext e
theorem sqt_ext (e : Ext H H') (h : SqT K H a xs) : SqT K H' a xs := h.ext e
theorem SqT.of' (h : H a = some (.tup xs)) : SqT K H a xs := .inl (.inl h)
theorem ne_of' (h1 : H a = some o) (h2 : H b = some u) (n : o ≠ u) : a ≠ b := fun e => by
  subst e
  rw [h1] at h2
  cases h2
  exact n rfl
theorem up_nn (n : H a = none) (h : H b = some u) : upd H a o b = some u := up_n h n
theorem none_dn (h : upd H a o b = none) : H b = none := (up_none h).2
theorem up_ko (h : H b = some u) (h2 : H a = some o') (n : u ≠ o') : upd H a o b = some u := up_k h (ne_of' h h2 n)
end
/-! ### promises -/
def gsCell (K : PySem.W.Frag) : Sp := fun vs H Q _ => ∃ (a : Addr) (ns : List Int) (k : Int), vs = [.ref a, .int k] ∧ SqL K H a (ns.map V.int) ∧ 0 ≤ k ∧ ∀ n, Q (.int n) H
def gsStart (K : PySem.W.Frag) : Sp := fun vs H Q _ => ∃ (c k : Int), vs = [.int c, .int k] ∧ ∀ n p, H p = none → Q (.ref p) (upd H p (.lst [.int n]))
def gsDigit (K : PySem.W.Frag) : Sp := fun vs H Q _ => ∃ (p : Addr) (n m : Int), vs = [.ref p, .int m] ∧ H p = some (.lst [.int n]) ∧ 0 < m ∧ m < 1099511627776 ∧
  ∀ d n', 0 ≤ d → d < m → Q (.int d) (upd H p (.lst [.int n']))
/-- a bool or not, by isinstance: an integer -/
def gsIsInt (K : PySem.W.Frag) : Sp := fun vs H Q _ => ∃ (x : V), vs = [x] ∧ ((∃ i, x = .int i ∧ Q (.bl true) H) ∨ (∃ b, x = .bl b ∧ Q (.bl false) H))
section
variable {K : PySem.W.Frag} {H : Hp} {Q : VK} {E : XK} {a p : Addr} {k m n c : Int} {ns : List Int}
theorem c_cell (hS : SqL K H a (ns.map V.int)) (h0 : 0 ≤ k) (q : ∀ n, Q (.int n) H) : gsCell K [.ref a, .int k] H Q E := ⟨a, ns, k, rfl, hS, h0, q⟩
theorem c_start (q : ∀ n p, H p = none → Q (.ref p) (upd H p (.lst [.int n]))) : gsStart K [.int c, .int k] H Q E := ⟨c, k, rfl, q⟩
theorem c_digit (h : H p = some (.lst [.int n])) (h0 : 0 < m) (h1 : m < 1099511627776) (q : ∀ d n', 0 ≤ d → d < m → Q (.int d) (upd H p (.lst [.int n']))) : gsDigit K [.ref p, .int m] H Q E := ⟨p, n, m, rfl, h, h0, h1, q⟩
theorem c_isint (q : Q (.bl true) H) : gsIsInt K [.int n] H Q E := ⟨_, rfl, .inl ⟨n, rfl, q⟩⟩
end
theorem pr_pow (i : Nat) (h : i < 4) : (618970019642690137449562111 : Int) ^ i < 618970019642690137449562111 ^ 3 + 1 ∧ (0 : Int) < 618970019642690137449562111 ^ i := by
  have : i = 0 ∨ i = 1 ∨ i = 2 ∨ i = 3 := by omega
  rcases this with rfl | rfl | rfl | rfl <;> decide +kernel
theorem num_step {n m q : Int} (h0 : 0 ≤ n) (h1 : n < q) (h2 : 0 ≤ m) (h3 : m < 618970019642690137449562111) : 0 ≤ n * 618970019642690137449562111 + m ∧ n * 618970019642690137449562111 + m < q * 618970019642690137449562111 := by omega
theorem small_w {x : Int} (h0 : 0 ≤ x) (h : x < 618970019642690137449562111 ^ 3 + 1) : x.natAbs < 2 ^ 300 := by
  have e : (618970019642690137449562111 : Int) ^ 3 + 1 < ((2 ^ 300 : Nat) : Int) := by decide +kernel
  have e2 : x < ((2 ^ 300 : Nat) : Int) := Int.lt_trans h e
  omega
theorem ints_at {gs : List Int} {j : Nat} {z : Int} (h : gs[j]? = some z) {k : Int} (e : k = (j : Int)) : atI (gs.map V.int) k = some (V.int z) := at_of e (by rw [List.getElem?_map, h]; rfl)
theorem digit_div {m : Int} (h0 : 0 < m) (h1 : m < 1099511627776) : ∀ i : Int, CDivW i m := fun i => wide_div (b := 40) h0 (by omega) (by decide) (by decide)
/-! ### slices of lists of integers -/
theorem sum_app (xs ys : List Int) : (xs ++ ys).sum = xs.sum + ys.sum := by
  induction xs with
  | nil => simp
  | cons a r ih => rw [List.cons_append, List.sum_cons, List.sum_cons, ih]; omega
end G

/-! comprehensions whose turns only make objects; slices; indexing -/
namespace G
open PySem PySem.Spec PyProof.Rows L2
section
variable {K : PySem.W.Frag} {σ : L2.St} {H : Hp} {Q : VK} {g : TG} {tt : TT} {te : TE} {vs : List Nat} {tA : TA} {tl : TE}
def rLc (J : It) (g : TG) (tt : TT) (te : TE) (vs : List Nat) (σ : L2.St) (H1 : Hp) (Q : VK) : Prop := ∀ D, H1 D = none → ∃ W : Nat → Nat → Hp → Prop, (∃ m, W 0 m (upd H1 D (.lst []))) ∧ ∀ i m H, W i m H →
  (J.stop i H ∧ Q (.ref D) H) ∨ (J.go i H ∧ ∃ Nx : Hp → Prop, (∀ H', Nx H' → ∃ m', m' < m ∧ W (i + 1) m' H') ∧ ∀ x H', J.yld i H x H' → g x (wipe σ vs) H' fun σ2 H2 => wipe σ2 vs = wipe σ vs ∧ tt σ2 H2 fun b H3 =>
    if b = true then te σ2 H3 fun y H4 => ∃ acc, H4 D = some (.lst acc) ∧ acc.length < sizeLine ∧ Nx (upd H4 D (.lst (acc ++ [y]))) else Nx H3)
def rLcR1 (g : TG) (tt : TT) (te : TE) (ws : List Nat) (σ : L2.St) (Q : VK) (vs : List V) (H1 : Hp) : Prop := ∃ j : Int, vs = [.int j] ∧ -(2 ^ 62) ≤ j ∧ j < 2 ^ 62 ∧ rLc (Itr 0 j.toNat) g tt te ws σ H1 Q
def rLcR2 (g : TG) (tt : TT) (te : TE) (ws : List Nat) (σ : L2.St) (Q : VK) (vs : List V) (H1 : Hp) : Prop := ∃ i j : Int, vs = [.int i, .int j] ∧ (-(2 ^ 62) ≤ i ∧ i < 2 ^ 62 ∧ -(2 ^ 62) ≤ j ∧ j < 2 ^ 62) ∧ rLc (Itr i (j - i).toNat) g tt te ws σ H1 Q
def rLcL (K : PySem.W.Frag) (g : TG) (tt : TT) (te : TE) (ws : List Nat) (σ : L2.St) (Q : VK) (x : V) (H1 : Hp) : Prop := ∃ a, x = .ref a ∧ (∃ xs, SqL K H1 a xs) ∧ rLc (Itl K a) g tt te ws σ H1 Q
def rLcT (K : PySem.W.Frag) (g : TG) (tt : TT) (te : TE) (ws : List Nat) (σ : L2.St) (Q : VK) (x : V) (H1 : Hp) : Prop := ∃ a, x = .ref a ∧ (∃ xs, SqT K H1 a xs) ∧ rLc (Itt K a) g tt te ws σ H1 Q
theorem w_lcR1 (h : tA σ H fun ws H1 => rLcR1 g tt te vs σ Q ws H1) : tLc (iRng1 tA) g tt te vs σ H Q := h
instance (priority := 900) i_w_lcR1  : Stp (tLc (iRng1 tA) g tt te vs σ H Q) (tA σ H fun ws H1 => rLcR1 g tt te vs σ Q ws H1) := ⟨w_lcR1⟩
theorem w_lcR2 (h : tA σ H fun ws H1 => rLcR2 g tt te vs σ Q ws H1) : tLc (iRng2 tA) g tt te vs σ H Q := h
instance (priority := 900) i_w_lcR2  : Stp (tLc (iRng2 tA) g tt te vs σ H Q) (tA σ H fun ws H1 => rLcR2 g tt te vs σ Q ws H1) := ⟨w_lcR2⟩
theorem w_lcL (h : tl σ H fun x H1 => rLcL K g tt te vs σ Q x H1) : tLc (iList K tl) g tt te vs σ H Q := h
instance (priority := 900) i_w_lcL  : Stp (tLc (iList K tl) g tt te vs σ H Q) (tl σ H fun x H1 => rLcL K g tt te vs σ Q x H1) := ⟨w_lcL⟩
theorem w_lcT (h : tl σ H fun x H1 => rLcT K g tt te vs σ Q x H1) : tLc (iTup K tl) g tt te vs σ H Q := h
instance (priority := 900) i_w_lcT  : Stp (tLc (iTup K tl) g tt te vs σ H Q) (tl σ H fun x H1 => rLcT K g tt te vs σ Q x H1) := ⟨w_lcT⟩
theorem wipe1 {v : Nat} {x : Option V} : wipe ((wipe σ [v]).set v x) [v] = wipe σ [v] := by
  show ((σ.set v none).set v x).set v none = σ.set v none
  rw [List.set_set, List.set_set]
def LcAdd (D : Addr) (Pv : Nat → Hp → Prop) (i : Nat) (y : V) (H4 : Hp) : Prop := ∃ acc, H4 D = some (.lst acc) ∧ acc.length < sizeLine ∧ Pv (i + 1) (upd H4 D (.lst (acc ++ [y])))
/-- grown only, the list so far at D -/
def PvE (H : Hp) (D : Addr) (A : Nat → List V) (i : Nat) (H' : Hp) : Prop := Ext H H' ∧ H' D = some (.lst (A i))
theorem lc_add {D : Addr} {A : Nat → List V} {i : Nat} {y : V} {H4 : Hp} (h : H4 D = some (.lst (A i))) (e : Ext H H4) (n : H D = none) (ha : A (i + 1) = A i ++ [y]) (hl : (A i).length < sizeLine) : LcAdd D (PvE H D A) i y H4 :=
  ⟨A i, h, hl, ext_put n e, by rw [upd_same, ha]⟩
theorem lc_skip {D : Addr} {A : Nat → List V} {i : Nat} {H3 : Hp} (h : H3 D = some (.lst (A i))) (e : Ext H H3) (ha : A (i + 1) = A i) : PvE H D A (i + 1) H3 := ⟨e, by rw [ha]; exact h⟩
/-- over any walk, growth only: A i the list so far -/
theorem lcE {J : It} {n : Nat} {G : Hp → Prop} {Y : Nat → Hp → V → Hp → Prop} (w : Walk J n G Y) (A : Nat → List V) (h0 : A 0 = []) (hG : ∀ H', Ext H H' → G H')
    (hs : ∀ i x D H1 H2, i < n → H D = none → Ext H H1 → H1 D = some (.lst (A i)) → Y i H1 x H2 → g x (wipe σ vs) H2 fun σ2 H2 => wipe σ2 vs = wipe σ vs ∧ tt σ2 H2 fun b H3 =>
      if b = true then te σ2 H3 fun y H4 => LcAdd D (PvE H D A) i y H4 else PvE H D A (i + 1) H3)
    (hd : ∀ D H1, H D = none → Ext H H1 → H1 D = some (.lst (A n)) → Q (.ref D) H1) : rLc J g tt te vs σ H Q := fun D hD =>
  lc_it w (PvE H D A) ⟨ext_up hD Ext.rfl', by rw [upd_same, h0]⟩ (fun i H' _ h => hG H' h.1) (fun i x H1 H2 hi h y => hs i x D H1 H2 hi hD h.1 h.2 y) fun H1 h => hd D H1 hD h.1 h.2
abbrev accM (fV : Nat → V) : Nat → List V := fun i => (List.range i).map fV
abbrev accF (p : Nat → Bool) (fV : Nat → V) : Nat → List V := fun i => ((List.range i).filter p).map fV
theorem accM_succ {fV : Nat → V} {i : Nat} : accM fV (i + 1) = accM fV i ++ [fV i] := by
  unfold accM
  rw [List.range_succ, List.map_append]
  rfl
theorem accM_len {fV : Nat → V} {i : Nat} : (accM fV i).length = i := by unfold accM; simp
theorem accF_yes {p : Nat → Bool} {fV : Nat → V} {i : Nat} (h : p i = true) : accF p fV (i + 1) = accF p fV i ++ [fV i] := by
  unfold accF
  rw [List.range_succ, List.filter_append, List.map_append]
  simp [h]
theorem accF_no {p : Nat → Bool} {fV : Nat → V} {i : Nat} (h : p i = false) : accF p fV (i + 1) = accF p fV i := by
  unfold accF
  rw [List.range_succ, List.filter_append, List.map_append]
  simp [h]
theorem accF_len {p : Nat → Bool} {fV : Nat → V} {i : Nat} : (accF p fV i).length ≤ i := by
  unfold accF
  rw [List.length_map]
  exact Nat.le_trans (List.length_filter_le _ _) (by simp)
theorem lc_one {D : Addr} {fV : Nat → V} {i : Nat} {y : V} {H4 : Hp} (h : H4 D = some (.lst (accM fV i))) (e : Ext H H4) (n : H D = none) (hi : i < 16000000) (ha : y = fV i) : LcAdd D (PvE H D (accM fV)) i y H4 :=
  lc_add h e n (by rw [accM_succ, ha]) (by rw [accM_len]; exact Nat.lt_trans hi (by decide))
theorem lc_onef {D : Addr} {p : Nat → Bool} {fV : Nat → V} {i : Nat} {y : V} {H4 : Hp} (h : H4 D = some (.lst (accF p fV i))) (e : Ext H H4) (n : H D = none) (hi : i < 16000000) (hp : p i = true) (ha : y = fV i) : LcAdd D (PvE H D (accF p fV)) i y H4 :=
  lc_add h e n (by rw [accF_yes hp, ha]) (Nat.lt_of_le_of_lt accF_len (Nat.lt_trans hi (by decide)))
theorem lc_nonef {D : Addr} {p : Nat → Bool} {fV : Nat → V} {i : Nat} {H3 : Hp} (h : H3 D = some (.lst (accF p fV i))) (e : Ext H H3) (hp : p i = false) : PvE H D (accF p fV) (i + 1) H3 :=
  lc_skip h e (accF_no hp)
/-! the usual ones: one name -/
variable {v : Nat} {j lo hi : Int}
theorem lcR1 {n : Nat} (fV : Nat → V) (hj : j = (n : Int)) (hn : n < 16000000) (hs : ∀ (i : Nat) D H1, i < n → H D = none → Ext H H1 → H1 D = some (.lst (accM fV i)) → te ((σ.set v none).set v (some (.int (i : Int)))) H1 fun y H4 => LcAdd D (PvE H D (accM fV)) i y H4)
    (hd : ∀ D H1, H D = none → Ext H H1 → H1 D = some (.lst (accM fV n)) → Q (.ref D) H1) : rLcR1 (gName v) tYes te [v] σ Q [.int j] H := by
  subst hj
  refine ⟨(n : Int), rfl, by omega, by omega, lcE walk_range (accM fV) rfl (fun _ _ => trivial) ?_ (by rw [Int.toNat_natCast]; exact hd)⟩
  rintro i x D H1 H2 hi hD e hA ⟨rfl, rfl⟩
  refine ⟨wipe1, ?_⟩
  show te ((σ.set v none).set v (some (.int (0 + (i : Int))))) H2 _
  rw [Int.zero_add]
  exact hs i D H2 (by omega) hD e hA
theorem lcR2 (fV : Nat → V) (hn : -4000000000 < lo ∧ lo < 4000000000 ∧ -4000000000 < hi ∧ hi < 4000000000) (hn2 : hi - lo < 16000000) (hs : ∀ (i : Nat) D H1, lo + i < hi → H D = none → Ext H H1 → H1 D = some (.lst (accM fV i)) → te ((σ.set v none).set v (some (.int (lo + (i : Int))))) H1 fun y H4 => LcAdd D (PvE H D (accM fV)) i y H4)
    (hd : ∀ D H1, H D = none → Ext H H1 → H1 D = some (.lst (accM fV (hi - lo).toNat)) → Q (.ref D) H1) : rLcR2 (gName v) tYes te [v] σ Q [.int lo, .int hi] H := by
  refine ⟨lo, hi, rfl, ⟨by omega, by omega, by omega, by omega⟩, lcE walk_range (accM fV) rfl (fun _ _ => trivial) ?_ hd⟩
  rintro i x D H1 H2 hi hD e hA ⟨rfl, rfl⟩
  exact ⟨wipe1, hs i D H2 (by omega) hD e hA⟩
theorem lcL {a : Addr} {xs : List V} (fV : Nat → V) (hx : SqL K H a xs) (hn : xs.length < 16000000) (hs : ∀ (i : Nat) x D H1, xs[i]? = some x → H D = none → Ext H H1 → H1 D = some (.lst (accM fV i)) → te ((σ.set v none).set v (some x)) H1 fun y H4 => LcAdd D (PvE H D (accM fV)) i y H4)
    (hd : ∀ D H1, H D = none → Ext H H1 → H1 D = some (.lst (accM fV xs.length)) → Q (.ref D) H1) : rLcL K (gName v) tYes te [v] σ Q (.ref a) H := by
  refine ⟨a, rfl, ⟨_, hx⟩, lcE walk_list (accM fV) rfl (fun _ e => hx.ext e) ?_ hd⟩
  rintro i x D H1 H2 hi hD e hA ⟨rfl, hxi⟩
  exact ⟨wipe1, hs i x D H2 hxi hD e hA⟩
theorem lcLF {a : Addr} {xs : List V} (p : Nat → Bool) (fV : Nat → V) (hx : SqL K H a xs) (hn : xs.length < 16000000) (hs : ∀ (i : Nat) x D H1, xs[i]? = some x → H D = none → Ext H H1 → H1 D = some (.lst (accF p fV i)) →
      tt ((σ.set v none).set v (some x)) H1 fun b H3 => if b = true then te ((σ.set v none).set v (some x)) H3 fun y H4 => LcAdd D (PvE H D (accF p fV)) i y H4 else PvE H D (accF p fV) (i + 1) H3)
    (hd : ∀ D H1, H D = none → Ext H H1 → H1 D = some (.lst (accF p fV xs.length)) → Q (.ref D) H1) : rLcL K (gName v) tt te [v] σ Q (.ref a) H := by
  refine ⟨a, rfl, ⟨_, hx⟩, lcE walk_list (accF p fV) rfl (fun _ e => hx.ext e) ?_ hd⟩
  rintro i x D H1 H2 hi hD e hA ⟨rfl, hxi⟩
  exact ⟨wipe1, hs i x D H2 hxi hD e hA⟩
theorem lcT {a : Addr} {xs : List V} (fV : Nat → V) (hx : SqT K H a xs) (hn : xs.length < 16000000) (hs : ∀ (i : Nat) x D H1, xs[i]? = some x → H D = none → Ext H H1 → H1 D = some (.lst (accM fV i)) → te ((σ.set v none).set v (some x)) H1 fun y H4 => LcAdd D (PvE H D (accM fV)) i y H4)
    (hd : ∀ D H1, H D = none → Ext H H1 → H1 D = some (.lst (accM fV xs.length)) → Q (.ref D) H1) : rLcT K (gName v) tYes te [v] σ Q (.ref a) H := by
  refine ⟨a, rfl, ⟨_, hx⟩, lcE walk_tup (accM fV) rfl (fun _ e => hx.ext e) ?_ hd⟩
  rintro i x D H1 H2 hi hD e hA ⟨rfl, hxi⟩
  exact ⟨wipe1, hs i x D H2 hxi hD e hA⟩
end
/-! ### slices -/
section
variable {K : PySem.W.Frag} {σ : L2.St} {H : Hp} {Q : VK} {te : TE} {tl th : TO} {r : V → Option Int → Option Int → Hp → VK → Prop} {a : Addr} {xs : List V} {l h : Option Int} {i j : Int} {Qo : Option Int → Hp → Prop} {t : TE}
theorem w_sl (h : te σ H fun x H1 => tl σ H1 fun l H2 => th σ H2 fun u H3 => r x l u H3 Q) : tSl r te tl th σ H Q := h
instance (priority := 900) i_w_sl  : Stp (tSl r te tl th σ H Q) (te σ H fun x H1 => tl σ H1 fun l H2 => th σ H2 fun u H3 => r x l u H3 Q) := ⟨w_sl⟩
theorem w_nopart (q : Qo none H) : tNoPart σ H Qo := q
instance (priority := 900) i_w_nopart  : Stp (tNoPart σ H Qo) (Qo none H) := ⟨w_nopart⟩
theorem w_part (q : t σ H fun x H1 => ∃ i, x = .int i ∧ Qo (some i) H1) : tPart t σ H Qo := q
instance (priority := 900) i_w_part  : Stp (tPart t σ H Qo) (t σ H fun x H1 => ∃ i, x = .int i ∧ Qo (some i) H1) := ⟨w_part⟩
theorem w_pint {P : Int → Prop} (q : P i) : ∃ k, V.int i = .int k ∧ P k := ⟨i, rfl, q⟩
instance (priority := 900) i_w_pint {P : Int → Prop} : Stp (∃ k, V.int i = .int k ∧ P k) (P i) := ⟨w_pint⟩
theorem w_slL (hx : SqL K H a xs) (q : ∀ p, H p = none → Q (.ref p) (upd H p (.lst (cutV xs l h)))) : rSlL K (.ref a) l h H Q := ⟨a, xs, rfl, hx, q⟩
theorem cut_from {xs : List V} (h0 : 0 ≤ i) : cutV xs (some i) none = xs.drop i.toNat := by
  obtain ⟨n, rfl⟩ := Int.eq_ofNat_of_zero_le h0
  unfold cutV
  rw [HT.sIx_nat, HT.sIx_none, Int.toNat_natCast]
  by_cases hn : n ≤ xs.length
  · rw [Nat.min_eq_left hn, List.take_of_length_le]
    rw [List.length_drop]
    omega
  · rw [Nat.min_eq_right (by omega), List.drop_eq_nil_of_le (Nat.le_refl _), List.drop_eq_nil_of_le (by omega)]
    simp
theorem cut_to {xs : List V} (h0 : 0 ≤ i) : cutV xs none (some i) = xs.take i.toNat := by
  obtain ⟨n, rfl⟩ := Int.eq_ofNat_of_zero_le h0
  unfold cutV
  rw [HT.sIx_nat, HT.sIx_none, Int.toNat_natCast, List.drop_zero, Nat.sub_zero]
  by_cases hn : n ≤ xs.length
  · rw [Nat.min_eq_left hn]
  · rw [Nat.min_eq_right (by omega), List.take_of_length_le (Nat.le_refl _), List.take_of_length_le (by omega)]
theorem cut_mid {xs : List V} (h0 : 0 ≤ i) (h1 : i ≤ j) : cutV xs (some i) (some j) = (xs.drop i.toNat).take (j - i).toNat := by
  obtain ⟨n, rfl⟩ := Int.eq_ofNat_of_zero_le h0
  obtain ⟨m, rfl⟩ := Int.eq_ofNat_of_zero_le (Int.le_trans h0 h1)
  unfold cutV
  rw [HT.sIx_nat, HT.sIx_nat, Int.toNat_natCast]
  have e : ((m : Int) - (n : Int)).toNat = m - n := by omega
  rw [e]
  by_cases hn : n ≤ xs.length
  · rw [Nat.min_eq_left hn]
    by_cases hm : m ≤ xs.length
    · rw [Nat.min_eq_left hm]
    · rw [Nat.min_eq_right (by omega), List.take_of_length_le (by rw [List.length_drop]; omega), List.take_of_length_le (by rw [List.length_drop]; omega)]
  · rw [Nat.min_eq_right (by omega : xs.length ≤ n), List.drop_eq_nil_of_le (Nat.le_refl _), List.drop_eq_nil_of_le (by omega)]
    simp
theorem w_slLfrom (hx : SqL K H a xs) (h0 : 0 ≤ i) (q : ∀ p, H p = none → Q (.ref p) (upd H p (.lst (xs.drop i.toNat)))) : rSlL K (.ref a) (some i) none H Q := w_slL hx fun p hp => by rw [cut_from h0]; exact q p hp
theorem w_slLto (hx : SqL K H a xs) (h0 : 0 ≤ i) (q : ∀ p, H p = none → Q (.ref p) (upd H p (.lst (xs.take i.toNat)))) : rSlL K (.ref a) none (some i) H Q := w_slL hx fun p hp => by rw [cut_to h0]; exact q p hp
theorem w_slLmid (hx : SqL K H a xs) (h0 : 0 ≤ i) (h1 : i ≤ j) (q : ∀ p, H p = none → Q (.ref p) (upd H p (.lst ((xs.drop i.toNat).take (j - i).toNat)))) : rSlL K (.ref a) (some i) (some j) H Q := w_slL hx fun p hp => by rw [cut_mid h0 h1]; exact q p hp
/-! ### more of lists -/
theorem small_le {n : Nat} (h : Nat.ble n 1000 = true) : n ≤ sizeLine := Nat.le_trans (Nat.le_of_ble_eq_true h) (by decide)
theorem w_cat {l b : Addr} {xs zs : List V} (h1 : H l = some (.lst xs)) (h2 : H b = some (.lst zs)) (hz : xs.length + zs.length ≤ sizeLine) (q : ∀ p, H p = none → Q (.ref p) (upd H p (.lst (xs ++ zs)))) : rCat (.ref l) (.ref b) H Q := ⟨l, b, xs, zs, rfl, rfl, h1, h2, hz, q⟩
end
end G

/-! grown, but for some -/
namespace G
open PySem PySem.Spec PyProof.Rows L2
structure ExtS (S : List Addr) (H H' : Hp) : Prop where
  get : ∀ a o, a ∉ S → H a = some o → H' a = some o
  dom : ∀ a, H' a = none → H a = none
/-- each of S' is one of S, or not there in H -/
def SubN (S' S : List Addr) (H : Hp) : Prop := ∀ x ∈ S', x ∈ S ∨ H x = none
section
variable {K : PySem.W.Frag} {H H1 H' : Hp} {a b p q x y : Addr} {o u o' : HO} {xs : List V} {S S' : List Addr}
theorem ext_none (e : Ext H H') (h : H' x = none) : H x = none := by
  cases hx : H x with
  | none => rfl
  | some u => rw [e x u hx] at h; cases h
theorem upd_none (h : upd H a o x = none) : H x = none := (up_none h).2
theorem ExtS.rfl' : ExtS S H H := ⟨fun _ _ _ h => h, fun _ h => h⟩
theorem exts_ext (e : Ext H H') : ExtS S H H' := ⟨fun a o _ h => e a o h, fun a h => ext_none e h⟩
theorem exts_of_p (e : ExtP p H H') (d : H' p = some o) : ExtS [p] H H' := ⟨fun a o n h => e a o (fun z => n (by rw [z]; exact List.mem_singleton.mpr rfl)) h, fun a h => by
  cases hx : H a with
  | none => rfl
  | some u =>
    by_cases z : a = p
    · subst z; rw [d] at h; cases h
    · rw [e a u z hx] at h; cases h⟩
theorem exts_nil (e : ExtS [] H H') : Ext H H' := fun a o h => e.get a o (fun z => nomatch z) h
theorem extp_of_s (e : ExtS [p] H H') : ExtP p H H' := fun a o n h => e.get a o (fun z => n (List.mem_singleton.mp z)) h
theorem exts_mono {S2 : List Addr} (e : ExtS S H H') (h : ∀ x ∈ S, x ∈ S2) : ExtS S2 H H' := ⟨fun a o n => e.get a o fun z => n (h a z), e.dom⟩
theorem SubN.nil : SubN [] S H := fun _ z => nomatch z
theorem SubN.inn (h : x ∈ S) (s : SubN S' S H) : SubN (x :: S') S H := fun y hy => by
  rcases List.mem_cons.mp hy with rfl | hy
  · exact .inl h
  · exact s y hy
theorem SubN.new (h : H x = none) (s : SubN S' S H) : SubN (x :: S') S H := fun y hy => by
  rcases List.mem_cons.mp hy with rfl | hy
  · exact .inr h
  · exact s y hy
theorem SubN.all (h : ∀ x ∈ S', H x = none) : SubN S' S H := fun y hy => .inr (h y hy)
theorem SubN.app {S1 S2 : List Addr} (h : SubN S1 S H) (h2 : SubN S2 S H) : SubN (S1 ++ S2) S H := fun y hy => (List.mem_append.mp hy).elim (h y) (h2 y)
theorem exts_thr (f : ExtS S' H1 H') (n : SubN S' S H) (e : ExtS S H H1) : ExtS S H H' := ⟨fun a o ha h => f.get a o (fun z => (n a z).elim ha (fun z => by rw [z] at h; cases h)) (e.get a o ha h), fun a h => e.dom a (f.dom a h)⟩
theorem exts_thrE (f : Ext H1 H') (e : ExtS S H H1) : ExtS S H H' := ⟨fun a o ha h => f a o (e.get a o ha h), fun a h => e.dom a (ext_none f h)⟩
theorem exts_thrP (f : ExtP p H1 H') (d : H' p = some o) (n : SubN [p] S H) (e : ExtS S H H1) : ExtS S H H' := exts_thr (exts_of_p f d) n e
theorem exts_up (n : H1 a = none) (e : ExtS S H H1) : ExtS S H (upd H1 a o) := ⟨fun b u hb h => up_n (e.get b u hb h) n, fun b h => e.dom b (upd_none h)⟩
theorem exts_put (n : SubN [a] S H) (e : ExtS S H H1) : ExtS S H (upd H1 a o) := ⟨fun b u hb h => up_k (e.get b u hb h) (fun z => (n b (by rw [z]; exact List.mem_singleton.mpr rfl)).elim hb (fun z => by rw [z] at h; cases h)), fun b h => e.dom b (upd_none h)⟩
theorem ni_nil : x ∉ ([] : List Addr) := fun z => nomatch z
theorem ni_cons (n : x ≠ y) (m : x ∉ S) : x ∉ y :: S := fun z => (List.mem_cons.mp z).elim n m
theorem ni_app {S2 : List Addr} (n : x ∉ S) (m : x ∉ S2) : x ∉ S ++ S2 := fun z => (List.mem_append.mp z).elim n m
theorem ni_new (h : H x = some u) (n : ∀ y ∈ S, H y = none) : x ∉ S := fun z => by
  rw [n x z] at h
  cases h
theorem exts_get (e : ExtS S H H') (n : x ∉ S) (h : H x = some u) : H' x = some u := e.get _ _ n h
theorem exts_none (e : ExtS S H H') (h : H' x = none) : H x = none := e.dom x h
theorem mem_hd : x ∈ x :: S := List.mem_cons_self
theorem mem_tl (h : x ∈ S) : x ∈ y :: S := List.mem_cons_of_mem _ h
theorem scr_exts (e : ExtS S H H') (n : ∀ y ∈ S, Thw H y) (h : Scr K H a xs) : Scr K H' a xs := h.frz fun b o u hb => e.get b _ (fun z => n b z o u hb) hb
theorem all_nil {P : Addr → Prop} : ∀ y ∈ ([] : List Addr), P y := fun _ z => nomatch z
theorem all_cons {P : Addr → Prop} (h : P x) (t : ∀ y ∈ S, P y) : ∀ y ∈ x :: S, P y := fun y hy => by
  rcases List.mem_cons.mp hy with rfl | hy
  · exact h
  · exact t y hy
theorem thw_none (h : H x = none) : Thw H x := fun o u z => by rw [h] at z; cases z
theorem sq_exts (e : ExtS S H H') (n : a ∉ S) (h : H a = some (.lst xs)) : SqL K H' a xs := SqL.of (e.get _ _ n h)
end
end G

/-! rows of lists of integers; more steps -/
namespace G
open PySem PySem.Spec PyProof.Rows L2
/-- the lists at these addresses -/
def Rows (H : Hp) (as : List Addr) (ms : List (List Int)) : Prop := as.length = ms.length ∧ ∀ (i : Nat) (a : Addr) (m : List Int), as[i]? = some a → ms[i]? = some m → H a = some (.lst (m.map V.int))
section
variable {K : PySem.W.Frag} {H H1 H' : Hp} {a b p q x y : Addr} {o u o' : HO} {xs zs : List V} {S S' as bs : List Addr} {ms : List (List Int)} {m : List Int} {Q : VK} {σ : L2.St} {i j k : Int}
theorem Rows.nil : Rows H [] [] := ⟨rfl, fun i a m h => by simp at h⟩
theorem Rows.at (h : Rows H as ms) {i : Nat} (hi : i < ms.length) : ∃ (a : Addr) (m : List Int), as[i]? = some a ∧ ms[i]? = some m ∧ H a = some (.lst (m.map V.int)) := by
  have h2 : i < as.length := by rw [h.1]; exact hi
  exact ⟨as[i], ms[i], List.getElem?_eq_getElem h2, List.getElem?_eq_getElem hi, h.2 i _ _ (List.getElem?_eq_getElem h2) (List.getElem?_eq_getElem hi)⟩
theorem Rows.mem (h : Rows H as ms) (ha : a ∈ as) : ∃ m : List Int, H a = some (.lst (m.map V.int)) := by
  obtain ⟨i, hi, e⟩ := List.mem_iff_getElem.mp ha
  obtain ⟨a', m, h1, h2, h3⟩ := h.at (i := i) (by rw [← h.1]; exact hi)
  rw [List.getElem?_eq_getElem hi, e] at h1
  cases h1
  exact ⟨m, h3⟩
theorem Rows.ext (h : Rows H as ms) (e : Ext H H') : Rows H' as ms := ⟨h.1, fun i a m h1 h2 => e _ _ (h.2 i a m h1 h2)⟩
theorem Rows.exts (h : Rows H as ms) (e : ExtS S H H') (n : ∀ a ∈ as, a ∉ S) : Rows H' as ms := ⟨h.1, fun i a m h1 h2 => e.get _ _ (n a (List.mem_of_getElem? h1)) (h.2 i a m h1 h2)⟩
theorem Rows.snoc (h : Rows H as ms) (h1 : H a = Option.some (.lst (m.map V.int))) : Rows H (as ++ [a]) (ms ++ [m]) := by
  refine ⟨by rw [List.length_append, List.length_append, h.1]; rfl, fun i b m' hb hm => ?_⟩
  by_cases hi : i < as.length
  · rw [List.getElem?_append_left hi] at hb
    rw [List.getElem?_append_left (by rw [← h.1]; exact hi)] at hm
    exact h.2 i b m' hb hm
  · rw [List.getElem?_append_right (by omega)] at hb
    rw [List.getElem?_append_right (by rw [← h.1]; omega), ← h.1] at hm
    have e : i - as.length = 0 := by
      have := (List.getElem?_eq_some_iff.mp hb).1
      simp at this
      omega
    rw [e] at hb hm
    cases hb
    cases hm
    exact h1
theorem Rows.new (h : Rows H as ms) (n : H x = none) : Rows (upd H x o) as ms := h.ext (ext_up n Ext.rfl')
theorem Rows.put (h : Rows H as ms) (n : x ∉ as) : Rows (upd H x o) as ms := ⟨h.1, fun i a m h1 h2 => up_k (h.2 i a m h1 h2) fun z => n (by rw [← z]; exact List.mem_of_getElem? h1)⟩
theorem Rows.no (h : Rows H as ms) (n : H x = none) : x ∉ as := fun z => by
  obtain ⟨m, e⟩ := h.mem z
  rw [n] at e
  cases e
theorem Rows.noi (h : Rows H as ms) {C dx : Addr} {fs : List (Str × V)} (n : H x = some (.ins C dx fs)) : x ∉ as := fun z => by
  obtain ⟨m, e⟩ := h.mem z
  rw [n] at e
  cases e
theorem nodup_snoc (h : as.Nodup) (n : x ∉ as) : (as ++ [x]).Nodup := List.nodup_append.mpr ⟨h, by simp, fun a ha b hb => by
  rw [List.mem_singleton.mp hb]
  intro z
  rw [z] at ha
  exact n ha⟩
theorem mem_snoc {P : Addr → Prop} (h : ∀ a ∈ as, P a) (n : P x) : ∀ a ∈ as ++ [x], P a := fun a ha => (List.mem_append.mp ha).elim (h a) fun z => by
  rw [List.mem_singleton.mp z]
  exact n
theorem ni_snoc (h : y ∉ as) (n : y ≠ x) : y ∉ as ++ [x] := fun z => (List.mem_append.mp z).elim h fun z => n (List.mem_singleton.mp z)
theorem Rows.take (h : Rows H as ms) (n : Nat) : Rows H (as.take n) (ms.take n) := ⟨by rw [List.length_take, List.length_take, h.1], fun i a m h1 h2 => by
  rw [List.getElem?_take] at h1 h2
  by_cases hi : i < n
  · rw [if_pos hi] at h1 h2
    exact h.2 i a m h1 h2
  · rw [if_neg hi] at h1
    cases h1⟩
theorem Rows.drop (h : Rows H as ms) (n : Nat) : Rows H (as.drop n) (ms.drop n) := ⟨by rw [List.length_drop, List.length_drop, h.1], fun i a m h1 h2 => by
  rw [List.getElem?_drop] at h1 h2
  exact h.2 _ a m h1 h2⟩
theorem w_sum {ns : List Int} {a : Addr} (h : SqL K H a (ns.map V.int)) (q : Q (.int ns.sum) H) : rSum K [.ref a] H Q := ⟨a, ns, rfl, h, q⟩
theorem w_extend {l b : Addr} (h1 : H l = some (.lst xs)) (h2 : H b = some (.lst zs)) (hz : xs.length + zs.length ≤ sizeLine) (q : Q .non (upd H l (.lst (xs ++ zs)))) : rExtend (.ref l) [.ref b] H Q := ⟨l, b, xs, zs, rfl, rfl, h1, h2, hz, q⟩
theorem w_rep {l : Addr} (h1 : H l = some (.lst xs)) (h0 : 0 ≤ k) (hk : k < 4611686018427387904) (hz : xs.length * k.toNat ≤ sizeLine) (q : ∀ p, H p = none → Q (.ref p) (upd H p (.lst (List.replicate k.toNat xs).flatten))) : rRep (.ref l) (.int k) H Q :=
  ⟨l, k, xs, rfl, rfl, h1, by omega, by omega, hz, q⟩
theorem w_intb {c : Bool} (q : Q (.int (if c then 1 else 0)) H) : gInt1 [.bl c] H Q := .inr ⟨c, rfl, q⟩
instance (priority := 900) i_w_intb {c : Bool} : Stp (gInt1 [.bl c] H Q) (Q (.int (if c then 1 else 0)) H) := ⟨w_intb⟩
theorem w_tryas {tb : WX → TS} {c : Value} {n : Nat} {ts : Addr → Value → Option Addr → TS} {Wout : WX} {D : Ends} (h : tb (wAs K c n ts Wout D) D σ H) : (fun D σ H => (fun W1 : WX => tb W1) (wAs K c n ts Wout D) D σ H) D σ H := h
/-- while, the test's reading told by a fact of monotony -/
theorem w_while {c : TT} {tb : TS} {D : Ends} (Pv : L2.St → Hp → Prop) (μ : L2.St → Hp → Nat) (h0 : Pv σ H)
    (hs : ∀ σ H, Pv σ H → c σ H fun b H1 => if b = true then tb { D with nx := fun σ' H' => Pv σ' H' ∧ μ σ' H' < μ σ H, ct := fun σ' H' => Pv σ' H' ∧ μ σ' H' < μ σ H, bk := D.nx } σ H1 else D.nx σ H1)
    (mono : ∀ σ H Q Q', (∀ b H1, Q b H1 → Q' b H1) → c σ H Q → c σ H Q') : tWhile c tb D σ H := while_by Pv μ h0 hs mono
end
theorem small16 {n : Nat} (h : n ≤ 16000000) : n ≤ sizeLine := Nat.le_trans h (by decide)
theorem small16l {n : Nat} (h : n < 16000000) : n < sizeLine := Nat.lt_of_lt_of_le h (by decide)
theorem map_inj_int {xs ys : List Int} (h : xs.map V.int = ys.map V.int) : xs = ys := by
  induction xs generalizing ys with
  | nil => cases ys with
    | nil => rfl
    | cons y ys => simp at h
  | cons x xs ih => cases ys with
    | nil => simp at h
    | cons y ys =>
      simp only [List.map_cons, List.cons.injEq, V.int.injEq] at h
      rw [h.1, ih h.2]
theorem atI_int {L : List Int} {a : Nat} (h : a < L.length) {k : Int} (e : k = (a : Int)) : atI (L.map V.int) k = some (V.int (L.getD a 0)) := at_of e (by
  rw [List.getElem?_map, List.getElem?_eq_getElem h, List.getD_eq_getElem?_getD, List.getElem?_eq_getElem h]
  rfl)
theorem atI_ref {L : List Addr} {a : Nat} {r : Addr} (h : L[a]? = some r) {k : Int} (e : k = (a : Int)) : atI (L.map V.ref) k = some (V.ref r) := at_of e (by rw [List.getElem?_map, h]; rfl)
end G

/-! tuples of texts, dict displays, comprehensions with any word -/
namespace G
open PySem PySem.Spec PyProof.Rows L2
/-- t.index(x), t of texts, x there -/
def rTIdxS (K : PySem.W.Frag) : V → List V → Hp → VK → Prop := fun x xs H Q => ∃ (a : Addr) (ys : List Str) (k : Str), x = .ref a ∧ xs = [.str k] ∧ SqT K H a (ys.map V.str) ∧ k ∈ ys ∧ Q (.int (ys.idxOf k : Nat)) H
theorem mt_tindexS {X : Cx} : MtR X "tuple.index" (rTIdxS X.K) := by
  intro pins s σ H x xs v us Q I rx rxs h
  obtain ⟨a, ys, k, rfl, rfl, hs, hk, q⟩ := h
  cases rx
  cases rxs with
  | cons ry rt =>
    cases rt
    obtain ⟨t, rfl⟩ := ry
    obtain ⟨its, rv, e, z⟩ := I.tuple hs
    exact SeqAt.tuple_index_strs e (strsAre_of rv) hk ⟨.int (ys.idxOf k : Nat), H, I.tok _, ⟨_, rfl⟩, q⟩
def tyTB (x : Str) : Ex := fun K => match K.lookup (He.ga K x) with
  | some o => (match o.cls with | .type n => decide (n = "tuple") | _ => false) && o.dict.isNone
  | none => false
theorem tyTB_ok {K : PySem.W.Frag} {x : Str} (h : tyTB x K = true) (H : Hp) : tyV K "tuple" (.ref (He.ga K x)) H := by
  unfold tyTB at h
  cases q : K.lookup (He.ga K x) with
  | none => rw [q] at h; cases h
  | some o =>
    rw [q] at h
    obtain ⟨oc, od, dt, sl⟩ := o
    obtain ⟨h1, h2⟩ := He.ba h
    refine .inr (.inl ⟨rfl, _, q, ?_, ?_⟩)
    · cases oc with
      | type n => exact congrArg Value.type (of_decide_eq_true h1)
      | _ => cases h1
    · cases od with
      | none => rfl
      | some d => cases h2
section
variable {K : PySem.W.Frag} {σ : L2.St} {H : Hp} {Q : VK} {x y v : V} {a : Addr} {k : Str} {ys : List Str} {kvs : List (Key × V)}
theorem ty_tupX {x : Str} {P : Prop} (h : tyTB x K = true) (q : P) : tyV K "tuple" (.ref (He.ga K x)) H ∧ P := ⟨tyTB_ok h H, q⟩
theorem w_tidxS (h : SqT K H a (ys.map V.str)) (hk : k ∈ ys) (q : Q (.int (ys.idxOf k : Nat)) H) : rTIdxS K (.ref a) [.str k] H Q := ⟨a, ys, k, rfl, rfl, h, hk, q⟩
/-! dicts -/
abbrev gDGet := tDGet
theorem w_dget {td ty : TE} (h : td σ H fun x H1 => ty σ H1 fun y H2 => ∃ a v, x = .ref a ∧ DGet H2 a y (some v) ∧ Q v H2) : tDGet td ty σ H Q := h
instance (priority := 900) i_w_dget {td ty : TE} : Stp (tDGet td ty σ H Q) (td σ H fun x H1 => ty σ H1 fun y H2 => ∃ a v, x = .ref a ∧ DGet H2 a y (some v) ∧ Q v H2) := ⟨w_dget⟩
theorem w_dgetS (h : H a = some (.dK kvs)) (e : valV kvs (.inr k : Key) = some v) (q : Q v H) : ∃ a' v', V.ref a = .ref a' ∧ DGet H a' (.str k) (some v') ∧ Q v' H := ⟨a, v, rfl, e ▸ DGet.k (k := .inr k) h, q⟩
theorem w_dgetI {i : Int} (h : H a = some (.dK kvs)) (e : valV kvs (.inl i : Key) = some v) (q : Q v H) : ∃ a' v', V.ref a = .ref a' ∧ DGet H a' (.int i) (some v') ∧ Q v' H := ⟨a, v, rfl, e ▸ DGet.k (k := .inl i) h, q⟩
theorem w_disp {trs : List (TE × TE)} (h : ∀ p, H p = none → tPairs trs σ (upd H p (.dK [])) fun ps H2 => H2 p = some (.dK []) ∧ ∃ kvs : List (Key × V), ps = kvs.map (fun kv => (kV kv.1, kv.2)) ∧ kvs.length ≤ 15 ∧ Q (.ref p) (upd H2 p (.dK (mergeK [] kvs)))) : tDisp trs σ H Q := h
instance (priority := 900) i_w_disp {trs : List (TE × TE)} : Stp (tDisp trs σ H Q) (∀ p, H p = none → tPairs trs σ (upd H p (.dK [])) fun ps H2 => H2 p = some (.dK []) ∧ ∃ kvs : List (Key × V), ps = kvs.map (fun kv => (kV kv.1, kv.2)) ∧ kvs.length ≤ 15 ∧ Q (.ref p) (upd H2 p (.dK (mergeK [] kvs)))) := ⟨w_disp⟩
theorem w_prs {tk tv : TE} {r : List (TE × TE)} {Q : List (V × V) → Hp → Prop} (h : tk σ H fun x H1 => tv σ H1 fun y H2 => tPairs r σ H2 fun ps H3 => Q ((x, y) :: ps) H3) : tPairs ((tk, tv) :: r) σ H Q := h
instance (priority := 900) i_w_prs {tk tv : TE} {r : List (TE × TE)} {Q : List (V × V) → Hp → Prop} : Stp (tPairs ((tk, tv) :: r) σ H Q) (tk σ H fun x H1 => tv σ H1 fun y H2 => tPairs r σ H2 fun ps H3 => Q ((x, y) :: ps) H3) := ⟨w_prs⟩
theorem w_prn {Q : List (V × V) → Hp → Prop} (h : Q [] H) : tPairs [] σ H Q := h
instance (priority := 900) i_w_prn {Q : List (V × V) → Hp → Prop} : Stp (tPairs [] σ H Q) (Q [] H) := ⟨w_prn⟩
/-! in -/
theorem w_inT {xs : List V} (h : SqT K H a xs) (fx : flatV x = true) (fs : xs.all flatV = true) (q : Q (.bl (inV x xs)) H) : rIn K false x (.ref a) H Q := ⟨a, xs, rfl, .inr h, fx, fs, q⟩
theorem w_inL {xs : List V} (h : SqL K H a xs) (fx : flatV x = true) (fs : xs.all flatV = true) (q : Q (.bl (inV x xs)) H) : rIn K false x (.ref a) H Q := ⟨a, xs, rfl, .inl h, fx, fs, q⟩
theorem w_ninT {xs : List V} (h : SqT K H a xs) (fx : flatV x = true) (fs : xs.all flatV = true) (q : Q (.bl (!inV x xs)) H) : rIn K true x (.ref a) H Q := ⟨a, xs, rfl, .inr h, fx, fs, q⟩
theorem w_ninL {xs : List V} (h : SqL K H a xs) (fx : flatV x = true) (fs : xs.all flatV = true) (q : Q (.bl (!inV x xs)) H) : rIn K true x (.ref a) H Q := ⟨a, xs, rfl, .inl h, fx, fs, q⟩
/-! tuple(list), list of a tuple -/
theorem w_tupL {xs : List V} (h : SqL K H a xs) (q : ∀ l, H l = none → Q (.ref l) (upd H l (.tup xs))) : gTupOf K [.ref a] H Q := ⟨a, xs, rfl, .inl ⟨h, q⟩⟩
end
/-! ### comprehensions, any word -/
section
variable {K : PySem.W.Frag} {σ : L2.St} {H : Hp} {Q : VK} {g : TG} {tt : TT} {te : TE} {vs : List Nat} {tA : TA} {tl : TE} {v : Nat} {j lo hi : Int}
theorem w_yes {Q : Bool → Hp → Prop} (h : Q true H) : tYes σ H Q := h
instance (priority := 900) i_w_yes {Q : Bool → Hp → Prop} : Stp (tYes σ H Q) (Q true H) := ⟨w_yes⟩
theorem lc_addG {D : Addr} {Pv : Addr → Nat → Hp → Prop} {i : Nat} {y : V} {H4 : Hp} {A : List V} (h : H4 D = some (.lst A)) (hl : A.length < sizeLine) (q : Pv D (i + 1) (upd H4 D (.lst (A ++ [y])))) : LcAdd D (Pv D) i y H4 := ⟨A, h, hl, q⟩
theorem lcG {J : It} {n : Nat} {G : Hp → Prop} {Y : Nat → Hp → V → Hp → Prop} (w : Walk J n G Y) (Pv : Addr → Nat → Hp → Prop) (h0 : ∀ D, H D = none → Pv D 0 (upd H D (.lst []))) (hG : ∀ D i H', Pv D i H' → G H')
    (hs : ∀ i x D H1 H2, i < n → H D = none → Pv D i H1 → Y i H1 x H2 → g x (wipe σ vs) H2 fun σ2 H2 => wipe σ2 vs = wipe σ vs ∧ tt σ2 H2 fun b H3 =>
      if b = true then te σ2 H3 fun y H4 => LcAdd D (Pv D) i y H4 else Pv D (i + 1) H3)
    (hd : ∀ D H1, H D = none → Pv D n H1 → Q (.ref D) H1) : rLc J g tt te vs σ H Q := fun D hD =>
  lc_it w (Pv D) (h0 D hD) (fun i H' _ h => hG D i H' h) (fun i x H1 H2 hi h y => hs i x D H1 H2 hi hD h y) fun H1 h => hd D H1 hD h
theorem lcR1G {n : Nat} (Pv : Addr → Nat → Hp → Prop) (hj : j = (n : Int)) (hn : n < 16000000) (h0 : ∀ D, H D = none → Pv D 0 (upd H D (.lst [])))
    (hs : ∀ (i : Nat) D H1, i < n → H D = none → Pv D i H1 → te ((σ.set v none).set v (some (.int (i : Int)))) H1 fun y H4 => LcAdd D (Pv D) i y H4)
    (hd : ∀ D H1, H D = none → Pv D n H1 → Q (.ref D) H1) : rLcR1 (gName v) tYes te [v] σ Q [.int j] H := by
  subst hj
  refine ⟨(n : Int), rfl, by omega, by omega, lcG walk_range Pv h0 (fun _ _ _ _ => trivial) ?_ (by rw [Int.toNat_natCast]; exact hd)⟩
  rintro i x D H1 H2 hi hD hP ⟨rfl, rfl⟩
  refine ⟨wipe1, ?_⟩
  show te ((σ.set v none).set v (some (.int (0 + (i : Int))))) H2 _
  rw [Int.zero_add]
  exact hs i D H2 (by omega) hD hP
/-- drawn numbers: [digit(state, m) for k in range(n)] -/
theorem lcDraw {s : Addr} {n0 m : Int} {n : Nat} (hj : j = (n : Int)) (hn : n < 16000000) (hs : H s = some (.lst [.int n0])) (h0 : 0 < m)
    (hb : ∀ (i : Nat) D H1 n1, i < n → H D = none → ExtP s H H1 → H1 s = some (.lst [.int n1]) → s ≠ D → te ((σ.set v none).set v (some (.int (i : Int)))) H1 fun y H4 => ∃ d n2, y = .int d ∧ 0 ≤ d ∧ d < m ∧ H4 = upd H1 s (.lst [.int n2]))
    (mono : ∀ (σ : L2.St) H (Q Q' : VK), (∀ y H1, Q y H1 → Q' y H1) → te σ H Q → te σ H Q')
    (hd : ∀ D H1 (ds : List Int) n1, H D = none → ExtP s H H1 → H1 s = some (.lst [.int n1]) → ds.length = n → (∀ d ∈ ds, 0 ≤ d ∧ d < m) → H1 D = some (.lst (ds.map V.int)) → Q (.ref D) H1) : rLcR1 (gName v) tYes te [v] σ Q [.int j] H := by
  refine lcR1G (fun D i H' => ExtP s H H' ∧ (∃ n1, H' s = some (.lst [.int n1])) ∧ ∃ ds : List Int, ds.length = i ∧ (∀ d ∈ ds, 0 ≤ d ∧ d < m) ∧ H' D = some (.lst (ds.map V.int))) hj hn (fun D hD => ⟨extp_up hD ExtP.rfl', ⟨n0, up_n hs hD⟩, [], rfl, (fun d hd => by cases hd), upd_same⟩) ?_ ?_
  · rintro i D H1 hi hD ⟨e, ⟨n1, hs1⟩, ds, hl, hds, hA⟩
    have nsD : s ≠ D := ne_of_none hs hD
    refine mono _ _ _ _ ?_ (hb i D H1 n1 hi hD e hs1 nsD)
    rintro y H4 ⟨d, n2, rfl, d0, d1, rfl⟩
    refine lc_addG (Pv := fun D i H' => ExtP s H H' ∧ (∃ n1, H' s = some (.lst [.int n1])) ∧ ∃ ds : List Int, ds.length = i ∧ (∀ d ∈ ds, 0 ≤ d ∧ d < m) ∧ H' D = some (.lst (ds.map V.int))) (A := ds.map V.int) (up_k hA nsD.symm) (by rw [List.length_map]; exact small16l (by omega)) ⟨extp_putn hD (extp_put e), ⟨n2, up_k upd_same nsD⟩, ds ++ [d], by rw [List.length_append, hl]; rfl, ?_, by rw [upd_same, List.map_append]; rfl⟩
    intro z hz
    rcases List.mem_append.mp hz with hz | hz
    · exact hds z hz
    · rw [List.mem_singleton.mp hz]
      exact ⟨d0, d1⟩
  · rintro D H1 hD ⟨e, ⟨n1, hs1⟩, ds, hl, hds, hA⟩
    exact hd D H1 ds n1 hD e hs1 hl hds hA
end
end G

/-! classes made with keywords -/
namespace G
open PySem PySem.Spec PyProof.Rows L2
section
variable (P : Program) (w : World) (K : PySem.W.Frag) (mg : Str → Option Value) (base : Heap)
/-- a class made with n positional values and the keywords ks; gV: in the parameters' order -/
structure HasK (k : Nat) (c : Str) (n : Nat) (ks ps : List Str) (gV : List V → List V → List V) (sp : Sp) : Prop where
  gl : mg c = some (.ref (He.ga K c))
  mkr : Mk K (He.ga K c) (He.ma K (He.ga K c) "__init__")
  ex : ∃ (fd : FuncData) (g : List Value → List Value → List Value), FnOk P w K mg base (L2.CX P w) k (He.ma K (He.ga K c) "__init__") fd ps sp ∧ KBn K fd ps (n + 1) ks g gV
end
theorem HasK.mono {P : Program} {w : World} {K : PySem.W.Frag} {mg : Str → Option Value} {base : Heap} {j k n : Nat} {c : Str} {ks ps : List Str} {gV : List V → List V → List V} {sp : Sp} (h : HasK P w K mg base j c n ks ps gV sp) (l : j ≤ k) : HasK P w K mg base k c n ks ps gV sp :=
  ⟨h.gl, h.mkr, let ⟨fd, g, F, b⟩ := h.ex; ⟨fd, g, F.mono l, b⟩⟩
/-- C(.., k = v, ..) -/
def tMkK (C : Addr) (n m : Nat) (sp : Sp) (gV : List V → List V → List V) (E : L2.St → XK) (t tk : TA) : TE := fun σ H Q => t σ H fun vs H1 => tk σ H1 fun zs H2 => vs.length = n ∧ zs.length = m ∧ ∀ x dx, H2 x = none → H2 dx = none → dx ≠ x →
  sp (gV (.ref x :: vs) zs) (upd (upd H2 dx (.own x)) x (.ins C dx [])) (fun v H3 => v = .non ∧ Q (.ref x) H3) (E σ)
section
variable {X : Cx} {k n : Nat} {f C : Addr} {fd : FuncData} {ps ks : List Str} {sp : Sp} {E : L2.St → XK} {x c : Str} {p pos : Pos} {e : Expr} {es : List Expr} {kws : List Keyword} {t tk : TA} {g : List Value → List Value → List Value} {gV : List V → List V → List V}
theorem run_mkK {pins : List (Addr × Obj)} {σ : L2.St} {H : Hp} {s : Shared} {Q : VK} {us ws : List Value} {vs zs : List V} (M : Mk X.K C f) (F : FnOk X.prog X.w X.K X.mg X.base (XC X) k f fd ps sp) (hr : Room (k + 1) X.A) (hb : KBn X.K fd ps (n + 1) ks g gV) (hx : PassesAt (XC X) X σ (E σ))
    (I : Inv X pins σ H s) (r : Vals vs us) (rz : Vals zs ws) (l1 : vs.length = n) (l2 : zs.length = ks.length)
    (h : ∀ x dx, H x = none → H dx = none → dx ≠ x → sp (gV (.ref x :: vs) zs) (upd (upd H dx (.own x)) x (.ins C dx [])) (fun v H2 => v = .non ∧ Q (.ref x) H2) (E σ)) :
    wpAny (model X.prog X.w) X.A (call (.ref C) us (ks.zip ws)) (EP X pins σ Q) X.xe s := by
  have hq := h (s.heap.objs.size + 1) s.heap.objs.size (I.hok.fresh (Nat.le_succ _)) (I.hok.fresh (Nat.le_refl _)) (Nat.ne_of_lt (Nat.lt_succ_self _))
  have I2 := Inv.made (C := C) I
  have r1 : Vals (V.ref (s.heap.objs.size + 1) :: vs) (Value.ref (s.heap.objs.size + 1) :: us) := .cons rfl r
  have r2 := hb.rel r1 rz
  have n1 : (Value.ref (s.heap.objs.size + 1) :: us).length = n + 1 := by
    rw [List.length_cons, ← r.length, l1]
  refine wpAny_call (make_map (f := f) I.kIn M.makes M.init (beq_iff_eq.mp M.fn) (codeAny_mono (F.run _ X.stack _ _ ⟨Value.ref (s.heap.objs.size + 1) :: us, ks.zip ws⟩ (g (Value.ref (s.heap.objs.size + 1) :: us) ws) _ _ (E σ) (hr.make C us (ks.zip ws))
    (I2.env0.make C us (ks.zip ws)) (hb.to _ (Value.ref (s.heap.objs.size + 1) :: us) ws I2.kIn n1 (rz.length.symm.trans l2)) r2 hq) fun r s' hq' => ?_))
  cases r with
  | error e => exact hx pins _ _ e s' I2 hq'
  | ok fl =>
    cases fl with
    | ret u =>
      obtain ⟨v, H', I3, rv, ev, q3⟩ := I2.after hq'
      subst ev
      exact ⟨rv, ⟨V.ref (s.heap.objs.size + 1), H', I3, rfl, q3⟩⟩
    | next => exact False.elim hq'
    | brk => exact False.elim hq'
    | cont => exact False.elim hq'
theorem pe_mkK0 (h : HasK X.prog X.w X.K X.mg X.base k c 0 ks ps gV sp) (hr : Room (k + 1) X.A) (hg : Gl X c) (hx : ∀ σ, PassesAt (XC X) X σ (E σ)) (hkw : PK X kws tk)
    (hall : (backToKw pos (keywordEach kws X.env)).all (·.1.isSome) = true := by rfl) (hks : (backToKw pos (keywordEach kws X.env)).filterMap (·.1) = ks := by rfl) (hdb : (c == ("__debug__" : Str)) = false := by decide)
    (hpl : ((backTo pos (starEach [] X.env)).any (·.1) || (backToKw pos (keywordEach kws X.env)).any (·.1.isNone)) = false := by rfl) :
    PE X (.Call (.Name c p) [] kws pos) (tMkK (He.ga X.K c) 0 ks.length sp gV E tNil tk) := by
  obtain ⟨fd, g, F, hb⟩ := h.ex
  refine ⟨fun pins s σ H Q I hh => ?_⟩
  refine wpAny_Call_Name_kw (ld_glob I hg h.gl ?_ hdb)
  refine PySem.W.callWith_KW0 (h₀ := X.base) I.ok.mod.kin h.mkr.kp hall ?_ hpl
  refine thn (hkw.run pos pins s σ H _ I hh) fun ws s2 ⟨zs, H2, I2, rz, l1, l2, q2⟩ => ⟨I2.kIn, ?_⟩
  rw [hks]
  exact run_mkK (us := []) (vs := []) h.mkr F hr hb (hx σ) I2 .nil rz rfl l2 q2
theorem pe_mkK (h : HasK X.prog X.w X.K X.mg X.base k c n ks ps gV sp) (hr : Room (k + 1) X.A) (hg : Gl X c) (hx : ∀ σ, PassesAt (XC X) X σ (E σ)) (ha : PA X (e :: es) t) (hkw : PK X kws tk)
    (hall : (backToKw pos (keywordEach kws X.env)).all (·.1.isSome) = true := by rfl) (hks : (backToKw pos (keywordEach kws X.env)).filterMap (·.1) = ks := by rfl) (hdb : (c == ("__debug__" : Str)) = false := by decide)
    (he : starEach (e :: es) X.env = (false, eval e X.env) :: starEach es X.env := by rfl) (hpl : ((backTo pos (starEach (e :: es) X.env)).any (·.1) || (backToKw pos (keywordEach kws X.env)).any (·.1.isNone)) = false := by rfl) :
    PE X (.Call (.Name c p) (e :: es) kws pos) (tMkK (He.ga X.K c) n ks.length sp gV E t tk) := by
  obtain ⟨fd, g, F, hb⟩ := h.ex
  refine ⟨fun pins s σ H Q I hh => ?_⟩
  refine wpAny_Call_Name_kw (ld_glob I hg h.gl ?_ hdb)
  refine PySem.W.callWith_KW (h₀ := X.base) I.ok.mod.kin h.mkr.kp hall (thn (ha.run pos pins s σ H _ I hh) fun us s1 ⟨vs, H1, I1, r, q⟩ => ?_) hpl he
  refine thn (hkw.run pos pins s1 σ H1 _ I1 q) fun ws s2 ⟨zs, H2, I2, rz, l1, l2, q2⟩ => ⟨I2.kIn, ?_⟩
  rw [hks]
  exact run_mkK h.mkr F hr hb (hx σ) I2 r rz l1 l2 q2
end
/-- every keyword-only parameter is written -/
theorem kbn_all {K : PySem.W.Frag} {x qual : Str} {params : Arguments} {body : List Stmt} {scope : Scope} {kws : List (Str × V)} {f : Addr} {fd : FuncData} {ps : List Str} (F : FunD K x qual params body scope [] kws f fd) (n : Nat) (ks : List Str)
    (g : {α : Type} → List α → List α → List α) (hrel : ∀ {vs zs : List V} {us ws : List Value}, Vals vs us → Vals zs ws → Vals (g vs zs) (g us ws))
    (h : ∀ (kV doc pm : Value) (an : Option Addr) (cdv ct : Value) (us ws : List Value), us.length = n → ws.length = ks.length → bindArgs (PySem.W.fnOf x qual params body scope .none kV doc pm an cdv ct) ⟨us, ks.zip ws⟩ = pure (ps.zip (g us ws))) :
    KBn K fd ps n ks (fun us ws => g us ws) (fun vs zs => g vs zs) := by
  obtain ⟨oc, od, dV, kV, doc, pm, an, cdv, ct, osl, rfl, lk, hcd, hD, hK⟩ := F.ex
  rcases hD with ⟨_, rfl⟩ | ⟨e, _⟩
  · exact ⟨fun s us ws X l1 l2 => .of_eq (h kV doc pm an cdv ct us ws l1 l2), fun r1 r2 => hrel r1 r2⟩
  · exact absurd rfl e
/-- what a def with keyword-only parameters promises, before it is called -/
theorem mk_fn {P : Program} {w : World} {K : PySem.W.Frag} {mg : Str → Option Value} {base : Heap} {k : Nat} {x qual : Str} {params : Arguments} {body : List Stmt} {scope : Scope} {N ps : List Str} {sp : Sp} {dvs : List V} {kws : List (Str × V)} {f : Addr}
    (F : ∃ fd, FunD K x qual params body scope dvs kws f fd) (S : FnScope N ps scope) (len : ∀ vs H Q E, sp vs H Q E → vs.length = ps.length) (hbody : Body P w K mg base k N qual scope f body sp) :
    ∃ fd, FunD K x qual params body scope dvs kws f fd ∧ FnOk P w K mg base (L2.CX P w) (k + 1) f fd ps sp := by
  obtain ⟨fd, F⟩ := F
  exact ⟨fd, F, FunD.ok (CX := L2.CX P w) F S len hbody⟩
section
variable {K : PySem.W.Frag} {σ : L2.St} {H : Hp} {Q : VK}
theorem w_mkK {C : Addr} {n m : Nat} {sp : Sp} {gV : List V → List V → List V} {E : L2.St → XK} {t tk : TA} (h : t σ H fun vs H1 => tk σ H1 fun zs H2 => vs.length = n ∧ zs.length = m ∧ ∀ x dx, H2 x = none → H2 dx = none → dx ≠ x →
  sp (gV (.ref x :: vs) zs) (upd (upd H2 dx (.own x)) x (.ins C dx [])) (fun v H3 => v = .non ∧ Q (.ref x) H3) (E σ)) : tMkK C n m sp gV E t tk σ H Q := h
theorem w_ll {a b c d : Nat} {P : Prop} (h1 : a = b) (h2 : c = d) (p : P) : a = b ∧ c = d ∧ P := ⟨h1, h2, p⟩
end
end G

/-! data at values, through a heap that grows -/
namespace G
open PySem PySem.Spec PyProof.Rows L2
section
variable {K : PySem.W.Frag} {H H' : Hp}
mutual
theorem dp_ext (e : Ext H H') : ∀ {v : V} {d : PyData}, Dp K H v d → Dp K H' v d
  | _, _, .non => .non
  | _, _, .bl b => .bl b
  | _, _, .int i => .int i
  | _, _, .str x => .str x
  | _, _, .lst h a => .lst (h.ext e) (dpAll_ext e a)
  | _, _, .tup h a => .tup (h.ext e) (dpAll_ext e a)
theorem dpAll_ext (e : Ext H H') : ∀ {vs : List V} {ds : List PyData}, DpAll K H vs ds → DpAll K H' vs ds
  | _, _, .nil => .nil
  | _, _, .cons h a => .cons (dp_ext e h) (dpAll_ext e a)
end
theorem dpAll_snoc {v : V} {d : PyData} : ∀ {vs : List V} {ds : List PyData}, DpAll K H vs ds → Dp K H v d → DpAll K H (vs ++ [v]) (ds ++ [d])
  | _, _, .nil, h => .cons h .nil
  | _, _, .cons h1 a, h => .cons h1 (dpAll_snoc a h)
end
theorem lay_map {α : Type} {f : α → PyData} : ∀ {xs : List α}, (∀ x ∈ xs, (f x).canLay0 = true) → PyData.canLayAll0 (xs.map f) = true
  | [], _ => rfl
  | x :: xs, h => by
    show (PyData.canLay0 (f x) && PyData.canLayAll0 (xs.map f)) = true
    rw [h x List.mem_cons_self, lay_map fun y hy => h y (List.mem_cons_of_mem _ hy)]
    rfl
theorem depth_map {α : Type} {f : α → PyData} {n : Nat} : ∀ {xs : List α}, (∀ x ∈ xs, (f x).depth ≤ n) → PyData.depthAll (xs.map f) ≤ n
  | [], _ => by simp [PyData.depthAll]
  | x :: xs, h => by
    have h1 := h x List.mem_cons_self
    have h2 := depth_map (xs := xs) fun y hy => h y (List.mem_cons_of_mem _ hy)
    simp only [List.map_cons, PyData.depthAll]
    omega
theorem shaped_of {d : PyData} (h1 : d.canLay0 = true) (h2 : d.depth ≤ 64) : SeqAt.shaped d = true := by
  unfold SeqAt.shaped
  rw [h1, decide_eq_true h2]
  rfl
theorem shaped_lm {α : Type} {f : α → PyData} {xs : List α} (h1 : ∀ x ∈ xs, (f x).canLay0 = true) (h2 : ∀ x ∈ xs, (f x).depth ≤ 63) : SeqAt.shaped (.list (xs.map f)) = true := by
  refine shaped_of ?_ ?_
  · show PyData.canLayAll0 (xs.map f) = true
    exact lay_map h1
  · have := depth_map h2
    simp only [PyData.depth]
    omega
/-- two data that are the same -/
theorem w_eqS' {K : PySem.W.Frag} {H : Hp} {Q : VK} {x y : V} {d : PyData} (h1 : Dp K H x d) (h2 : Dp K H y d) (s : SeqAt.shaped d = true) (q : Q (.bl true) H) : rEqD K x y H Q := w_eqD h1 h2 s s (by rw [eqv_self s]; exact q)
theorem w_neS' {K : PySem.W.Frag} {H : Hp} {Q : VK} {x y : V} {d : PyData} (h1 : Dp K H x d) (h2 : Dp K H y d) (s : SeqAt.shaped d = true) (q : Q (.bl false) H) : rNeD K x y H Q := w_neD h1 h2 s s (by rw [eqv_self s]; exact q)
/-! range with a step -/
theorem w_forR3 {g : TG} {tb : TS} {D : Ends} {σ : L2.St} {H : Hp} {tA : TA} (h : tA σ H fun vs H1 => ∃ (i j c : Int) (n : Nat), vs = [.int i, .int j, .int c] ∧ RgC i j c n ∧ ∃ W : Nat → Nat → L2.St → Hp → Prop, (∃ m, W 0 m σ H1) ∧ ∀ k m σ H, W k m σ H →
  ((Itc i c n).stop k H ∧ D.nx σ H) ∨ ((Itc i c n).go k H ∧ ∃ N : L2.St → Hp → Prop, (∀ σ' H', N σ' H' → ∃ m', m' < m ∧ W (k + 1) m' σ' H') ∧ ∀ x H', (Itc i c n).yld k H x H' → g x σ H' fun σ2 H2 => tb { D with nx := N, ct := N, bk := D.nx } σ2 H2)) : tFor (iRng3 tA) g tb D σ H := h
theorem rgC_pos {n c : Int} (h0 : 0 ≤ n) (h1 : n < 10000000) (c0 : 1 ≤ c) (c1 : c < 1073741824) : RgC 0 n c ((n + c - 1) / c).toNat := by
  have e := rangeSize_pos (len := n) c0 h0
  have q0 : 0 ≤ (n + c - 1) / c := Int.ediv_nonneg (by omega) (by omega)
  have q1 : (n + c - 1) / c ≤ n + c - 1 := Int.ediv_le_self _ (by omega)
  refine ⟨by omega, by omega, ?_, ?_⟩
  · unfold Builtin.Range.small
    rw [e]
    simp only [Builtin.Range.rangeFitsLong, Bool.and_eq_true, Bool.or_eq_true, decide_eq_true_eq, beq_iff_eq]
    rw [if_pos (by omega)]
    simp only [Bool.and_eq_true, decide_eq_true_eq]
    generalize (n + c - 1) / c = z at *
    omega
  · rw [e]
    omega
def rLoop3 (g : TG) (tb : TS) (D : Ends) (σ : L2.St) (vs : List V) (H1 : Hp) : Prop := ∃ (i j c : Int) (n : Nat), vs = [.int i, .int j, .int c] ∧ RgC i j c n ∧ ∃ W : Nat → Nat → L2.St → Hp → Prop, (∃ m, W 0 m σ H1) ∧ ∀ k m σ H, W k m σ H →
  ((Itc i c n).stop k H ∧ D.nx σ H) ∨ ((Itc i c n).go k H ∧ ∃ N : L2.St → Hp → Prop, (∀ σ' H', N σ' H' → ∃ m', m' < m ∧ W (k + 1) m' σ' H') ∧ ∀ x H', (Itc i c n).yld k H x H' → g x σ H' fun σ2 H2 => tb { D with nx := N, ct := N, bk := D.nx } σ2 H2)
theorem w_for3 {g : TG} {tb : TS} {D : Ends} {σ : L2.St} {H : Hp} {tA : TA} (h : tA σ H fun vs H1 => rLoop3 g tb D σ vs H1) : tFor (iRng3 tA) g tb D σ H := h
instance (priority := 900) i_w_for3 {g : TG} {tb : TS} {D : Ends} {σ : L2.St} {H : Hp} {tA : TA} : Stp (tFor (iRng3 tA) g tb D σ H) (tA σ H fun vs H1 => rLoop3 g tb D σ vs H1) := ⟨w_for3⟩
/-- for x in range(0, n, c) -/
theorem loop3 {g : TG} {tb : TS} {D : Ends} {σ : L2.St} {H : Hp} {n c : Int} (Pv : Nat → L2.St → Hp → Prop) (h0 : 0 ≤ n) (h1 : n < 10000000) (c0 : 1 ≤ c) (c1 : c < 1073741824) (hb : Pv 0 σ H)
    (hs : ∀ (i : Nat) σ H, (i : Int) * c < n → Pv i σ H → g (.int ((i : Int) * c)) σ H fun σ2 H2 => tb { D with nx := Pv (i + 1), ct := Pv (i + 1), bk := D.nx } σ2 H2) (hd : ∀ (N : Nat) σ H, n ≤ (N : Int) * c → (N : Int) * c < n + c → Pv N σ H → D.nx σ H) : rLoop3 g tb D σ [.int 0, .int n, .int c] H := by
  have q0 : 0 ≤ (n + c - 1) / c := Int.ediv_nonneg (by omega) (by omega)
  have e1 := Int.emod_add_mul_ediv (n + c - 1) c
  have e2 := Int.emod_nonneg (n + c - 1) (b := c) (by omega)
  have e3 := Int.emod_lt_of_pos (n + c - 1) (b := c) (by omega)
  have em : c * ((n + c - 1) / c) = ((n + c - 1) / c) * c := Int.mul_comm _ _
  have ez : ((((n + c - 1) / c).toNat : Nat) : Int) = (n + c - 1) / c := by omega
  refine ⟨0, n, c, _, rfl, rgC_pos h0 h1 c0 c1, for_rangeC (lo := 0) (c := c) (n := ((n + c - 1) / c).toNat) Pv hb (fun i σ H hi p => ?_) (fun σ H p => hd _ σ H ?_ ?_ p)⟩
  · have e : (0 : Int) + (i : Nat) * c = (i : Int) * c := Int.zero_add _
    rw [e]
    refine hs i σ H ?_ p
    have hi2 : (i : Int) + 1 ≤ (n + c - 1) / c := by omega
    have hm := Int.mul_le_mul_of_nonneg_right hi2 (show 0 ≤ c by omega)
    rw [Int.add_mul, Int.one_mul] at hm
    omega
  · rw [ez]; omega
  · rw [ez]; omega
theorem upd_thru {H : Hp} {p m : Addr} {x y z : HO} (n : m ≠ p) : upd (upd (upd H p x) m y) p z = upd (upd H m y) p z := by
  funext a
  by_cases h : a = p
  · subst h
    rw [upd_same, upd_same]
  · rw [upd_ne h, upd_ne h]
    by_cases h2 : a = m
    · subst h2
      rw [upd_same, upd_same]
    · rw [upd_ne h2, upd_ne h2, upd_ne h]
end G

/-! what a run owns: a list of claims on disjoint parts of the heap; a marked cell is only read, and may be claimed often -/
namespace G
open PySem PySem.Spec PyProof.Rows L2
abbrev LH : Type := Addr → Option (HO × Bool)
abbrev HP : Type := LH → Prop
def LHle (h : LH) (H : Hp) : Prop := ∀ a o b, h a = some (o, b) → H a = some o
def Dis (h k : LH) : Prop := ∀ a x y, h a = some x → k a = some y → x.2 = true
def LSub (h k : LH) : Prop := ∀ a x, h a = some x → k a = some x
def LHor (h k : LH) : LH := fun a => match h a with
  | some x => some x
  | none => k a
def LHupd (h : LH) (a : Addr) (x : HO × Bool) : LH := fun b => if b = a then some x else h b
def LHnone : LH := fun _ => none
def AllRo (h : LH) : Prop := ∀ a x, h a = some x → x.2 = true
def stars : List HP → HP
  | [] => fun _ => True
  | P :: L => fun h => ∃ h1 h2, Dis h1 h2 ∧ LSub h1 h ∧ LSub h2 h ∧ P h1 ∧ stars L h2
def Own (L : List HP) (H : Hp) : Prop := ∃ h, LHle h H ∧ stars L h
def cell (b : Bool) (a : Addr) (o : HO) : HP := fun h => h a = some (o, b)
abbrev pt (a : Addr) (o : HO) : HP := cell false a o
abbrev ro (a : Addr) (o : HO) : HP := cell true a o
def hex {α : Sort _} (f : α → HP) : HP := fun h => ∃ x, f x h
def hpu (p : Prop) : HP := fun _ => p
section
variable {h k h1 h2 h3 g : LH} {a b : Addr} {x y : HO × Bool} {L M R : List HP} {P Q : HP} {H H' : Hp} {o u : HO}
theorem LSub.rfl' : LSub h h := fun _ _ e => e
theorem LSub.trans (s : LSub h k) (t : LSub k g) : LSub h g := fun a x e => t a x (s a x e)
theorem lor_l : LSub h (LHor h k) := fun a x e => by unfold LHor; rw [e]
theorem lor_sub (s : LSub h g) (t : LSub k g) : LSub (LHor h k) g := fun a x e => by
  unfold LHor at e
  cases q : h a with
  | some z => rw [q] at e; cases e; exact s a _ q
  | none => rw [q] at e; exact t a x e
theorem lor_r (s : LSub h g) (t : LSub k g) : LSub k (LHor h k) := fun a x e => by
  unfold LHor
  cases q : h a with
  | some z =>
    have e1 := s a z q
    rw [t a x e] at e1
    cases e1
    rfl
  | none => exact e
theorem lor_of (e : LHor h k a = some x) : h a = some x ∨ k a = some x := by
  unfold LHor at e
  split at e
  · rename_i z q
    cases e
    exact .inl q
  · exact .inr e
theorem Dis.symm (d : Dis h k) (s : LSub h g) (t : LSub k g) : Dis k h := fun a x y e f => by
  have e1 := t a x e
  rw [s a y f] at e1
  cases e1
  exact d a _ _ f e
theorem dis_or (d : Dis h k) (e : Dis h g) : Dis h (LHor k g) := fun a x y p q => (lor_of q).elim (d a x y p) (e a x y p)
theorem or_dis (d : Dis h g) (e : Dis k g) : Dis (LHor h k) g := fun a x y p q => (lor_of p).elim (fun p => d a x y p q) fun p => e a x y p q
theorem Dis.sub_l (d : Dis h k) (s : LSub g h) : Dis g k := fun a x y p q => d a x y (s a x p) q
theorem Dis.sub_r (d : Dis h k) (s : LSub g k) : Dis h g := fun a x y p q => d a x y p (s a y q)
theorem dis_none : Dis LHnone h := fun a x y e _ => nomatch e
theorem dis_none_r : Dis h LHnone := fun a x y _ e => nomatch e
theorem sub_none : LSub LHnone h := fun a x e => nomatch e
theorem stars_mono : ∀ {L : List HP} {h k : LH}, stars L h → LSub h k → stars L k
  | [], _, _, _, _ => trivial
  | _ :: _, _, _, ⟨h1, h2, d, s1, s2, p, q⟩, s => ⟨h1, h2, d, s1.trans s, s2.trans s, p, q⟩
theorem stars_swap (s : stars (P :: Q :: L) h) : stars (Q :: P :: L) h := by
  obtain ⟨h1, h2, d, s1, s2, p, h3, h4, d2, s3, s4, q, t⟩ := s
  refine ⟨h3, LHor h1 h4, dis_or ((d.sub_r s3).symm s1 (s3.trans s2)) d2, s3.trans s2, lor_sub s1 (s4.trans s2), q, h1, h4, d.sub_r s4, lor_l, lor_r s1 (s4.trans s2), p, t⟩
theorem stars_cons (t : ∀ h, stars L h → stars M h) (s : stars (P :: L) h) : stars (P :: M) h := by
  obtain ⟨h1, h2, d, s1, s2, p, q⟩ := s
  exact ⟨h1, h2, d, s1, s2, p, t _ q⟩
theorem stars_head (t : ∀ h, P h → Q h) (s : stars (P :: L) h) : stars (Q :: L) h := by
  obtain ⟨h1, h2, d, s1, s2, p, q⟩ := s
  exact ⟨h1, h2, d, s1, s2, t _ p, q⟩
theorem stars_perm (p : L.Perm M) : ∀ {h}, stars L h → stars M h := by
  induction p with
  | nil => exact fun s => s
  | cons x _ ih => exact fun s => stars_cons (fun h => ih) s
  | swap x y l => exact fun s => stars_swap s
  | trans _ _ i1 i2 => exact fun s => i2 (i1 s)
theorem stars_app : ∀ {L M : List HP} {h : LH}, stars (L ++ M) h ↔ ∃ h1 h2, Dis h1 h2 ∧ LSub h1 h ∧ LSub h2 h ∧ stars L h1 ∧ stars M h2
  | [], M, h => ⟨fun s => ⟨LHnone, h, dis_none, sub_none, LSub.rfl', trivial, s⟩, fun ⟨_, _, _, _, s, _, q⟩ => stars_mono q s⟩
  | P :: L, M, h => by
    constructor
    · rintro ⟨hp, h', d, s1, s2, p, q⟩
      obtain ⟨h1, h2, d2, s3, s4, q1, q2⟩ := stars_app.mp q
      exact ⟨LHor hp h1, h2, or_dis (d.sub_r s4) d2, lor_sub s1 (s3.trans s2), s4.trans s2, ⟨hp, h1, d.sub_r s3, lor_l, lor_r s1 (s3.trans s2), p, q1⟩, q2⟩
    · rintro ⟨h1, h2, d, s1, s2, ⟨hp, h3, d2, s3, s4, p, q1⟩, q2⟩
      exact ⟨hp, LHor h3 h2, dis_or d2 (d.sub_l s3), s3.trans s1, lor_sub (s4.trans s1) s2, p, stars_app.mpr ⟨h3, h2, d.sub_l s4, lor_l, lor_r (s4.trans s1) s2, q1, q2⟩⟩
theorem stars_flat : stars (stars L :: M) h ↔ stars (L ++ M) h := by
  rw [stars_app]
  rfl
/-! ### claims -/
theorem Own.nil : Own [] H := ⟨LHnone, (fun _ _ _ e => nomatch e), trivial⟩
theorem Own.map (t : ∀ h, stars L h → stars M h) (o : Own L H) : Own M H := let ⟨h, e, s⟩ := o; ⟨h, e, t h s⟩
theorem Own.perm (o : Own L H) (p : L.Perm M) : Own M H := o.map fun _ => stars_perm p
theorem Own.swap (o : Own (P :: Q :: L) H) : Own (Q :: P :: L) H := o.map fun _ => stars_swap
theorem Own.tail (o : Own (P :: L) H) : Own L H := o.map fun h s => by
  obtain ⟨_, _, _, _, s2, _, q⟩ := s
  exact stars_mono q s2
theorem Own.flat (o : Own (stars L :: M) H) : Own (L ++ M) H := o.map fun _ => stars_flat.mp
theorem Own.fold (o : Own (L ++ M) H) : Own (stars L :: M) H := o.map fun _ => stars_flat.mpr
theorem Own.head (t : ∀ h, P h → Q h) (o : Own (P :: L) H) : Own (Q :: L) H := o.map fun _ => stars_head t
theorem Own.rest (t : ∀ h, stars L h → stars M h) (o : Own (P :: L) H) : Own (P :: M) H := o.map fun _ => stars_cons t
theorem Own.ex {α : Sort _} {f : α → HP} (o : Own (hex f :: L) H) : ∃ x, Own (f x :: L) H := by
  obtain ⟨h, e, h1, h2, d, s1, s2, ⟨x, p⟩, q⟩ := o
  exact ⟨x, h, e, h1, h2, d, s1, s2, p, q⟩
theorem Own.exi {α : Sort _} {f : α → HP} (x : α) (o : Own (f x :: L) H) : Own (hex f :: L) H := o.head fun _ p => ⟨x, p⟩
theorem Own.pu {p : Prop} (o : Own (hpu p :: L) H) : p ∧ Own L H := by
  obtain ⟨h, e, h1, h2, d, s1, s2, z, q⟩ := o
  exact ⟨z, h, e, stars_mono q s2⟩
theorem Own.pui {p : Prop} (z : p) (o : Own L H) : Own (hpu p :: L) H := o.map fun h s => ⟨LHnone, h, dis_none, sub_none, LSub.rfl', z, s⟩
/-- a claim that needs no cell -/
theorem Own.free (z : P LHnone) (o : Own L H) : Own (P :: L) H := o.map fun h s => ⟨LHnone, h, dis_none, sub_none, LSub.rfl', z, s⟩
/-! ### what a claim tells -/
def Ent (L : List HP) (φ : Hp → Prop) : Prop := ∀ h, stars L h → ∀ H, LHle h H → φ H
def Tell (P : HP) (φ : Hp → Prop) : Prop := ∀ h, P h → ∀ H, LHle h H → φ H
theorem LHle.sub (e : LHle k H) (s : LSub h k) : LHle h H := fun a o b z => e a o b (s a _ z)
theorem Ent.here {φ : Hp → Prop} (t : Tell P φ) : Ent (P :: L) φ := fun _ ⟨_, _, _, s1, _, p, _⟩ _ e => t _ p _ (e.sub s1)
theorem Ent.next {φ : Hp → Prop} (t : Ent L φ) : Ent (P :: L) φ := fun _ ⟨_, _, _, _, s2, _, q⟩ _ e => t _ q _ (e.sub s2)
theorem Own.ent {φ : Hp → Prop} (o : Own L H) (t : Ent L φ) : φ H := let ⟨_, e, s⟩ := o; t _ s _ e
theorem tell_cell {c : Bool} : Tell (cell c a o) (fun H => H a = some o) := fun _ p _ e => e _ _ _ p
/-- the cell at a holds o -/
abbrev Got (L : List HP) (a : Addr) (o : HO) : Prop := Ent L fun H => H a = some o
theorem Got.here {c : Bool} : Got (cell c a o :: L) a o := Ent.here tell_cell
theorem Got.next (t : Got L a o) : Got (P :: L) a o := Ent.next t
theorem Own.get (w : Own L H) (t : Got L a o) : H a = some o := w.ent t
theorem Own.get' {c : Bool} (w : Own (cell c a o :: L) H) : H a = some o := w.get Got.here
/-! ### taking a claim out -/
def Pick (L : List HP) (P : HP) (R : List HP) : Prop := ∀ h, stars L h → stars (P :: R) h
class Ro (P : HP) : Prop where
  ro : ∀ h, P h → ∃ g, LSub g h ∧ AllRo g ∧ P g
theorem stars_dup (c : Ro P) (s : stars (P :: L) h) : stars (P :: P :: L) h := by
  obtain ⟨h1, h2, d, s1, s2, p, q⟩ := s
  obtain ⟨g, t, r, p'⟩ := c.ro _ p
  exact ⟨g, h, fun a x y e f => r a x e, t.trans s1, LSub.rfl', p', h1, h2, d, s1, s2, p, q⟩
theorem Pick.here : Pick (P :: R) P R := fun _ s => s
theorem Pick.keep [c : Ro P] : Pick (P :: R) P (P :: R) := fun _ s => stars_dup c s
theorem Pick.next (p : Pick L P R) : Pick (Q :: L) P (Q :: R) := fun _ s => stars_swap (stars_cons p s)
theorem Own.pick (o : Own L H) (p : Pick L P R) : Own (P :: R) H := o.map p
theorem Own.dup [c : Ro P] (o : Own (P :: L) H) : Own (P :: P :: L) H := o.map fun _ s => stars_dup c s
theorem lup_none {z : HO × Bool} (e : LHupd LHnone a z b = some x) : b = a ∧ x = z := by
  unfold LHupd at e
  split at e
  · rename_i q
    cases e
    exact ⟨q, rfl⟩
  · cases e
instance : Ro (cell true a o) := ⟨fun h p => ⟨LHupd LHnone a (o, true), (fun b x e => by
    obtain ⟨rfl, rfl⟩ := lup_none e
    exact p), (fun b x e => by
    obtain ⟨rfl, rfl⟩ := lup_none e
    rfl), if_pos rfl⟩⟩
instance {α : Sort _} {f : α → HP} [c : ∀ x, Ro (f x)] : Ro (hex f) := ⟨fun h ⟨x, p⟩ => let ⟨g, s, r, q⟩ := (c x).ro h p; ⟨g, s, r, x, q⟩⟩
instance {p : Prop} : Ro (hpu p) := ⟨fun h z => ⟨LHnone, sub_none, (fun _ _ e => nomatch e), z⟩⟩
theorem allRo_or (p : AllRo h) (q : AllRo k) : AllRo (LHor h k) := fun a x e => (lor_of e).elim (p a x) (q a x)
instance : Ro (stars []) := ⟨fun h _ => ⟨LHnone, sub_none, (fun _ _ e => nomatch e), trivial⟩⟩
instance [c : Ro P] [d : Ro (stars L)] : Ro (stars (P :: L)) := ⟨fun h ⟨h1, h2, _, s1, s2, p, q⟩ => by
  obtain ⟨g1, t1, r1, p'⟩ := c.ro _ p
  obtain ⟨g2, t2, r2, q'⟩ := d.ro _ q
  exact ⟨LHor g1 g2, lor_sub (t1.trans s1) (t2.trans s2), allRo_or r1 r2, g1, g2, fun a x y e f => r1 a x e, lor_l, lor_r (t1.trans s1) (t2.trans s2), p', q'⟩⟩
/-! ### writing -/
theorem lup_same : LHupd h a x a = some x := if_pos rfl
theorem lup_ne (n : b ≠ a) : LHupd h a x b = h b := if_neg n
theorem le_lup (e : LHle h H) {c : Bool} : LHle (LHupd h a (o, c)) (upd H a o) := fun b u d z => by
  by_cases n : b = a
  · subst n
    rw [lup_same] at z
    cases z
    exact upd_same
  · rw [lup_ne n] at z
    rw [upd_ne n]
    exact e b u d z
def Put (L : List HP) (a : Addr) (u o : HO) (M : List HP) : Prop := ∀ h, stars L h → h a = some (u, false) ∧ stars M (LHupd h a (o, false))
theorem Put.here : Put (pt a u :: L) a u o (pt a o :: L) := by
  rintro h ⟨h1, h2, d, s1, s2, p, q⟩
  have n2 : h2 a = none := by
    cases z : h2 a with
    | none => rfl
    | some y => exact absurd (d a _ _ p z) Bool.false_ne_true
  refine ⟨s1 _ _ p, LHupd LHnone a (o, false), h2, ?_, ?_, ?_, lup_same, q⟩
  · intro b x y e f
    by_cases n : b = a
    · subst n
      rw [n2] at f
      cases f
    · rw [lup_ne n] at e
      cases e
  · intro b x e
    by_cases n : b = a
    · subst n
      rw [lup_same] at e ⊢
      exact e
    · rw [lup_ne n] at e
      cases e
  · intro b x e
    have n : b ≠ a := fun z => by
      subst z
      rw [n2] at e
      cases e
    rw [lup_ne n]
    exact s2 b x e
theorem Put.next (t : Put L a u o M) : Put (P :: L) a u o (P :: M) := by
  rintro h ⟨h1, h2, d, s1, s2, p, q⟩
  obtain ⟨e2, q2⟩ := t _ q
  have n1 : h1 a = none := by
    cases z : h1 a with
    | none => rfl
    | some y =>
      have e1 := s1 _ _ z
      rw [s2 _ _ e2] at e1
      cases e1
      exact absurd (d a _ _ z e2) Bool.false_ne_true
  refine ⟨s2 _ _ e2, h1, LHupd h2 a (o, false), ?_, ?_, ?_, p, q2⟩
  · intro b x y e f
    have n : b ≠ a := fun z => by
      subst z
      rw [n1] at e
      cases e
    rw [lup_ne n] at f
    exact d b x y e f
  · intro b x e
    have n : b ≠ a := fun z => by
      subst z
      rw [n1] at e
      cases e
    rw [lup_ne n]
    exact s1 b x e
  · intro b x e
    by_cases n : b = a
    · subst n
      rw [lup_same] at e ⊢
      exact e
    · rw [lup_ne n] at e ⊢
      exact s2 b x e
theorem Own.put (w : Own L H) (t : Put L a u o M) : Own M (upd H a o) := by
  obtain ⟨h, e, s⟩ := w
  exact ⟨_, le_lup e, (t h s).2⟩
theorem Own.putGet (w : Own L H) (t : Put L a u o M) : H a = some u := by
  obtain ⟨h, e, s⟩ := w
  exact e _ _ _ (t h s).1
theorem Own.newC (c : Bool) (n : H a = none) (w : Own L H) : Own (cell c a o :: L) (upd H a o) := by
  obtain ⟨h, e, s⟩ := w
  have n2 : h a = none := by
    cases z : h a with
    | none => rfl
    | some y =>
      obtain ⟨y1, y2⟩ := y
      rw [e a y1 y2 z] at n
      cases n
  refine ⟨LHupd h a (o, c), le_lup e, LHupd LHnone a (o, c), h, ?_, ?_, ?_, lup_same, s⟩
  · intro b x y e f
    by_cases n : b = a
    · subst n
      rw [n2] at f
      cases f
    · rw [lup_ne n] at e
      cases e
  · intro b x e
    by_cases n : b = a
    · subst n
      rw [lup_same] at e ⊢
      exact e
    · rw [lup_ne n] at e
      cases e
  · intro b x e
    have n : b ≠ a := fun z => by
      subst z
      rw [n2] at e
      cases e
    rw [lup_ne n]
    exact e
theorem Own.new (n : H a = none) (w : Own L H) : Own (pt a o :: L) (upd H a o) := w.newC false n
theorem Own.newT {xs : List V} (n : H a = none) (w : Own L H) : Own (ro a (.tup xs) :: L) (upd H a (.tup xs)) := w.newC true n
/-- an object and its dict -/
theorem Own.made {C dx : Addr} (n : H a = none) (m : H dx = none) (ne : dx ≠ a) (w : Own L H) : Own (pt a (.ins C dx []) :: L) (upd (upd H dx (.own a)) a (.ins C dx [])) :=
  (w.new m).tail.new (none_up ne.symm n)
/-- a claim that does not look at the marks is only read from now on -/
def Mk0 (P : HP) : Prop := ∀ h k : LH, (∀ a o b, h a = some (o, b) → ∃ c, k a = some (o, c)) → P h → P k
theorem AllRo.or_ro (q : AllRo h) : Dis h k := fun a x y e _ => q a x e
def mark (h : LH) : LH := fun a => match h a with
  | some (o, _) => some (o, true)
  | none => none
/-- h, with the cells of h1 marked -/
def over (h1 h : LH) : LH := fun a => match h1 a with
  | some (o, _) => some (o, true)
  | none => h a
theorem mark_of (e : mark h a = some x) : ∃ b, h a = some (x.1, b) ∧ x.2 = true := by
  unfold mark at e
  split at e
  · rename_i o b q
    cases e
    exact ⟨b, q, rfl⟩
  · cases e
theorem mark_to {c : Bool} (e : h a = some (o, c)) : mark h a = some (o, true) := by
  unfold mark
  rw [e]
theorem Own.freeze (m : ∀ h, P h → P (mark h)) (w : Own (P :: L) H) : Own (P :: L) H ∧ ∃ h1, AllRo h1 ∧ P h1 ∧ LHle h1 H ∧ ∃ h, LHle h H ∧ LSub h1 h ∧ ∃ h2, LSub h2 h ∧ stars L h2 := by
  refine ⟨w, ?_⟩
  obtain ⟨h, e, h1, h2, d, s1, s2, p, q⟩ := w
  have o1 : ∀ a o c, h1 a = some (o, c) → over h1 h a = some (o, true) := fun a o c z => by
    unfold over
    rw [z]
  have o2 : ∀ a, h1 a = none → over h1 h a = h a := fun a z => by
    unfold over
    rw [z]
  refine ⟨mark h1, fun a x e => (mark_of e).elim fun b z => z.2, m _ p, ?_, over h1 h, ?_, ?_, h2, ?_, q⟩
  · intro a o b z
    obtain ⟨c, z1, _⟩ := mark_of z
    exact e a o c (s1 _ _ z1)
  · intro a o b z
    cases z1 : h1 a with
    | none =>
      rw [o2 a z1] at z
      exact e a o b z
    | some y =>
      obtain ⟨y1, y2⟩ := y
      rw [o1 a y1 y2 z1] at z
      cases z
      exact e a _ _ (s1 _ _ z1)
  · intro a x z
    obtain ⟨c, z1, z2⟩ := mark_of z
    rw [o1 a _ c z1]
    obtain ⟨x1, x2⟩ := x
    cases z2
    rfl
  · intro a x z
    cases z1 : h1 a with
    | none =>
      rw [o2 a z1]
      exact s2 a x z
    | some y =>
      obtain ⟨y1, y2⟩ := y
      have t := d a _ _ z1 z
      have e1 := s1 _ _ z1
      rw [s2 _ _ z] at e1
      cases e1
      rw [o1 a _ _ z1]
      cases t
      rfl
/-- only read from now on -/
def Rd (P : HP) : HP := fun h => ∃ g, LSub g h ∧ AllRo g ∧ P g
instance : Ro (Rd P) := ⟨fun h ⟨g, s, r, p⟩ => ⟨g, s, r, g, LSub.rfl', r, p⟩⟩
theorem Own.toRd (m : ∀ h, P h → P (mark h)) (w : Own (P :: L) H) : Own (Rd P :: L) H := by
  obtain ⟨_, h1, r, p, _, h, e, s1, h2, s2, q⟩ := w.freeze m
  exact ⟨h, e, h1, h2, fun a x y z _ => r a x z, s1, s2, ⟨h1, LSub.rfl', r, p⟩, q⟩
theorem tell_rd {φ : Hp → Prop} (t : Tell P φ) : Tell (Rd P) φ := fun h ⟨g, s, _, p⟩ H e => t g p H (e.sub s)
theorem Own.toRo (w : Own (pt a o :: L) H) : Own (ro a o :: L) H := by
  obtain ⟨h, e, h1, h2, d, s1, s2, p, q⟩ := w
  have n2 : h2 a = none := by
    cases z : h2 a with
    | none => rfl
    | some y => exact absurd (d a _ _ p z) Bool.false_ne_true
  refine ⟨LHupd h a (o, true), ?_, LHupd LHnone a (o, true), h2, ?_, ?_, ?_, lup_same, q⟩
  · intro b u c z
    by_cases n : b = a
    · subst n
      rw [lup_same] at z
      cases z
      exact e _ _ _ (s1 _ _ p)
    · rw [lup_ne n] at z
      exact e b u c z
  · intro b x y e f
    by_cases n : b = a
    · subst n
      rw [n2] at f
      cases f
    · rw [lup_ne n] at e
      cases e
  · intro b x e
    by_cases n : b = a
    · subst n
      rw [lup_same] at e ⊢
      exact e
    · rw [lup_ne n] at e
      cases e
  · intro b x e
    have n : b ≠ a := fun z => by
      subst z
      rw [n2] at e
      cases e
    rw [lup_ne n]
    exact s2 b x e
end
end G

/-! claims: data, rows of claims, the script, drawn numbers; the steps that write -/
namespace G
open PySem PySem.Spec PyProof.Rows L2
section
variable {K : PySem.W.Frag} {h k h1 h2 : LH} {a b : Addr} {L M R : List HP} {P P' Q : HP} {H H' : Hp} {o u : HO} {v : V} {vs : List V} {d : PyData} {ds : List PyData} {c : Bool} {xs : List Int}
/-! ### data -/
def DT (K : PySem.W.Frag) (v : V) (d : PyData) : HP := fun h => ∀ H, LHle h H → Dp K H v d
def DTs (K : PySem.W.Frag) (vs : List V) (ds : List PyData) : HP := fun h => ∀ H, LHle h H → DpAll K H vs ds
theorem tell_DT : Tell (DT K v d) (fun H => Dp K H v d) := fun h p H e => p H e
theorem tell_DTs : Tell (DTs K vs ds) (fun H => DpAll K H vs ds) := fun h p H e => p H e
theorem mark_le (e : LHle (mark h) H) : LHle h H := fun a o b z => e a o true (mark_to z)
theorem le_mark (e : LHle h H) : LHle (mark h) H := fun a o b z => let ⟨c, z1, _⟩ := mark_of z; e a o c z1
theorem DT.mark (p : DT K v d h) : DT K v d (mark h) := fun H e => p H (mark_le e)
theorem DTs.mark (p : DTs K vs ds h) : DTs K vs ds (G.mark h) := fun H e => p H (mark_le e)
theorem lor_le (e : LHle k H) (s : LSub h1 k) (t : LSub h2 k) : LHle (LHor h1 h2) H := e.sub (lor_sub s t)
/-- two claims, told at once -/
theorem Own.join (t : ∀ h1 h2 h, LSub h1 h → LSub h2 h → P h1 → Q h2 → P' h) (w : Own (P :: Q :: L) H) : Own (P' :: L) H := w.map fun h s => by
  obtain ⟨h1, h2, d, s1, s2, p, h3, h4, d2, s3, s4, q, z⟩ := s
  exact ⟨LHor h1 h3, h4, or_dis (d.sub_r s4) d2, lor_sub s1 (s3.trans s2), s4.trans s2, t _ _ _ lor_l (lor_r s1 (s3.trans s2)) p q, z⟩
theorem Own.dtScalar (z : ∀ H, Dp K H v d) (w : Own L H) : Own (DT K v d :: L) H := w.free fun H _ => z H
theorem Own.dtNil (w : Own L H) : Own (DTs K [] [] :: L) H := w.free fun H _ => .nil
theorem Own.dtCons (w : Own (DT K v d :: DTs K vs ds :: L) H) : Own (DTs K (v :: vs) (d :: ds) :: L) H := w.join fun h1 h2 h s t p q H e => .cons (p H (e.sub s)) (q H (e.sub t))
theorem Own.dtSnoc (w : Own (DTs K vs ds :: DT K v d :: L) H) : Own (DTs K (vs ++ [v]) (ds ++ [d]) :: L) H := w.join fun h1 h2 h s t p q H e => dpAll_snoc (p H (e.sub s)) (q H (e.sub t))
theorem Own.dtLst (w : Own (cell c a (.lst vs) :: DTs K vs ds :: L) H) : Own (DT K (.ref a) (.list ds) :: L) H := w.join fun h1 h2 h s t p q H e => .lst (SqL.of (e _ _ _ (s _ _ p))) (q H (e.sub t))
theorem Own.dtTup (w : Own (cell c a (.tup vs) :: DTs K vs ds :: L) H) : Own (DT K (.ref a) (.tuple ds) :: L) H := w.join fun h1 h2 h s t p q H e => .tup (SqT.of' (e _ _ _ (s _ _ p))) (q H (e.sub t))
theorem Own.dtInts (w : Own (cell c a (.lst (xs.map V.int)) :: L) H) : Own (DT K (.ref a) (.list (xs.map PyData.int)) :: L) H := w.head fun h p H e => .lst (SqL.of (e _ _ _ p)) (dp_ints xs)
theorem Own.dtRd (w : Own (DT K v d :: L) H) : Own (Rd (DT K v d) :: L) H := w.toRd fun _ => DT.mark
theorem Own.dp (w : Own (DT K v d :: L) H) : Dp K H v d := w.ent (Ent.here tell_DT)
abbrev GotD (K : PySem.W.Frag) (L : List HP) (v : V) (d : PyData) : Prop := Ent L fun H => Dp K H v d
theorem Own.dpG (w : Own L H) (t : GotD K L v d) : Dp K H v d := w.ent t
theorem GotD.here : GotD K (DT K v d :: L) v d := Ent.here tell_DT
theorem GotD.hereR : GotD K (Rd (DT K v d) :: L) v d := Ent.here (tell_rd tell_DT)
theorem GotD.ints : GotD K (cell c a (.lst (xs.map V.int)) :: L) (.ref a) (.list (xs.map PyData.int)) := Ent.here fun h p H e => .lst (SqL.of (e _ _ _ p)) (dp_ints xs)
theorem GotD.next (t : GotD K L v d) : GotD K (P :: L) v d := Ent.next t
/-! ### lists that are read -/
abbrev GotL (K : PySem.W.Frag) (L : List HP) (a : Addr) (vs : List V) : Prop := Ent L fun H => SqL K H a vs
/-- a list that stands still -/
def ScP (K : PySem.W.Frag) (a : Addr) (vs : List V) : HP := fun h => (∃ o, h a = some (.frz o (.lst vs), true)) ∨
    ∃ (o : Obj) (its : Array Value) (n : Nat), K.lookup a = some o ∧ o.cls = .type "list" ∧ o.dict = none ∧ o.data = .seq its n ∧ its.size ≤ sizeLine ∧ Vals vs its.toList
theorem tell_scr : Tell (ScP K a vs) (fun H => Scr K H a vs) := fun h p H e => p.elim (fun ⟨o, z⟩ => .inl ⟨o, e _ _ _ z⟩) .inr
instance : Ro (ScP K a vs) := ⟨fun h p => p.elim (fun ⟨o, z⟩ => ⟨LHupd LHnone a (.frz o (.lst vs), true), (fun b x e => by
    obtain ⟨rfl, rfl⟩ := lup_none e
    exact z), (fun b x e => by
    obtain ⟨rfl, rfl⟩ := lup_none e
    rfl), .inl ⟨o, if_pos rfl⟩⟩) fun z => ⟨LHnone, sub_none, (fun _ _ e => nomatch e), .inr z⟩⟩
theorem Own.ofScr (s : Scr K H a vs) : Own [ScP K a vs] H := by
  rcases s with ⟨o, z⟩ | z
  · refine ⟨LHupd LHnone a (.frz o (.lst vs), true), fun b x c e => ?_, LHupd LHnone a (.frz o (.lst vs), true), LHnone, dis_none_r, LSub.rfl', sub_none, .inl ⟨o, if_pos rfl⟩, trivial⟩
    obtain ⟨rfl, e2⟩ := lup_none e
    cases e2
    exact z
  · exact ⟨LHnone, (fun _ _ _ e => nomatch e), LHnone, LHnone, dis_none, sub_none, sub_none, .inr z, trivial⟩
theorem GotL.here : GotL K (cell c a (.lst vs) :: L) a vs := Ent.here fun h p H e => SqL.of (e _ _ _ p)
theorem GotL.hereS : GotL K (ScP K a vs :: L) a vs := Ent.here fun h p H e => (tell_scr h p H e).sq
theorem GotL.next (t : GotL K L a vs) : GotL K (P :: L) a vs := Ent.next t
theorem Own.sql (w : Own L H) (t : GotL K L a vs) : SqL K H a vs := w.ent t
/-! ### drawn numbers -/
def Drw (s : Addr) : HP := hex fun n : Int => pt s (.lst [.int n])
theorem Own.drw {n : Int} (w : Own (pt a (.lst [.int n]) :: L) H) : Own (Drw a :: L) H := w.exi n
/-! ### rows of claims -/
def big {α β : Type} (f : α → β → HP) : List α → List β → HP
  | [], [] => fun _ => True
  | a :: as, b :: bs => stars [f a b, big f as bs]
  | _, _ => fun _ => False
section
variable {α β : Type} {f : α → β → HP} {as as' : List α} {bs bs' : List β} {x : α} {y : β}
theorem big_len_h : ∀ {as : List α} {bs : List β} {h : LH}, big f as bs h → as.length = bs.length
  | [], [], _, _ => rfl
  | _ :: _, _ :: _, _, ⟨_, _, _, _, _, _, _, _, _, _, _, q, _⟩ => congrArg (· + 1) (big_len_h q)
  | [], _ :: _, _, p => p.elim
  | _ :: _, [], _, p => p.elim
theorem Own.bigLen (w : Own (big f as bs :: L) H) : as.length = bs.length := w.ent (Ent.here fun _ p _ _ => big_len_h p)
theorem Own.bigNil (w : Own L H) : Own (big f [] [] :: L) H := w.free trivial
theorem Own.bigCons (w : Own (f x y :: big f as bs :: L) H) : Own (big f (x :: as) (y :: bs) :: L) H := Own.fold (L := [_, _]) w
theorem Own.bigUncons (w : Own (big f (x :: as) (y :: bs) :: L) H) : Own (f x y :: big f as bs :: L) H := Own.flat (L := [_, _]) w
theorem Own.unFalse (z : ∀ h, P h → False) (w : Own (P :: L) H) : False := w.ent (φ := fun _ => False) (Ent.here fun h p _ _ => z h p)
theorem big_mono : ∀ {as : List α} {bs : List β} {h k : LH}, big f as bs h → LSub h k → big f as bs k
  | [], [], _, _, _, _ => trivial
  | _ :: _, _ :: _, _, _, p, s => stars_mono (L := [_, _]) p s
  | [], _ :: _, _, _, p, _ => p.elim
  | _ :: _, [], _, _, p, _ => p.elim
theorem big_app_h : ∀ {as : List α} {bs : List β} {h1 h2 h : LH}, big f as bs h1 → big f as' bs' h2 → Dis h1 h2 → LSub h1 h → LSub h2 h → big f (as ++ as') (bs ++ bs') h
  | [], [], _, _, _, _, q, _, _, t => big_mono q t
  | _ :: _, _ :: _, h1, h2, h, ⟨g1, g2, d, s1, s2, p, g3, g4, d2, s3, s4, r, _⟩, q, e, s, t => by
    refine ⟨g1, LHor g3 h2, dis_or (d.sub_r s3) (e.sub_l s1), s1.trans s, lor_sub (s3.trans (s2.trans s)) t, p, LHor g3 h2, LHnone, dis_none_r, LSub.rfl', sub_none, ?_, trivial⟩
    exact big_app_h r q (e.sub_l (s3.trans s2)) lor_l (lor_r (s3.trans (s2.trans s)) t)
  | [], _ :: _, _, _, _, p, _, _, _, _ => p.elim
  | _ :: _, [], _, _, _, p, _, _, _, _ => p.elim
theorem Own.bigApp (w : Own (big f as bs :: big f as' bs' :: L) H) : Own (big f (as ++ as') (bs ++ bs') :: L) H := w.map fun h s => by
  obtain ⟨h1, h2, d, s1, s2, p, h3, h4, d2, s3, s4, q, z⟩ := s
  exact ⟨LHor h1 h3, h4, or_dis (d.sub_r s4) d2, lor_sub s1 (s3.trans s2), s4.trans s2, big_app_h p q (d.sub_r s3) lor_l (lor_r s1 (s3.trans s2)), z⟩
theorem Own.bigSnoc (w : Own (big f as bs :: f x y :: L) H) : Own (big f (as ++ [x]) (bs ++ [y]) :: L) H :=
  Own.bigApp (Own.swap (Own.bigCons (Own.swap (Own.bigNil (Own.swap w)))).swap.swap)
theorem Own.big1 (w : Own (f x y :: L) H) : Own (big f [x] [y] :: L) H := Own.bigCons (Own.swap (Own.bigNil w))
theorem Own.bigSplit : ∀ {as : List α} {bs : List β} {as' : List α} {bs' : List β} {L : List HP}, as.length = bs.length → Own (big f (as ++ as') (bs ++ bs') :: L) H → Own (big f as bs :: big f as' bs' :: L) H
  | [], [], _, _, _, _, w => w.bigNil
  | _ :: as, _ :: bs, as', bs', L, e, w => by
    have w1 : Own (big f (as ++ as') (bs ++ bs') :: f _ _ :: L) H := w.bigUncons.swap
    have w2 := Own.bigSplit (Nat.succ.inj e) w1
    have w3 : Own (f _ _ :: big f as bs :: big f as' bs' :: L) H := w2.perm (((List.Perm.swap _ _ _).cons _).trans (List.Perm.swap _ _ _))
    exact w3.bigCons
  | [], _ :: _, _, _, _, e, _ => nomatch e
  | _ :: _, [], _, _, _, e, _ => nomatch e
/-- one of the row -/
theorem Own.bigOut {i : Nat} (w : Own (big f as bs :: L) H) (h1 : as[i]? = some x) (h2 : bs[i]? = some y) : Own (f x y :: big f (as.take i) (bs.take i) :: big f (as.drop (i + 1)) (bs.drop (i + 1)) :: L) H := by
  have e1 : as = as.take i ++ x :: as.drop (i + 1) := by
    obtain ⟨q, rfl⟩ := List.getElem?_eq_some_iff.mp h1
    rw [List.getElem_cons_drop, List.take_append_drop]
  have e2 : bs = bs.take i ++ y :: bs.drop (i + 1) := by
    obtain ⟨q, rfl⟩ := List.getElem?_eq_some_iff.mp h2
    rw [List.getElem_cons_drop, List.take_append_drop]
  have l := w.bigLen
  rw [e1, e2] at w
  have w2 := w.bigSplit (by rw [List.length_take, List.length_take, l])
  exact (w2.swap.bigUncons).perm (List.Perm.cons _ (List.Perm.swap _ _ _))
theorem Own.bigIn {i : Nat} (w : Own (f x y :: big f (as.take i) (bs.take i) :: big f (as.drop (i + 1)) (bs.drop (i + 1)) :: L) H) (l : i < as.length) (l2 : i < bs.length) : Own (big f (as.set i x) (bs.set i y) :: L) H := by
  rw [List.set_eq_take_append_cons_drop, List.set_eq_take_append_cons_drop, if_pos l, if_pos l2]
  refine Own.bigApp (Own.swap (Own.bigCons ?_))
  exact w.perm (List.Perm.cons _ (List.Perm.swap _ _ _))
/-- one of the row is changed in place -/
theorem Own.bigBack {i : Nat} (w : Own (f x y :: big f (as.take i) (bs.take i) :: big f (as.drop (i + 1)) (bs.drop (i + 1)) :: L) H) (h1 : as[i]? = some x) (l2 : i < bs.length) : Own (big f as (bs.set i y) :: L) H := by
  have l := (List.getElem?_eq_some_iff.mp h1).1
  have e : as.set i x = as := by
    have := (List.getElem?_eq_some_iff.mp h1).2
    rw [← this]
    exact List.set_getElem_self l
  have w2 := w.bigIn l l2
  rw [e] at w2
  exact w2
/-- one of the row is taken out -/
theorem Own.bigErase {i : Nat} (w : Own (big f as bs :: L) H) (h1 : as[i]? = some x) (h2 : bs[i]? = some y) : Own (f x y :: big f (as.eraseIdx i) (bs.eraseIdx i) :: L) H := by
  rw [List.eraseIdx_eq_take_drop_succ, List.eraseIdx_eq_take_drop_succ]
  have w2 := w.bigOut h1 h2
  exact (Own.bigApp (w2.perm ((List.Perm.swap _ _ _).trans (List.Perm.cons _ (List.Perm.swap _ _ _))))).swap
theorem ro_big (c : ∀ x y, Ro (f x y)) : ∀ (as : List α) (bs : List β), Ro (big f as bs)
  | [], [] => ⟨fun h _ => ⟨LHnone, sub_none, (fun _ _ e => nomatch e), trivial⟩⟩
  | a :: as, b :: bs => by
    have := c a b
    have := ro_big c as bs
    show Ro (stars [f a b, big f as bs])
    infer_instance
  | [], _ :: _ => ⟨fun h p => p.elim⟩
  | _ :: _, [] => ⟨fun h p => p.elim⟩
instance [c : ∀ x y, Ro (f x y)] : Ro (big f as bs) := ro_big c as bs
/-- one of a row that is only read -/
theorem big_at_h : ∀ {as : List α} {bs : List β} {h : LH} {i : Nat}, big f as bs h → as[i]? = some x → bs[i]? = some y → ∃ g, LSub g h ∧ f x y g
  | _ :: _, _ :: _, _, 0, ⟨g1, _, _, s1, _, p, _⟩, e, e2 => by
    cases e
    cases e2
    exact ⟨g1, s1, p⟩
  | _ :: _, _ :: _, _, i + 1, ⟨_, _, _, _, s2, _, g3, _, _, s3, _, q, _⟩, e, e2 => by
    obtain ⟨g, s, p⟩ := big_at_h (i := i) q e e2
    exact ⟨g, s.trans (s3.trans s2), p⟩
  | [], [], _, _, _, e, _ => nomatch e
  | [], _ :: _, _, _, p, _, _ => p.elim
  | _ :: _, [], _, _, p, _, _ => p.elim
/-- what one of the row tells -/
theorem Own.bigTell {φ : Hp → Prop} {i : Nat} (w : Own (big f as bs :: L) H) (h1 : as[i]? = some x) (h2 : bs[i]? = some y) (t : Tell (f x y) φ) : φ H := w.ent (Ent.here fun h p H e => by
  obtain ⟨g, s, z⟩ := big_at_h p h1 h2
  exact t g z H (e.sub s))
theorem Own.bigAt [c : ∀ x y, Ro (f x y)] {i : Nat} (w : Own (big f as bs :: L) H) (h1 : as[i]? = some x) (h2 : bs[i]? = some y) : Own (f x y :: big f as bs :: L) H := w.map fun h s => by
  obtain ⟨g1, g2, d, s1, s2, p, q⟩ := s
  obtain ⟨g, t, z⟩ := big_at_h p h1 h2
  obtain ⟨g', t', r, z'⟩ := (c x y).ro g z
  exact ⟨g', h, fun a x y e _ => r a x e, t'.trans (t.trans s1), LSub.rfl', z', g1, g2, d, s1, s2, p, q⟩
theorem Own.bigAt' (c : ∀ x y, Ro (f x y)) {i : Nat} (w : Own (big f as bs :: L) H) (h1 : as[i]? = some x) (h2 : bs[i]? = some y) : Own (f x y :: big f as bs :: L) H := w.bigAt h1 h2
theorem Own.bigHead {g : α → β → HP} (t : ∀ x y h, f x y h → g x y h) (w : Own (big f as bs :: L) H) : Own (big g as bs :: L) H := w.head fun h p => by
  have : ∀ {as : List α} {bs : List β} {h : LH}, big f as bs h → big g as bs h := by
    intro as
    induction as with
    | nil => intro bs h p; cases bs with
      | nil => trivial
      | cons b bs => exact p.elim
    | cons a as ih => intro bs h p; cases bs with
      | nil => exact p.elim
      | cons b bs =>
        obtain ⟨g1, g2, d, s1, s2, p, g3, g4, d2, s3, s4, q, z⟩ := p
        exact ⟨g1, g2, d, s1, s2, t _ _ _ p, g3, g4, d2, s3, s4, ih q, z⟩
  exact this p
end
end
end G

/-! the steps that write, by claims -/
namespace G
open PySem PySem.Spec PyProof.Rows L2
section
variable {K : PySem.W.Frag} {a b l s : Addr} {L M R : List HP} {P P' : HP} {H H' : Hp} {o u : HO} {v x y : V} {vs xs zs : List V} {c : Bool} {Q : VK} {E : L2.St → XK} {EX : XK} {σ : L2.St} {D : Ends} {tA tB : TA} {ta tb : TE} {sp : Sp} {n m : Nat} {i j k : Int}
/-! new tuples, lists -/
def kTup (Q : VK) : List V → Hp → Prop := fun xs H1 => xs.length ≤ sizeLine ∧ ∀ p, H1 p = none → Q (.ref p) (upd H1 p (.tup xs))
def kLst (Q : VK) : List V → Hp → Prop := fun xs H1 => xs.length ≤ sizeLine ∧ ∀ p, H1 p = none → Q (.ref p) (upd H1 p (.lst xs))
theorem w_tupK (h : tA σ H (kTup Q)) : tTup tA σ H Q := h
instance (priority := 900) i_w_tupK  : Stp (tTup tA σ H Q) (tA σ H (kTup Q)) := ⟨w_tupK⟩
theorem w_lstK (h : tA σ H (kLst Q)) : tLst tA σ H Q := h
instance (priority := 900) i_w_lstK  : Stp (tLst tA σ H Q) (tA σ H (kLst Q)) := ⟨w_lstK⟩
theorem k_tup (hl : Nat.ble xs.length 1000 = true) (w : Own L H) (q : ∀ p H', Own (ro p (.tup xs) :: L) H' → Q (.ref p) H') : kTup Q xs H := ⟨small_le hl, fun p hp => q p _ (w.newT hp)⟩
theorem k_lst (hl : Nat.ble xs.length 1000 = true) (w : Own L H) (q : ∀ p H', Own (pt p (.lst xs) :: L) H' → Q (.ref p) H') : kLst Q xs H := ⟨small_le hl, fun p hp => q p _ (w.new hp)⟩
/-! objects -/
def kMk (Cc : Addr) (sp : Sp) (E : L2.St → XK) (σ : L2.St) (Q : VK) : List V → Hp → Prop := fun vs H1 => ∀ x dx, H1 x = none → H1 dx = none → dx ≠ x → sp (.ref x :: vs) (upd (upd H1 dx (.own x)) x (.ins Cc dx [])) (fun v H2 => v = .non ∧ Q (.ref x) H2) (E σ)
theorem w_mkQ {Cc : Addr} (h : tA σ H (kMk Cc sp E σ Q)) : tMk Cc sp E tA σ H Q := h
instance (priority := 900) i_w_mkQ {Cc : Addr} : Stp (tMk Cc sp E tA σ H Q) (tA σ H (kMk Cc sp E σ Q)) := ⟨w_mkQ⟩
/-- what is wanted of an __init__ -/
def kIni (Q : VK) (x : Addr) : VK := fun v H2 => v = .non ∧ Q (.ref x) H2
theorem k_mk {Cc : Addr} (w : Own L H) (q : ∀ x dx H', Own (pt x (.ins Cc dx []) :: L) H' → sp (.ref x :: vs) H' (kIni Q x) (E σ)) : kMk Cc sp E σ Q vs H := fun x dx hx hd ne => q x dx _ (w.made hx hd ne)
def kMkK (Cc : Addr) (n m : Nat) (sp : Sp) (gV : List V → List V → List V) (E : L2.St → XK) (σ : L2.St) (Q : VK) (vs zs : List V) (H2 : Hp) : Prop := vs.length = n ∧ zs.length = m ∧ ∀ x dx, H2 x = none → H2 dx = none → dx ≠ x →
  sp (gV (.ref x :: vs) zs) (upd (upd H2 dx (.own x)) x (.ins Cc dx [])) (fun v H3 => v = .non ∧ Q (.ref x) H3) (E σ)
theorem w_mkKQ {Cc : Addr} {gV : List V → List V → List V} (h : tA σ H fun vs H1 => tB σ H1 fun zs H2 => kMkK Cc n m sp gV E σ Q vs zs H2) : tMkK Cc n m sp gV E tA tB σ H Q := h
instance (priority := 900) i_w_mkKQ {Cc : Addr} {gV : List V → List V → List V} : Stp (tMkK Cc n m sp gV E tA tB σ H Q) (tA σ H fun vs H1 => tB σ H1 fun zs H2 => kMkK Cc n m sp gV E σ Q vs zs H2) := ⟨w_mkKQ⟩
theorem k_mkK {Cc : Addr} {gV : List V → List V → List V} (h1 : vs.length = n) (h2 : zs.length = m) (w : Own L H) (q : ∀ x dx H', Own (pt x (.ins Cc dx []) :: L) H' → sp (gV (.ref x :: vs) zs) H' (kIni Q x) (E σ)) : kMkK Cc n m sp gV E σ Q vs zs H :=
  ⟨h1, h2, fun x dx hx hd ne => q x dx _ (w.made hx hd ne)⟩
theorem k_mkK' {Cc : Addr} {gV : List V → List V → List V} {as : List V} (e : ∀ x : Addr, gV (.ref x :: vs) zs = .ref x :: as) (h1 : vs.length = n) (h2 : zs.length = m) (w : Own L H) (q : ∀ x dx H', Own (pt x (.ins Cc dx []) :: L) H' → sp (.ref x :: as) H' (kIni Q x) (E σ)) : kMkK Cc n m sp gV E σ Q vs zs H :=
  k_mkK h1 h2 w fun x dx H' w' => by rw [e]; exact q x dx H' w'
theorem w_mtE {C : Addr} {m : Str} {P : Addr → Prop} (h : ∃ dx fs, H a = some (.ins C dx fs) ∧ fs.lookup m = none) (q : P a) : ∃ a' dx' fs', V.ref a = .ref a' ∧ H a' = some (.ins C dx' fs') ∧ fs'.lookup m = none ∧ P a' :=
  let ⟨dx, fs, h1, h2⟩ := h
  ⟨a, dx, fs, rfl, h1, h2, q⟩
theorem w_fldE {C : Addr} {f : Str} {v : V} {P : Addr → Addr → Addr → List (Str × V) → V → Prop} (h : ∃ dx fs, H a = some (.ins C dx fs) ∧ fs.lookup f = some v) (c : Cls K C) (na : NoAttr K C f) (q : ∀ dx fs, P a C dx fs v) : ∃ a' C' dx' fs' v', V.ref a = .ref a' ∧ H a' = some (.ins C' dx' fs') ∧ Cls K C' ∧ NoAttr K C' f ∧ fs'.lookup f = some v' ∧ P a' C' dx' fs' v' :=
  let ⟨dx, fs, h1, h2⟩ := h
  ⟨a, C, dx, fs, v, rfl, h1, c, na, h2, q dx fs⟩
/-- a claim tells an attribute; that there is a method -/
abbrev TFld (X : HP) (a C : Addr) (f : Str) (v : V) : Prop := Tell X fun H => ∃ dx fs, H a = some (.ins C dx fs) ∧ fs.lookup f = some v
abbrev TMt (X : HP) (a C : Addr) (m : Str) : Prop := Tell X fun H => ∃ dx fs, H a = some (.ins C dx fs) ∧ fs.lookup m = none
/-- an attribute that a claim tells -/
theorem w_fldT {C : Addr} {f : Str} {v : V} {P : Addr → Addr → Addr → List (Str × V) → V → Prop} {X : HP} (t : Tell X (fun H => ∃ dx fs, H a = some (.ins C dx fs) ∧ fs.lookup f = some v)) (w : Own L H) (pk : Pick L X R) (c : Cls K C) (na : NoAttr K C f) (q : ∀ dx fs, P a C dx fs v) : ∃ a' C' dx' fs' v', V.ref a = .ref a' ∧ H a' = some (.ins C' dx' fs') ∧ Cls K C' ∧ NoAttr K C' f ∧ fs'.lookup f = some v' ∧ P a' C' dx' fs' v' :=
  w_fldE ((w.pick pk).ent (.here t)) c na q
/-- a method of an object that a claim tells -/
theorem w_mtT {C : Addr} {m : Str} {P : Addr → Prop} {X : HP} (t : Tell X (fun H => ∃ dx fs, H a = some (.ins C dx fs) ∧ fs.lookup m = none)) (w : Own L H) (pk : Pick L X R) (q : P a) : ∃ a' dx' fs', V.ref a = .ref a' ∧ H a' = some (.ins C dx' fs') ∧ fs'.lookup m = none ∧ P a' :=
  w_mtE ((w.pick pk).ent (.here t)) q
theorem k_ini (q : Q (.ref a) H) : kIni Q a .non H := ⟨rfl, q⟩
instance (priority := 900) i_k_ini  : Stp (kIni Q a .non H) (Q (.ref a) H) := ⟨k_ini⟩
/-- some of the claims -/
def Sel (L M : List HP) : Prop := ∀ h, stars L h → stars M h
theorem Sel.rf : Sel L L := fun _ s => s
theorem Sel.nil : Sel L [] := fun _ _ => trivial
theorem Sel.cons (p : Pick L P R) (s : Sel R M) : Sel L (P :: M) := fun h z => stars_cons s (p h z)
theorem Sel.drop (s : Sel L M) : Sel (P :: L) M := fun h z => s h (by
  obtain ⟨_, _, _, _, s2, _, q⟩ := z
  exact stars_mono q s2)
theorem Own.sel (w : Own L H) (s : Sel L M) : Own M H := w.map s
theorem Own.restS (w : Own (P :: L) H) (s : Sel L M) : Own (P :: M) H := w.rest s
theorem Own.take2 {P1 P2 : HP} {L1 : List HP} (w : Own L H) (p1 : Pick L P1 L1) (p2 : Pick L1 P2 R) : Own (P1 :: P2 :: R) H := (w.pick p1).rest p2
theorem Own.take3 {P1 P2 P3 : HP} {L1 L2 : List HP} (w : Own L H) (p1 : Pick L P1 L1) (p2 : Pick L1 P2 L2) (p3 : Pick L2 P3 R) : Own (P1 :: P2 :: P3 :: R) H := (w.pick p1).rest (Sel.cons p2 p3)
theorem Own.take4 {P1 P2 P3 P4 : HP} {L1 L2 L3 : List HP} (w : Own L H) (p1 : Pick L P1 L1) (p2 : Pick L1 P2 L2) (p3 : Pick L2 P3 L3) (p4 : Pick L3 P4 R) : Own (P1 :: P2 :: P3 :: P4 :: R) H := (w.pick p1).rest (Sel.cons p2 (Sel.cons p3 p4))
theorem Pick.st (p : Pick L P R) : ∀ h, stars L h → stars (P :: R) h := p
theorem Own.pick2 (w : Own (P' :: L) H) (p : Pick L P R) : Own (P' :: P :: R) H := w.rest p
theorem Own.cellRo (w : Own (cell c a o :: L) H) : Own (ro a o :: L) H := by
  cases c
  · exact w.toRo
  · exact w
/-! attributes -/
def kFld (K : PySem.W.Frag) (f : Str) (D : Ends) (σ : L2.St) (y x : V) (H2 : Hp) : Prop := ∃ a C dx fs, x = .ref a ∧ H2 a = some (.ins C dx fs) ∧ Cls K C ∧ NoAttr K C f ∧ fs.length < 1000 ∧ D.nx σ (upd H2 a (.ins C dx (putF f y fs)))
theorem w_sfldQ {f : Str} (h : tb σ H fun y H1 => ta σ H1 fun x H2 => kFld K f D σ y x H2) : sFld K ta tb f D σ H := h
instance (priority := 900) i_w_sfldQ {f : Str} : Stp (sFld K ta tb f D σ H) (tb σ H fun y H1 => ta σ H1 fun x H2 => kFld K f D σ y x H2) := ⟨w_sfldQ⟩
theorem k_fld {f : Str} {C dx : Addr} {fs fs' : List (Str × V)} (w : Own L H) (p : Put L a (.ins C dx fs) (.ins C dx fs') M) (c : Cls K C) (na : NoAttr K C f) (e : putF f y fs = fs') (l : Nat.blt fs.length 1000 = true) (q : ∀ H', Own M H' → D.nx σ H') : kFld K f D σ y (.ref a) H :=
  ⟨a, C, dx, fs, rfl, w.putGet p, c, na, Nat.le_of_ble_eq_true l, by rw [e]; exact q _ (w.put p)⟩
def kFA (a C : Addr) (f : Str) (D : Ends) (σ : L2.St) (z : V) (H3 : Hp) : Prop := ∃ dx' fs', H3 a = some (.ins C dx' fs') ∧ fs'.length < 1000 ∧ D.nx σ (upd H3 a (.ins C dx' (putF f z fs')))
theorem w_sfaQ {f : Str} {rd : V → V → Hp → VK → Prop} (h : ta σ H fun x H1 => ∃ a C dx fs v, x = .ref a ∧ H1 a = some (.ins C dx fs) ∧ Cls K C ∧ NoAttr K C f ∧ fs.lookup f = some v ∧
  tb σ H1 fun y H2 => rd v y H2 fun z H3 => kFA a C f D σ z H3) : sFldAug K ta tb rd f D σ H := h
instance (priority := 900) i_w_sfaQ {f : Str} {rd : V → V → Hp → VK → Prop} : Stp (sFldAug K ta tb rd f D σ H) (ta σ H fun x H1 => ∃ a C dx fs v, x = .ref a ∧ H1 a = some (.ins C dx fs) ∧ Cls K C ∧ NoAttr K C f ∧ fs.lookup f = some v ∧ tb σ H1 fun y H2 => rd v y H2 fun z H3 => kFA a C f D σ z H3) := ⟨w_sfaQ⟩
theorem k_fa {f : Str} {C dx : Addr} {fs fs' : List (Str × V)} (w : Own L H) (p : Put L a (.ins C dx fs) (.ins C dx fs') M) (e : putF f y fs = fs') (l : Nat.blt fs.length 1000 = true) (q : ∀ H', Own M H' → D.nx σ H') : kFA a C f D σ y H :=
  ⟨dx, fs, w.putGet p, Nat.le_of_ble_eq_true l, by rw [e]; exact q _ (w.put p)⟩
/-! lists -/
theorem k_app (w : Own L H) (p : Put L l (.lst xs) (.lst (xs ++ [v])) M) (hz : xs.length < sizeLine) (q : ∀ H', Own M H' → Q .non H') : rAppend (.ref l) [v] H Q := w_app (w.putGet p) hz (q _ (w.put p))
theorem k_setL {Qo : Hp → Prop} {z : Nat} (w : Own L H) (p : Put L l (.lst xs) (.lst (xs.set z v)) M) (hj : ixN xs.length k = some z) (q : ∀ H', Own M H' → Qo H') : rSetL (.ref l) (.int k) v H Qo := w_setL (w.putGet p) hj (q _ (w.put p))
theorem k_extend (w : Own L H) (p : Put L l (.lst xs) (.lst (xs ++ zs)) M) (g : Got L b (.lst zs)) (hz : xs.length + zs.length ≤ sizeLine) (q : ∀ H', Own M H' → Q .non H') : rExtend (.ref l) [.ref b] H Q := w_extend (w.putGet p) (w.get g) hz (q _ (w.put p))
theorem k_cat (w : Own L H) (g1 : Got L l (.lst xs)) (g2 : Got L b (.lst zs)) (hz : xs.length + zs.length ≤ sizeLine) (q : ∀ p H', Own (pt p (.lst (xs ++ zs)) :: L) H' → Q (.ref p) H') : rCat (.ref l) (.ref b) H Q := w_cat (w.get g1) (w.get g2) hz fun p hp => q p _ (w.new hp)
theorem k_rep (w : Own L H) (g1 : Got L l (.lst xs)) (h0 : 0 ≤ k) (hk : k < 4611686018427387904) (hz : xs.length * k.toNat ≤ sizeLine) (q : ∀ p H', Own (pt p (.lst (List.replicate k.toNat xs).flatten) :: L) H' → Q (.ref p) H') : rRep (.ref l) (.int k) H Q := w_rep (w.get g1) h0 hk hz fun p hp => q p _ (w.new hp)
theorem k_listL (w : Own L H) (g : SqL K H a xs) (q : ∀ p H', Own (pt p (.lst xs) :: L) H' → Q (.ref p) H') : gListOf K [.ref a] H Q := w_listL g fun p hp => q p _ (w.new hp)
theorem k_listT (w : Own L H) (g : SqT K H a xs) (q : ∀ p H', Own (pt p (.lst xs) :: L) H' → Q (.ref p) H') : gListOf K [.ref a] H Q := w_listT g fun p hp => q p _ (w.new hp)
theorem k_tupL (w : Own L H) (g : SqL K H a xs) (q : ∀ p H', Own (ro p (.tup xs) :: L) H' → Q (.ref p) H') : gTupOf K [.ref a] H Q := w_tupL g fun p hp => q p _ (w.newT hp)
theorem k_slfrom (w : Own L H) (g : SqL K H a xs) (h0 : 0 ≤ i) (q : ∀ p H', Own (pt p (.lst (xs.drop i.toNat)) :: L) H' → Q (.ref p) H') : rSlL K (.ref a) (some i) none H Q := w_slLfrom g h0 fun p hp => q p _ (w.new hp)
theorem k_slto (w : Own L H) (g : SqL K H a xs) (h0 : 0 ≤ i) (q : ∀ p H', Own (pt p (.lst (xs.take i.toNat)) :: L) H' → Q (.ref p) H') : rSlL K (.ref a) none (some i) H Q := w_slLto g h0 fun p hp => q p _ (w.new hp)
theorem k_slmid (w : Own L H) (g : SqL K H a xs) (h0 : 0 ≤ i) (h1 : i ≤ j) (q : ∀ p H', Own (pt p (.lst ((xs.drop i.toNat).take (j - i).toNat)) :: L) H' → Q (.ref p) H') : rSlL K (.ref a) (some i) (some j) H Q := w_slLmid g h0 h1 fun p hp => q p _ (w.new hp)
variable {ns ms : List Int} {ps : List Addr} {r : Addr}
theorem eraseIdx_map' {α β : Type} (f : α → β) : ∀ (l : List α) (i : Nat), (l.eraseIdx i).map f = (l.map f).eraseIdx i
  | [], i => by simp
  | a :: l, 0 => rfl
  | a :: l, i + 1 => by simp [eraseIdx_map' f l i]
theorem k_slfromI (w : Own L H) (g : SqL K H a (ns.map V.int)) (h0 : 0 ≤ i) (q : ∀ p H', Own (pt p (.lst ((ns.drop i.toNat).map V.int)) :: L) H' → Q (.ref p) H') : rSlL K (.ref a) (some i) none H Q := k_slfrom w g h0 (by rw [← List.map_drop]; exact q)
theorem k_sltoI (w : Own L H) (g : SqL K H a (ns.map V.int)) (h0 : 0 ≤ i) (q : ∀ p H', Own (pt p (.lst ((ns.take i.toNat).map V.int)) :: L) H' → Q (.ref p) H') : rSlL K (.ref a) none (some i) H Q := k_slto w g h0 (by rw [← List.map_take]; exact q)
theorem k_slmidI (w : Own L H) (g : SqL K H a (ns.map V.int)) (h0 : 0 ≤ i) (h1 : i ≤ j) (q : ∀ p H', Own (pt p (.lst (((ns.drop i.toNat).take (j - i).toNat).map V.int)) :: L) H' → Q (.ref p) H') : rSlL K (.ref a) (some i) (some j) H Q := k_slmid w g h0 h1 (by rw [← List.map_drop, ← List.map_take]; exact q)
theorem k_catI (w : Own L H) (g1 : Got L l (.lst (ns.map V.int))) (g2 : Got L b (.lst (ms.map V.int))) (hz : ns.length + ms.length ≤ sizeLine) (q : ∀ p H', Own (pt p (.lst ((ns ++ ms).map V.int)) :: L) H' → Q (.ref p) H') : rCat (.ref l) (.ref b) H Q := k_cat w g1 g2 (by rw [List.length_map, List.length_map]; exact hz) (by rw [← List.map_append]; exact q)
theorem k_catR {qs : List Addr} (w : Own L H) (g1 : Got L l (.lst (ps.map V.ref))) (g2 : Got L b (.lst (qs.map V.ref))) (hz : ps.length + qs.length ≤ sizeLine) (q : ∀ p H', Own (pt p (.lst ((ps ++ qs).map V.ref)) :: L) H' → Q (.ref p) H') : rCat (.ref l) (.ref b) H Q := k_cat w g1 g2 (by rw [List.length_map, List.length_map]; exact hz) (by rw [← List.map_append]; exact q)
theorem k_slfromR (w : Own L H) (g : SqL K H a (ps.map V.ref)) (h0 : 0 ≤ i) (q : ∀ p H', Own (pt p (.lst ((ps.drop i.toNat).map V.ref)) :: L) H' → Q (.ref p) H') : rSlL K (.ref a) (some i) none H Q := k_slfrom w g h0 (by rw [← List.map_drop]; exact q)
theorem k_sltoR (w : Own L H) (g : SqL K H a (ps.map V.ref)) (h0 : 0 ≤ i) (q : ∀ p H', Own (pt p (.lst ((ps.take i.toNat).map V.ref)) :: L) H' → Q (.ref p) H') : rSlL K (.ref a) none (some i) H Q := k_slto w g h0 (by rw [← List.map_take]; exact q)
theorem k_slfromRs {j : Nat} (w : Own L H) (g : SqL K H a (ps.map V.ref)) (q : ∀ p H', Own (pt p (.lst ((ps.drop (j + 1)).map V.ref)) :: L) H' → Q (.ref p) H') : rSlL K (.ref a) (some ((j : Int) + 1)) none H Q := k_slfromR w g (by omega) (by rw [show ((j : Int) + 1).toNat = j + 1 by omega]; exact q)
theorem k_slfromRn {j : Nat} (w : Own L H) (g : SqL K H a (ps.map V.ref)) (q : ∀ p H', Own (pt p (.lst ((ps.drop j).map V.ref)) :: L) H' → Q (.ref p) H') : rSlL K (.ref a) (some (j : Int)) none H Q := k_slfromR w g (by omega) q
theorem k_slfromR1 (w : Own L H) (g : SqL K H a (ps.map V.ref)) (q : ∀ p H', Own (pt p (.lst ((ps.drop 1).map V.ref)) :: L) H' → Q (.ref p) H') : rSlL K (.ref a) (some 1) none H Q := k_slfromR w g (by decide) q
theorem k_sltoRn {j : Nat} (w : Own L H) (g : SqL K H a (ps.map V.ref)) (q : ∀ p H', Own (pt p (.lst ((ps.take j).map V.ref)) :: L) H' → Q (.ref p) H') : rSlL K (.ref a) none (some (j : Int)) H Q := k_sltoR w g (by omega) q
theorem k_sltoR1 (w : Own L H) (g : SqL K H a (ps.map V.ref)) (q : ∀ p H', Own (pt p (.lst ((ps.take 1).map V.ref)) :: L) H' → Q (.ref p) H') : rSlL K (.ref a) none (some 1) H Q := k_sltoR w g (by decide) q
theorem k_slfromIs {j : Nat} (w : Own L H) (g : SqL K H a (ns.map V.int)) (q : ∀ p H', Own (pt p (.lst ((ns.drop (j + 1)).map V.int)) :: L) H' → Q (.ref p) H') : rSlL K (.ref a) (some ((j : Int) + 1)) none H Q := k_slfromI w g (by omega) (by rw [show ((j : Int) + 1).toNat = j + 1 by omega]; exact q)
theorem k_slfromIn {j : Nat} (w : Own L H) (g : SqL K H a (ns.map V.int)) (q : ∀ p H', Own (pt p (.lst ((ns.drop j).map V.int)) :: L) H' → Q (.ref p) H') : rSlL K (.ref a) (some (j : Int)) none H Q := k_slfromI w g (by omega) q
theorem k_slfromI1 (w : Own L H) (g : SqL K H a (ns.map V.int)) (q : ∀ p H', Own (pt p (.lst ((ns.drop 1).map V.int)) :: L) H' → Q (.ref p) H') : rSlL K (.ref a) (some 1) none H Q := k_slfromI w g (by decide) q
theorem k_sltoIn {j : Nat} (w : Own L H) (g : SqL K H a (ns.map V.int)) (q : ∀ p H', Own (pt p (.lst ((ns.take j).map V.int)) :: L) H' → Q (.ref p) H') : rSlL K (.ref a) none (some (j : Int)) H Q := k_sltoI w g (by omega) q
theorem k_sltoI1 (w : Own L H) (g : SqL K H a (ns.map V.int)) (q : ∀ p H', Own (pt p (.lst ((ns.take 1).map V.int)) :: L) H' → Q (.ref p) H') : rSlL K (.ref a) none (some 1) H Q := k_sltoI w g (by decide) q
theorem k_appI (w : Own L H) (p : Put L l (.lst (ns.map V.int)) (.lst ((ns ++ [i]).map V.int)) M) (hz : ns.length < sizeLine) (q : ∀ H', Own M H' → Q .non H') : rAppend (.ref l) [.int i] H Q := k_app w (by rw [List.map_append] at p; exact p) (by rw [List.length_map]; exact hz) q
theorem k_appR (w : Own L H) (p : Put L l (.lst (ps.map V.ref)) (.lst ((ps ++ [r]).map V.ref)) M) (hz : ps.length < sizeLine) (q : ∀ H', Own M H' → Q .non H') : rAppend (.ref l) [.ref r] H Q := k_app w (by rw [List.map_append] at p; exact p) (by rw [List.length_map]; exact hz) q
theorem k_extendI (w : Own L H) (p : Put L l (.lst (ns.map V.int)) (.lst ((ns ++ ms).map V.int)) M) (g : Got L b (.lst (ms.map V.int))) (hz : ns.length + ms.length ≤ sizeLine) (q : ∀ H', Own M H' → Q .non H') : rExtend (.ref l) [.ref b] H Q := k_extend w (by rw [List.map_append] at p; exact p) g (by rw [List.length_map, List.length_map]; exact hz) q
theorem k_pop (w : Own L H) (p : Put L l (.lst xs) (.lst xs.dropLast) M) (h : xs[xs.length - 1]? = some y) (q : ∀ H', Own M H' → Q y H') : rPop (.ref l) [] H Q := ⟨l, xs, y, rfl, rfl, w.putGet p, h, q _ (w.put p)⟩
theorem k_popAt {z : Nat} (w : Own L H) (p : Put L l (.lst xs) (.lst (xs.eraseIdx z)) M) (h0 : -(2 ^ 63) ≤ i) (h1 : i < 2 ^ 63) (hz : seqIndex? i xs.length = some z) (h : xs[z]? = some y) (q : ∀ H', Own M H' → Q y H') : rPopAt (.ref l) [.int i] H Q := ⟨l, xs, i, z, y, rfl, rfl, w.putGet p, h0, h1, hz, h, q _ (w.put p)⟩
theorem k_pop0 (w : Own L H) (p : Put L l (.lst (y :: xs)) (.lst xs) M) (q : ∀ H', Own M H' → Q y H') : rPopAt (.ref l) [.int 0] H Q :=
  k_popAt (z := 0) (xs := y :: xs) w p (by decide) (by decide) (by simp [seqIndex?]) rfl q
def kDelL (D : Ends) (σ : L2.St) (x y : V) (H2 : Hp) : Prop := ∃ (l : Addr) (xs : List V) (i : Int) (k : Nat), x = .ref l ∧ y = .int i ∧ H2 l = some (.lst xs) ∧ -(2 ^ 63) ≤ i ∧ i < 2 ^ 63 ∧ seqIndex? i xs.length = some k ∧ D.nx σ (upd H2 l (.lst (xs.eraseIdx k)))
theorem w_delQ (h : ta σ H fun x H1 => tb σ H1 fun y H2 => kDelL D σ x y H2) : tDelL ta tb D σ H := h
instance (priority := 900) i_w_delQ  : Stp (tDelL ta tb D σ H) (ta σ H fun x H1 => tb σ H1 fun y H2 => kDelL D σ x y H2) := ⟨w_delQ⟩
theorem seqIx {i : Int} {n : Nat} (h0 : 0 ≤ i) (h1 : i < (n : Int)) : seqIndex? i n = some i.toNat := by
  unfold seqIndex?
  simp only [decide_eq_true_eq]
  repeat' split <;> first | rfl | omega | (simp at *; omega)
/-- del xs[i], the i-th of addresses -/
theorem k_delR {i : Int} {j : Nat} (w : Own L H) (e : i = (j : Int)) (h1 : j < ps.length) (h2 : ps.length ≤ 16000000) (p : Put L l (.lst (ps.map V.ref)) (.lst ((ps.eraseIdx j).map V.ref)) M) (q : ∀ H', Own M H' → D.nx σ H') : kDelL D σ (.ref l) (.int i) H :=
  ⟨l, ps.map V.ref, i, j, rfl, rfl, w.putGet p, by omega, by omega, by rw [seqIx (by omega) (by rw [List.length_map]; omega)]; subst e; rfl, by rw [← eraseIdx_map']; exact q _ (w.put p)⟩
theorem k_popAtR {i : Int} {j : Nat} {y : Addr} (w : Own L H) (e : i = (j : Int)) (h2 : ps.length ≤ 16000000) (hy : ps[j]? = some y) (p : Put L l (.lst (ps.map V.ref)) (.lst ((ps.eraseIdx j).map V.ref)) M) (q : ∀ H', Own M H' → Q (.ref y) H') : rPopAt (.ref l) [.int i] H Q := by
  have h1 := (List.getElem?_eq_some_iff.mp hy).1
  exact k_popAt (z := j) w (by rw [eraseIdx_map'] at p; exact p) (by omega) (by omega) (by rw [seqIx (by omega) (by rw [List.length_map]; omega)]; subst e; rfl) (by rw [List.getElem?_map, hy]; rfl) q
theorem k_clear (w : Own L H) (p : Put L l (.lst xs) (.lst []) M) (q : ∀ H', Own M H' → Q .non H') : rClear (.ref l) [] H Q := ⟨l, xs, rfl, rfl, w.putGet p, q _ (w.put p)⟩
theorem k_reverse (w : Own L H) (p : Put L l (.lst xs) (.lst xs.reverse) M) (q : ∀ H', Own M H' → Q .non H') : rReverse (.ref l) [] H Q := ⟨l, xs, rfl, rfl, w.putGet p, q _ (w.put p)⟩
theorem w_ixR {j : Nat} (g : SqL K H a (ps.map V.ref)) (h : ps[j]? = some r) (q : Q (.ref r) H) : rIxL K (.ref a) (.int (j : Int)) H Q := w_ixL g (atI_ref h rfl) q
theorem w_ixR0 (g : SqL K H a (ps.map V.ref)) (h : ps[0]? = some r) (q : Q (.ref r) H) : rIxL K (.ref a) (.int 0) H Q := w_ixL g (atI_ref (a := 0) h rfl) q
theorem w_ixRc (g : SqL K H a ((r :: ps).map V.ref)) (q : Q (.ref r) H) : rIxL K (.ref a) (.int 0) H Q := w_ixL g (atI_ref (a := 0) rfl rfl) q
theorem ix_neg1 {α : Type} {xs : List α} {y : α} (h : xs.getLast? = some y) : atI xs (-1) = some y := by
  have hl : 0 < xs.length := by
    cases xs with
    | nil => cases h
    | cons _ _ => exact Nat.succ_pos _
  unfold atI ixN
  rw [if_neg (by omega)]
  rw [List.getLast?_eq_getElem?] at h
  split
  · show xs[_]? = _
    rw [← h]
    congr 1
    omega
  · omega
theorem w_ixLastR (g : SqL K H a (ps.map V.ref)) (h : ps.getLast? = some r) (q : Q (.ref r) H) : rIxL K (.ref a) (.int (-1)) H Q := w_ixL g (ix_neg1 (by rw [List.getLast?_map, h]; rfl)) q
theorem cut_init {xs : List V} : cutV xs none (some (-1)) = xs.dropLast := by
  have e : HT.sIx xs.length xs.length (some (-1)) = xs.length - 1 := by
    show (if (-1 : Int) < 0 then ((-1 : Int) + (xs.length : Int)).toNat else min (-1 : Int).toNat xs.length) = _
    rw [if_pos (by decide)]
    omega
  unfold cutV
  rw [HT.sIx_none, e, List.drop_zero, Nat.sub_zero, List.dropLast_eq_take]
theorem k_slinitR (w : Own L H) (g : SqL K H a (ps.map V.ref)) (q : ∀ p H', Own (pt p (.lst (ps.dropLast.map V.ref)) :: L) H' → Q (.ref p) H') : rSlL K (.ref a) none (some (-1)) H Q := w_slL g fun p hp => by
  rw [cut_init, ← List.map_dropLast]
  exact q p _ (w.new hp)
theorem k_lst1R (w : Own L H) (q : ∀ p H', Own (pt p (.lst ([r].map V.ref)) :: L) H' → Q (.ref p) H') : kLst Q [.ref r] H := k_lst rfl w q
theorem k_lst1I (w : Own L H) (q : ∀ p H', Own (pt p (.lst ([i].map V.int)) :: L) H' → Q (.ref p) H') : kLst Q [.int i] H := k_lst rfl w q
theorem w_gTup {nn : Nat} {t : TGs} {Qs : L2.St → Hp → Prop} (g : SqT K H a xs) (h : xs.length = nn) (q : t xs σ H Qs) : gTup K nn t (.ref a) σ H Qs := ⟨a, xs, rfl, g, h, q⟩
theorem w_gCons {t : TG} {u : TGs} {Qs : L2.St → Hp → Prop} (q : t v σ H fun σ' H' => u xs σ' H' Qs) : gCons t u (v :: xs) σ H Qs := ⟨v, xs, rfl, q⟩
instance (priority := 900) i_w_gCons {t : TG} {u : TGs} {Qs : L2.St → Hp → Prop} : Stp (gCons t u (v :: xs) σ H Qs) (t v σ H fun σ' H' => u xs σ' H' Qs) := ⟨w_gCons⟩
theorem w_gNil {Qs : L2.St → Hp → Prop} (q : Qs σ H) : gNil [] σ H Qs := ⟨rfl, q⟩
instance (priority := 900) i_w_gNil {Qs : L2.St → Hp → Prop} : Stp (gNil [] σ H Qs) (Qs σ H) := ⟨w_gNil⟩
theorem w_lenLI (g : SqL K H a (ns.map V.int)) (q : Q (.int (ns.length : Int)) H) : gLen K [.ref a] H Q := w_lenL g (by rw [List.length_map]; exact q)
theorem w_lenLR (g : SqL K H a (ps.map V.ref)) (q : Q (.int (ps.length : Int)) H) : gLen K [.ref a] H Q := w_lenL g (by rw [List.length_map]; exact q)
theorem w_ixI (g : SqL K H a (ns.map V.int)) (h0 : 0 ≤ i) (h1 : i < (ns.length : Int)) (q : Q (.int (ns.getD i.toNat 0)) H) : rIxL K (.ref a) (.int i) H Q := w_ixL g (atI_int (a := i.toNat) (by omega) (by omega)) q
theorem emp_len {α : Type} (xs : List α) : (!xs.isEmpty) = decide (0 < xs.length) := by cases xs <;> simp
theorem k_truR {P : Bool → Prop} (g : SqL K H a (ps.map V.ref)) (q : P (decide (0 < ps.length))) : ∃ k, TruV K (.ref a) H k ∧ P k := ⟨_, .inl ⟨_, g, rfl⟩, by rw [emp_len, List.length_map]; exact q⟩
theorem k_truI {P : Bool → Prop} (g : SqL K H a (ns.map V.int)) (q : P (decide (0 < ns.length))) : ∃ k, TruV K (.ref a) H k ∧ P k := ⟨_, .inl ⟨_, g, rfl⟩, by rw [emp_len, List.length_map]; exact q⟩
theorem k_truL {P : Bool → Prop} (g : SqL K H a xs) (q : P (decide (0 < xs.length))) : ∃ k, TruV K (.ref a) H k ∧ P k := ⟨_, .inl ⟨_, g, rfl⟩, by rw [emp_len]; exact q⟩
/-! while -/
def NV (Pv : Nat → L2.St → Hp → Prop) (m : Nat) : L2.St → Hp → Prop := fun σ' H' => ∃ m', m' < m ∧ Pv m' σ' H'
def kWhT (Pv : Nat → L2.St → Hp → Prop) (tb : TS) (D : Ends) (m : Nat) (σ : L2.St) (H1 : Hp) : Prop := ∃ N : L2.St → Hp → Prop, (∀ σ' H', N σ' H' → ∃ m', m' < m ∧ Pv m' σ' H') ∧ tb { D with nx := N, ct := N, bk := D.nx } σ H1
theorem w_whileO {c : TT} {tb : TS} {m0 : Nat} (Pv : Nat → L2.St → Hp → Prop) (h0 : Pv m0 σ H) (hs : ∀ m σ H, Pv m σ H → c σ H fun b H1 => if b = true then kWhT Pv tb D m σ H1 else D.nx σ H1) : tWhile c tb D σ H := ⟨Pv, ⟨m0, h0⟩, hs⟩
theorem k_whT {Pv : Nat → L2.St → Hp → Prop} {tb : TS} {m : Nat} (h : tb { D with nx := NV Pv m, ct := NV Pv m, bk := D.nx } σ H) : kWhT Pv tb D m σ H := ⟨NV Pv m, fun _ _ h => h, h⟩
instance (priority := 900) i_k_whT {Pv : Nat → L2.St → Hp → Prop} {tb : TS} {m : Nat} : Stp (kWhT Pv tb D m σ H) (tb { D with nx := NV Pv m, ct := NV Pv m, bk := D.nx } σ H) := ⟨k_whT⟩
/-! the laws' helpers -/
theorem o_start {n c : Int} (w : Own L H) (q : ∀ p H', Own (Drw p :: L) H' → Q (.ref p) H') : gsStart K [.int c, .int n] H Q EX := c_start fun n p hp => q p _ (w.new hp).drw
theorem o_digit {m : Int} (w : Own L H) (p : Pick L (Drw s) R) (h0 : 0 < m) (h1 : m < 1099511627776) (q : ∀ d H', 0 ≤ d → d < m → Own (Drw s :: R) H' → Q (.int d) H') : gsDigit K [.ref s, .int m] H Q EX := by
  obtain ⟨n, w1⟩ := (w.pick p).ex
  exact c_digit w1.get' h0 h1 fun d n' d0 d1 => q d _ d0 d1 (w1.put .here).drw
/-! comprehensions -/
def PvO (Pv : Nat → List V → List HP → Prop) (D : Addr) (i : Nat) (H' : Hp) : Prop := ∃ A L, Pv i A L ∧ Own (pt D (.lst A) :: L) H'
theorem lc_addO {Pv : Nat → List V → List HP → Prop} {Da : Addr} {i : Nat} {A : List V} (w : Own L H) (p : Pick L (pt Da (.lst A)) R) (hl : A.length < sizeLine) (q : Pv (i + 1) (A ++ [y]) R) : LcAdd Da (PvO Pv Da) i y H := by
  have w1 := w.pick p
  exact ⟨A, w1.get', hl, _, R, q, w1.put .here⟩
theorem lc_skipO {Pv : Nat → List V → List HP → Prop} {Da : Addr} {i : Nat} {A : List V} (w : Own L H) (p : Pick L (pt Da (.lst A)) R) (q : Pv (i + 1) A R) : PvO Pv Da (i + 1) H := ⟨A, R, q, w.pick p⟩
variable {g : TG} {tt : TT} {te : TE} {ws : List Nat} {w₀ : Nat}
/-- over any walk -/
theorem lcO {J : It} {n : Nat} {G : Hp → Prop} {Y : Nat → Hp → V → Hp → Prop} (wk : Walk J n G Y) (Pv : Nat → List V → List HP → Prop) (w : Own L H) (h0 : Pv 0 [] L) (hG : ∀ i A L D H', Pv i A L → Own (pt D (.lst A) :: L) H' → G H')
    (hs : ∀ i x D A L H1 H2, i < n → Pv i A L → Own (pt D (.lst A) :: L) H1 → Y i H1 x H2 → g x (wipe σ ws) H2 fun σ2 H2 => wipe σ2 ws = wipe σ ws ∧ tt σ2 H2 fun b H3 =>
      if b = true then te σ2 H3 fun y H4 => LcAdd D (PvO Pv D) i y H4 else PvO Pv D (i + 1) H3)
    (hd : ∀ D A L H1, Pv n A L → Own (pt D (.lst A) :: L) H1 → Q (.ref D) H1) : rLc J g tt te ws σ H Q :=
  lcG wk (PvO Pv) (fun D hD => ⟨[], L, h0, w.new hD⟩) (fun D i H' ⟨A, L, p, w⟩ => hG i A L D H' p w) (fun i x D H1 H2 hi _ ⟨A, L, p, w⟩ y => hs i x D A L H1 H2 hi p w y) fun D H1 _ ⟨A, L, p, w⟩ => hd D A L H1 p w
theorem lcR1O {n : Nat} (Pv : Nat → List V → List HP → Prop) (w : Own L H) (h0 : Pv 0 [] L) (hj : j = (n : Int)) (hn : n < 16000000)
    (hs : ∀ (i : Nat) D A L H1, i < n → Pv i A L → Own (pt D (.lst A) :: L) H1 → te ((σ.set w₀ none).set w₀ (some (.int (i : Int)))) H1 fun y H4 => LcAdd D (PvO Pv D) i y H4)
    (hd : ∀ D A L H1, Pv n A L → Own (pt D (.lst A) :: L) H1 → Q (.ref D) H1) : rLcR1 (gName w₀) tYes te [w₀] σ Q [.int j] H := by
  subst hj
  refine ⟨(n : Int), rfl, by omega, by omega, lcO walk_range Pv w h0 (fun _ _ _ _ _ _ _ => trivial) ?_ (by rw [Int.toNat_natCast]; exact hd)⟩
  rintro i x D A L H1 H2 hi hP ho ⟨rfl, rfl⟩
  refine ⟨wipe1, ?_⟩
  show te ((σ.set w₀ none).set w₀ (some (.int (0 + (i : Int))))) H2 _
  rw [Int.zero_add]
  exact hs i D A L H2 (by omega) hP ho
theorem lcR1FO {n : Nat} (Pv : Nat → List V → List HP → Prop) (w : Own L H) (h0 : Pv 0 [] L) (hj : j = (n : Int)) (hn : n < 16000000)
    (hs : ∀ (i : Nat) D A L H1, i < n → Pv i A L → Own (pt D (.lst A) :: L) H1 → tt ((σ.set w₀ none).set w₀ (some (.int (i : Int)))) H1 fun b H3 => if b = true then te ((σ.set w₀ none).set w₀ (some (.int (i : Int)))) H3 fun y H4 => LcAdd D (PvO Pv D) i y H4 else PvO Pv D (i + 1) H3)
    (hd : ∀ D A L H1, Pv n A L → Own (pt D (.lst A) :: L) H1 → Q (.ref D) H1) : rLcR1 (gName w₀) tt te [w₀] σ Q [.int j] H := by
  subst hj
  refine ⟨(n : Int), rfl, by omega, by omega, lcO walk_range Pv w h0 (fun _ _ _ _ _ _ _ => trivial) ?_ (by rw [Int.toNat_natCast]; exact hd)⟩
  rintro i x D A L H1 H2 hi hP ho ⟨rfl, rfl⟩
  refine ⟨wipe1, ?_⟩
  have e : (0 : Int) + (i : Int) = (i : Int) := Int.zero_add _
  show tt ((σ.set w₀ none).set w₀ (some (.int (0 + (i : Int))))) H2 (fun b H3 => if b = true then te ((σ.set w₀ none).set w₀ (some (.int (0 + (i : Int))))) H3 fun y H4 => LcAdd D (PvO Pv D) i y H4 else PvO Pv D (i + 1) H3)
  rw [e]
  exact hs i D A L H2 (by omega) hP ho
theorem lcR2O {lo hi : Int} (Pv : Nat → List V → List HP → Prop) (w : Own L H) (h0 : Pv 0 [] L) (hn : -4000000000 < lo ∧ lo < 4000000000 ∧ -4000000000 < hi ∧ hi < 4000000000) (hn2 : hi - lo < 16000000)
    (hs : ∀ (i : Nat) D A L H1, lo + i < hi → Pv i A L → Own (pt D (.lst A) :: L) H1 → te ((σ.set w₀ none).set w₀ (some (.int (lo + (i : Int))))) H1 fun y H4 => LcAdd D (PvO Pv D) i y H4)
    (hd : ∀ D A L H1, Pv (hi - lo).toNat A L → Own (pt D (.lst A) :: L) H1 → Q (.ref D) H1) : rLcR2 (gName w₀) tYes te [w₀] σ Q [.int lo, .int hi] H := by
  refine ⟨lo, hi, rfl, ⟨by omega, by omega, by omega, by omega⟩, lcO walk_range Pv w h0 (fun _ _ _ _ _ _ _ => trivial) ?_ hd⟩
  rintro i x D A L H1 H2 hi hP ho ⟨rfl, rfl⟩
  exact ⟨wipe1, hs i D A L H2 (by omega) hP ho⟩
theorem lcLO {vs : List V} (Pv : Nat → List V → List HP → Prop) (w : Own L H) (h0 : Pv 0 [] L) (hx : ∀ i A L D H', Pv i A L → Own (pt D (.lst A) :: L) H' → SqL K H' a vs)
    (hx0 : SqL K H a vs) (hs : ∀ (i : Nat) x D A L H1, vs[i]? = some x → Pv i A L → Own (pt D (.lst A) :: L) H1 → te ((σ.set w₀ none).set w₀ (some x)) H1 fun y H4 => LcAdd D (PvO Pv D) i y H4)
    (hd : ∀ D A L H1, Pv vs.length A L → Own (pt D (.lst A) :: L) H1 → Q (.ref D) H1) : rLcL K (gName w₀) tYes te [w₀] σ Q (.ref a) H := by
  refine ⟨a, rfl, ⟨_, hx0⟩, lcO walk_list Pv w h0 hx ?_ hd⟩
  rintro i x D A L H1 H2 hi hP ho ⟨rfl, hxi⟩
  exact ⟨wipe1, hs i x D A L H2 hxi hP ho⟩
theorem lcLFO {vs : List V} (Pv : Nat → List V → List HP → Prop) (w : Own L H) (h0 : Pv 0 [] L) (hx : ∀ i A L D H', Pv i A L → Own (pt D (.lst A) :: L) H' → SqL K H' a vs)
    (hx0 : SqL K H a vs) (hs : ∀ (i : Nat) x D A L H1, vs[i]? = some x → Pv i A L → Own (pt D (.lst A) :: L) H1 → tt ((σ.set w₀ none).set w₀ (some x)) H1 fun b H3 =>
      if b = true then te ((σ.set w₀ none).set w₀ (some x)) H3 fun y H4 => LcAdd D (PvO Pv D) i y H4 else PvO Pv D (i + 1) H3)
    (hd : ∀ D A L H1, Pv vs.length A L → Own (pt D (.lst A) :: L) H1 → Q (.ref D) H1) : rLcL K (gName w₀) tt te [w₀] σ Q (.ref a) H := by
  refine ⟨a, rfl, ⟨_, hx0⟩, lcO walk_list Pv w h0 hx ?_ hd⟩
  rintro i x D A L H1 H2 hi hP ho ⟨rfl, hxi⟩
  exact ⟨wipe1, hs i x D A L H2 hxi hP ho⟩
theorem lcTO {vs : List V} (Pv : Nat → List V → List HP → Prop) (w : Own L H) (h0 : Pv 0 [] L) (hx : ∀ i A L D H', Pv i A L → Own (pt D (.lst A) :: L) H' → SqT K H' a vs)
    (hx0 : SqT K H a vs) (hs : ∀ (i : Nat) x D A L H1, vs[i]? = some x → Pv i A L → Own (pt D (.lst A) :: L) H1 → te ((σ.set w₀ none).set w₀ (some x)) H1 fun y H4 => LcAdd D (PvO Pv D) i y H4)
    (hd : ∀ D A L H1, Pv vs.length A L → Own (pt D (.lst A) :: L) H1 → Q (.ref D) H1) : rLcT K (gName w₀) tYes te [w₀] σ Q (.ref a) H := by
  refine ⟨a, rfl, ⟨_, hx0⟩, lcO walk_tup Pv w h0 hx ?_ hd⟩
  rintro i x D A L H1 H2 hi hP ho ⟨rfl, hxi⟩
  exact ⟨wipe1, hs i x D A L H2 hxi hP ho⟩
/-- drawn numbers: [digit(state, m) for k in range(n)] -/
theorem lcDrawO {m : Int} {n : Nat} (w : Own L H) (p : Pick L (Drw s) R) (hj : j = (n : Int)) (hn : n < 16000000) (h0 : 0 < m) 
    (hb : ∀ (i : Nat) H1 n1, H1 s = some (.lst [.int n1]) → te ((σ.set w₀ none).set w₀ (some (.int (i : Int)))) H1 fun y H4 => ∃ d n2, y = .int d ∧ 0 ≤ d ∧ d < m ∧ H4 = upd H1 s (.lst [.int n2]))
    (mono : ∀ (σ : L2.St) H (Q Q' : VK), (∀ y H1, Q y H1 → Q' y H1) → te σ H Q → te σ H Q')
    (hd : ∀ D (ds : List Int) H1, ds.length = n → (∀ d ∈ ds, 0 ≤ d ∧ d < m) → Own (pt D (.lst (ds.map V.int)) :: Drw s :: R) H1 → Q (.ref D) H1) : rLcR1 (gName w₀) tYes te [w₀] σ Q [.int j] H := by
  refine lcR1O (fun i A L => L = Drw s :: R ∧ ∃ ds : List Int, ds.length = i ∧ (∀ d ∈ ds, 0 ≤ d ∧ d < m) ∧ A = ds.map V.int) (w.pick p) ⟨rfl, [], rfl, (fun d hd => by cases hd), rfl⟩ hj hn ?_ ?_
  · rintro i D A L H1 hi ⟨rfl, ds, hl, hds, rfl⟩ ho
    obtain ⟨n1, w1⟩ := ho.swap.ex
    refine mono _ _ _ _ ?_ (hb i H1 n1 w1.get')
    rintro y H4 ⟨d, n2, rfl, d0, d1, rfl⟩
    refine lc_addO ((w1.put .here).drw.swap) .here (by rw [List.length_map]; exact small16l (by omega)) ⟨rfl, ds ++ [d], by rw [List.length_append, hl]; rfl, ?_, by rw [List.map_append]; rfl⟩
    intro z hz
    rcases List.mem_append.mp hz with hz | hz
    · exact hds z hz
    · rw [List.mem_singleton.mp hz]
      exact ⟨d0, d1⟩
  · rintro D A L H1 ⟨rfl, ds, hl, hds, rfl⟩ ho
    exact hd D ds H1 hl hds ho
theorem mono_digit {t1 t2 : TE} {K : PySem.W.Frag} (m1 : ∀ (σ : L2.St) H (Q Q' : VK), (∀ y H1, Q y H1 → Q' y H1) → t1 σ H Q → t1 σ H Q') (m2 : ∀ (σ : L2.St) H (Q Q' : VK), (∀ y H1, Q y H1 → Q' y H1) → t2 σ H Q → t2 σ H Q') :
    ∀ (σ : L2.St) H (Q Q' : VK), (∀ y H1, Q y H1 → Q' y H1) → tCallS (gsDigit K) E (tCons t1 (tCons t2 tNil)) σ H Q → tCallS (gsDigit K) E (tCons t1 (tCons t2 tNil)) σ H Q' := fun σ H Q Q' hq h =>
  m1 σ H _ _ (fun y H1 h => m2 σ H1 _ _ (fun z H2 h => by
    obtain ⟨p, n, m, e, h1, h2, h3, h4⟩ := h
    exact ⟨p, n, m, e, h1, h2, h3, fun d n' a b => hq _ _ (h4 d n' a b)⟩) h) h
theorem mono_var {n : Nat} : ∀ (σ : L2.St) H (Q Q' : VK), (∀ y H1, Q y H1 → Q' y H1) → tVar n σ H Q → tVar n σ H Q' := fun _ _ _ _ hq ⟨v, e, q⟩ => ⟨v, e, hq _ _ q⟩
theorem mono_c {v : V} : ∀ (σ : L2.St) H (Q Q' : VK), (∀ y H1, Q y H1 → Q' y H1) → tC v σ H Q → tC v σ H Q' := fun _ _ _ _ hq q => hq _ _ q
end
end G

/-! the laws' own helpers, once for all laws -/
namespace G
open PySem PySem.Spec PyProof.Rows L2
abbrev GN_law_cell : List Str := ["script", "k"]
abbrev GN_law_start : List Str := ["cell", "k", "prime", "mixed", "number", "turn"]
abbrev GN_law_digit : List Str := ["state", "many", "digit"]
abbrev GN_law_is_integer : List Str := ["told"]
def gt_law_cell (K : PySem.W.Frag) (E : XK) : TS :=
  (tSeq (tIfS (tTest (tOp gLt (tVar 1) (tCB (gLen K) (tCons (tVar 0) tNil))))
  (tRet (tOp (rIxL K) (tVar 0) (tVar 1)))
  tNext)
  (tRet (tC (.int 0))))
def gt_law_start (K : PySem.W.Frag) (E : XK) : TS :=
  (tSeq (tAsg (tC (.int 618970019642690137449562111)) (gName 2))
  (tSeq (tIfS (tTest (tChain gLt gLt (tUn gNeg (tC (.int 1000000000000000000))) (tVar 0) (tC (.int 1000000000000000000))))
  (tSeq (tAsg (tOp gMod (tCB gInt1 (tCons (tOp gAdd (tOp gMul (tVar 0) (tC (.int 2654435761))) (tOp gMul (tOp gAdd (tVar 1) (tC (.int 1))) (tC (.int 6700417)))) tNil)) (tVar 2)) (gName 3))
  (tSeq (tAsg (tC (.int 0)) (gName 4))
  (tSeq (tFor (iRng1 (tCons (tC (.int 4)) tNil)) (gName 5)
  (tSeq (tAsg (tOp gMod (tCB gInt1 (tCons (tOp gAdd (tOp gAdd (tOp gAdd (tOp gMulW (tVar 3) (tVar 3)) (tOp gMul (tC (.int 7)) (tVar 3))) (tVar 1)) (tVar 5)) tNil)) (tVar 2)) (gName 3))
  (tAsg (tOp gAdd (tOp gMulW (tVar 4) (tVar 2)) (tVar 3)) (gName 4))))
  (tRet (tLst (tCons (tVar 4) tNil))))))
  tNext)
  (tRet (tLst (tCons (tVar 0) tNil)))))
def gt_law_digit (K : PySem.W.Frag) (E : XK) : TS :=
  (tSeq (tAsg (tOp gMod (tCB gInt1 (tCons (tOp (rIxL K) (tVar 0) (tC (.int 0))) tNil)) (tVar 1)) (gName 2))
  (tSeq (tAsg (tOp gDivW (tOp (rIxL K) (tVar 0) (tC (.int 0))) (tVar 1)) (gSub (tVar 0) (tC (.int 0)) rSetL))
  (tRet (tVar 2))))
def gt_law_is_integer (K : PySem.W.Frag) (E : XK) : TS :=
  (tRet (tAndV (tCB (rIsi K) (tCons (tVar 0) (tCons (tC (.ty "int")) tNil))) (tNotV (tCB (rIsi K) (tCons (tVar 0) (tCons (tC (.ty "bool")) tNil))))))
section
local macro_rules | `(tactic| wtm_at "g_get") => `(tactic| first | fail)
local macro_rules | `(tactic| wtm_at "g_set") => `(tactic| first | fail)
local macro_rules | `(tactic| wtm_at "g_set2") => `(tactic| first | fail)
local macro_rules | `(tactic| wtm_at "g_mt") => `(tactic| first | fail)
local macro_rules | `(tactic| wtm_at "g_call") => `(tactic| first | fail)
local macro_rules | `(tactic| wtm_at "g_eq") => `(tactic| first | fail)
local macro_rules | `(tactic| wtm_at "g_ne") => `(tactic| first
  | (with_reducible assumption) | (with_reducible exact Ne.symm (by assumption)) | (with_reducible exact ne_of_none (by assumption) (by assumption)) | (with_reducible exact (ne_of_none (by assumption) (by assumption)).symm)
  | fail)
local macro_rules | `(tactic| wtm_at "g_hp") => `(tactic| first
  | (with_reducible assumption) | (with_reducible exact upd_same) | ((with_reducible refine' up_nn ?k1 ?k2); (case k1 => with_reducible assumption); (case k2 => wtm_at "g_hp")) | ((with_reducible refine' up_k' ?k1 ?k2); (case k1 => wtm_at "g_ne"); (case k2 => wtm_at "g_hp"))
  | ((with_reducible refine' up_ko ?k1 ?k2 ?k3); (case k1 => wtm_at "g_hp"); (case k2 => wtm_at "g_hp"); (case k3 => (intro z; cases z)))
  | ((with_reducible refine' ext_get ?k1 ?k2); (case k1 => assumption); (case k2 => wtm_at "g_hp"))
  | ((with_reducible refine' extp_get ?k1 ?k2 ?k3); (case k1 => assumption); (case k2 => wtm_at "g_ne"); (case k3 => wtm_at "g_hp"))
  | ((with_reducible refine' exts_get ?k1 ?k2 ?k3); (case k1 => assumption); (case k2 => wtm_at "g_ni"); (case k3 => wtm_at "g_hp"))
  | fail)
local macro_rules | `(tactic| wtm_at "g_ni") => `(tactic| first
  | (with_reducible assumption) | (with_reducible exact ni_nil)
  | ((with_reducible refine' ni_cons ?k1 ?k2); (case k1 => wtm_at "g_ne"); (case k2 => wtm_at "g_ni"))
  | fail)
local macro_rules | `(tactic| wtm_at "g_mem") => `(tactic| first
  | (with_reducible assumption) | (with_reducible exact mem_hd)
  | ((with_reducible refine' mem_tl ?k1); (case k1 => wtm_at "g_mem"))
  | fail)
local macro_rules | `(tactic| wtm_at "g_sub") => `(tactic| first
  | (with_reducible assumption) | (with_reducible exact SubN.nil)
  | ((with_reducible refine' SubN.inn ?k1 ?k2); (case k1 => wtm_at "g_mem"); (case k2 => wtm_at "g_sub"))
  | ((with_reducible refine' SubN.new ?k1 ?k2); (case k1 => wtm_at "g_nn"); (case k2 => wtm_at "g_sub"))
  | fail)
local macro_rules | `(tactic| wtm_at "g_nn") => `(tactic| first
  | (with_reducible assumption) | ((with_reducible refine' none_up ?k1 ?k2); (case k1 => wtm_at "g_ne"); (case k2 => wtm_at "g_nn")) | ((with_reducible refine' none_dn ?k1); (case k1 => with_reducible assumption))
  | ((with_reducible refine' exts_none ?k1 ?k2); (case k1 => assumption); (case k2 => with_reducible assumption)) | ((with_reducible refine' ext_none ?k1 ?k2); (case k1 => assumption); (case k2 => with_reducible assumption))
  | fail)
local macro_rules | `(tactic| wtm_at "g_ex") => `(tactic| first
  | (with_reducible assumption) | (with_reducible exact Ext.rfl') | (with_reducible exact ExtP.rfl')
  | ((with_reducible refine' ext_up ?k1 ?k2); (case k1 => wtm_at "g_nn"); (case k2 => wtm_at "g_ex"))
  | ((with_reducible refine' ext_put ?k1 ?k2); (case k1 => wtm_at "g_nn"); (case k2 => wtm_at "g_ex"))
  | ((with_reducible refine' ext_via ?k1 ?k2); (case k1 => assumption); (case k2 => wtm_at "g_ex"))
  | ((with_reducible refine' ext_thr ?k1 ?k2 ?k3); (case k2 => assumption); (case k1 => wtm_at "g_nn"); (case k3 => wtm_at "g_ex"))
  | ((with_reducible refine' extp_put ?k1); (case k1 => wtm_at "g_ex"))
  | ((with_reducible refine' extp_up ?k1 ?k2); (case k1 => wtm_at "g_nn"); (case k2 => wtm_at "g_ex"))
  | ((with_reducible refine' extp_putn ?k1 ?k2); (case k1 => wtm_at "g_nn"); (case k2 => wtm_at "g_ex"))
  | ((with_reducible refine' extp_via ?k1 ?k2); (case k1 => assumption); (case k2 => wtm_at "g_ex"))
  | ((with_reducible refine' extp_viae ?k1 ?k2); (case k1 => assumption); (case k2 => wtm_at "g_ex"))
  | ((with_reducible refine' extp_thr ?k1 ?k2 ?k3); (case k2 => assumption); (case k1 => wtm_at "g_nn"); (case k3 => wtm_at "g_ex"))
  | (with_reducible exact ExtS.rfl')
  | ((with_reducible refine' exts_up ?k1 ?k2); (case k1 => wtm_at "g_nn"); (case k2 => wtm_at "g_ex"))
  | ((with_reducible refine' exts_put ?k1 ?k2); (case k1 => wtm_at "g_sub"); (case k2 => wtm_at "g_ex"))
  | ((with_reducible refine' exts_thrE ?k1 ?k2); (case k1 => assumption); (case k2 => wtm_at "g_ex"))
  | ((with_reducible refine' exts_thrP ?k1 ?k2 ?k3 ?k4); (case k1 => assumption); (case k2 => assumption); (case k3 => wtm_at "g_sub"); (case k4 => wtm_at "g_ex"))
  | ((with_reducible refine' exts_thr ?k1 ?k2 ?k3); (case k1 => assumption); (case k2 => wtm_at "g_sub"); (case k3 => wtm_at "g_ex"))
  | fail)
local macro_rules | `(tactic| wtm_at "g_thw") => `(tactic| first
  | (with_reducible assumption) | ((with_reducible refine' Thw.lst ?k1); (case k1 => wtm_at "g_hp")) | ((with_reducible refine' Thw.ins ?k1); (case k1 => wtm_at "g_hp"))
  | fail)
local macro_rules | `(tactic| wtm_at "g_sc") => `(tactic| first
  | (with_reducible assumption) | ((with_reducible refine' scr_new' ?k1 ?k2); (case k1 => wtm_at "g_nn"); (case k2 => wtm_at "g_sc")) | ((with_reducible refine' scr_put' ?k1 ?k2); (case k1 => wtm_at "g_thw"); (case k2 => wtm_at "g_sc"))
  | ((with_reducible refine' scr_ext ?k1 ?k2); (case k1 => assumption); (case k2 => wtm_at "g_sc")) | ((with_reducible refine' scr_extp ?k1 ?k2 ?k3); (case k1 => assumption); (case k2 => wtm_at "g_thw"); (case k3 => wtm_at "g_sc")) | ((with_reducible refine' scr_extn ?k1 ?k2 ?k3); (case k1 => assumption); (case k2 => wtm_at "g_nn"); (case k3 => wtm_at "g_sc"))
  | fail)
local macro_rules | `(tactic| wtm_at "g_sq") => `(tactic| first
  | (with_reducible assumption) | ((with_reducible refine' SqL.of ?k1); (case k1 => wtm_at "g_hp")) | ((with_reducible refine' Scr.sq ?k1); (case k1 => wtm_at "g_sc")) | ((with_reducible refine' sq_new' ?k1 ?k2); (case k1 => wtm_at "g_nn"); (case k2 => wtm_at "g_sq")) | ((with_reducible refine' sq_put' ?k1 ?k2); (case k1 => wtm_at "g_ne"); (case k2 => wtm_at "g_sq"))
  | ((with_reducible refine' sq_ext ?k1 ?k2); (case k1 => assumption); (case k2 => wtm_at "g_sq"))
  | fail)
local macro_rules | `(tactic| wtm_at "g_sqt") => `(tactic| first
  | (with_reducible assumption) | ((with_reducible refine' SqT.of' ?k1); (case k1 => wtm_at "g_hp")) | ((with_reducible refine' sqt_ext ?k1 ?k2); (case k1 => assumption); (case k2 => wtm_at "g_sqt"))
  | fail)
local macro_rules | `(tactic| wtm_at "g_st") => `(tactic| first
  | (with_reducible first
      | refine w_seq ?_ | refine w_asg ?_ | refine w_nm ?_ | refine w_next ?_ | refine w_if ?_ | refine w_ret ?_ | refine w_retN ?_ | refine w_drop ?_
      | refine w_var rfl ?_ | refine w_c ?_ | refine w_op ?_ | refine w_I0 ?_
      | refine w_eqI ?_ | refine w_neI ?_ | refine w_eqB ?_ | refine w_neB ?_ | refine w_eqS ?_ | refine w_neS ?_ | refine w_isN0 ?_ | refine w_isNi ?_ | refine w_isNr ?_ | refine w_isNb ?_ | refine w_isNs ?_ | refine w_notN0 ?_ | refine w_notNi ?_ | refine w_notNr ?_ | refine w_notNb ?_ | refine w_notNs ?_ | refine w_isN ?_ | refine w_notN ?_ | refine w_isB ?_ | refine w_notB ?_
      | refine w_un ?_ | refine w_U ?_ | refine w_chain ?_ | refine w_k ?_ | refine w_test ?_ | refine w_tB ?_ | refine w_tru ?_ | refine w_not ?_ | refine w_and ?_ | refine w_or ?_
      | refine w_andV ?_ | refine w_orV ?_ | refine w_notV ?_ | refine w_ife ?_ | refine w_nil ?_ | refine w_cons ?_ | refine w_tup ?_ | refine w_lst ?_ | refine w_small rfl ?_
      | refine w_call ?_ | refine w_mk ?_ | refine w_mt ?_ | refine w_cb ?_ | refine w_min2 ?_ | refine w_max2 ?_ | refine w_abs ?_ | refine w_int ?_
      | refine w_fld0 ?_ | refine w_bm ?_ | refine w_bm0 ?_ | refine w_sub ?_ | refine w_sfld ?_ | refine w_sfa ?_ | refine w_radd ?_ | refine w_rsub ?_ | refine w_ip ?_ | refine w_rs ?_ | refine w_pr ?_
      | refine w_lcR1 ?_ | refine w_lcR2 ?_ | refine w_lcL ?_ | refine w_lcT ?_ | refine w_yes ?_ | refine w_disp ?_ | refine w_prs ?_ | refine w_prn ?_ | refine w_dget ?_ | refine w_sl ?_ | refine w_nopart ?_ | refine w_part ?_ | refine w_pint ?_
      | refine w_for3 ?_ | refine w_mkK ?_ | refine w_forR1 ?_ | refine w_forR2 ?_ | refine w_forL ?_ | refine w_forT ?_ | refine w_aug rfl ?_ | refine w_par ?_ | refine w_brk ?_ | refine w_cont ?_
      | refine w_isi_ii ?_ | refine w_isi_ib ?_ | refine w_isi_bi ?_ | refine w_isi_bb ?_ | refine w_isi_ss ?_ | refine w_isi_is ?_ | refine w_isi_il ?_ | refine w_isi_it ?_ | refine w_isi_sl ?_ | refine w_isi_st ?_ | refine w_isi_nl ?_ | refine w_isi_nt ?_
      | refine if_T ?_ | refine if_F ?_ | refine if_nT ?_ | refine if_nF ?_)
  | ((with_reducible refine' w_lenL ?k1 ?_); (case k1 => wtm_at "g_sq"))
  | ((with_reducible refine' w_lenT ?k1 ?_); (case k1 => wtm_at "g_sqt"))
  | ((with_reducible refine' w_isi_ll ?k1 ?_); (case k1 => wtm_at "g_hp"))
  | ((with_reducible refine' w_isi_tt ?k1 ?_); (case k1 => wtm_at "g_hp"))
  | ((with_reducible refine' w_isi_lt ?k1 ?_); (case k1 => wtm_at "g_hp"))
  | ((with_reducible refine' w_isi_tl ?k1 ?_); (case k1 => wtm_at "g_hp"))
  | ((with_reducible refine' w_ll ?k1 ?k2 ?_); (case k1 => rfl); (case k2 => rfl))
  | wtm_at "g_get"
  | wtm_at "g_mt"
  | wtm_at "g_set"
  | wtm_at "g_set2"
  | wtm_at "g_call"
  | fail)
local macro_rules | `(tactic| wtm_at "g_go") => `(tactic| repeat wtm_at "g_st")
local macro_rules | `(tactic| wtm_at "g_ifo") => `(tactic| first
  | (refine if_nno rfl ?_) | (refine if_yes rfl ?_)
  | (refine if_no (by omega) ?_)
  | (refine if_yes (by omega) ?_)
  | (refine if_nno (by omega) ?_)
  | (refine if_nyes (by omega) ?_)
  | (refine if_nno (decide_eq_false (by omega)).symm ?_)
  | (refine if_nno (decide_eq_true (by omega)).symm ?_)
  | fail)
local macro_rules | `(tactic| wtm_at "g_goo") => `(tactic| repeat (first | wtm_at "g_st" | wtm_at "g_ifo"))
section
variable {K : PySem.W.Frag} {mg : Str → Option Value} {base : Heap}
theorem g_law_cell (vs : List V) (H : Hp) (Q : VK) (E : XK) (h : gsCell K vs H Q E) : gt_law_cell K E { nx := fun _ H' => Q .non H', rt := Q } (start GN_law_cell vs) H := by
  obtain ⟨a, ns, k, rfl, hS, h0, q⟩ := h
  unfold gt_law_cell
  wtm_at "g_go"
  rw [List.length_map]
  refine if_d (fun hk => ?_) (fun hk => ?_)
  · wtm_at "g_go"
    obtain ⟨z, hz⟩ : ∃ z, ns[k.toNat]? = some z := ⟨ns[k.toNat], List.getElem?_eq_getElem (by omega)⟩
    refine w_ixL hS (at_of (j := k.toNat) (v := V.int z) (by omega) (by rw [List.getElem?_map, hz]; rfl)) (q z)
  · wtm_at "g_go"
    exact q 0
theorem g_law_digit (vs : List V) (H : Hp) (Q : VK) (E : XK) (h : gsDigit K vs H Q E) : gt_law_digit K E { nx := fun _ H' => Q .non H', rt := Q } (start GN_law_digit vs) H := by
  obtain ⟨p, n, m, rfl, hp, h0, h1, q⟩ := h
  unfold gt_law_digit
  wtm_at "g_go"
  refine w_ixL (SqL.of hp) (v := .int n) rfl ?_
  wtm_at "g_go"
  refine w_I h0 ?_
  wtm_at "g_go"
  refine w_ixL (SqL.of hp) (v := .int n) rfl ?_
  wtm_at "g_go"
  refine w_I (digit_div h0 h1 _) ?_
  wtm_at "g_go"
  refine w_setL hp (j := 0) rfl ?_
  wtm_at "g_go"
  exact q _ _ (Int.emod_nonneg _ (by omega)) (Int.emod_lt_of_pos _ h0)
theorem g_law_start (vs : List V) (H : Hp) (Q : VK) (E : XK) (h : gsStart K vs H Q E) : gt_law_start K E { nx := fun _ H' => Q .non H', rt := Q } (start GN_law_start vs) H := by
  obtain ⟨c, k, rfl, q⟩ := h
  unfold gt_law_start
  wtm_at "g_go"
  refine if_d (fun h1 => ?_) (fun h1 => ?_)
  · wtm_at "g_go"
    refine if_d (fun h2 => ?_) (fun h2 => ?_)
    · wtm_at "g_go"
      refine w_I (.inr (by decide)) ?_
      wtm_at "g_go"
      refine w_I (.inr (by decide)) ?_
      wtm_at "g_go"
      refine w_I (by decide) ?_
      wtm_at "g_go"
      refine loop1 (n := 4) (fun i σ H' => H' = H ∧ ∃ (m n : Int) (v : Option V), σ = [some (.int c), some (.int k), some (.int 618970019642690137449562111), some (.int m), some (.int n), v] ∧ 0 ≤ m ∧ m < 618970019642690137449562111 ∧ 0 ≤ n ∧ n < (618970019642690137449562111 : Int) ^ i) rfl (by decide)
        ⟨rfl, _, _, _, rfl, Int.emod_nonneg _ (by decide), Int.emod_lt_of_pos _ (by decide), by decide, by decide⟩ ?_ ?_
      · rintro i σ H' hi ⟨rfl, m, n, v, rfl, m0, m1, n0, n1⟩
        obtain ⟨b1, b2⟩ := pr_pow i hi
        have e3 : (618970019642690137449562111 : Int) < 618970019642690137449562111 ^ 3 + 1 := by decide +kernel
        wtm_at "g_go"
        refine w_I (wide_mul (a := 300) (b := 300) (small_w m0 (Int.lt_trans m1 e3)) (small_w m0 (Int.lt_trans m1 e3)) (by decide) (by decide) (by decide)) ?_
        wtm_at "g_go"
        refine w_I (.inl (by decide)) ?_
        wtm_at "g_go"
        refine w_I (by decide) ?_
        wtm_at "g_go"
        refine w_I (wide_mul (a := 300) (b := 300) (small_w n0 (Int.lt_trans n1 b1)) (small_w (by decide) e3) (by decide) (by decide) (by decide)) ?_
        wtm_at "g_go"
        refine ⟨rfl, _, _, _, rfl, Int.emod_nonneg _ (by decide), Int.emod_lt_of_pos _ (by decide), ?_⟩
        rw [Int.pow_succ]
        exact num_step n0 n1 (Int.emod_nonneg _ (by decide)) (Int.emod_lt_of_pos _ (by decide))
      · rintro σ H' ⟨rfl, m, n, v, rfl, m0, m1, n0, n1⟩
        wtm_at "g_go"
        exact q n
    · wtm_at "g_go"
      exact q c
  · wtm_at "g_go"
    exact q c
end
section
variable {K : PySem.W.Frag} {mg : Str → Option Value} {base : Heap}
theorem g_law_is_integer (vs : List V) (H : Hp) (Q : VK) (E : XK) (h : gsIsInt K vs H Q E) : gt_law_is_integer K E { nx := fun _ H' => Q .non H', rt := Q } (start GN_law_is_integer vs) H := by
  obtain ⟨x, rfl, ⟨i, rfl, q⟩ | ⟨i, rfl, q⟩⟩ := h
  · unfold gt_law_is_integer
    wtm_at "g_go"
    exact q
  · unfold gt_law_is_integer
    wtm_at "g_go"
    exact q
end
end
end G

/-! a op b op c op d as a test -/
namespace G
open PySem PySem.Spec PyProof.Rows L2
def tChain3 (r r' r2 : R2) (ta tb tc td : TE) : TE := fun σ H Q => ta σ H fun x H1 => tb σ H1 fun y H2 => r x y H2 fun z H3 => ∃ k, z = .bl k ∧
  (if k = true then tc σ H3 fun u H4 => r' y u H4 fun z' H5 => ∃ k', z' = .bl k' ∧ (if k' = true then td σ H5 fun v H6 => r2 u v H6 Q else Q (.bl false) H5) else Q (.bl false) H3)
section
variable {X : Cx} {a b c d : Expr} {pos : Pos} {ta tb tc td : TE}
theorem pt_chain3 {op op' op2 : CmpOp} {r r' r2 : R2} (ho : OpR X (compareOp op) r) (ho' : OpR X (compareOp op') r') (ho2 : OpR X (compareOp op2) r2) (ha : PE X a ta) (hb : PE X b tb) (hc : PE X c tc) (hd : PE X d td)
    (hm : lastMarks [op, op', op2] [b, c, d] = false := by with_unfolding_all rfl) : PT X (.Compare a [op, op', op2] [b, c, d] pos) (tTest (tChain3 r r' r2 ta tb tc td)) := by
  refine ⟨fun pins s σ H Q I h => ?_⟩
  refine isTrue_chain (thn (ha.run pins s σ H _ I h) fun v s1 ⟨x, H1, I1, r1, q1⟩ => test_link (thn (hb.run pins s1 σ H1 _ I1 q1) fun u s2 ⟨y, H2, I2, r2, q2⟩ =>
    thn (ho pins s2 σ H2 x y v u _ I2 r1 r2 q2) fun d s3 ⟨z, H3, I3, r3, k, e, q3⟩ => ?_)) hm
  subst e
  cases r3
  refine wpAny_truthy_bool ?_
  cases k with
  | false =>
    obtain ⟨k', e', q'⟩ := q3
    cases e'
    exact ite_ff ⟨H3, I3, q'⟩
  | true =>
    refine ite_tt (test_link (thn (hc.run pins s3 σ H3 _ I3 q3) fun w' s4 ⟨z', H4, I4, r4, q4⟩ => thn (ho' pins s4 σ H4 y z' u w' _ I4 r2 r4 q4) fun d' s5 ⟨z2, H5, I5, r5, k2, e2, q5⟩ => ?_))
    subst e2
    cases r5
    refine wpAny_truthy_bool ?_
    cases k2 with
    | false =>
      obtain ⟨k', e', q'⟩ := q5
      cases e'
      exact ite_ff ⟨H5, I5, q'⟩
    | true =>
      refine ite_tt (test_last (thn (hd.run pins s5 σ H5 _ I5 q5) fun w2 s6 ⟨z6, H6, I6, r6, q6⟩ => thn (ho2 pins s6 σ H6 z' z6 w' w2 _ I6 r4 r6 q6) fun d2 s7 ⟨z7, H7, I7, r7, k7, e7, q7⟩ => ?_))
      subst e7
      cases r7
      exact wpAny_truthy_bool ⟨H7, I7, q7⟩
theorem pe_chain3 {op op' op2 : CmpOp} {r r' r2 : R2} (ho : OpR X (compareOp op) r) (ho' : OpR X (compareOp op') r') (ho2 : OpR X (compareOp op2) r2) (ha : PE X a ta) (hb : PE X b tb) (hc : PE X c tc) (hd : PE X d td)
    (hm : lastMarks [op, op', op2] [b, c, d] = false := by with_unfolding_all rfl) : PE X (.Compare a [op, op', op2] [b, c, d] pos) (tChain3 r r' r2 ta tb tc td) := by
  refine ⟨fun pins s σ H Q I h => ?_⟩
  refine Compare_chain (thn (ha.run pins s σ H _ I h) fun v s1 ⟨x, H1, I1, r1, q1⟩ => chain_link (thn (hb.run pins s1 σ H1 _ I1 q1) fun u s2 ⟨y, H2, I2, r2, q2⟩ =>
    thn (ho pins s2 σ H2 x y v u _ I2 r1 r2 q2) fun d s3 ⟨z, H3, I3, r3, k, e, q3⟩ => ?_)) hm
  subst e
  cases r3
  refine wpAny_truthy_bool ?_
  cases k with
  | false => exact ite_ff ⟨.bl false, H3, I3, rfl, q3⟩
  | true =>
    refine ite_tt (chain_link (thn (hc.run pins s3 σ H3 _ I3 q3) fun w' s4 ⟨z', H4, I4, r4, q4⟩ => thn (ho' pins s4 σ H4 y z' u w' _ I4 r2 r4 q4) fun d' s5 ⟨z2, H5, I5, r5, k2, e2, q5⟩ => ?_))
    subst e2
    cases r5
    refine wpAny_truthy_bool ?_
    cases k2 with
    | false => exact ite_ff ⟨.bl false, H5, I5, rfl, q5⟩
    | true => exact ite_tt (chain_last (thn (hd.run pins s5 σ H5 _ I5 q5) fun w2 s6 ⟨z6, H6, I6, r6, q6⟩ => ho2 pins s6 σ H6 z' z6 w' w2 Q I6 r4 r6 q6))
theorem w_chain3 {σ : L2.St} {H : Hp} {Q : VK} {r r' r2 : R2} (h : ta σ H fun x H1 => tb σ H1 fun y H2 => r x y H2 fun z H3 => ∃ k, z = .bl k ∧
  (if k = true then tc σ H3 fun u H4 => r' y u H4 fun z' H5 => ∃ k', z' = .bl k' ∧ (if k' = true then td σ H5 fun v H6 => r2 u v H6 Q else Q (.bl false) H5) else Q (.bl false) H3)) : tChain3 r r' r2 ta tb tc td σ H Q := h
end
end G

/-! comprehensions over a list whose rows are claims -/
namespace G
open PySem PySem.Spec PyProof.Rows L2
theorem mra {ps : List Addr} {i : Nat} {x : V} (h : (ps.map V.ref)[i]? = some x) : ∃ p, ps[i]? = some p ∧ V.ref p = x := by
  rw [List.getElem?_map] at h
  cases e : ps[i]? with
  | none => rw [e] at h; cases h
  | some p => rw [e] at h; cases h; exact ⟨p, rfl, rfl⟩
theorem aol {α β : Type} {as : List α} {bs : List β} {i : Nat} {a : α} (h : as[i]? = some a) (l : as.length = bs.length) : ∃ b, bs[i]? = some b := by
  have := (List.getElem?_eq_some_iff.mp h).1
  exact ⟨bs[i]'(by omega), List.getElem?_eq_getElem (by omega)⟩
theorem fltT {α : Type} {P : α → Bool} {xs : List α} {i : Nat} {x : α} (h : xs[i]? = some x) : (xs.take (i + 1)).filter P = (xs.take i).filter P ++ if P x = true then [x] else [] := by
  rw [List.take_add_one, h, List.filter_append]
  congr 1
  show [x].filter P = _
  rw [List.filter_cons, List.filter_nil]
theorem filter_tt {α : Type} (xs : List α) : xs.filter (fun _ => true) = xs := List.filter_eq_self.mpr fun _ _ => rfl
section
variable {K : PySem.W.Frag} {l : Addr} {L L1 R : List HP} {H : Hp} {Q : VK} {σ : L2.St} {c : Bool} {g : TG} {tt : TT} {te : TE} {ws : List Nat} {β γ : Type} {F : Addr → β → HP} {G : Addr → γ → HP} {ps : List Addr} {xs : List β}
/-- the heap stays -/
theorem lcSel (P : β → Bool) (gv : β → V) (hn : xs.length ≤ 1000000) (w : Own L H) (p1 : Pick L (cell c l (.lst (ps.map V.ref))) L1) (p2 : Pick L1 (big F ps xs) R)
    (ht : ∀ (i : Nat) (a : Addr) (x : β) (H1 : Hp) (X : HP) (B0 : Hp → Prop) (B1 : VK), ps[i]? = some a → xs[i]? = some x → Own (X :: cell c l (.lst (ps.map V.ref)) :: big F ps xs :: R) H1 →
      (P x = false → B0 H1) → (P x = true → B1 (gv x) H1) → g (.ref a) (wipe σ ws) H1 fun σ2 H2 => wipe σ2 ws = wipe σ ws ∧ tt σ2 H2 fun b H3 => if b = true then te σ2 H3 B1 else B0 H3)
    (q : ∀ D H', Own (pt D (.lst ((xs.filter P).map gv)) :: cell c l (.lst (ps.map V.ref)) :: big F ps xs :: R) H' → Q (.ref D) H') : rLcL K g tt te ws σ Q (.ref l) H := by
  have w1 := w.take2 p1 p2
  have hlen := w1.swap.bigLen
  refine ⟨l, rfl, ⟨_, w1.sql .here⟩, lcO (walk_list (xs := ps.map V.ref)) (fun i A L => A = ((xs.take i).filter P).map gv ∧ L = cell c l (.lst (ps.map V.ref)) :: big F ps xs :: R) w1 ⟨rfl, rfl⟩ ?_ ?_ ?_⟩
  · rintro i A L D H' ⟨rfl, rfl⟩ w'
    exact w'.sql (.next .here)
  · rintro i y D A L H1 H2 hi ⟨rfl, rfl⟩ w' ⟨rfl, hy⟩
    obtain ⟨a, ha, rfl⟩ := mra hy
    obtain ⟨x, hx⟩ := aol ha hlen
    have hil := (List.getElem?_eq_some_iff.mp hx).1
    refine ht i a x _ _ _ _ ha hx w' (fun hP => ?_) (fun hP => ?_)
    · refine lc_skipO w' .here ⟨?_, rfl⟩
      rw [fltT hx, if_neg (by rw [hP]; decide), List.append_nil]
    · refine lc_addO w' .here (by rw [List.length_map]; exact small16l (Nat.lt_of_le_of_lt (List.length_filter_le _ _) (by rw [List.length_take]; omega))) ⟨?_, rfl⟩
      rw [fltT hx, if_pos hP, List.map_append]
      rfl
  · rintro D A L H1 ⟨rfl, rfl⟩ w'
    rw [List.length_map, hlen, List.take_length] at w'
    exact q D H1 w'
/-- new objects, one for each -/
theorem lcBig (P : β → Bool) (gv : β → γ) (G : Addr → γ → HP) (hn : xs.length ≤ 1000000) (w : Own L H) (p1 : Pick L (cell c l (.lst (ps.map V.ref))) L1) (p2 : Pick L1 (big F ps xs) R)
    (ht : ∀ (i : Nat) (a : Addr) (x : β) (H1 : Hp) (X Y : HP) (B0 : Hp → Prop) (B1 : VK), ps[i]? = some a → xs[i]? = some x → Own (X :: Y :: cell c l (.lst (ps.map V.ref)) :: big F ps xs :: R) H1 →
      (P x = false → ∀ H2, Own (X :: Y :: cell c l (.lst (ps.map V.ref)) :: big F ps xs :: R) H2 → B0 H2) → (P x = true → ∀ H2 t, Own (G t (gv x) :: X :: Y :: cell c l (.lst (ps.map V.ref)) :: big F ps xs :: R) H2 → B1 (.ref t) H2) →
      g (.ref a) (wipe σ ws) H1 fun σ2 H2 => wipe σ2 ws = wipe σ ws ∧ tt σ2 H2 fun b H3 => if b = true then te σ2 H3 B1 else B0 H3)
    (q : ∀ D ts H', Own (pt D (.lst (ts.map V.ref)) :: big G ts ((xs.filter P).map gv) :: cell c l (.lst (ps.map V.ref)) :: big F ps xs :: R) H' → Q (.ref D) H') : rLcL K g tt te ws σ Q (.ref l) H := by
  have w1 := w.take2 p1 p2
  have hlen := w1.swap.bigLen
  refine ⟨l, rfl, ⟨_, w1.sql .here⟩, lcO (walk_list (xs := ps.map V.ref)) (fun i A L => ∃ ts : List Addr, A = ts.map V.ref ∧ ts.length ≤ i ∧ L = big G ts (((xs.take i).filter P).map gv) :: cell c l (.lst (ps.map V.ref)) :: big F ps xs :: R) (Own.bigNil w1) ⟨[], rfl, Nat.le_refl _, rfl⟩ ?_ ?_ ?_⟩
  · rintro i A L D H' ⟨ts, rfl, hts, rfl⟩ w'
    exact w'.sql (.next (.next .here))
  · rintro i y D A L H1 H2 hi ⟨ts, rfl, hts, rfl⟩ w' ⟨rfl, hy⟩
    obtain ⟨a, ha, rfl⟩ := mra hy
    obtain ⟨x, hx⟩ := aol ha hlen
    have hil := (List.getElem?_eq_some_iff.mp hx).1
    refine ht i a x _ _ _ _ _ ha hx w' (fun hP H2 w2 => ?_) (fun hP H2 t w2 => ?_)
    · refine lc_skipO w2 .here ⟨ts, rfl, Nat.le_succ_of_le hts, ?_⟩
      rw [fltT hx, if_neg (by rw [hP]; decide), List.append_nil]
    · have w3 : Own (big G ts (((xs.take i).filter P).map gv) :: G t (gv x) :: pt D (.lst (ts.map V.ref)) :: cell c l (.lst (ps.map V.ref)) :: big F ps xs :: R) H2 := Own.sel w2 (Sel.cons (.next (.next .here)) .rf)
      have w4 := w3.bigSnoc.swap
      refine lc_addO w4 .here (by rw [List.length_map]; exact small16l (by omega)) ⟨ts ++ [t], by rw [List.map_append]; rfl, by rw [List.length_append]; simp only [List.length_cons, List.length_nil]; omega, ?_⟩
      rw [fltT hx, if_pos hP, List.map_append]
      rfl
  · rintro D A L H1 ⟨ts, rfl, hts, rfl⟩ w'
    rw [List.length_map, hlen, List.take_length] at w'
    exact q D ts H1 w'
/-- some of a row of claims that are only read -/
theorem Own.bigPickAt [rc : ∀ x y, Ro (F x y)] {d1 : Addr} {d2 : β} {as : List Addr} {bs : List β} {L : List HP} : ∀ {ns : List Nat}, (∀ n ∈ ns, n < as.length) → Own (big F as bs :: L) H → Own (big F (ns.map (fun n => as.getD n d1)) (ns.map (fun n => bs.getD n d2)) :: big F as bs :: L) H
  | [], _, w => w.bigNil
  | n :: ns, h, w => by
    have ih := Own.bigPickAt (d1 := d1) (d2 := d2) (ns := ns) (fun m hm => h m (List.mem_cons_of_mem _ hm)) w
    have hl := w.bigLen
    have hn := h n List.mem_cons_self
    have w2 := (ih.swap).bigAt (i := n) (List.getElem?_eq_getElem hn) (List.getElem?_eq_getElem (by omega))
    have e1 : as[n] = as.getD n d1 := by rw [List.getD_eq_getElem?_getD, List.getElem?_eq_getElem hn]; rfl
    have e2 : bs[n]'(by omega) = bs.getD n d2 := by rw [List.getD_eq_getElem?_getD, List.getElem?_eq_getElem (by omega)]; rfl
    rw [e1, e2] at w2
    exact Own.bigCons (Own.sel w2 (Sel.cons .here (Sel.cons (.next .here) .rf)))
end
section
variable {K : PySem.W.Frag} {a b : Addr} {L : List HP} {H : Hp} {Q : VK} {xs ys : List V} {lo hi : Option Int}
theorem k_slT (w : Own L H) (g : Got L a (.tup xs)) (ne : (Nat.beq (HT.sIx xs.length 0 lo) 0 && Nat.beq (HT.sIx xs.length xs.length hi) xs.length) = false) (e : cutV xs lo hi = ys) (q : ∀ p H', Own (ro p (.tup ys) :: L) H' → Q (.ref p) H') : rSlT K (.ref a) lo hi H Q :=
  ⟨a, xs, rfl, SqT.of' (w.get g), (fun ⟨h1, h2⟩ => by rw [h1, h2, Nat.beq_refl, Nat.beq_refl] at ne; cases ne), fun p hp => by rw [e]; exact q p _ (w.newT hp)⟩
theorem k_catT (w : Own L H) (g1 : Got L a (.tup xs)) (g2 : Got L b (.tup ys)) (hx : xs.isEmpty = false) (hy : ys.isEmpty = false) (hl : Nat.ble (xs.length + ys.length) 1000 = true) (q : ∀ p H', Own (ro p (.tup (xs ++ ys)) :: L) H' → Q (.ref p) H') : rCatT K (.ref a) (.ref b) H Q :=
  ⟨a, b, xs, ys, rfl, rfl, SqT.of' (w.get g1), SqT.of' (w.get g2), (fun e => by rw [e] at hx; cases hx), Nat.le_trans (Nat.le_of_ble_eq_true hl) (by decide), (fun e => by rw [e] at hy; cases hy), fun _ p hp => q p _ (w.newT hp)⟩
end
end G

namespace K89
open PySem PySem.Spec PyProof.Rows L2 G

def top (i : Nat) : Stmt := PySem.Challenge.pw_throughway_k89_lines_keep_their_rules.main.body.getD i (.Pass ⟨0, 0, 0, 0⟩)

abbrev s_Bucket_init : Stmt := inClass (top 5) 0
abbrev N_Bucket_init : List Str := ["self", "rate", "depth"]
abbrev P_Bucket_init : List Str := ["self", "rate", "depth"]

theorem sc_Bucket_init : FnScope N_Bucket_init P_Bucket_init (defScope s_Bucket_init) := ⟨rfl, rfl, rfl, by decide +kernel, rfl, by decide +kernel, by decide +kernel⟩

abbrev D_Bucket_init : He.DefD := ⟨("Bucket", some "__init__"), "__init__", "Bucket.__init__", defArgs s_Bucket_init, defBody s_Bucket_init, defScope s_Bucket_init, [], []⟩

abbrev s_Bucket_tick : Stmt := inClass (top 5) 1
abbrev N_Bucket_tick : List Str := ["self"]
abbrev P_Bucket_tick : List Str := ["self"]

theorem sc_Bucket_tick : FnScope N_Bucket_tick P_Bucket_tick (defScope s_Bucket_tick) := ⟨rfl, rfl, rfl, by decide +kernel, rfl, by decide +kernel, by decide +kernel⟩

abbrev D_Bucket_tick : He.DefD := ⟨("Bucket", some "tick"), "tick", "Bucket.tick", defArgs s_Bucket_tick, defBody s_Bucket_tick, defScope s_Bucket_tick, [], []⟩

abbrev s_Bucket_take : Stmt := inClass (top 5) 3
abbrev N_Bucket_take : List Str := ["self", "size"]
abbrev P_Bucket_take : List Str := ["self", "size"]

theorem sc_Bucket_take : FnScope N_Bucket_take P_Bucket_take (defScope s_Bucket_take) := ⟨rfl, rfl, rfl, by decide +kernel, rfl, by decide +kernel, by decide +kernel⟩

abbrev D_Bucket_take : He.DefD := ⟨("Bucket", some "take"), "take", "Bucket.take", defArgs s_Bucket_take, defBody s_Bucket_take, defScope s_Bucket_take, [], []⟩

abbrev s_Bucket_fork : Stmt := inClass (top 5) 4
abbrev N_Bucket_fork : List Str := ["self", "double"]
abbrev P_Bucket_fork : List Str := ["self"]

theorem sc_Bucket_fork : FnScope N_Bucket_fork P_Bucket_fork (defScope s_Bucket_fork) := ⟨rfl, rfl, rfl, by decide +kernel, rfl, by decide +kernel, by decide +kernel⟩

abbrev D_Bucket_fork : He.DefD := ⟨("Bucket", some "fork"), "fork", "Bucket.fork", defArgs s_Bucket_fork, defBody s_Bucket_fork, defScope s_Bucket_fork, [], []⟩

abbrev s_Waiting_init : Stmt := inClass (top 7) 0
abbrev N_Waiting_init : List Str := ["self", "key", "item", "weight"]
abbrev P_Waiting_init : List Str := ["self", "key", "item", "weight"]

theorem sc_Waiting_init : FnScope N_Waiting_init P_Waiting_init (defScope s_Waiting_init) := ⟨rfl, rfl, rfl, by decide +kernel, rfl, by decide +kernel, by decide +kernel⟩

abbrev D_Waiting_init : He.DefD := ⟨("Waiting", some "__init__"), "__init__", "Waiting.__init__", defArgs s_Waiting_init, defBody s_Waiting_init, defScope s_Waiting_init, [], []⟩

abbrev s_Flow_init : Stmt := inClass (top 8) 0
abbrev N_Flow_init : List Str := ["self", "key"]
abbrev P_Flow_init : List Str := ["self", "key"]

theorem sc_Flow_init : FnScope N_Flow_init P_Flow_init (defScope s_Flow_init) := ⟨rfl, rfl, rfl, by decide +kernel, rfl, by decide +kernel, by decide +kernel⟩

abbrev D_Flow_init : He.DefD := ⟨("Flow", some "__init__"), "__init__", "Flow.__init__", defArgs s_Flow_init, defBody s_Flow_init, defScope s_Flow_init, [], []⟩

abbrev s_Flow_add : Stmt := inClass (top 8) 1
abbrev N_Flow_add : List Str := ["self", "waiting"]
abbrev P_Flow_add : List Str := ["self", "waiting"]

theorem sc_Flow_add : FnScope N_Flow_add P_Flow_add (defScope s_Flow_add) := ⟨rfl, rfl, rfl, by decide +kernel, rfl, by decide +kernel, by decide +kernel⟩

abbrev D_Flow_add : He.DefD := ⟨("Flow", some "add"), "add", "Flow.add", defArgs s_Flow_add, defBody s_Flow_add, defScope s_Flow_add, [], []⟩

abbrev s_Flow_take : Stmt := inClass (top 8) 2
abbrev N_Flow_take : List Str := ["self", "at", "waiting"]
abbrev P_Flow_take : List Str := ["self", "at"]

theorem sc_Flow_take : FnScope N_Flow_take P_Flow_take (defScope s_Flow_take) := ⟨rfl, rfl, rfl, by decide +kernel, rfl, by decide +kernel, by decide +kernel⟩

abbrev D_Flow_take : He.DefD := ⟨("Flow", some "take"), "take", "Flow.take", defArgs s_Flow_take, defBody s_Flow_take, defScope s_Flow_take, [], []⟩

abbrev s_Flow_fork : Stmt := inClass (top 8) 3
abbrev N_Flow_fork : List Str := ["self", "double"]
abbrev P_Flow_fork : List Str := ["self"]

theorem sc_Flow_fork : FnScope N_Flow_fork P_Flow_fork (defScope s_Flow_fork) := ⟨rfl, rfl, rfl, by decide +kernel, rfl, by decide +kernel, by decide +kernel⟩

abbrev D_Flow_fork : He.DefD := ⟨("Flow", some "fork"), "fork", "Flow.fork", defArgs s_Flow_fork, defBody s_Flow_fork, defScope s_Flow_fork, [], []⟩

abbrev s_FairQueue_init : Stmt := inClass (top 9) 0
abbrev N_FairQueue_init : List Str := ["self", "limit", "quantum"]
abbrev P_FairQueue_init : List Str := ["self", "limit", "quantum"]

theorem sc_FairQueue_init : FnScope N_FairQueue_init P_FairQueue_init (defScope s_FairQueue_init) := ⟨rfl, rfl, rfl, by decide +kernel, rfl, by decide +kernel, by decide +kernel⟩

abbrev D_FairQueue_init : He.DefD := ⟨("FairQueue", some "__init__"), "__init__", "FairQueue.__init__", defArgs s_FairQueue_init, defBody s_FairQueue_init, defScope s_FairQueue_init, [], []⟩

abbrev s_FairQueue_count : Stmt := inClass (top 9) 1
abbrev N_FairQueue_count : List Str := ["self", "flow"]
abbrev P_FairQueue_count : List Str := ["self"]

theorem sc_FairQueue_count : FnScope N_FairQueue_count P_FairQueue_count (defScope s_FairQueue_count) := ⟨rfl, rfl, rfl, by decide +kernel, rfl, by decide +kernel, by decide +kernel⟩

abbrev D_FairQueue_count : He.DefD := ⟨("FairQueue", some "count"), "count", "FairQueue.count", defArgs s_FairQueue_count, defBody s_FairQueue_count, defScope s_FairQueue_count, [], []⟩

abbrev s_FairQueue_octets : Stmt := inClass (top 9) 2
abbrev N_FairQueue_octets : List Str := ["self", "flow"]
abbrev P_FairQueue_octets : List Str := ["self"]

theorem sc_FairQueue_octets : FnScope N_FairQueue_octets P_FairQueue_octets (defScope s_FairQueue_octets) := ⟨rfl, rfl, rfl, by decide +kernel, rfl, by decide +kernel, by decide +kernel⟩

abbrev D_FairQueue_octets : He.DefD := ⟨("FairQueue", some "octets"), "octets", "FairQueue.octets", defArgs s_FairQueue_octets, defBody s_FairQueue_octets, defScope s_FairQueue_octets, [], []⟩

abbrev s_FairQueue_flow_of : Stmt := inClass (top 9) 4
abbrev N_FairQueue_flow_of : List Str := ["self", "key", "flow"]
abbrev P_FairQueue_flow_of : List Str := ["self", "key"]

theorem sc_FairQueue_flow_of : FnScope N_FairQueue_flow_of P_FairQueue_flow_of (defScope s_FairQueue_flow_of) := ⟨rfl, rfl, rfl, by decide +kernel, rfl, by decide +kernel, by decide +kernel⟩

abbrev D_FairQueue_flow_of : He.DefD := ⟨("FairQueue", some "flow_of"), "flow_of", "FairQueue.flow_of", defArgs s_FairQueue_flow_of, defBody s_FairQueue_flow_of, defScope s_FairQueue_flow_of, [], []⟩

abbrev s_FairQueue_remove_flow : Stmt := inClass (top 9) 5
abbrev N_FairQueue_remove_flow : List Str := ["self", "at"]
abbrev P_FairQueue_remove_flow : List Str := ["self", "at"]

theorem sc_FairQueue_remove_flow : FnScope N_FairQueue_remove_flow P_FairQueue_remove_flow (defScope s_FairQueue_remove_flow) := ⟨rfl, rfl, rfl, by decide +kernel, rfl, by decide +kernel, by decide +kernel⟩

abbrev D_FairQueue_remove_flow : He.DefD := ⟨("FairQueue", some "remove_flow"), "remove_flow", "FairQueue.remove_flow", defArgs s_FairQueue_remove_flow, defBody s_FairQueue_remove_flow, defScope s_FairQueue_remove_flow, [], []⟩

abbrev s_FairQueue_put : Stmt := inClass (top 9) 6
abbrev N_FairQueue_put : List Str := ["self", "key", "item", "weight", "waiting", "flow", "dropped"]
abbrev P_FairQueue_put : List Str := ["self", "key", "item", "weight"]

theorem sc_FairQueue_put : FnScope N_FairQueue_put P_FairQueue_put (defScope s_FairQueue_put) := ⟨rfl, rfl, rfl, by decide +kernel, rfl, by decide +kernel, by decide +kernel⟩

abbrev D_FairQueue_put : He.DefD := ⟨("FairQueue", some "put"), "put", "FairQueue.put", defArgs s_FairQueue_put, defBody s_FairQueue_put, defScope s_FairQueue_put, [], []⟩

abbrev s_FairQueue_drop : Stmt := inClass (top 9) 7
abbrev N_FairQueue_drop : List Str := ["self", "most", "at", "flow", "waiting"]
abbrev P_FairQueue_drop : List Str := ["self"]

theorem sc_FairQueue_drop : FnScope N_FairQueue_drop P_FairQueue_drop (defScope s_FairQueue_drop) := ⟨rfl, rfl, rfl, by decide +kernel, rfl, by decide +kernel, by decide +kernel⟩

abbrev D_FairQueue_drop : He.DefD := ⟨("FairQueue", some "drop"), "drop", "FairQueue.drop", defArgs s_FairQueue_drop, defBody s_FairQueue_drop, defScope s_FairQueue_drop, [], []⟩

abbrev s_FairQueue_turn : Stmt := inClass (top 9) 8
abbrev N_FairQueue_turn : List Str := ["self", "flow"]
abbrev P_FairQueue_turn : List Str := ["self"]

theorem sc_FairQueue_turn : FnScope N_FairQueue_turn P_FairQueue_turn (defScope s_FairQueue_turn) := ⟨rfl, rfl, rfl, by decide +kernel, rfl, by decide +kernel, by decide +kernel⟩

abbrev D_FairQueue_turn : He.DefD := ⟨("FairQueue", some "turn"), "turn", "FairQueue.turn", defArgs s_FairQueue_turn, defBody s_FairQueue_turn, defScope s_FairQueue_turn, [], []⟩

abbrev s_FairQueue_next_up : Stmt := inClass (top 9) 9
abbrev N_FairQueue_next_up : List Str := ["self"]
abbrev P_FairQueue_next_up : List Str := ["self"]

theorem sc_FairQueue_next_up : FnScope N_FairQueue_next_up P_FairQueue_next_up (defScope s_FairQueue_next_up) := ⟨rfl, rfl, rfl, by decide +kernel, rfl, by decide +kernel, by decide +kernel⟩

abbrev D_FairQueue_next_up : He.DefD := ⟨("FairQueue", some "next_up"), "next_up", "FairQueue.next_up", defArgs s_FairQueue_next_up, defBody s_FairQueue_next_up, defScope s_FairQueue_next_up, [], []⟩

abbrev s_FairQueue_take : Stmt := inClass (top 9) 10
abbrev N_FairQueue_take : List Str := ["self", "waiting", "flow"]
abbrev P_FairQueue_take : List Str := ["self"]

theorem sc_FairQueue_take : FnScope N_FairQueue_take P_FairQueue_take (defScope s_FairQueue_take) := ⟨rfl, rfl, rfl, by decide +kernel, rfl, by decide +kernel, by decide +kernel⟩

abbrev D_FairQueue_take : He.DefD := ⟨("FairQueue", some "take"), "take", "FairQueue.take", defArgs s_FairQueue_take, defBody s_FairQueue_take, defScope s_FairQueue_take, [], []⟩

abbrev s_FairQueue_take_all : Stmt := inClass (top 9) 11
abbrev N_FairQueue_take_all : List Str := ["self", "rows", "flow"]
abbrev P_FairQueue_take_all : List Str := ["self"]

theorem sc_FairQueue_take_all : FnScope N_FairQueue_take_all P_FairQueue_take_all (defScope s_FairQueue_take_all) := ⟨rfl, rfl, rfl, by decide +kernel, rfl, by decide +kernel, by decide +kernel⟩

abbrev D_FairQueue_take_all : He.DefD := ⟨("FairQueue", some "take_all"), "take_all", "FairQueue.take_all", defArgs s_FairQueue_take_all, defBody s_FairQueue_take_all, defScope s_FairQueue_take_all, [], []⟩

abbrev s_FairQueue_fork : Stmt := inClass (top 9) 12
abbrev N_FairQueue_fork : List Str := ["self", "double", "flow"]
abbrev P_FairQueue_fork : List Str := ["self"]

theorem sc_FairQueue_fork : FnScope N_FairQueue_fork P_FairQueue_fork (defScope s_FairQueue_fork) := ⟨rfl, rfl, rfl, by decide +kernel, rfl, by decide +kernel, by decide +kernel⟩

abbrev D_FairQueue_fork : He.DefD := ⟨("FairQueue", some "fork"), "fork", "FairQueue.fork", defArgs s_FairQueue_fork, defBody s_FairQueue_fork, defScope s_FairQueue_fork, [], []⟩

abbrev s_LinkOptions_init : Stmt := inClass (top 17) 0
abbrev N_LinkOptions_init : List Str := ["self", "cost", "size", "rate", "depth", "limit", "delay"]
abbrev P_LinkOptions_init : List Str := ["self", "cost", "size", "rate", "depth", "limit", "delay"]

theorem sc_LinkOptions_init : FnScope N_LinkOptions_init P_LinkOptions_init (defScope s_LinkOptions_init) := ⟨rfl, rfl, rfl, by decide +kernel, rfl, by decide +kernel, by decide +kernel⟩

abbrev D_LinkOptions_init : He.DefD := ⟨("LinkOptions", some "__init__"), "__init__", "LinkOptions.__init__", defArgs s_LinkOptions_init, defBody s_LinkOptions_init, defScope s_LinkOptions_init, [], []⟩

abbrev s_Line_init : Stmt := inClass (top 18) 0
abbrev N_Line_init : List Str := ["self", "options"]
abbrev P_Line_init : List Str := ["self", "options"]

theorem sc_Line_init : FnScope N_Line_init P_Line_init (defScope s_Line_init) := ⟨rfl, rfl, rfl, by decide +kernel, rfl, by decide +kernel, by decide +kernel⟩

abbrev D_Line_init : He.DefD := ⟨("Line", some "__init__"), "__init__", "Line.__init__", defArgs s_Line_init, defBody s_Line_init, defScope s_Line_init, [], []⟩

abbrev s_Line_count : Stmt := inClass (top 18) 1
abbrev N_Line_count : List Str := ["self"]
abbrev P_Line_count : List Str := ["self"]

theorem sc_Line_count : FnScope N_Line_count P_Line_count (defScope s_Line_count) := ⟨rfl, rfl, rfl, by decide +kernel, rfl, by decide +kernel, by decide +kernel⟩

abbrev D_Line_count : He.DefD := ⟨("Line", some "count"), "count", "Line.count", defArgs s_Line_count, defBody s_Line_count, defScope s_Line_count, [], []⟩

abbrev s_Line_put : Stmt := inClass (top 18) 2
abbrev N_Line_put : List Str := ["self", "frame", "waiting"]
abbrev P_Line_put : List Str := ["self", "frame"]

theorem sc_Line_put : FnScope N_Line_put P_Line_put (defScope s_Line_put) := ⟨rfl, rfl, rfl, by decide +kernel, rfl, by decide +kernel, by decide +kernel⟩

abbrev D_Line_put : He.DefD := ⟨("Line", some "put"), "put", "Line.put", defArgs s_Line_put, defBody s_Line_put, defScope s_Line_put, [], []⟩

abbrev s_Line_tick : Stmt := inClass (top 18) 3
abbrev N_Line_tick : List Str := ["self", "now", "waiting", "arrived", "due", "frame"]
abbrev P_Line_tick : List Str := ["self", "now"]

theorem sc_Line_tick : FnScope N_Line_tick P_Line_tick (defScope s_Line_tick) := ⟨rfl, rfl, rfl, by decide +kernel, rfl, by decide +kernel, by decide +kernel⟩

abbrev D_Line_tick : He.DefD := ⟨("Line", some "tick"), "tick", "Line.tick", defArgs s_Line_tick, defBody s_Line_tick, defScope s_Line_tick, [], []⟩

abbrev s_Line_cut : Stmt := inClass (top 18) 4
abbrev N_Line_cut : List Str := ["self", "waiting", "row", "flying", "_", "frame"]
abbrev P_Line_cut : List Str := ["self"]

theorem sc_Line_cut : FnScope N_Line_cut P_Line_cut (defScope s_Line_cut) := ⟨rfl, rfl, rfl, by decide +kernel, rfl, by decide +kernel, by decide +kernel⟩

abbrev D_Line_cut : He.DefD := ⟨("Line", some "cut"), "cut", "Line.cut", defArgs s_Line_cut, defBody s_Line_cut, defScope s_Line_cut, [], []⟩

abbrev s_Line_join : Stmt := inClass (top 18) 5
abbrev N_Line_join : List Str := ["self"]
abbrev P_Line_join : List Str := ["self"]

theorem sc_Line_join : FnScope N_Line_join P_Line_join (defScope s_Line_join) := ⟨rfl, rfl, rfl, by decide +kernel, rfl, by decide +kernel, by decide +kernel⟩

abbrev D_Line_join : He.DefD := ⟨("Line", some "join"), "join", "Line.join", defArgs s_Line_join, defBody s_Line_join, defScope s_Line_join, [], []⟩

abbrev s_Line_fork : Stmt := inClass (top 18) 6
abbrev N_Line_fork : List Str := ["self", "double"]
abbrev P_Line_fork : List Str := ["self"]

theorem sc_Line_fork : FnScope N_Line_fork P_Line_fork (defScope s_Line_fork) := ⟨rfl, rfl, rfl, by decide +kernel, rfl, by decide +kernel, by decide +kernel⟩

abbrev D_Line_fork : He.DefD := ⟨("Line", some "fork"), "fork", "Line.fork", defArgs s_Line_fork, defBody s_Line_fork, defScope s_Line_fork, [], []⟩

abbrev s_Frame_init : Stmt := inClass (top 22) 0
abbrev N_Frame_init : List Str := ["self", "kind", "sender", "target", "octets", "birth", "hops", "marked"]
abbrev P_Frame_init : List Str := ["self", "kind", "sender", "target", "octets", "birth", "hops", "marked"]

theorem sc_Frame_init : FnScope N_Frame_init P_Frame_init (defScope s_Frame_init) := ⟨rfl, rfl, rfl, by decide +kernel, rfl, by decide +kernel, by decide +kernel⟩

abbrev D_Frame_init : He.DefD := ⟨("Frame", some "__init__"), "__init__", "Frame.__init__", defArgs s_Frame_init, defBody s_Frame_init, defScope s_Frame_init, [], [("hops", .int 15), ("marked", .bl false)]⟩

abbrev s_Frame__eq : Stmt := inClass (top 22) 1
abbrev N_Frame__eq : List Str := ["self", "other"]
abbrev P_Frame__eq : List Str := ["self", "other"]

theorem sc_Frame__eq : FnScope N_Frame__eq P_Frame__eq (defScope s_Frame__eq) := ⟨rfl, rfl, rfl, by decide +kernel, rfl, by decide +kernel, by decide +kernel⟩

abbrev D_Frame__eq : He.DefD := ⟨("Frame", some "__eq__"), "__eq__", "Frame.__eq__", defArgs s_Frame__eq, defBody s_Frame__eq, defScope s_Frame__eq, [], []⟩

abbrev s_Frame_as_row : Stmt := inClass (top 22) 2
abbrev N_Frame_as_row : List Str := ["self"]
abbrev P_Frame_as_row : List Str := ["self"]

theorem sc_Frame_as_row : FnScope N_Frame_as_row P_Frame_as_row (defScope s_Frame_as_row) := ⟨rfl, rfl, rfl, by decide +kernel, rfl, by decide +kernel, by decide +kernel⟩

abbrev D_Frame_as_row : He.DefD := ⟨("Frame", some "as_row"), "as_row", "Frame.as_row", defArgs s_Frame_as_row, defBody s_Frame_as_row, defScope s_Frame_as_row, [], []⟩

abbrev s_Frame_weight : Stmt := inClass (top 22) 3
abbrev N_Frame_weight : List Str := ["self"]
abbrev P_Frame_weight : List Str := ["self"]

theorem sc_Frame_weight : FnScope N_Frame_weight P_Frame_weight (defScope s_Frame_weight) := ⟨rfl, rfl, rfl, by decide +kernel, rfl, by decide +kernel, by decide +kernel⟩

abbrev D_Frame_weight : He.DefD := ⟨("Frame", some "weight"), "weight", "Frame.weight", defArgs s_Frame_weight, defBody s_Frame_weight, defScope s_Frame_weight, [], []⟩

abbrev s_Frame_flow_key : Stmt := inClass (top 22) 4
abbrev N_Frame_flow_key : List Str := ["self"]
abbrev P_Frame_flow_key : List Str := ["self"]

theorem sc_Frame_flow_key : FnScope N_Frame_flow_key P_Frame_flow_key (defScope s_Frame_flow_key) := ⟨rfl, rfl, rfl, by decide +kernel, rfl, by decide +kernel, by decide +kernel⟩

abbrev D_Frame_flow_key : He.DefD := ⟨("Frame", some "flow_key"), "flow_key", "Frame.flow_key", defArgs s_Frame_flow_key, defBody s_Frame_flow_key, defScope s_Frame_flow_key, [], []⟩

abbrev s_Frame_with_mark : Stmt := inClass (top 22) 5
abbrev N_Frame_with_mark : List Str := ["self"]
abbrev P_Frame_with_mark : List Str := ["self"]

theorem sc_Frame_with_mark : FnScope N_Frame_with_mark P_Frame_with_mark (defScope s_Frame_with_mark) := ⟨rfl, rfl, rfl, by decide +kernel, rfl, by decide +kernel, by decide +kernel⟩

abbrev D_Frame_with_mark : He.DefD := ⟨("Frame", some "with_mark"), "with_mark", "Frame.with_mark", defArgs s_Frame_with_mark, defBody s_Frame_with_mark, defScope s_Frame_with_mark, [], []⟩

abbrev s_Frame_after_hop : Stmt := inClass (top 22) 6
abbrev N_Frame_after_hop : List Str := ["self", "octets"]
abbrev P_Frame_after_hop : List Str := ["self", "octets"]

theorem sc_Frame_after_hop : FnScope N_Frame_after_hop P_Frame_after_hop (defScope s_Frame_after_hop) := ⟨rfl, rfl, rfl, by decide +kernel, rfl, by decide +kernel, by decide +kernel⟩

abbrev D_Frame_after_hop : He.DefD := ⟨("Frame", some "after_hop"), "after_hop", "Frame.after_hop", defArgs s_Frame_after_hop, defBody s_Frame_after_hop, defScope s_Frame_after_hop, [], []⟩

abbrev s_law_cell : Stmt := top 24
abbrev N_law_cell : List Str := ["script", "k"]
abbrev P_law_cell : List Str := ["script", "k"]

theorem sc_law_cell : FnScope N_law_cell P_law_cell (defScope s_law_cell) := ⟨rfl, rfl, rfl, by decide +kernel, rfl, by decide +kernel, by decide +kernel⟩

abbrev D_law_cell : He.DefD := ⟨("_law_cell", none), "_law_cell", "_law_cell", defArgs s_law_cell, defBody s_law_cell, defScope s_law_cell, [], []⟩

abbrev s_law_start : Stmt := top 25
abbrev N_law_start : List Str := ["cell", "k", "prime", "mixed", "number", "turn"]
abbrev P_law_start : List Str := ["cell", "k"]

theorem sc_law_start : FnScope N_law_start P_law_start (defScope s_law_start) := ⟨rfl, rfl, rfl, by decide +kernel, rfl, by decide +kernel, by decide +kernel⟩

abbrev D_law_start : He.DefD := ⟨("_law_start", none), "_law_start", "_law_start", defArgs s_law_start, defBody s_law_start, defScope s_law_start, [], []⟩

abbrev s_law_digit : Stmt := top 26
abbrev N_law_digit : List Str := ["state", "many", "digit"]
abbrev P_law_digit : List Str := ["state", "many"]

theorem sc_law_digit : FnScope N_law_digit P_law_digit (defScope s_law_digit) := ⟨rfl, rfl, rfl, by decide +kernel, rfl, by decide +kernel, by decide +kernel⟩

abbrev D_law_digit : He.DefD := ⟨("_law_digit", none), "_law_digit", "_law_digit", defArgs s_law_digit, defBody s_law_digit, defScope s_law_digit, [], []⟩

abbrev s_law_frame : Stmt := top 27
abbrev N_law_frame : List Str := ["number", "state", "now", "octets", "k", "key"]
abbrev P_law_frame : List Str := ["number", "state", "now"]

theorem sc_law_frame : FnScope N_law_frame P_law_frame (defScope s_law_frame) := ⟨rfl, rfl, rfl, by decide +kernel, rfl, by decide +kernel, by decide +kernel⟩

abbrev D_law_frame : He.DefD := ⟨("_law_frame", none), "_law_frame", "_law_frame", defArgs s_law_frame, defBody s_law_frame, defScope s_law_frame, [], []⟩

abbrev s_law_values : Stmt := top 28
abbrev N_law_values : List Str := ["frame"]
abbrev P_law_values : List Str := ["frame"]

theorem sc_law_values : FnScope N_law_values P_law_values (defScope s_law_values) := ⟨rfl, rfl, rfl, by decide +kernel, rfl, by decide +kernel, by decide +kernel⟩

abbrev D_law_values : He.DefD := ⟨("_law_values", none), "_law_values", "_law_values", defArgs s_law_values, defBody s_law_values, defScope s_law_values, [], []⟩

abbrev s_law_row : Stmt := top 29
abbrev N_law_row : List Str := ["frames", "frame"]
abbrev P_law_row : List Str := ["frames"]

theorem sc_law_row : FnScope N_law_row P_law_row (defScope s_law_row) := ⟨rfl, rfl, rfl, by decide +kernel, rfl, by decide +kernel, by decide +kernel⟩

abbrev D_law_row : He.DefD := ⟨("_law_row", none), "_law_row", "_law_row", defArgs s_law_row, defBody s_law_row, defScope s_law_row, [], []⟩

abbrev s_law_frames_are_so : Stmt := top 30
abbrev N_law_frames_are_so : List Str := ["frame", "options", "values", "after"]
abbrev P_law_frames_are_so : List Str := ["frame", "options"]

theorem sc_law_frames_are_so : FnScope N_law_frames_are_so P_law_frames_are_so (defScope s_law_frames_are_so) := ⟨rfl, rfl, rfl, by decide +kernel, rfl, by decide +kernel, by decide +kernel⟩

abbrev D_law_frames_are_so : He.DefD := ⟨("_law_frames_are_so", none), "_law_frames_are_so", "_law_frames_are_so", defArgs s_law_frames_are_so, defBody s_law_frames_are_so, defScope s_law_frames_are_so, [], []⟩

abbrev s_law_put : Stmt := top 31
abbrev N_law_put : List Str := ["line", "world", "frame", "queue", "bucket", "flying", "up", "expected", "given", "waiting"]
abbrev P_law_put : List Str := ["line", "world", "frame"]

theorem sc_law_put : FnScope N_law_put P_law_put (defScope s_law_put) := ⟨rfl, rfl, rfl, by decide +kernel, rfl, by decide +kernel, by decide +kernel⟩

abbrev D_law_put : He.DefD := ⟨("_law_put", none), "_law_put", "_law_put", defArgs s_law_put, defBody s_law_put, defScope s_law_put, [], []⟩

abbrev s_law_tick : Stmt := top 32
abbrev N_law_tick : List Str := ["line", "world", "now", "queue", "bucket", "flying", "up", "first", "expected", "row"]
abbrev P_law_tick : List Str := ["line", "world", "now"]

theorem sc_law_tick : FnScope N_law_tick P_law_tick (defScope s_law_tick) := ⟨rfl, rfl, rfl, by decide +kernel, rfl, by decide +kernel, by decide +kernel⟩

abbrev D_law_tick : He.DefD := ⟨("_law_tick", none), "_law_tick", "_law_tick", defArgs s_law_tick, defBody s_law_tick, defScope s_law_tick, [], []⟩

abbrev s_law_deed : Stmt := top 33
abbrev N_law_deed : List Str := ["line", "world", "number", "clock", "state", "kind", "frame", "expected", "waiting", "row"]
abbrev P_law_deed : List Str := ["line", "world", "number", "clock", "state"]

theorem sc_law_deed : FnScope N_law_deed P_law_deed (defScope s_law_deed) := ⟨rfl, rfl, rfl, by decide +kernel, rfl, by decide +kernel, by decide +kernel⟩

abbrev D_law_deed : He.DefD := ⟨("_law_deed", none), "_law_deed", "_law_deed", defArgs s_law_deed, defBody s_law_deed, defScope s_law_deed, [], []⟩

abbrev s_law_agrees : Stmt := top 34
abbrev N_law_agrees : List Str := ["line", "world"]
abbrev P_law_agrees : List Str := ["line", "world"]

theorem sc_law_agrees : FnScope N_law_agrees P_law_agrees (defScope s_law_agrees) := ⟨rfl, rfl, rfl, by decide +kernel, rfl, by decide +kernel, by decide +kernel⟩

abbrev D_law_agrees : He.DefD := ⟨("_law_agrees", none), "_law_agrees", "_law_agrees", defArgs s_law_agrees, defBody s_law_agrees, defScope s_law_agrees, [], []⟩

abbrev s_law : Stmt := top 35
abbrev N_law : List Str := ["script", "state", "size", "depth", "limit", "options", "line", "world", "clock", "beside", "kept", "time", "k"]
abbrev P_law : List Str := ["script"]

theorem sc_law : FnScope N_law P_law (defScope s_law) := ⟨rfl, rfl, rfl, by decide +kernel, rfl, by decide +kernel, by decide +kernel⟩

abbrev D_law : He.DefD := ⟨("law", none), "law", "law", defArgs s_law, defBody s_law, defScope s_law, [], []⟩

abbrev fn : List He.DefD := [D_Bucket_init, D_Bucket_tick, D_Bucket_take, D_Bucket_fork, D_Waiting_init, D_Flow_init, D_Flow_add, D_Flow_take, D_Flow_fork, D_FairQueue_init, D_FairQueue_count, D_FairQueue_octets, D_FairQueue_flow_of, D_FairQueue_remove_flow, D_FairQueue_put, D_FairQueue_drop, D_FairQueue_turn, D_FairQueue_next_up, D_FairQueue_take, D_FairQueue_take_all, D_FairQueue_fork, D_LinkOptions_init, D_Line_init, D_Line_count, D_Line_put, D_Line_tick, D_Line_cut, D_Line_join, D_Line_fork, D_Frame_init, D_Frame__eq, D_Frame_as_row, D_Frame_weight, D_Frame_flow_key, D_Frame_with_mark, D_Frame_after_hop, D_law_cell, D_law_start, D_law_digit, D_law_frame, D_law_values, D_law_row, D_law_frames_are_so, D_law_put, D_law_tick, D_law_deed, D_law_agrees, D_law]

abbrev fa : List He.Fa := [.exm "InvalidAmount" "InvalidAmount" true, .exc "InvalidAmount", .glo "InvalidAmount", .free "min", .free "list", .free "len", .free "sum", .free "range", .int "MOST_COST" 15, .int "LEAST_SIZE" 16, .int "MOST_SIZE" 65535, .int "GREATEST" 1073741824, .int "ROOM" 64, .int "MOST_DELAY" 1000, .glo "Frame", .free "isinstance", .int "HEAD" 12, .free "int", .glo "Bucket", .mkr "Bucket", .cls "Bucket", .meth "Bucket" "tick", .meth "Bucket" "take", .meth "Bucket" "fork", .glo "Waiting", .mkr "Waiting", .cls "Waiting", .glo "Flow", .mkr "Flow", .cls "Flow", .meth "Flow" "add", .meth "Flow" "take", .meth "Flow" "fork", .glo "FairQueue", .mkr "FairQueue", .cls "FairQueue", .meth "FairQueue" "count", .meth "FairQueue" "octets", .meth "FairQueue" "flow_of", .meth "FairQueue" "remove_flow", .meth "FairQueue" "put", .meth "FairQueue" "drop", .meth "FairQueue" "turn", .meth "FairQueue" "next_up", .meth "FairQueue" "take", .meth "FairQueue" "take_all", .meth "FairQueue" "fork", .glo "LinkOptions", .mkr "LinkOptions", .cls "LinkOptions", .glo "Line", .mkr "Line", .cls "Line", .meth "Line" "count", .meth "Line" "put", .meth "Line" "tick", .meth "Line" "cut", .meth "Line" "join", .meth "Line" "fork", .mkr "Frame", .cls "Frame", .meth "Frame" "__eq__", .meth "Frame" "as_row", .meth "Frame" "weight", .meth "Frame" "flow_key", .meth "Frame" "with_mark", .meth "Frame" "after_hop", .glo "_law_cell", .glo "_law_start", .glo "_law_digit", .glo "_law_frame", .glo "_law_values", .glo "_law_row", .glo "_law_frames_are_so", .glo "_law_put", .glo "_law_tick", .glo "_law_deed", .glo "_law_agrees", .glo "law", .noat "Waiting" "key", .noat "Waiting" "item", .noat "Waiting" "weight", .noat "Flow" "key", .noat "Flow" "rows", .noat "Flow" "octets", .noat "Flow" "credit", .noat "FairQueue" "limit", .noat "FairQueue" "quantum", .noat "FairQueue" "flows", .noat "FairQueue" "granted", .noat "Bucket" "rate", .noat "Bucket" "depth", .noat "Bucket" "tokens", .noat "Frame" "kind", .noat "Frame" "sender", .noat "Frame" "target", .noat "Frame" "octets", .noat "Frame" "birth", .noat "Frame" "hops", .noat "Frame" "marked", .noat "LinkOptions" "cost", .noat "LinkOptions" "part_size", .noat "LinkOptions" "rate", .noat "LinkOptions" "depth", .noat "LinkOptions" "limit", .noat "LinkOptions" "delay", .noat "Line" "options", .noat "Line" "queue", .noat "Line" "bucket", .noat "Line" "flying", .noat "Line" "is_up"]

abbrev pr : List Pr := []
abbrev ex : List Ex := [(insB "Frame"), (kitOB "Frame" "Frame" true), (kitTB "tuple" "Frame" false), (nfB "Frame" "tuple")]
abbrev TX (K : PySem.W.Frag) (mg : Str → Option Value) (base : Heap) : Prop := TxB fa fn pr ex K mg base

section
variable {K : PySem.W.Frag} {mg : Str → Option Value} {base : Heap}

theorem cl_Waiting (T : TX K mg base) : Cls K (He.ga K "Waiting") := T.cls 26

theorem na_Waiting_key (T : TX K mg base) : NoAttr K (He.ga K "Waiting") "key" := T.noat 79

theorem na_Waiting_item (T : TX K mg base) : NoAttr K (He.ga K "Waiting") "item" := T.noat 80

theorem na_Waiting_weight (T : TX K mg base) : NoAttr K (He.ga K "Waiting") "weight" := T.noat 81

theorem cl_Flow (T : TX K mg base) : Cls K (He.ga K "Flow") := T.cls 29

theorem na_Flow_key (T : TX K mg base) : NoAttr K (He.ga K "Flow") "key" := T.noat 82

theorem na_Flow_rows (T : TX K mg base) : NoAttr K (He.ga K "Flow") "rows" := T.noat 83

theorem na_Flow_octets (T : TX K mg base) : NoAttr K (He.ga K "Flow") "octets" := T.noat 84

theorem na_Flow_credit (T : TX K mg base) : NoAttr K (He.ga K "Flow") "credit" := T.noat 85

theorem cl_FairQueue (T : TX K mg base) : Cls K (He.ga K "FairQueue") := T.cls 35

theorem na_FairQueue_limit (T : TX K mg base) : NoAttr K (He.ga K "FairQueue") "limit" := T.noat 86

theorem na_FairQueue_quantum (T : TX K mg base) : NoAttr K (He.ga K "FairQueue") "quantum" := T.noat 87

theorem na_FairQueue_flows (T : TX K mg base) : NoAttr K (He.ga K "FairQueue") "flows" := T.noat 88

theorem na_FairQueue_granted (T : TX K mg base) : NoAttr K (He.ga K "FairQueue") "granted" := T.noat 89

theorem cl_Bucket (T : TX K mg base) : Cls K (He.ga K "Bucket") := T.cls 20

theorem na_Bucket_rate (T : TX K mg base) : NoAttr K (He.ga K "Bucket") "rate" := T.noat 90

theorem na_Bucket_depth (T : TX K mg base) : NoAttr K (He.ga K "Bucket") "depth" := T.noat 91

theorem na_Bucket_tokens (T : TX K mg base) : NoAttr K (He.ga K "Bucket") "tokens" := T.noat 92

theorem cl_Frame (T : TX K mg base) : Cls K (He.ga K "Frame") := T.cls 60

theorem na_Frame_kind (T : TX K mg base) : NoAttr K (He.ga K "Frame") "kind" := T.noat 93

theorem na_Frame_sender (T : TX K mg base) : NoAttr K (He.ga K "Frame") "sender" := T.noat 94

theorem na_Frame_target (T : TX K mg base) : NoAttr K (He.ga K "Frame") "target" := T.noat 95

theorem na_Frame_octets (T : TX K mg base) : NoAttr K (He.ga K "Frame") "octets" := T.noat 96

theorem na_Frame_birth (T : TX K mg base) : NoAttr K (He.ga K "Frame") "birth" := T.noat 97

theorem na_Frame_hops (T : TX K mg base) : NoAttr K (He.ga K "Frame") "hops" := T.noat 98

theorem na_Frame_marked (T : TX K mg base) : NoAttr K (He.ga K "Frame") "marked" := T.noat 99

theorem cl_LinkOptions (T : TX K mg base) : Cls K (He.ga K "LinkOptions") := T.cls 49

theorem na_LinkOptions_cost (T : TX K mg base) : NoAttr K (He.ga K "LinkOptions") "cost" := T.noat 100

theorem na_LinkOptions_part_size (T : TX K mg base) : NoAttr K (He.ga K "LinkOptions") "part_size" := T.noat 101

theorem na_LinkOptions_rate (T : TX K mg base) : NoAttr K (He.ga K "LinkOptions") "rate" := T.noat 102

theorem na_LinkOptions_depth (T : TX K mg base) : NoAttr K (He.ga K "LinkOptions") "depth" := T.noat 103

theorem na_LinkOptions_limit (T : TX K mg base) : NoAttr K (He.ga K "LinkOptions") "limit" := T.noat 104

theorem na_LinkOptions_delay (T : TX K mg base) : NoAttr K (He.ga K "LinkOptions") "delay" := T.noat 105

theorem cl_Line (T : TX K mg base) : Cls K (He.ga K "Line") := T.cls 52

theorem na_Line_options (T : TX K mg base) : NoAttr K (He.ga K "Line") "options" := T.noat 106

theorem na_Line_queue (T : TX K mg base) : NoAttr K (He.ga K "Line") "queue" := T.noat 107

theorem na_Line_bucket (T : TX K mg base) : NoAttr K (He.ga K "Line") "bucket" := T.noat 108

theorem na_Line_flying (T : TX K mg base) : NoAttr K (He.ga K "Line") "flying" := T.noat 109

theorem na_Line_is_up (T : TX K mg base) : NoAttr K (He.ga K "Line") "is_up" := T.noat 110

/-- the attributes of a Waiting, in the order of its __init__ -/
abbrev fWaiting (x0 x1 x2 : V) : List (Str × V) := [("key", x0), ("item", x1), ("weight", x2)]

theorem lk_Waiting_key {x0 x1 x2 : V} : (fWaiting x0 x1 x2).lookup ("key" : Str) = some x0 := by kernel_rfl

theorem pt_Waiting_key {x0 x1 x2 y : V} : putF "key" y (fWaiting x0 x1 x2) = fWaiting y x1 x2 := by kernel_rfl

theorem pn_Waiting_key { y : V} : putF "key" y ([] : List (Str × V)) = ([("key", y)] : List (Str × V)) := by kernel_rfl

theorem lk_Waiting_item {x0 x1 x2 : V} : (fWaiting x0 x1 x2).lookup ("item" : Str) = some x1 := by kernel_rfl

theorem pt_Waiting_item {x0 x1 x2 y : V} : putF "item" y (fWaiting x0 x1 x2) = fWaiting x0 y x2 := by kernel_rfl

theorem pn_Waiting_item {x0 y : V} : putF "item" y ([("key", x0)] : List (Str × V)) = ([("key", x0), ("item", y)] : List (Str × V)) := by kernel_rfl

theorem lk_Waiting_weight {x0 x1 x2 : V} : (fWaiting x0 x1 x2).lookup ("weight" : Str) = some x2 := by kernel_rfl

theorem pt_Waiting_weight {x0 x1 x2 y : V} : putF "weight" y (fWaiting x0 x1 x2) = fWaiting x0 x1 y := by kernel_rfl

theorem pn_Waiting_weight {x0 x1 y : V} : putF "weight" y ([("key", x0), ("item", x1)] : List (Str × V)) = ([("key", x0), ("item", x1), ("weight", y)] : List (Str × V)) := by kernel_rfl

/-- the attributes of a Flow, in the order of its __init__ -/
abbrev fFlow (x0 x1 x2 x3 : V) : List (Str × V) := [("key", x0), ("rows", x1), ("octets", x2), ("credit", x3)]

theorem lk_Flow_key {x0 x1 x2 x3 : V} : (fFlow x0 x1 x2 x3).lookup ("key" : Str) = some x0 := by kernel_rfl

theorem pt_Flow_key {x0 x1 x2 x3 y : V} : putF "key" y (fFlow x0 x1 x2 x3) = fFlow y x1 x2 x3 := by kernel_rfl

theorem pn_Flow_key { y : V} : putF "key" y ([] : List (Str × V)) = ([("key", y)] : List (Str × V)) := by kernel_rfl

theorem lk_Flow_rows {x0 x1 x2 x3 : V} : (fFlow x0 x1 x2 x3).lookup ("rows" : Str) = some x1 := by kernel_rfl

theorem pt_Flow_rows {x0 x1 x2 x3 y : V} : putF "rows" y (fFlow x0 x1 x2 x3) = fFlow x0 y x2 x3 := by kernel_rfl

theorem pn_Flow_rows {x0 y : V} : putF "rows" y ([("key", x0)] : List (Str × V)) = ([("key", x0), ("rows", y)] : List (Str × V)) := by kernel_rfl

theorem lk_Flow_octets {x0 x1 x2 x3 : V} : (fFlow x0 x1 x2 x3).lookup ("octets" : Str) = some x2 := by kernel_rfl

theorem pt_Flow_octets {x0 x1 x2 x3 y : V} : putF "octets" y (fFlow x0 x1 x2 x3) = fFlow x0 x1 y x3 := by kernel_rfl

theorem pn_Flow_octets {x0 x1 y : V} : putF "octets" y ([("key", x0), ("rows", x1)] : List (Str × V)) = ([("key", x0), ("rows", x1), ("octets", y)] : List (Str × V)) := by kernel_rfl

theorem lk_Flow_credit {x0 x1 x2 x3 : V} : (fFlow x0 x1 x2 x3).lookup ("credit" : Str) = some x3 := by kernel_rfl

theorem pt_Flow_credit {x0 x1 x2 x3 y : V} : putF "credit" y (fFlow x0 x1 x2 x3) = fFlow x0 x1 x2 y := by kernel_rfl

theorem pn_Flow_credit {x0 x1 x2 y : V} : putF "credit" y ([("key", x0), ("rows", x1), ("octets", x2)] : List (Str × V)) = ([("key", x0), ("rows", x1), ("octets", x2), ("credit", y)] : List (Str × V)) := by kernel_rfl

theorem ln_Flow_add {x0 x1 x2 x3 : V} : (fFlow x0 x1 x2 x3).lookup ("add" : Str) = none := by kernel_rfl

theorem ln_Flow_take {x0 x1 x2 x3 : V} : (fFlow x0 x1 x2 x3).lookup ("take" : Str) = none := by kernel_rfl

theorem ln_Flow_fork {x0 x1 x2 x3 : V} : (fFlow x0 x1 x2 x3).lookup ("fork" : Str) = none := by kernel_rfl

/-- the attributes of a FairQueue, in the order of its __init__ -/
abbrev fFairQueue (x0 x1 x2 x3 : V) : List (Str × V) := [("limit", x0), ("quantum", x1), ("flows", x2), ("granted", x3)]

theorem lk_FairQueue_limit {x0 x1 x2 x3 : V} : (fFairQueue x0 x1 x2 x3).lookup ("limit" : Str) = some x0 := by kernel_rfl

theorem pt_FairQueue_limit {x0 x1 x2 x3 y : V} : putF "limit" y (fFairQueue x0 x1 x2 x3) = fFairQueue y x1 x2 x3 := by kernel_rfl

theorem pn_FairQueue_limit { y : V} : putF "limit" y ([] : List (Str × V)) = ([("limit", y)] : List (Str × V)) := by kernel_rfl

theorem lk_FairQueue_quantum {x0 x1 x2 x3 : V} : (fFairQueue x0 x1 x2 x3).lookup ("quantum" : Str) = some x1 := by kernel_rfl

theorem pt_FairQueue_quantum {x0 x1 x2 x3 y : V} : putF "quantum" y (fFairQueue x0 x1 x2 x3) = fFairQueue x0 y x2 x3 := by kernel_rfl

theorem pn_FairQueue_quantum {x0 y : V} : putF "quantum" y ([("limit", x0)] : List (Str × V)) = ([("limit", x0), ("quantum", y)] : List (Str × V)) := by kernel_rfl

theorem lk_FairQueue_flows {x0 x1 x2 x3 : V} : (fFairQueue x0 x1 x2 x3).lookup ("flows" : Str) = some x2 := by kernel_rfl

theorem pt_FairQueue_flows {x0 x1 x2 x3 y : V} : putF "flows" y (fFairQueue x0 x1 x2 x3) = fFairQueue x0 x1 y x3 := by kernel_rfl

theorem pn_FairQueue_flows {x0 x1 y : V} : putF "flows" y ([("limit", x0), ("quantum", x1)] : List (Str × V)) = ([("limit", x0), ("quantum", x1), ("flows", y)] : List (Str × V)) := by kernel_rfl

theorem lk_FairQueue_granted {x0 x1 x2 x3 : V} : (fFairQueue x0 x1 x2 x3).lookup ("granted" : Str) = some x3 := by kernel_rfl

theorem pt_FairQueue_granted {x0 x1 x2 x3 y : V} : putF "granted" y (fFairQueue x0 x1 x2 x3) = fFairQueue x0 x1 x2 y := by kernel_rfl

theorem pn_FairQueue_granted {x0 x1 x2 y : V} : putF "granted" y ([("limit", x0), ("quantum", x1), ("flows", x2)] : List (Str × V)) = ([("limit", x0), ("quantum", x1), ("flows", x2), ("granted", y)] : List (Str × V)) := by kernel_rfl

theorem ln_FairQueue_count {x0 x1 x2 x3 : V} : (fFairQueue x0 x1 x2 x3).lookup ("count" : Str) = none := by kernel_rfl

theorem ln_FairQueue_octets {x0 x1 x2 x3 : V} : (fFairQueue x0 x1 x2 x3).lookup ("octets" : Str) = none := by kernel_rfl

theorem ln_FairQueue_flow_of {x0 x1 x2 x3 : V} : (fFairQueue x0 x1 x2 x3).lookup ("flow_of" : Str) = none := by kernel_rfl

theorem ln_FairQueue_remove_flow {x0 x1 x2 x3 : V} : (fFairQueue x0 x1 x2 x3).lookup ("remove_flow" : Str) = none := by kernel_rfl

theorem ln_FairQueue_put {x0 x1 x2 x3 : V} : (fFairQueue x0 x1 x2 x3).lookup ("put" : Str) = none := by kernel_rfl

theorem ln_FairQueue_drop {x0 x1 x2 x3 : V} : (fFairQueue x0 x1 x2 x3).lookup ("drop" : Str) = none := by kernel_rfl

theorem ln_FairQueue_turn {x0 x1 x2 x3 : V} : (fFairQueue x0 x1 x2 x3).lookup ("turn" : Str) = none := by kernel_rfl

theorem ln_FairQueue_next_up {x0 x1 x2 x3 : V} : (fFairQueue x0 x1 x2 x3).lookup ("next_up" : Str) = none := by kernel_rfl

theorem ln_FairQueue_take {x0 x1 x2 x3 : V} : (fFairQueue x0 x1 x2 x3).lookup ("take" : Str) = none := by kernel_rfl

theorem ln_FairQueue_take_all {x0 x1 x2 x3 : V} : (fFairQueue x0 x1 x2 x3).lookup ("take_all" : Str) = none := by kernel_rfl

theorem ln_FairQueue_fork {x0 x1 x2 x3 : V} : (fFairQueue x0 x1 x2 x3).lookup ("fork" : Str) = none := by kernel_rfl

/-- the attributes of a Bucket, in the order of its __init__ -/
abbrev fBucket (x0 x1 x2 : V) : List (Str × V) := [("rate", x0), ("depth", x1), ("tokens", x2)]

theorem lk_Bucket_rate {x0 x1 x2 : V} : (fBucket x0 x1 x2).lookup ("rate" : Str) = some x0 := by kernel_rfl

theorem pt_Bucket_rate {x0 x1 x2 y : V} : putF "rate" y (fBucket x0 x1 x2) = fBucket y x1 x2 := by kernel_rfl

theorem pn_Bucket_rate { y : V} : putF "rate" y ([] : List (Str × V)) = ([("rate", y)] : List (Str × V)) := by kernel_rfl

theorem lk_Bucket_depth {x0 x1 x2 : V} : (fBucket x0 x1 x2).lookup ("depth" : Str) = some x1 := by kernel_rfl

theorem pt_Bucket_depth {x0 x1 x2 y : V} : putF "depth" y (fBucket x0 x1 x2) = fBucket x0 y x2 := by kernel_rfl

theorem pn_Bucket_depth {x0 y : V} : putF "depth" y ([("rate", x0)] : List (Str × V)) = ([("rate", x0), ("depth", y)] : List (Str × V)) := by kernel_rfl

theorem lk_Bucket_tokens {x0 x1 x2 : V} : (fBucket x0 x1 x2).lookup ("tokens" : Str) = some x2 := by kernel_rfl

theorem pt_Bucket_tokens {x0 x1 x2 y : V} : putF "tokens" y (fBucket x0 x1 x2) = fBucket x0 x1 y := by kernel_rfl

theorem pn_Bucket_tokens {x0 x1 y : V} : putF "tokens" y ([("rate", x0), ("depth", x1)] : List (Str × V)) = ([("rate", x0), ("depth", x1), ("tokens", y)] : List (Str × V)) := by kernel_rfl

theorem ln_Bucket_tick {x0 x1 x2 : V} : (fBucket x0 x1 x2).lookup ("tick" : Str) = none := by kernel_rfl

theorem ln_Bucket_take {x0 x1 x2 : V} : (fBucket x0 x1 x2).lookup ("take" : Str) = none := by kernel_rfl

theorem ln_Bucket_fork {x0 x1 x2 : V} : (fBucket x0 x1 x2).lookup ("fork" : Str) = none := by kernel_rfl

/-- the attributes of a Frame, in the order of its __init__ -/
abbrev fFrame (x0 x1 x2 x3 x4 x5 x6 : V) : List (Str × V) := [("kind", x0), ("sender", x1), ("target", x2), ("octets", x3), ("birth", x4), ("hops", x5), ("marked", x6)]

theorem lk_Frame_kind {x0 x1 x2 x3 x4 x5 x6 : V} : (fFrame x0 x1 x2 x3 x4 x5 x6).lookup ("kind" : Str) = some x0 := by kernel_rfl

theorem pt_Frame_kind {x0 x1 x2 x3 x4 x5 x6 y : V} : putF "kind" y (fFrame x0 x1 x2 x3 x4 x5 x6) = fFrame y x1 x2 x3 x4 x5 x6 := by kernel_rfl

theorem pn_Frame_kind { y : V} : putF "kind" y ([] : List (Str × V)) = ([("kind", y)] : List (Str × V)) := by kernel_rfl

theorem lk_Frame_sender {x0 x1 x2 x3 x4 x5 x6 : V} : (fFrame x0 x1 x2 x3 x4 x5 x6).lookup ("sender" : Str) = some x1 := by kernel_rfl

theorem pt_Frame_sender {x0 x1 x2 x3 x4 x5 x6 y : V} : putF "sender" y (fFrame x0 x1 x2 x3 x4 x5 x6) = fFrame x0 y x2 x3 x4 x5 x6 := by kernel_rfl

theorem pn_Frame_sender {x0 y : V} : putF "sender" y ([("kind", x0)] : List (Str × V)) = ([("kind", x0), ("sender", y)] : List (Str × V)) := by kernel_rfl

theorem lk_Frame_target {x0 x1 x2 x3 x4 x5 x6 : V} : (fFrame x0 x1 x2 x3 x4 x5 x6).lookup ("target" : Str) = some x2 := by kernel_rfl

theorem pt_Frame_target {x0 x1 x2 x3 x4 x5 x6 y : V} : putF "target" y (fFrame x0 x1 x2 x3 x4 x5 x6) = fFrame x0 x1 y x3 x4 x5 x6 := by kernel_rfl

theorem pn_Frame_target {x0 x1 y : V} : putF "target" y ([("kind", x0), ("sender", x1)] : List (Str × V)) = ([("kind", x0), ("sender", x1), ("target", y)] : List (Str × V)) := by kernel_rfl

theorem lk_Frame_octets {x0 x1 x2 x3 x4 x5 x6 : V} : (fFrame x0 x1 x2 x3 x4 x5 x6).lookup ("octets" : Str) = some x3 := by kernel_rfl

theorem pt_Frame_octets {x0 x1 x2 x3 x4 x5 x6 y : V} : putF "octets" y (fFrame x0 x1 x2 x3 x4 x5 x6) = fFrame x0 x1 x2 y x4 x5 x6 := by kernel_rfl

theorem pn_Frame_octets {x0 x1 x2 y : V} : putF "octets" y ([("kind", x0), ("sender", x1), ("target", x2)] : List (Str × V)) = ([("kind", x0), ("sender", x1), ("target", x2), ("octets", y)] : List (Str × V)) := by kernel_rfl

theorem lk_Frame_birth {x0 x1 x2 x3 x4 x5 x6 : V} : (fFrame x0 x1 x2 x3 x4 x5 x6).lookup ("birth" : Str) = some x4 := by kernel_rfl

theorem pt_Frame_birth {x0 x1 x2 x3 x4 x5 x6 y : V} : putF "birth" y (fFrame x0 x1 x2 x3 x4 x5 x6) = fFrame x0 x1 x2 x3 y x5 x6 := by kernel_rfl

theorem pn_Frame_birth {x0 x1 x2 x3 y : V} : putF "birth" y ([("kind", x0), ("sender", x1), ("target", x2), ("octets", x3)] : List (Str × V)) = ([("kind", x0), ("sender", x1), ("target", x2), ("octets", x3), ("birth", y)] : List (Str × V)) := by kernel_rfl

theorem lk_Frame_hops {x0 x1 x2 x3 x4 x5 x6 : V} : (fFrame x0 x1 x2 x3 x4 x5 x6).lookup ("hops" : Str) = some x5 := by kernel_rfl

theorem pt_Frame_hops {x0 x1 x2 x3 x4 x5 x6 y : V} : putF "hops" y (fFrame x0 x1 x2 x3 x4 x5 x6) = fFrame x0 x1 x2 x3 x4 y x6 := by kernel_rfl

theorem pn_Frame_hops {x0 x1 x2 x3 x4 y : V} : putF "hops" y ([("kind", x0), ("sender", x1), ("target", x2), ("octets", x3), ("birth", x4)] : List (Str × V)) = ([("kind", x0), ("sender", x1), ("target", x2), ("octets", x3), ("birth", x4), ("hops", y)] : List (Str × V)) := by kernel_rfl

theorem lk_Frame_marked {x0 x1 x2 x3 x4 x5 x6 : V} : (fFrame x0 x1 x2 x3 x4 x5 x6).lookup ("marked" : Str) = some x6 := by kernel_rfl

theorem pt_Frame_marked {x0 x1 x2 x3 x4 x5 x6 y : V} : putF "marked" y (fFrame x0 x1 x2 x3 x4 x5 x6) = fFrame x0 x1 x2 x3 x4 x5 y := by kernel_rfl

theorem pn_Frame_marked {x0 x1 x2 x3 x4 x5 y : V} : putF "marked" y ([("kind", x0), ("sender", x1), ("target", x2), ("octets", x3), ("birth", x4), ("hops", x5)] : List (Str × V)) = ([("kind", x0), ("sender", x1), ("target", x2), ("octets", x3), ("birth", x4), ("hops", x5), ("marked", y)] : List (Str × V)) := by kernel_rfl

theorem ln_Frame___eq__ {x0 x1 x2 x3 x4 x5 x6 : V} : (fFrame x0 x1 x2 x3 x4 x5 x6).lookup ("__eq__" : Str) = none := by kernel_rfl

theorem ln_Frame_as_row {x0 x1 x2 x3 x4 x5 x6 : V} : (fFrame x0 x1 x2 x3 x4 x5 x6).lookup ("as_row" : Str) = none := by kernel_rfl

theorem ln_Frame_weight {x0 x1 x2 x3 x4 x5 x6 : V} : (fFrame x0 x1 x2 x3 x4 x5 x6).lookup ("weight" : Str) = none := by kernel_rfl

theorem ln_Frame_flow_key {x0 x1 x2 x3 x4 x5 x6 : V} : (fFrame x0 x1 x2 x3 x4 x5 x6).lookup ("flow_key" : Str) = none := by kernel_rfl

theorem ln_Frame_with_mark {x0 x1 x2 x3 x4 x5 x6 : V} : (fFrame x0 x1 x2 x3 x4 x5 x6).lookup ("with_mark" : Str) = none := by kernel_rfl

theorem ln_Frame_after_hop {x0 x1 x2 x3 x4 x5 x6 : V} : (fFrame x0 x1 x2 x3 x4 x5 x6).lookup ("after_hop" : Str) = none := by kernel_rfl

/-- the attributes of a LinkOptions, in the order of its __init__ -/
abbrev fLinkOptions (x0 x1 x2 x3 x4 x5 : V) : List (Str × V) := [("cost", x0), ("part_size", x1), ("rate", x2), ("depth", x3), ("limit", x4), ("delay", x5)]

theorem lk_LinkOptions_cost {x0 x1 x2 x3 x4 x5 : V} : (fLinkOptions x0 x1 x2 x3 x4 x5).lookup ("cost" : Str) = some x0 := by kernel_rfl

theorem pt_LinkOptions_cost {x0 x1 x2 x3 x4 x5 y : V} : putF "cost" y (fLinkOptions x0 x1 x2 x3 x4 x5) = fLinkOptions y x1 x2 x3 x4 x5 := by kernel_rfl

theorem pn_LinkOptions_cost { y : V} : putF "cost" y ([] : List (Str × V)) = ([("cost", y)] : List (Str × V)) := by kernel_rfl

theorem lk_LinkOptions_part_size {x0 x1 x2 x3 x4 x5 : V} : (fLinkOptions x0 x1 x2 x3 x4 x5).lookup ("part_size" : Str) = some x1 := by kernel_rfl

theorem pt_LinkOptions_part_size {x0 x1 x2 x3 x4 x5 y : V} : putF "part_size" y (fLinkOptions x0 x1 x2 x3 x4 x5) = fLinkOptions x0 y x2 x3 x4 x5 := by kernel_rfl

theorem pn_LinkOptions_part_size {x0 y : V} : putF "part_size" y ([("cost", x0)] : List (Str × V)) = ([("cost", x0), ("part_size", y)] : List (Str × V)) := by kernel_rfl

theorem lk_LinkOptions_rate {x0 x1 x2 x3 x4 x5 : V} : (fLinkOptions x0 x1 x2 x3 x4 x5).lookup ("rate" : Str) = some x2 := by kernel_rfl

theorem pt_LinkOptions_rate {x0 x1 x2 x3 x4 x5 y : V} : putF "rate" y (fLinkOptions x0 x1 x2 x3 x4 x5) = fLinkOptions x0 x1 y x3 x4 x5 := by kernel_rfl

theorem pn_LinkOptions_rate {x0 x1 y : V} : putF "rate" y ([("cost", x0), ("part_size", x1)] : List (Str × V)) = ([("cost", x0), ("part_size", x1), ("rate", y)] : List (Str × V)) := by kernel_rfl

theorem lk_LinkOptions_depth {x0 x1 x2 x3 x4 x5 : V} : (fLinkOptions x0 x1 x2 x3 x4 x5).lookup ("depth" : Str) = some x3 := by kernel_rfl

theorem pt_LinkOptions_depth {x0 x1 x2 x3 x4 x5 y : V} : putF "depth" y (fLinkOptions x0 x1 x2 x3 x4 x5) = fLinkOptions x0 x1 x2 y x4 x5 := by kernel_rfl

theorem pn_LinkOptions_depth {x0 x1 x2 y : V} : putF "depth" y ([("cost", x0), ("part_size", x1), ("rate", x2)] : List (Str × V)) = ([("cost", x0), ("part_size", x1), ("rate", x2), ("depth", y)] : List (Str × V)) := by kernel_rfl

theorem lk_LinkOptions_limit {x0 x1 x2 x3 x4 x5 : V} : (fLinkOptions x0 x1 x2 x3 x4 x5).lookup ("limit" : Str) = some x4 := by kernel_rfl

theorem pt_LinkOptions_limit {x0 x1 x2 x3 x4 x5 y : V} : putF "limit" y (fLinkOptions x0 x1 x2 x3 x4 x5) = fLinkOptions x0 x1 x2 x3 y x5 := by kernel_rfl

theorem pn_LinkOptions_limit {x0 x1 x2 x3 y : V} : putF "limit" y ([("cost", x0), ("part_size", x1), ("rate", x2), ("depth", x3)] : List (Str × V)) = ([("cost", x0), ("part_size", x1), ("rate", x2), ("depth", x3), ("limit", y)] : List (Str × V)) := by kernel_rfl

theorem lk_LinkOptions_delay {x0 x1 x2 x3 x4 x5 : V} : (fLinkOptions x0 x1 x2 x3 x4 x5).lookup ("delay" : Str) = some x5 := by kernel_rfl

theorem pt_LinkOptions_delay {x0 x1 x2 x3 x4 x5 y : V} : putF "delay" y (fLinkOptions x0 x1 x2 x3 x4 x5) = fLinkOptions x0 x1 x2 x3 x4 y := by kernel_rfl

theorem pn_LinkOptions_delay {x0 x1 x2 x3 x4 y : V} : putF "delay" y ([("cost", x0), ("part_size", x1), ("rate", x2), ("depth", x3), ("limit", x4)] : List (Str × V)) = ([("cost", x0), ("part_size", x1), ("rate", x2), ("depth", x3), ("limit", x4), ("delay", y)] : List (Str × V)) := by kernel_rfl

/-- the attributes of a Line, in the order of its __init__ -/
abbrev fLine (x0 x1 x2 x3 x4 : V) : List (Str × V) := [("options", x0), ("queue", x1), ("bucket", x2), ("flying", x3), ("is_up", x4)]

theorem lk_Line_options {x0 x1 x2 x3 x4 : V} : (fLine x0 x1 x2 x3 x4).lookup ("options" : Str) = some x0 := by kernel_rfl

theorem pt_Line_options {x0 x1 x2 x3 x4 y : V} : putF "options" y (fLine x0 x1 x2 x3 x4) = fLine y x1 x2 x3 x4 := by kernel_rfl

theorem pn_Line_options { y : V} : putF "options" y ([] : List (Str × V)) = ([("options", y)] : List (Str × V)) := by kernel_rfl

theorem lk_Line_queue {x0 x1 x2 x3 x4 : V} : (fLine x0 x1 x2 x3 x4).lookup ("queue" : Str) = some x1 := by kernel_rfl

theorem pt_Line_queue {x0 x1 x2 x3 x4 y : V} : putF "queue" y (fLine x0 x1 x2 x3 x4) = fLine x0 y x2 x3 x4 := by kernel_rfl

theorem pn_Line_queue {x0 y : V} : putF "queue" y ([("options", x0)] : List (Str × V)) = ([("options", x0), ("queue", y)] : List (Str × V)) := by kernel_rfl

theorem lk_Line_bucket {x0 x1 x2 x3 x4 : V} : (fLine x0 x1 x2 x3 x4).lookup ("bucket" : Str) = some x2 := by kernel_rfl

theorem pt_Line_bucket {x0 x1 x2 x3 x4 y : V} : putF "bucket" y (fLine x0 x1 x2 x3 x4) = fLine x0 x1 y x3 x4 := by kernel_rfl

theorem pn_Line_bucket {x0 x1 y : V} : putF "bucket" y ([("options", x0), ("queue", x1)] : List (Str × V)) = ([("options", x0), ("queue", x1), ("bucket", y)] : List (Str × V)) := by kernel_rfl

theorem lk_Line_flying {x0 x1 x2 x3 x4 : V} : (fLine x0 x1 x2 x3 x4).lookup ("flying" : Str) = some x3 := by kernel_rfl

theorem pt_Line_flying {x0 x1 x2 x3 x4 y : V} : putF "flying" y (fLine x0 x1 x2 x3 x4) = fLine x0 x1 x2 y x4 := by kernel_rfl

theorem pn_Line_flying {x0 x1 x2 y : V} : putF "flying" y ([("options", x0), ("queue", x1), ("bucket", x2)] : List (Str × V)) = ([("options", x0), ("queue", x1), ("bucket", x2), ("flying", y)] : List (Str × V)) := by kernel_rfl

theorem lk_Line_is_up {x0 x1 x2 x3 x4 : V} : (fLine x0 x1 x2 x3 x4).lookup ("is_up" : Str) = some x4 := by kernel_rfl

theorem pt_Line_is_up {x0 x1 x2 x3 x4 y : V} : putF "is_up" y (fLine x0 x1 x2 x3 x4) = fLine x0 x1 x2 x3 y := by kernel_rfl

theorem pn_Line_is_up {x0 x1 x2 x3 y : V} : putF "is_up" y ([("options", x0), ("queue", x1), ("bucket", x2), ("flying", x3)] : List (Str × V)) = ([("options", x0), ("queue", x1), ("bucket", x2), ("flying", x3), ("is_up", y)] : List (Str × V)) := by kernel_rfl

theorem ln_Line_count {x0 x1 x2 x3 x4 : V} : (fLine x0 x1 x2 x3 x4).lookup ("count" : Str) = none := by kernel_rfl

theorem ln_Line_put {x0 x1 x2 x3 x4 : V} : (fLine x0 x1 x2 x3 x4).lookup ("put" : Str) = none := by kernel_rfl

theorem ln_Line_tick {x0 x1 x2 x3 x4 : V} : (fLine x0 x1 x2 x3 x4).lookup ("tick" : Str) = none := by kernel_rfl

theorem ln_Line_cut {x0 x1 x2 x3 x4 : V} : (fLine x0 x1 x2 x3 x4).lookup ("cut" : Str) = none := by kernel_rfl

theorem ln_Line_join {x0 x1 x2 x3 x4 : V} : (fLine x0 x1 x2 x3 x4).lookup ("join" : Str) = none := by kernel_rfl

theorem ln_Line_fork {x0 x1 x2 x3 x4 : V} : (fLine x0 x1 x2 x3 x4).lookup ("fork" : Str) = none := by kernel_rfl

/-- kw:Frame.__init__:4:birth,hops,marked -/
abbrev gv_Frame_init_k0 : List V → List V → List V := fun vs zs => vs ++ zs

/-- kw:Frame.__init__:4:birth,hops -/
abbrev gv_Frame_init_k1 : List V → List V → List V := fun vs zs => vs ++ (zs ++ [.bl false])

/-- kw:LinkOptions.__init__:0:cost,size,rate,depth,limit,delay -/
abbrev gv_LinkOptions_init_k2 : List V → List V → List V := fun vs zs => vs ++ zs

theorem gk_Frame_init_k0 {v_self v_kind v_sender v_target v_octets v_birth v_hops v_marked : V} : gv_Frame_init_k0 [v_self, v_kind, v_sender, v_target, v_octets] [v_birth, v_hops, v_marked] = [v_self, v_kind, v_sender, v_target, v_octets, v_birth, v_hops, v_marked] := rfl

theorem gk_Frame_init_k1 {v_self v_kind v_sender v_target v_octets v_birth v_hops : V} : gv_Frame_init_k1 [v_self, v_kind, v_sender, v_target, v_octets] [v_birth, v_hops] = [v_self, v_kind, v_sender, v_target, v_octets, v_birth, v_hops, (V.bl false)] := rfl

theorem gk_LinkOptions_init_k2 {v_self v_cost v_size v_rate v_depth v_limit v_delay : V} : gv_LinkOptions_init_k2 [v_self] [v_cost, v_size, v_rate, v_depth, v_limit, v_delay] = [v_self, v_cost, v_size, v_rate, v_depth, v_limit, v_delay] := rfl

end
end K89

namespace K89
open PySem PySem.Spec PyProof.Rows L2 G
abbrev R : PySem.W.OpenRow := PySem.W.OpenLaw.row PySem.Challenge.rw_throughway_k89_lines_keep_their_rules
abbrev hk : PySem.W.Hook := hookB 5 fa fn pr ex
def ob (s : PySem.W.SharedT) : AlB := obsBG 5 fa fn pr ex (HandSHeadRun.getT s)
theorem ob_eq (s : PySem.W.SharedT) : ob s = hk.obs s.abs := obsBG_eq (HandSHeadRun.getT_eq s)
def names : List PySem.Str := (["_wall", "ThroughwayError", "InvalidAmount", "Bucket", "Waiting", "Flow", "FairQueue", "LinkOptions", "Line", "Frame", "_law_cell", "_law_start", "_law_digit", "_law_frame", "_law_values", "_law_row", "_law_frames_are_so", "_law_put", "_law_tick", "_law_deed", "_law_agrees", "LEAST_SIZE", "MOST_SIZE", "ROOM", "MOST_COST", "MOST_DELAY", "GREATEST", "HEAD", "MOST_HOPS"] : List PySem.Str)
theorem run (w : World) : HandSHeadRun.RunEq R (PySem.W.view R.prog [35]) hk ob 4000 names w := by
  intro os
  kernel_rfl
end K89

namespace K89
open PySem PySem.Spec PyProof.Rows L2 G
/-! ### fair queues: the mathematics -/
abbrev Ky := List Key
def kDat : Key → PyData
  | .inl i => .int i
  | .inr s => .str s
def kD (k : Ky) : PyData := .tuple (k.map kDat)
def kOk (k : Ky) : Prop := SeqAt.shaped (kD k) = true
structure Wt where
  k : Ky
  i : V
  w : Int
structure Fl where
  k : Ky
  rows : List (V × Int)
  cr : Int
structure Qu where
  lim : Int
  q : Int
  fs : List Fl
  gr : Bool
abbrev Fl.wr (f : Fl) (rs : List (V × Int)) : Fl := ⟨f.k, rs, f.cr⟩
abbrev Fl.wc (f : Fl) (c : Int) : Fl := ⟨f.k, f.rows, c⟩
def Fl.oct (f : Fl) : Int := (f.rows.map (·.2)).sum
abbrev Fl.wt (f : Fl) (r : V × Int) : Wt := ⟨f.k, r.1, r.2⟩
def fl0 : Fl := ⟨[], [], 0⟩
def octs (fs : List Fl) : Int := (fs.map Fl.oct).sum
def cnt (fs : List Fl) : Nat := (fs.map (fun f => f.rows.length)).sum
/-- the first flow with the most octets, of the first n + 1 -/
def mostTo (fs : List Fl) : Nat → Nat
  | 0 => 0
  | n + 1 => if (fs.getD (mostTo fs n) fl0).oct < (fs.getD (n + 1) fl0).oct then n + 1 else mostTo fs n
def most (fs : List Fl) : Nat := mostTo fs (fs.length - 1)
/-- the flow at a place has gone if it is empty -/
def outAt (fs : List Fl) (gr : Bool) (a : Nat) : List Fl × Bool := if (fs.getD a fl0).rows = [] then (fs.eraseIdx a, if a = 0 then false else gr) else (fs, gr)
def dropS (fs : List Fl) (gr : Bool) : List Fl × Bool := outAt (fs.set (most fs) ((fs.getD (most fs) fl0).wr (fs.getD (most fs) fl0).rows.dropLast)) gr (most fs)
def dropW (fs : List Fl) : Wt := (fs.getD (most fs) fl0).wt ((fs.getD (most fs) fl0).rows.getLastD (.non, 0))
def dropL (lim : Int) : Nat → List Fl → Bool → List Fl × Bool × List Wt
  | 0, fs, gr => (fs, gr, [])
  | n + 1, fs, gr => if octs fs ≤ lim then (fs, gr, []) else
    ((dropL lim n (dropS fs gr).1 (dropS fs gr).2).1, (dropL lim n (dropS fs gr).1 (dropS fs gr).2).2.1, dropW fs :: (dropL lim n (dropS fs gr).1 (dropS fs gr).2).2.2)
def fnd (fs : List Fl) (k : Ky) : Option Nat := fs.findIdx? (fun f => decide (f.k = k))
def addF (fs : List Fl) (k : Ky) (r : V × Int) : List Fl := match fnd fs k with
  | some j => fs.set j ((fs.getD j fl0).wr ((fs.getD j fl0).rows ++ [r]))
  | none => fs ++ [⟨k, [r], 0⟩]
def putF (x : Qu) (k : Ky) (i : V) (w : Int) : Qu × List Wt := if x.lim < w then (x, [⟨k, i, w⟩]) else
  ({ x with fs := (dropL x.lim (cnt (addF x.fs k (i, w))) (addF x.fs k (i, w)) x.gr).1, gr := (dropL x.lim (cnt (addF x.fs k (i, w))) (addF x.fs k (i, w)) x.gr).2.1 }, (dropL x.lim (cnt (addF x.fs k (i, w))) (addF x.fs k (i, w)) x.gr).2.2)
def Fl.w0 (f : Fl) : Int := (f.rows.headD (.non, 0)).2
/-- what the first items still want -/
def want (fs : List Fl) : Nat := (fs.map (fun f => (f.w0 - f.cr).toNat)).sum
def mu (fs : List Fl) (gr : Bool) : Nat := want fs + if gr then 1 else 0
def turnL (q : Int) : Nat → List Fl → Bool → List Fl × Bool
  | 0, fs, gr => (fs, gr)
  | _ + 1, [], gr => ([], gr)
  | n + 1, f :: r, gr => if f.w0 ≤ (if gr then f.cr else f.cr + q) then ({ f with cr := if gr then f.cr else f.cr + q } :: r, true) else turnL q n (r ++ [{ f with cr := if gr then f.cr else f.cr + q }]) false
def turnF (x : Qu) : Qu := { x with fs := (turnL x.q (mu x.fs x.gr + 1) x.fs x.gr).1, gr := (turnL x.q (mu x.fs x.gr + 1) x.fs x.gr).2 }
def firstF (x : Qu) : Option Wt := match x.fs with
  | [] => none
  | f :: _ => some (f.wt (f.rows.headD (.non, 0)))
/-- the first item has gone -/
def goneF (x : Qu) : Qu := match x.fs with
  | [] => x
  | f :: r => { x with fs := (outAt ({ f with rows := f.rows.tail, cr := f.cr - f.w0 } :: r) x.gr 0).1, gr := (outAt ({ f with rows := f.rows.tail, cr := f.cr - f.w0 } :: r) x.gr 0).2 }
def allW (fs : List Fl) : List Wt := (fs.map (fun f => f.rows.map f.wt)).flatten
structure WFl (f : Fl) : Prop where
  k : kOk f.k
  ne : f.rows ≠ []
  w : ∀ r ∈ f.rows, 1 ≤ r.2
structure WF (x : Qu) : Prop where
  lim : 1 ≤ x.lim
  q : 1 ≤ x.q
  fs : ∀ f ∈ x.fs, WFl f
/-! ### what stands on the heap -/
section
variable (K : PySem.W.Frag)
def KyP (a : Addr) (k : Ky) : HP := ro a (.tup (k.map kV))
def WtP (p : Addr) (x : Wt) : HP := hex fun dx => hex fun ka => stars [ro p (.ins (He.ga K "Waiting") dx (fWaiting (.ref ka) x.i (.int x.w))), KyP ka x.k]
def FlP (p : Addr) (f : Fl) : HP := hex fun dx => hex fun ka => hex fun l => hex fun ws => stars [pt p (.ins (He.ga K "Flow") dx (fFlow (.ref ka) (.ref l) (.int f.oct) (.int f.cr))), KyP ka f.k, pt l (.lst (ws.map V.ref)), big (WtP K) ws (f.rows.map f.wt)]
def QuP (p : Addr) (x : Qu) : HP := hex fun dx => hex fun l => hex fun fs => stars [pt p (.ins (He.ga K "FairQueue") dx (fFairQueue (.int x.lim) (.int x.q) (.ref l) (.bl x.gr))), pt l (.lst (fs.map V.ref)), big (FlP K) fs x.fs]
end
section
variable {K : PySem.W.Frag} {L R L1 L2 L3 : List HP} {H : Hp} {p ka l dx : Addr} {k : Ky} {x : Wt} {f : Fl} {y : Qu} {ws fs : List Addr} {c : Bool}
instance {a : Addr} {k : Ky} : Ro (KyP a k) := by unfold KyP; infer_instance
instance {p : Addr} {x : Wt} : Ro (WtP K p x) := by unfold WtP; infer_instance
theorem wt_in (w : Own (ro p (.ins (He.ga K "Waiting") dx (fWaiting (.ref ka) x.i (.int x.w))) :: KyP ka x.k :: L) H) : Own (WtP K p x :: L) H := Own.exi dx (Own.exi ka (Own.fold (L := [_, _]) w))
theorem wt_out (w : Own (WtP K p x :: L) H) : ∃ dx ka, Own (ro p (.ins (He.ga K "Waiting") dx (fWaiting (.ref ka) x.i (.int x.w))) :: KyP ka x.k :: L) H := by
  obtain ⟨dx, w⟩ := w.ex
  obtain ⟨ka, w⟩ := w.ex
  exact ⟨dx, ka, Own.flat (L := [_, _]) w⟩
theorem fl_in (w : Own (pt p (.ins (He.ga K "Flow") dx (fFlow (.ref ka) (.ref l) (.int f.oct) (.int f.cr))) :: KyP ka f.k :: pt l (.lst (ws.map V.ref)) :: big (WtP K) ws (f.rows.map f.wt) :: L) H) : Own (FlP K p f :: L) H :=
  Own.exi dx (Own.exi ka (Own.exi l (Own.exi ws (Own.fold (L := [_, _, _, _]) w))))
theorem fl_out (w : Own (FlP K p f :: L) H) : ∃ dx ka l ws, Own (pt p (.ins (He.ga K "Flow") dx (fFlow (.ref ka) (.ref l) (.int f.oct) (.int f.cr))) :: KyP ka f.k :: pt l (.lst (ws.map V.ref)) :: big (WtP K) ws (f.rows.map f.wt) :: L) H := by
  obtain ⟨dx, w⟩ := w.ex
  obtain ⟨ka, w⟩ := w.ex
  obtain ⟨l, w⟩ := w.ex
  obtain ⟨ws, w⟩ := w.ex
  exact ⟨dx, ka, l, ws, Own.flat (L := [_, _, _, _]) w⟩
theorem qu_in (w : Own (pt p (.ins (He.ga K "FairQueue") dx (fFairQueue (.int y.lim) (.int y.q) (.ref l) (.bl y.gr))) :: pt l (.lst (fs.map V.ref)) :: big (FlP K) fs y.fs :: L) H) : Own (QuP K p y :: L) H :=
  Own.exi dx (Own.exi l (Own.exi fs (Own.fold (L := [_, _, _]) w)))
theorem qu_out (w : Own (QuP K p y :: L) H) : ∃ dx l fs, Own (pt p (.ins (He.ga K "FairQueue") dx (fFairQueue (.int y.lim) (.int y.q) (.ref l) (.bl y.gr))) :: pt l (.lst (fs.map V.ref)) :: big (FlP K) fs y.fs :: L) H := by
  obtain ⟨dx, w⟩ := w.ex
  obtain ⟨l, w⟩ := w.ex
  obtain ⟨fs, w⟩ := w.ex
  exact ⟨dx, l, fs, Own.flat (L := [_, _, _]) w⟩
theorem tell_wt : Tell (WtP K p x) (fun H => ∃ dx ka, H p = some (.ins (He.ga K "Waiting") dx (fWaiting (.ref ka) x.i (.int x.w))) ∧ H ka = some (.tup (x.k.map kV))) := fun h ⟨dx, ka, h1, h2, d, s1, s2, p, h3, h4, _, s3, _, q, _⟩ H e => ⟨dx, ka, e _ _ _ (s1 _ _ p), e _ _ _ (s2 _ _ (s3 _ _ q))⟩
theorem tell_fl : Tell (FlP K p f) (fun H => ∃ dx ka l, H p = some (.ins (He.ga K "Flow") dx (fFlow (.ref ka) (.ref l) (.int f.oct) (.int f.cr))) ∧ H ka = some (.tup (f.k.map kV))) := fun h ⟨dx, ka, l, ws, h1, h2, d, s1, s2, p, h3, h4, _, s3, _, q, _⟩ H e => ⟨dx, ka, l, e _ _ _ (s1 _ _ p), e _ _ _ (s2 _ _ (s3 _ _ q))⟩
theorem tell_qu : Tell (QuP K p y) (fun H => ∃ dx l, H p = some (.ins (He.ga K "FairQueue") dx (fFairQueue (.int y.lim) (.int y.q) (.ref l) (.bl y.gr)))) := fun h ⟨dx, l, fs, h1, h2, d, s1, s2, p, _⟩ H e => ⟨dx, l, e _ _ _ (s1 _ _ p)⟩
theorem tell_qu_lim : TFld (QuP K p y) p (He.ga K "FairQueue") "limit" (.int y.lim) := fun h z H e => let ⟨dx, l, w⟩ := tell_qu h z H e; ⟨dx, _, w, lk_FairQueue_limit⟩
theorem tell_qu_q : TFld (QuP K p y) p (He.ga K "FairQueue") "quantum" (.int y.q) := fun h z H e => let ⟨dx, l, w⟩ := tell_qu h z H e; ⟨dx, _, w, lk_FairQueue_quantum⟩
theorem tell_qu_m {m : Str} (ln : ∀ {x0 x1 x2 x3 : V}, (fFairQueue x0 x1 x2 x3).lookup m = none) : TMt (QuP K p y) p (He.ga K "FairQueue") m := fun h z H e => let ⟨dx, l, w⟩ := tell_qu h z H e; ⟨dx, _, w, ln⟩
theorem tell_fl_m {m : Str} (ln : ∀ {x0 x1 x2 x3 : V}, (fFlow x0 x1 x2 x3).lookup m = none) : TMt (FlP K p f) p (He.ga K "Flow") m := fun h z H e => let ⟨dx, ka, l, w, _⟩ := tell_fl h z H e; ⟨dx, _, w, ln⟩
theorem tell_wt_w : TFld (WtP K p x) p (He.ga K "Waiting") "weight" (.int x.w) := fun h z H e => let ⟨dx, ka, w, _⟩ := tell_wt h z H e; ⟨dx, _, w, lk_Waiting_weight⟩
theorem tell_wt_i : TFld (WtP K p x) p (He.ga K "Waiting") "item" x.i := fun h z H e => let ⟨dx, ka, w, _⟩ := tell_wt h z H e; ⟨dx, _, w, lk_Waiting_item⟩
end
/-! ### promises -/
abbrev eA (K : PySem.W.Frag) : Value := .ref (He.ga K "InvalidAmount")
def sp_Waiting_init (K : PySem.W.Frag) : Sp := fun vs H Q _ => ∃ (p dx ka : Addr) (k : Ky) (i : V) (w : Int) (R : List HP), vs = [.ref p, .ref ka, i, .int w] ∧ Own (pt p (.ins (He.ga K "Waiting") dx []) :: KyP ka k :: R) H ∧ ∀ H', Own (WtP K p ⟨k, i, w⟩ :: R) H' → Q .non H'
def sp_Flow_init (K : PySem.W.Frag) : Sp := fun vs H Q _ => ∃ (p dx ka : Addr) (k : Ky) (R : List HP), vs = [.ref p, .ref ka] ∧ Own (pt p (.ins (He.ga K "Flow") dx []) :: KyP ka k :: R) H ∧ ∀ H', Own (FlP K p ⟨k, [], 0⟩ :: R) H' → Q .non H'
def sp_Flow_add (K : PySem.W.Frag) : Sp := fun vs H Q _ => ∃ (p x : Addr) (f : Fl) (r : V × Int) (R : List HP), vs = [.ref p, .ref x] ∧ f.rows.length ≤ 1000000 ∧ Own (FlP K p f :: WtP K x (f.wt r) :: R) H ∧ ∀ H', Own (FlP K p { f with rows := f.rows ++ [r] } :: R) H' → Q .non H'
def sp_Flow_take (K : PySem.W.Frag) : Sp := fun vs H Q _ => ∃ (p : Addr) (f : Fl) (j : Nat) (r : V × Int) (R : List HP), vs = [.ref p, .int (j : Int)] ∧ f.rows[j]? = some r ∧ f.rows.length ≤ 1000000 ∧ Own (FlP K p f :: R) H ∧
  ∀ H' x, Own (WtP K x (f.wt r) :: FlP K p { f with rows := f.rows.eraseIdx j } :: R) H' → Q (.ref x) H'
def sp_Flow_fork (K : PySem.W.Frag) : Sp := fun vs H Q _ => ∃ (p : Addr) (f : Fl) (R : List HP), vs = [.ref p] ∧ Own (FlP K p f :: R) H ∧ ∀ H' p', Own (FlP K p' f :: FlP K p f :: R) H' → Q (.ref p') H'
def sp_FairQueue_init (K : PySem.W.Frag) : Sp := fun vs H Q E => ∃ (p dx : Addr) (lim q : Int) (R : List HP), vs = [.ref p, .int lim, .int q] ∧ Own (pt p (.ins (He.ga K "FairQueue") dx []) :: R) H ∧ (lim < 1 ∨ q < 1 → ∀ H', Own R H' → E (eA K) none H') ∧
  (1 ≤ lim → 1 ≤ q → ∀ H', Own (QuP K p ⟨lim, q, [], false⟩ :: R) H' → Q .non H')
def sp_FairQueue_octets (K : PySem.W.Frag) : Sp := fun vs H Q _ => ∃ (p : Addr) (x : Qu) (R : List HP), vs = [.ref p] ∧ x.fs.length ≤ 1000000 ∧ Own (QuP K p x :: R) H ∧ ∀ H', Own (QuP K p x :: R) H' → Q (.int (octs x.fs)) H'
/-- the round is open: its list at l, its flows at fs -/
def sp_FairQueue_flow_of (K : PySem.W.Frag) : Sp := fun vs H Q _ => ∃ (p dx l ka : Addr) (fs : List Addr) (x : Qu) (k : Ky) (R : List HP), vs = [.ref p, .ref ka] ∧ kOk k ∧ (∀ f ∈ x.fs, kOk f.k) ∧
  Own (pt p (.ins (He.ga K "FairQueue") dx (fFairQueue (.int x.lim) (.int x.q) (.ref l) (.bl x.gr))) :: pt l (.lst (fs.map V.ref)) :: big (FlP K) fs x.fs :: KyP ka k :: R) H ∧
  ∀ H', Own (pt p (.ins (He.ga K "FairQueue") dx (fFairQueue (.int x.lim) (.int x.q) (.ref l) (.bl x.gr))) :: pt l (.lst (fs.map V.ref)) :: big (FlP K) fs x.fs :: KyP ka k :: R) H' → ∀ v, (v = V.non ∧ fnd x.fs k = none ∨ ∃ j a, v = V.ref a ∧ fnd x.fs k = some j ∧ fs[j]? = some a) → Q v H'
def sp_FairQueue_remove_flow (K : PySem.W.Frag) : Sp := fun vs H Q _ => ∃ (p : Addr) (x : Qu) (j : Nat) (R : List HP), vs = [.ref p, .int (j : Int)] ∧ j < x.fs.length ∧ x.fs.length ≤ 1000000 ∧ Own (QuP K p x :: R) H ∧
  ∀ H', Own (QuP K p { x with fs := x.fs.eraseIdx j, gr := if j = 0 then false else x.gr } :: R) H' → Q .non H'
def sp_FairQueue_put (K : PySem.W.Frag) : Sp := fun vs H Q _ => ∃ (p ka : Addr) (x : Qu) (k : Ky) (i : V) (w : Int) (R : List HP), vs = [.ref p, .ref ka, i, .int w] ∧ WF x ∧ cnt x.fs ≤ 100000 ∧ kOk k ∧ 1 ≤ w ∧ Own (QuP K p x :: KyP ka k :: R) H ∧
  ∀ H' t ws, Own (pt t (.lst (ws.map V.ref)) :: big (WtP K) ws (putF x k i w).2 :: QuP K p (putF x k i w).1 :: R) H' → Q (.ref t) H'
def sp_FairQueue_drop (K : PySem.W.Frag) : Sp := fun vs H Q _ => ∃ (p : Addr) (x : Qu) (R : List HP), vs = [.ref p] ∧ x.fs ≠ [] ∧ (∀ f ∈ x.fs, f.rows ≠ []) ∧ cnt x.fs ≤ 200000 ∧ Own (QuP K p x :: R) H ∧
  ∀ H' a, Own (WtP K a (dropW x.fs) :: QuP K p { x with fs := (dropS x.fs x.gr).1, gr := (dropS x.fs x.gr).2 } :: R) H' → Q (.ref a) H'
def sp_FairQueue_turn (K : PySem.W.Frag) : Sp := fun vs H Q _ => ∃ (p : Addr) (x : Qu) (R : List HP), vs = [.ref p] ∧ WF x ∧ cnt x.fs ≤ 200000 ∧ Own (QuP K p x :: R) H ∧ ∀ H', Own (QuP K p (turnF x) :: R) H' → Q .non H'
def sp_FairQueue_next_up (K : PySem.W.Frag) : Sp := fun vs H Q _ => ∃ (p : Addr) (x : Qu) (R : List HP), vs = [.ref p] ∧ WF x ∧ cnt x.fs ≤ 200000 ∧ Own (QuP K p x :: R) H ∧
  (firstF (turnF x) = none → ∀ H', Own (QuP K p (turnF x) :: R) H' → Q .non H') ∧ ∀ y, firstF (turnF x) = some y → ∀ H' a, Own (WtP K a y :: QuP K p (turnF x) :: R) H' → Q (.ref a) H'
def sp_FairQueue_take (K : PySem.W.Frag) : Sp := fun vs H Q _ => ∃ (p : Addr) (x : Qu) (R : List HP), vs = [.ref p] ∧ WF x ∧ cnt x.fs ≤ 200000 ∧ Own (QuP K p x :: R) H ∧
  (firstF (turnF x) = none → ∀ H', Own (QuP K p (turnF x) :: R) H' → Q .non H') ∧ ∀ y, firstF (turnF x) = some y → ∀ H' a, Own (WtP K a y :: QuP K p (goneF (turnF x)) :: R) H' → Q (.ref a) H'
def sp_FairQueue_take_all (K : PySem.W.Frag) : Sp := fun vs H Q _ => ∃ (p : Addr) (x : Qu) (R : List HP), vs = [.ref p] ∧ cnt x.fs ≤ 200000 ∧ Own (QuP K p x :: R) H ∧ ∀ H' t ws, Own (pt t (.lst (ws.map V.ref)) :: big (WtP K) ws (allW x.fs) :: QuP K p { x with fs := [], gr := false } :: R) H' → Q (.ref t) H'
def sp_FairQueue_fork (K : PySem.W.Frag) : Sp := fun vs H Q _ => ∃ (p : Addr) (x : Qu) (R : List HP), vs = [.ref p] ∧ 1 ≤ x.lim ∧ 1 ≤ x.q ∧ x.fs.length ≤ 1000000 ∧ Own (QuP K p x :: R) H ∧ ∀ H' p', Own (QuP K p' x :: QuP K p x :: R) H' → Q (.ref p') H'
section
variable {K : PySem.W.Frag} {L R L1 : List HP} {H : Hp} {Q : VK} {E : XK} {p ka dx x a : Addr} {k : Ky} {i : V} {w : Int} {f : Fl} {y : Qu} {r : V × Int}
theorem c_Waiting_init (v : Own L H) (p1 : Pick L (pt p (.ins (He.ga K "Waiting") dx [])) L1) (p2 : Pick L1 (KyP ka k) R) (q : ∀ H', Own (WtP K p ⟨k, i, w⟩ :: R) H' → Q .non H') : sp_Waiting_init K [.ref p, .ref ka, i, .int w] H Q E := ⟨p, dx, ka, k, i, w, R, rfl, (v.pick p1).pick2 p2, q⟩
theorem c_Flow_init (v : Own L H) (p1 : Pick L (pt p (.ins (He.ga K "Flow") dx [])) L1) (p2 : Pick L1 (KyP ka k) R) (q : ∀ H', Own (FlP K p ⟨k, [], 0⟩ :: R) H' → Q .non H') : sp_Flow_init K [.ref p, .ref ka] H Q E := ⟨p, dx, ka, k, R, rfl, (v.pick p1).pick2 p2, q⟩
theorem c_take {j : Nat} {i : Int} (e : i = (j : Int)) (hr : f.rows[j]? = some r) (hl : f.rows.length ≤ 1000000) (v : Own L H) (p1 : Pick L (FlP K p f) R) (q : ∀ H' x, Own (WtP K x (f.wt r) :: FlP K p { f with rows := f.rows.eraseIdx j } :: R) H' → Q (.ref x) H') : sp_Flow_take K [.ref p, .int i] H Q E := ⟨p, f, j, r, R, by rw [e], hr, hl, v.pick p1, q⟩
theorem c_remove {j : Nat} {i : Int} (e : i = (j : Int)) (hj : j < y.fs.length) (hl : y.fs.length ≤ 1000000) (v : Own L H) (p1 : Pick L (QuP K p y) R) (q : ∀ H', Own (QuP K p { y with fs := y.fs.eraseIdx j, gr := if j = 0 then false else y.gr } :: R) H' → Q .non H') : sp_FairQueue_remove_flow K [.ref p, .int i] H Q E := ⟨p, y, j, R, by rw [e], hj, hl, v.pick p1, q⟩
theorem c_add (hl : f.rows.length ≤ 1000000) (v : Own L H) (p1 : Pick L (FlP K p f) L1) (p2 : Pick L1 (WtP K x (f.wt r)) R) (q : ∀ H', Own (FlP K p { f with rows := f.rows ++ [r] } :: R) H' → Q .non H') : sp_Flow_add K [.ref p, .ref x] H Q E := ⟨p, x, f, r, R, rfl, hl, (v.pick p1).pick2 p2, q⟩
theorem c_drop (h1 : y.fs ≠ []) (h2 : ∀ f ∈ y.fs, f.rows ≠ []) (h3 : cnt y.fs ≤ 200000) (v : Own L H) (p1 : Pick L (QuP K p y) R) (q : ∀ H' a, Own (WtP K a (dropW y.fs) :: QuP K p { y with fs := (dropS y.fs y.gr).1, gr := (dropS y.fs y.gr).2 } :: R) H' → Q (.ref a) H') : sp_FairQueue_drop K [.ref p] H Q E := ⟨p, y, R, rfl, h1, h2, h3, v.pick p1, q⟩
theorem c_turn (h1 : WF y) (h3 : cnt y.fs ≤ 200000) (v : Own L H) (p1 : Pick L (QuP K p y) R) (q : ∀ H', Own (QuP K p (turnF y) :: R) H' → Q .non H') : sp_FairQueue_turn K [.ref p] H Q E := ⟨p, y, R, rfl, h1, h3, v.pick p1, q⟩
theorem c_octets (hl : y.fs.length ≤ 1000000) (v : Own L H) (p1 : Pick L (QuP K p y) R) (q : ∀ H', Own (QuP K p y :: R) H' → Q (.int (octs y.fs)) H') : sp_FairQueue_octets K [.ref p] H Q E := ⟨p, y, R, rfl, hl, v.pick p1, q⟩
end
/-! ### frames, buckets, lines: the mathematics -/
structure Fr where
  kind : Str
  sender : Int
  target : Int
  oct : List Int
  birth : Int
  hops : Int
  marked : Bool
deriving DecidableEq
def Fr.key (f : Fr) : Ky := [.inr f.kind, .inl f.sender, .inl f.target]
def Fr.wt (f : Fr) : Int := 12 + (f.oct.length : Nat)
abbrev Fr.mark (f : Fr) : Fr := { f with marked := true }
structure Bk where
  rate : Int
  depth : Int
  tokens : Int
def Bk.tick (b : Bk) : Bk := { b with tokens := if b.tokens + b.rate < b.depth then b.tokens + b.rate else b.depth }
structure Lo where
  cost : Int
  size : Int
  rate : Int
  depth : Int
  limit : Int
  delay : Int
structure Ln where
  o : Lo
  x : Qu
  b : Bk
  fly : List (Int × V)
  up : Bool
/-- what goes at a tick -/
def sendL : Nat → Qu → Bk → List Wt × Qu × Bk
  | 0, x, b => ([], turnF x, b)
  | n + 1, x, b => match firstF (turnF x) with
    | none => ([], turnF x, b)
    | some y => if y.w ≤ b.tokens then (y :: (sendL n (goneF (turnF x)) { b with tokens := b.tokens - y.w }).1, (sendL n (goneF (turnF x)) { b with tokens := b.tokens - y.w }).2) else ([], turnF x, b)
def sendF (x : Qu) (b : Bk) : List Wt × Qu × Bk := sendL (cnt x.fs) x b
def tickF (z : Ln) (now : Int) : Ln × List V :=
  let s := sendF z.x z.b.tick
  let fl := z.fly ++ s.1.map (fun y => (now + z.o.delay, y.i))
  ({ z with x := s.2.1, b := s.2.2, fly := fl.filter (fun r => decide (now < r.1)) }, (fl.filter (fun r => decide (r.1 ≤ now))).map (·.2))
/-! ### what stands on the heap -/
section
variable (K : PySem.W.Frag)
def FrP (a : Addr) (f : Fr) : HP := hex fun dx => hex fun l => stars [ro a (.ins (He.ga K "Frame") dx (fFrame (.str f.kind) (.int f.sender) (.int f.target) (.ref l) (.int f.birth) (.int f.hops) (.bl f.marked))), ro l (.lst (f.oct.map V.int))]
def BuP (p : Addr) (b : Bk) : HP := hex fun dx => pt p (.ins (He.ga K "Bucket") dx (fBucket (.int b.rate) (.int b.depth) (.int b.tokens)))
def LoP (p : Addr) (o : Lo) : HP := hex fun dx => ro p (.ins (He.ga K "LinkOptions") dx (fLinkOptions (.int o.cost) (.int o.size) (.int o.rate) (.int o.depth) (.int o.limit) (.int o.delay)))
def DuP (t : Addr) (r : Int × V) : HP := ro t (.tup [.int r.1, r.2])
def LnP (p : Addr) (z : Ln) : HP := hex fun dx => hex fun lo => hex fun qa => hex fun ba => hex fun fl => hex fun ts => stars [pt p (.ins (He.ga K "Line") dx (fLine (.ref lo) (.ref qa) (.ref ba) (.ref fl) (.bl z.up))), LoP K lo z.o, QuP K qa z.x, BuP K ba z.b, pt fl (.lst (ts.map V.ref)), big DuP ts z.fly]
end
section
variable {K : PySem.W.Frag} {L R L1 : List HP} {H : Hp} {a p l dx lo qa ba fl : Addr} {ts : List Addr} {f : Fr} {b : Bk} {o : Lo} {z : Ln}
instance : Ro (FrP K a f) := by unfold FrP; infer_instance
instance : Ro (LoP K p o) := by unfold LoP; infer_instance
instance {t : Addr} {r : Int × V} : Ro (DuP t r) := by unfold DuP; infer_instance
theorem fr_in (w : Own (ro a (.ins (He.ga K "Frame") dx (fFrame (.str f.kind) (.int f.sender) (.int f.target) (.ref l) (.int f.birth) (.int f.hops) (.bl f.marked))) :: ro l (.lst (f.oct.map V.int)) :: L) H) : Own (FrP K a f :: L) H := Own.exi dx (Own.exi l (Own.fold (L := [_, _]) w))
theorem fr_out (w : Own (FrP K a f :: L) H) : ∃ dx l, Own (ro a (.ins (He.ga K "Frame") dx (fFrame (.str f.kind) (.int f.sender) (.int f.target) (.ref l) (.int f.birth) (.int f.hops) (.bl f.marked))) :: ro l (.lst (f.oct.map V.int)) :: L) H := by
  obtain ⟨dx, w⟩ := w.ex
  obtain ⟨l, w⟩ := w.ex
  exact ⟨dx, l, Own.flat (L := [_, _]) w⟩
theorem bu_in (w : Own (pt p (.ins (He.ga K "Bucket") dx (fBucket (.int b.rate) (.int b.depth) (.int b.tokens))) :: L) H) : Own (BuP K p b :: L) H := Own.exi dx w
theorem bu_out (w : Own (BuP K p b :: L) H) : ∃ dx, Own (pt p (.ins (He.ga K "Bucket") dx (fBucket (.int b.rate) (.int b.depth) (.int b.tokens))) :: L) H := w.ex
theorem lo_in (w : Own (ro p (.ins (He.ga K "LinkOptions") dx (fLinkOptions (.int o.cost) (.int o.size) (.int o.rate) (.int o.depth) (.int o.limit) (.int o.delay))) :: L) H) : Own (LoP K p o :: L) H := Own.exi dx w
theorem lo_out (w : Own (LoP K p o :: L) H) : ∃ dx, Own (ro p (.ins (He.ga K "LinkOptions") dx (fLinkOptions (.int o.cost) (.int o.size) (.int o.rate) (.int o.depth) (.int o.limit) (.int o.delay))) :: L) H := w.ex
theorem ln_in (w : Own (pt p (.ins (He.ga K "Line") dx (fLine (.ref lo) (.ref qa) (.ref ba) (.ref fl) (.bl z.up))) :: LoP K lo z.o :: QuP K qa z.x :: BuP K ba z.b :: pt fl (.lst (ts.map V.ref)) :: big DuP ts z.fly :: L) H) : Own (LnP K p z :: L) H :=
  Own.exi dx (Own.exi lo (Own.exi qa (Own.exi ba (Own.exi fl (Own.exi ts (Own.fold (L := [_, _, _, _, _, _]) w))))))
theorem ln_out (w : Own (LnP K p z :: L) H) : ∃ dx lo qa ba fl ts, Own (pt p (.ins (He.ga K "Line") dx (fLine (.ref lo) (.ref qa) (.ref ba) (.ref fl) (.bl z.up))) :: LoP K lo z.o :: QuP K qa z.x :: BuP K ba z.b :: pt fl (.lst (ts.map V.ref)) :: big DuP ts z.fly :: L) H := by
  obtain ⟨dx, w⟩ := w.ex
  obtain ⟨lo, w⟩ := w.ex
  obtain ⟨qa, w⟩ := w.ex
  obtain ⟨ba, w⟩ := w.ex
  obtain ⟨fl, w⟩ := w.ex
  obtain ⟨ts, w⟩ := w.ex
  exact ⟨dx, lo, qa, ba, fl, ts, Own.flat (L := [_, _, _, _, _, _]) w⟩
end
/-! ### promises -/
def sp_FairQueue_count (K : PySem.W.Frag) : Sp := fun vs H Q _ => ∃ (p : Addr) (x : Qu) (R : List HP), vs = [.ref p] ∧ cnt x.fs ≤ 200000 ∧ x.fs.length ≤ 200000 ∧ Own (QuP K p x :: R) H ∧ ∀ H', Own (QuP K p x :: R) H' → Q (.int (cnt x.fs : Nat)) H'
def sp_Frame_init (K : PySem.W.Frag) : Sp := fun vs H Q _ => ∃ (p dx l : Addr) (f : Fr) (R : List HP), vs = [.ref p, .str f.kind, .int f.sender, .int f.target, .ref l, .int f.birth, .int f.hops, .bl f.marked] ∧ f.oct.length ≤ 1000 ∧ Own (pt p (.ins (He.ga K "Frame") dx []) :: R) H ∧ GotL K R l (f.oct.map V.int) ∧ ∀ H', Own (FrP K p f :: R) H' → Q .non H'
def sp_Frame__eq (K : PySem.W.Frag) : Sp := fun vs H Q _ => ∃ (p : Addr) (v : V) (f : Fr) (R : List HP), vs = [.ref p, v] ∧ Own (FrP K p f :: R) H ∧ ((∃ (a : Addr) (g : Fr), v = .ref a ∧ Own (FrP K a g :: FrP K p f :: R) H ∧ ∀ H', Own R H' → Q (.bl (decide (f = g))) H') ∨ ∃ (t : Addr) (xs : List V), v = .ref t ∧ Got R t (.tup xs) ∧ ∀ H', Own R H' → Q (.bl false) H')
def sp_Frame_as_row (K : PySem.W.Frag) : Sp := fun vs H Q _ => ∃ (p : Addr) (f : Fr) (R : List HP), vs = [.ref p] ∧ Own (FrP K p f :: R) H ∧ ∀ H' t l, Own (ro t (.tup [.str f.kind, .int f.sender, .int f.target, .ref l, .int f.birth, .int f.hops, .bl f.marked]) :: ro l (.lst (f.oct.map V.int)) :: R) H' → Q (.ref t) H'
def sp_Frame_weight (K : PySem.W.Frag) : Sp := fun vs H Q _ => ∃ (p : Addr) (f : Fr) (R : List HP), vs = [.ref p] ∧ Own (FrP K p f :: R) H ∧ ∀ H', Own R H' → Q (.int f.wt) H'
def sp_Frame_flow_key (K : PySem.W.Frag) : Sp := fun vs H Q _ => ∃ (p : Addr) (f : Fr) (R : List HP), vs = [.ref p] ∧ Own (FrP K p f :: R) H ∧ ∀ H' t, Own (KyP t f.key :: R) H' → Q (.ref t) H'
def sp_Frame_with_mark (K : PySem.W.Frag) : Sp := fun vs H Q _ => ∃ (p : Addr) (f : Fr) (R : List HP), vs = [.ref p] ∧ f.oct.length ≤ 1000 ∧ Own (FrP K p f :: R) H ∧ ∀ H' a, Own (FrP K a f.mark :: R) H' → Q (.ref a) H'
def sp_Frame_after_hop (K : PySem.W.Frag) : Sp := fun vs H Q _ => ∃ (p l : Addr) (f : Fr) (xs : List Int) (R : List HP), vs = [.ref p, .ref l] ∧ xs.length ≤ 1000 ∧ Own (FrP K p f :: R) H ∧ GotL K R l (xs.map V.int) ∧ ∀ H' a, Own (FrP K a { f with oct := xs, hops := f.hops - 1 } :: R) H' → Q (.ref a) H'
def sp_Bucket_init (K : PySem.W.Frag) : Sp := fun vs H Q _ => ∃ (p dx : Addr) (r d : Int) (R : List HP), vs = [.ref p, .int r, .int d] ∧ 1 ≤ r ∧ 1 ≤ d ∧ Own (pt p (.ins (He.ga K "Bucket") dx []) :: R) H ∧ ∀ H', Own (BuP K p ⟨r, d, d⟩ :: R) H' → Q .non H'
def sp_Bucket_tick (K : PySem.W.Frag) : Sp := fun vs H Q _ => ∃ (p : Addr) (b : Bk) (R : List HP), vs = [.ref p] ∧ Own (BuP K p b :: R) H ∧ ∀ H', Own (BuP K p b.tick :: R) H' → Q .non H'
def sp_Bucket_take (K : PySem.W.Frag) : Sp := fun vs H Q _ => ∃ (p : Addr) (b : Bk) (s : Int) (R : List HP), vs = [.ref p, .int s] ∧ Own (BuP K p b :: R) H ∧ (b.tokens < s → ∀ H', Own (BuP K p b :: R) H' → Q (.bl false) H') ∧ (s ≤ b.tokens → ∀ H', Own (BuP K p { b with tokens := b.tokens - s } :: R) H' → Q (.bl true) H')
def sp_Bucket_fork (K : PySem.W.Frag) : Sp := fun vs H Q _ => ∃ (p : Addr) (b : Bk) (R : List HP), vs = [.ref p] ∧ 1 ≤ b.rate ∧ 1 ≤ b.depth ∧ Own (BuP K p b :: R) H ∧ ∀ H' p', Own (BuP K p' b :: BuP K p b :: R) H' → Q (.ref p') H'
structure OkO (o : Lo) : Prop where
  cost : 1 ≤ o.cost ∧ o.cost ≤ 15
  size : 16 ≤ o.size ∧ o.size ≤ 65535
  rate : 1 ≤ o.rate ∧ o.rate ≤ 1073741824
  depth : o.size + 64 ≤ o.depth
  limit : o.depth ≤ o.limit ∧ o.limit ≤ 1073741824
  delay : 1 ≤ o.delay ∧ o.delay ≤ 1000
def sp_LinkOptions_init (K : PySem.W.Frag) : Sp := fun vs H Q _ => ∃ (p dx : Addr) (o : Lo) (R : List HP), vs = [.ref p, .int o.cost, .int o.size, .int o.rate, .int o.depth, .int o.limit, .int o.delay] ∧ OkO o ∧ Own (pt p (.ins (He.ga K "LinkOptions") dx []) :: R) H ∧ ∀ H', Own (LoP K p o :: R) H' → Q .non H'
def sp_Line_init (K : PySem.W.Frag) : Sp := fun vs H Q _ => ∃ (p dx a : Addr) (o : Lo) (R : List HP), vs = [.ref p, .ref a] ∧ OkO o ∧ Own (pt p (.ins (He.ga K "Line") dx []) :: LoP K a o :: R) H ∧ ∀ H', Own (LnP K p ⟨o, ⟨o.limit, o.size, [], false⟩, ⟨o.rate, o.depth, o.depth⟩, [], true⟩ :: R) H' → Q .non H'
def sp_Line_count (K : PySem.W.Frag) : Sp := fun vs H Q _ => ∃ (p : Addr) (z : Ln) (R : List HP), vs = [.ref p] ∧ cnt z.x.fs ≤ 200000 ∧ z.x.fs.length ≤ 200000 ∧ Own (LnP K p z :: R) H ∧ ∀ H', Own (LnP K p z :: R) H' → Q (.int ((cnt z.x.fs + z.fly.length : Nat) : Int)) H'
def sp_Line_put (K : PySem.W.Frag) : Sp := fun vs H Q _ => ∃ (p a : Addr) (z : Ln) (f : Fr) (R : List HP), vs = [.ref p, .ref a] ∧ WF z.x ∧ cnt z.x.fs ≤ 100000 ∧ kOk f.key ∧ f.oct.length ≤ 1000 ∧ Own (LnP K p z :: FrP K a f :: R) H ∧
  (z.up = false → ∀ H' t, Own (pt t (.lst ([a].map V.ref)) :: LnP K p z :: FrP K a f :: R) H' → Q (.ref t) H') ∧
  (z.up = true → ∀ H' t a', Own (pt t (.lst ((putF z.x f.key (.ref a') f.wt).2.map (·.i))) :: LnP K p { z with x := (putF z.x f.key (.ref a') f.wt).1 } :: FrP K a' (if z.o.limit < 2 * octs z.x.fs then f.mark else f) :: R) H' → Q (.ref t) H')
def sp_Line_tick (K : PySem.W.Frag) : Sp := fun vs H Q _ => ∃ (p : Addr) (z : Ln) (now : Int) (R : List HP), vs = [.ref p, .int now] ∧ WF z.x ∧ cnt z.x.fs + z.fly.length ≤ 100000 ∧ Own (LnP K p z :: R) H ∧ ∀ H' t, Own (pt t (.lst (tickF z now).2) :: LnP K p (tickF z now).1 :: R) H' → Q (.ref t) H'
def sp_Line_cut (K : PySem.W.Frag) : Sp := fun vs H Q _ => ∃ (p : Addr) (z : Ln) (R : List HP), vs = [.ref p] ∧ cnt z.x.fs + z.fly.length ≤ 100000 ∧ Own (LnP K p z :: R) H ∧
  ∀ H' t, Own (pt t (.lst ((allW z.x.fs).map (·.i) ++ z.fly.map (·.2))) :: LnP K p { z with x := { z.x with fs := [], gr := false }, fly := [], up := false } :: R) H' → Q (.ref t) H'
def sp_Line_join (K : PySem.W.Frag) : Sp := fun vs H Q _ => ∃ (p : Addr) (z : Ln) (R : List HP), vs = [.ref p] ∧ Own (LnP K p z :: R) H ∧ ∀ H', Own (LnP K p { z with up := true } :: R) H' → Q .non H'
def sp_Line_fork (K : PySem.W.Frag) : Sp := fun vs H Q _ => ∃ (p : Addr) (z : Ln) (R : List HP), vs = [.ref p] ∧ OkO z.o ∧ WF z.x ∧ 1 ≤ z.b.rate ∧ 1 ≤ z.b.depth ∧ cnt z.x.fs + z.fly.length ≤ 100000 ∧ Own (LnP K p z :: R) H ∧ ∀ H' p', Own (LnP K p' z :: LnP K p z :: R) H' → Q (.ref p') H'
section
variable {K : PySem.W.Frag} {L R L1 : List HP} {H : Hp} {Q : VK} {E : XK} {a p l lo qa ba fl : Addr} {f : Fr} {b : Bk} {o : Lo} {z : Ln} {x : Qu} {s : Int}
theorem tell_fr : Tell (FrP K a f) (fun H => ∃ dx l, H a = some (.ins (He.ga K "Frame") dx (fFrame (.str f.kind) (.int f.sender) (.int f.target) (.ref l) (.int f.birth) (.int f.hops) (.bl f.marked))) ∧ H l = some (.lst (f.oct.map V.int))) := fun h ⟨dx, l, h1, h2, d, s1, s2, p, h3, h4, _, s3, _, q, _⟩ H e => ⟨dx, l, e _ _ _ (s1 _ _ p), e _ _ _ (s2 _ _ (s3 _ _ q))⟩
theorem tell_fr_m {m : Str} (ln : ∀ {x0 x1 x2 x3 x4 x5 x6 : V}, (fFrame x0 x1 x2 x3 x4 x5 x6).lookup m = none) : TMt (FrP K a f) a (He.ga K "Frame") m := fun h z H e => let ⟨dx, l, w, _⟩ := tell_fr h z H e; ⟨dx, _, w, ln⟩
theorem tell_fr_kind : TFld (FrP K a f) a (He.ga K "Frame") "kind" (.str f.kind) := fun h z H e => let ⟨dx, l, w, _⟩ := tell_fr h z H e; ⟨dx, _, w, lk_Frame_kind⟩
theorem tell_fr_sender : TFld (FrP K a f) a (He.ga K "Frame") "sender" (.int f.sender) := fun h z H e => let ⟨dx, l, w, _⟩ := tell_fr h z H e; ⟨dx, _, w, lk_Frame_sender⟩
theorem tell_fr_target : TFld (FrP K a f) a (He.ga K "Frame") "target" (.int f.target) := fun h z H e => let ⟨dx, l, w, _⟩ := tell_fr h z H e; ⟨dx, _, w, lk_Frame_target⟩
theorem tell_fr_birth : TFld (FrP K a f) a (He.ga K "Frame") "birth" (.int f.birth) := fun h z H e => let ⟨dx, l, w, _⟩ := tell_fr h z H e; ⟨dx, _, w, lk_Frame_birth⟩
theorem tell_fr_hops : TFld (FrP K a f) a (He.ga K "Frame") "hops" (.int f.hops) := fun h z H e => let ⟨dx, l, w, _⟩ := tell_fr h z H e; ⟨dx, _, w, lk_Frame_hops⟩
theorem tell_fr_marked : TFld (FrP K a f) a (He.ga K "Frame") "marked" (.bl f.marked) := fun h z H e => let ⟨dx, l, w, _⟩ := tell_fr h z H e; ⟨dx, _, w, lk_Frame_marked⟩
theorem tell_bu_m {m : Str} (ln : ∀ {x0 x1 x2 : V}, (fBucket x0 x1 x2).lookup m = none) : TMt (BuP K p b) p (He.ga K "Bucket") m := fun h ⟨dx, z⟩ H e => ⟨dx, _, e _ _ _ z, ln⟩
theorem tell_lo_rate : TFld (LoP K p o) p (He.ga K "LinkOptions") "rate" (.int o.rate) := fun h ⟨dx, z⟩ H e => ⟨dx, _, e _ _ _ z, lk_LinkOptions_rate⟩
theorem tell_lo_depth : TFld (LoP K p o) p (He.ga K "LinkOptions") "depth" (.int o.depth) := fun h ⟨dx, z⟩ H e => ⟨dx, _, e _ _ _ z, lk_LinkOptions_depth⟩
theorem tell_lo_limit : TFld (LoP K p o) p (He.ga K "LinkOptions") "limit" (.int o.limit) := fun h ⟨dx, z⟩ H e => ⟨dx, _, e _ _ _ z, lk_LinkOptions_limit⟩
theorem tell_lo_delay : TFld (LoP K p o) p (He.ga K "LinkOptions") "delay" (.int o.delay) := fun h ⟨dx, z⟩ H e => ⟨dx, _, e _ _ _ z, lk_LinkOptions_delay⟩
theorem tell_lo_size : TFld (LoP K p o) p (He.ga K "LinkOptions") "part_size" (.int o.size) := fun h ⟨dx, z⟩ H e => ⟨dx, _, e _ _ _ z, lk_LinkOptions_part_size⟩
theorem tell_ln : Tell (LnP K p z) (fun H => ∃ dx lo qa ba fl, H p = some (.ins (He.ga K "Line") dx (fLine (.ref lo) (.ref qa) (.ref ba) (.ref fl) (.bl z.up)))) := fun h ⟨dx, lo, qa, ba, fl, ts, h1, h2, d, s1, s2, q, _⟩ H e => ⟨dx, lo, qa, ba, fl, e _ _ _ (s1 _ _ q)⟩
theorem tell_ln_m {m : Str} (ln : ∀ {x0 x1 x2 x3 x4 : V}, (fLine x0 x1 x2 x3 x4).lookup m = none) : TMt (LnP K p z) p (He.ga K "Line") m := fun h q H e => let ⟨dx, lo, qa, ba, fl, w⟩ := tell_ln h q H e; ⟨dx, _, w, ln⟩
theorem tell_ln_up : TFld (LnP K p z) p (He.ga K "Line") "is_up" (.bl z.up) := fun h q H e => let ⟨dx, lo, qa, ba, fl, w⟩ := tell_ln h q H e; ⟨dx, _, w, lk_Line_is_up⟩
theorem c_weight (v : Own L H) (p1 : Pick L (FrP K p f) R) (q : ∀ H', Own R H' → Q (.int f.wt) H') : sp_Frame_weight K [.ref p] H Q E := ⟨p, f, R, rfl, v.pick p1, q⟩
theorem c_key (v : Own L H) (p1 : Pick L (FrP K p f) R) (q : ∀ H' t, Own (KyP t f.key :: R) H' → Q (.ref t) H') : sp_Frame_flow_key K [.ref p] H Q E := ⟨p, f, R, rfl, v.pick p1, q⟩
theorem c_mark (hl : f.oct.length ≤ 1000) (v : Own L H) (p1 : Pick L (FrP K p f) R) (q : ∀ H' t, Own (FrP K t f.mark :: R) H' → Q (.ref t) H') : sp_Frame_with_mark K [.ref p] H Q E := ⟨p, f, R, rfl, hl, v.pick p1, q⟩
theorem c_btick (v : Own L H) (p1 : Pick L (BuP K p b) R) (q : ∀ H', Own (BuP K p b.tick :: R) H' → Q .non H') : sp_Bucket_tick K [.ref p] H Q E := ⟨p, b, R, rfl, v.pick p1, q⟩
theorem c_btake (v : Own L H) (p1 : Pick L (BuP K p b) R) (q1 : b.tokens < s → ∀ H', Own (BuP K p b :: R) H' → Q (.bl false) H') (q2 : s ≤ b.tokens → ∀ H', Own (BuP K p { b with tokens := b.tokens - s } :: R) H' → Q (.bl true) H') : sp_Bucket_take K [.ref p, .int s] H Q E := ⟨p, b, s, R, rfl, v.pick p1, q1, q2⟩
theorem c_bfork (h1 : 1 ≤ b.rate) (h2 : 1 ≤ b.depth) (v : Own L H) (p1 : Pick L (BuP K p b) R) (q : ∀ H' t, Own (BuP K t b :: BuP K p b :: R) H' → Q (.ref t) H') : sp_Bucket_fork K [.ref p] H Q E := ⟨p, b, R, rfl, h1, h2, v.pick p1, q⟩
theorem c_next (wf : WF x) (hc : cnt x.fs ≤ 200000) (v : Own L H) (p1 : Pick L (QuP K p x) R) (q1 : firstF (turnF x) = none → ∀ H', Own (QuP K p (turnF x) :: R) H' → Q .non H') (q2 : ∀ y, firstF (turnF x) = some y → ∀ H' a, Own (WtP K a y :: QuP K p (turnF x) :: R) H' → Q (.ref a) H') : sp_FairQueue_next_up K [.ref p] H Q E := ⟨p, x, R, rfl, wf, hc, v.pick p1, q1, q2⟩
theorem c_qtake_s {y : Wt} (wf : WF x) (hc : cnt x.fs ≤ 200000) (h : firstF (turnF x) = some y) (w : Own L H) (pk : Pick L (QuP K p x) R) (k : ∀ H' a, Own (WtP K a y :: QuP K p (goneF (turnF x)) :: R) H' → Q (.ref a) H') : sp_FairQueue_take K [.ref p] H Q E := ⟨p, x, R, rfl, wf, hc, w.pick pk, (fun hn => by rw [h] at hn; cases hn), fun y' hy => by rw [h] at hy; cases hy; exact k⟩
theorem c_qput {ka : Addr} {k : Ky} {i : V} {w : Int} (wf : WF x) (hc : cnt x.fs ≤ 100000) (hk : kOk k) (hw : 1 ≤ w) (v : Own L H) (p1 : Pick L (QuP K p x) L1) (p2 : Pick L1 (KyP ka k) R) (q : ∀ H' t ws, Own (pt t (.lst (ws.map V.ref)) :: big (WtP K) ws (putF x k i w).2 :: QuP K p (putF x k i w).1 :: R) H' → Q (.ref t) H') : sp_FairQueue_put K [.ref p, .ref ka, i, .int w] H Q E := ⟨p, ka, x, k, i, w, R, rfl, wf, hc, hk, hw, (v.pick p1).pick2 p2, q⟩
theorem c_qcount (hc : cnt x.fs ≤ 200000) (hl : x.fs.length ≤ 200000) (v : Own L H) (p1 : Pick L (QuP K p x) R) (q : ∀ H', Own (QuP K p x :: R) H' → Q (.int (cnt x.fs : Nat)) H') : sp_FairQueue_count K [.ref p] H Q E := ⟨p, x, R, rfl, hc, hl, v.pick p1, q⟩
theorem c_qall (hc : cnt x.fs ≤ 200000) (v : Own L H) (p1 : Pick L (QuP K p x) R) (q : ∀ H' t ws, Own (pt t (.lst (ws.map V.ref)) :: big (WtP K) ws (allW x.fs) :: QuP K p { x with fs := [], gr := false } :: R) H' → Q (.ref t) H') : sp_FairQueue_take_all K [.ref p] H Q E := ⟨p, x, R, rfl, hc, v.pick p1, q⟩
theorem c_qfork (h1 : 1 ≤ x.lim) (h2 : 1 ≤ x.q) (hl : x.fs.length ≤ 1000000) (v : Own L H) (p1 : Pick L (QuP K p x) R) (q : ∀ H' t, Own (QuP K t x :: QuP K p x :: R) H' → Q (.ref t) H') : sp_FairQueue_fork K [.ref p] H Q E := ⟨p, x, R, rfl, h1, h2, hl, v.pick p1, q⟩
end
section
variable {K : PySem.W.Frag}
/-- the item that is next, as the loop holds it -/
def Nx (K : PySem.W.Frag) (v : V) (x : Qu) : HP := match firstF (turnF x) with
  | none => hpu (v = .non)
  | some y => hex fun a : Addr => stars [hpu (v = .ref a), WtP K a y]
theorem nx_n {L : List HP} {H : Hp} {x : Qu} (h : firstF (turnF x) = none) (w : Own L H) : Own (Nx K .non x :: L) H := by
  unfold Nx
  rw [h]
  exact w.pui rfl
theorem nx_s {L : List HP} {H : Hp} {x : Qu} {y : Wt} {a : Addr} (h : firstF (turnF x) = some y) (w : Own (WtP K a y :: L) H) : Own (Nx K (.ref a) x :: L) H := by
  unfold Nx
  rw [h]
  exact Own.exi a (Own.fold (L := [_, _]) (w.pui rfl))
theorem nx_out {L : List HP} {H : Hp} {x : Qu} {v : V} (w : Own (Nx K v x :: L) H) : (firstF (turnF x) = none ∧ v = .non ∧ Own L H) ∨ ∃ y a, firstF (turnF x) = some y ∧ v = .ref a ∧ Own (WtP K a y :: L) H := by
  unfold Nx at w
  cases h : firstF (turnF x) with
  | none =>
    rw [h] at w
    obtain ⟨e, w⟩ := w.pu
    exact .inl ⟨rfl, e, w⟩
  | some y =>
    rw [h] at w
    obtain ⟨a, w⟩ := w.ex
    obtain ⟨e, w⟩ := (Own.flat (L := [_, _]) w).pu
    exact .inr ⟨y, a, rfl, e, w⟩
theorem c_nextN {L R : List HP} {H : Hp} {Q : VK} {E : XK} {p : Addr} {x : Qu} (wf : WF x) (hc : cnt x.fs ≤ 200000) (v : Own L H) (p1 : Pick L (QuP K p x) R) (q : ∀ H' v, Own (Nx K v x :: QuP K p (turnF x) :: R) H' → Q v H') : sp_FairQueue_next_up K [.ref p] H Q E :=
  c_next wf hc v p1 (fun hn H' w => q H' _ (nx_n hn w)) fun y hy H' a w => q H' _ (nx_s hy w)
end
/-! ### the law's own -/
/-- items mapped -/
abbrev Wt.mp (g : V → V) (x : Wt) : Wt := ⟨x.k, g x.i, x.w⟩
abbrev Fl.mp (g : V → V) (f : Fl) : Fl := ⟨f.k, f.rows.map (fun r => (g r.1, r.2)), f.cr⟩
abbrev Qu.mp (g : V → V) (x : Qu) : Qu := ⟨x.lim, x.q, x.fs.map (Fl.mp g), x.gr⟩
/-- frame n stands at address n of a row -/
def atR (as : List Addr) (v : V) : V := match v with
  | .int n => .ref (as.getD n.toNat 0)
  | v => v
structure FOk (f : Fr) : Prop where
  key : kOk f.key
  kind : PyData.strOk f.kind = true
  len : f.oct.length ≤ 100
/-- what law and line have in common: options, queue of numbers, bucket, what flies, whether it is up, the frames -/
structure Ab where
  o : Lo
  x : Qu
  b : Bk
  fly : List (Int × V)
  up : Bool
  cs : List Fr
def Ab.ln (z : Ab) (as : List Addr) : Ln := ⟨z.o, z.x.mp (atR as), z.b, z.fly.map (fun r => (r.1, atR as r.2)), z.up⟩
structure AOk (z : Ab) : Prop where
  o : OkO z.o
  x : WF z.x
  lim : z.x.lim = z.o.limit
  b : 1 ≤ z.b.rate ∧ 1 ≤ z.b.depth
  items : (∀ f ∈ z.x.fs, ∀ r ∈ f.rows, ∃ n : Nat, r.1 = .int n ∧ n < z.cs.length) ∧ ∀ r ∈ z.fly, ∃ n : Nat, r.2 = .int n ∧ n < z.cs.length
  cs : ∀ f ∈ z.cs, FOk f
  small : cnt z.x.fs + z.fly.length ≤ z.cs.length
section
variable (K : PySem.W.Frag)
/-- the law's world: its tuple, queue, bucket, list of what flies -/
def WoP (t : Addr) (z : Ab) (as : List Addr) : HP := hex fun qa => hex fun ba => hex fun fl => hex fun ts => stars [ro t (.tup [.ref qa, .ref ba, .ref fl, .bl z.up]), QuP K qa (z.x.mp (atR as)), BuP K ba z.b, pt fl (.lst (ts.map V.ref)), big DuP ts (z.fly.map (fun r => (r.1, atR as r.2)))]
/-- line and world, each with frame objects of its own, of the same contents -/
def StP (p t : Addr) (z : Ab) : HP := hex fun as => hex fun bs => stars [LnP K p (z.ln as), WoP K t z bs, big (FrP K) as z.cs, big (FrP K) bs z.cs]
def VaP (t : Addr) (f : Fr) : HP := hex fun l => stars [ro t (.tup [.str f.kind, .int f.sender, .int f.target, .ref l, .int f.birth, .int f.hops, .bl f.marked]), ro l (.lst (f.oct.map V.int))]
end
instance {t : Addr} {f : Fr} : Ro (VaP t f) := by unfold VaP; infer_instance
section
variable {K : PySem.W.Frag} {L : List HP} {H : Hp} {p t qa ba fl : Addr} {z : Ab} {as bs ts : List Addr}
theorem wo_in (w : Own (ro t (.tup [.ref qa, .ref ba, .ref fl, .bl z.up]) :: QuP K qa (z.x.mp (atR as)) :: BuP K ba z.b :: pt fl (.lst (ts.map V.ref)) :: big DuP ts (z.fly.map (fun r => (r.1, atR as r.2))) :: L) H) : Own (WoP K t z as :: L) H :=
  Own.exi qa (Own.exi ba (Own.exi fl (Own.exi ts (Own.fold (L := [_, _, _, _, _]) w))))
theorem wo_out (w : Own (WoP K t z as :: L) H) : ∃ qa ba fl ts, Own (ro t (.tup [.ref qa, .ref ba, .ref fl, .bl z.up]) :: QuP K qa (z.x.mp (atR as)) :: BuP K ba z.b :: pt fl (.lst (ts.map V.ref)) :: big DuP ts (z.fly.map (fun r => (r.1, atR as r.2))) :: L) H := by
  obtain ⟨qa, w⟩ := w.ex
  obtain ⟨ba, w⟩ := w.ex
  obtain ⟨fl, w⟩ := w.ex
  obtain ⟨ts, w⟩ := w.ex
  exact ⟨qa, ba, fl, ts, Own.flat (L := [_, _, _, _, _]) w⟩
theorem st_in (w : Own (LnP K p (z.ln as) :: WoP K t z bs :: big (FrP K) as z.cs :: big (FrP K) bs z.cs :: L) H) : Own (StP K p t z :: L) H := Own.exi as (Own.exi bs (Own.fold (L := [_, _, _, _]) w))
theorem st_out (w : Own (StP K p t z :: L) H) : ∃ as bs, Own (LnP K p (z.ln as) :: WoP K t z bs :: big (FrP K) as z.cs :: big (FrP K) bs z.cs :: L) H := by
  obtain ⟨as, w⟩ := w.ex
  obtain ⟨bs, w⟩ := w.ex
  exact ⟨as, bs, Own.flat (L := [_, _, _, _]) w⟩
end
abbrev sp_law_cell := gsCell
abbrev sp_law_start := gsStart
abbrev sp_law_digit := gsDigit
def sp_law_frame (K : PySem.W.Frag) : Sp := fun vs H Q _ => ∃ (n now : Int) (s : Addr) (R : List HP), vs = [.int n, .ref s, .int now] ∧ Own (Drw s :: R) H ∧ ∀ H' a f, FOk f → Own (FrP K a f :: Drw s :: R) H' → Q (.ref a) H'
def sp_law_values (K : PySem.W.Frag) : Sp := fun vs H Q _ => ∃ (a : Addr) (f : Fr) (R : List HP), vs = [.ref a] ∧ f.oct.length ≤ 100 ∧ Own (FrP K a f :: R) H ∧ ∀ H' t, Own (VaP t f :: R) H' → Q (.ref t) H'
theorem c_values {K : PySem.W.Frag} {L R : List HP} {H : Hp} {Q : VK} {E : XK} {a : Addr} {f : Fr} (hl : f.oct.length ≤ 100) (v : Own L H) (p1 : Pick L (FrP K a f) R) (q : ∀ H' t, Own (VaP t f :: R) H' → Q (.ref t) H') : sp_law_values K [.ref a] H Q E := ⟨a, f, R, rfl, hl, v.pick p1, q⟩
def Fr.d (f : Fr) : PyData := .tuple [.str f.kind, .int f.sender, .int f.target, .list (f.oct.map PyData.int), .int f.birth, .int f.hops, .bool f.marked]
theorem fd_shaped {f : Fr} (h : FOk f) : SeqAt.shaped f.d = true := by
  have h1 := lay_ints f.oct
  have h2 := depth_ints f.oct
  have h3 := h.kind
  unfold SeqAt.shaped Fr.d
  simp [PyData.canLay0, PyData.canLayAll0, PyData.depth, PyData.depthAll, h1, h2, h3]
theorem dp_fr {K : PySem.W.Frag} {H : Hp} {t l : Addr} {k : Str} {a b c d : Int} {xs : List Int} {m : Bool} (h1 : H t = some (.tup [.str k, .int a, .int b, .ref l, .int c, .int d, .bl m])) (h2 : SqL K H l (xs.map V.int)) : Dp K H (.ref t) (Fr.d ⟨k, a, b, xs, c, d, m⟩) :=
  .tup (SqT.of' h1) (.cons (.str _) (.cons (.int _) (.cons (.int _) (.cons (.lst h2 (dp_ints _)) (.cons (.int _) (.cons (.int _) (.cons (.bl _) .nil)))))))
theorem va_out {L : List HP} {H : Hp} {t : Addr} {f : Fr} (w : Own (VaP t f :: L) H) : ∃ l, Own (ro t (.tup [.str f.kind, .int f.sender, .int f.target, .ref l, .int f.birth, .int f.hops, .bl f.marked]) :: ro l (.lst (f.oct.map V.int)) :: L) H := by
  obtain ⟨l, w⟩ := w.ex
  exact ⟨l, Own.flat (L := [_, _]) w⟩
theorem tell_va {K : PySem.W.Frag} {t : Addr} {f : Fr} : Tell (VaP t f) (fun H => Dp K H (.ref t) f.d) := fun h ⟨l, h1, h2, d, s1, s2, p, h3, h4, _, s3, _, q, _⟩ H e => dp_fr (e _ _ _ (s1 _ _ p)) (SqL.of (e _ _ _ (s2 _ _ (s3 _ _ q))))
def sp_law_row (K : PySem.W.Frag) : Sp := fun vs H Q _ => ∃ (l : Addr) (as : List Addr) (fs : List Fr) (c : Bool) (R : List HP), vs = [.ref l] ∧ fs.length ≤ 100000 ∧ (∀ f ∈ fs, FOk f) ∧ Own (cell c l (.lst (as.map V.ref)) :: big (FrP K) as fs :: R) H ∧ ∀ H' t ts, Own (pt t (.lst (ts.map V.ref)) :: big VaP ts fs :: R) H' → Q (.ref t) H'
def sp_law_frames_are_so (K : PySem.W.Frag) : Sp := fun vs H Q _ => ∃ (a b : Addr) (f : Fr) (R : List HP), vs = [.ref a, .ref b] ∧ FOk f ∧ Own (FrP K a f :: R) H ∧ ∀ H', Own R H' → Q (.bl true) H'
def sp_law_put (K : PySem.W.Frag) : Sp := fun vs H Q _ => ∃ (p t a : Addr) (z : Ab) (f : Fr) (R : List HP), vs = [.ref p, .ref t, .ref a] ∧ AOk z ∧ z.cs.length ≤ 1000 ∧ FOk f ∧ Own (StP K p t z :: FrP K a f :: R) H ∧ ∀ H' z', AOk z' → z'.cs.length ≤ z.cs.length + 1 → Own (StP K p t z' :: R) H' → Q (.ref t) H'
def sp_law_tick (K : PySem.W.Frag) : Sp := fun vs H Q _ => ∃ (p t : Addr) (now : Int) (z : Ab) (R : List HP), vs = [.ref p, .ref t, .int now] ∧ AOk z ∧ z.cs.length ≤ 1000 ∧ Own (StP K p t z :: R) H ∧ ∀ H' t' z', AOk z' → z'.cs.length ≤ z.cs.length → Own (StP K p t' z' :: R) H' → Q (.ref t') H'
def sp_law_deed (K : PySem.W.Frag) : Sp := fun vs H Q _ => ∃ (p t c s : Addr) (n now : Int) (z : Ab) (R : List HP), vs = [.ref p, .ref t, .int n, .ref c, .ref s] ∧ AOk z ∧ z.cs.length ≤ 1000 ∧ Own (StP K p t z :: Drw s :: pt c (.lst [.int now]) :: R) H ∧ ∀ H' t' now' z', AOk z' → z'.cs.length ≤ z.cs.length + 1 → Own (StP K p t' z' :: Drw s :: pt c (.lst [.int now']) :: R) H' → Q (.ref t') H'
def sp_law_agrees (K : PySem.W.Frag) : Sp := fun vs H Q _ => ∃ (p t : Addr) (z : Ab) (R : List HP), vs = [.ref p, .ref t] ∧ AOk z ∧ z.cs.length ≤ 1000 ∧ Own (StP K p t z :: R) H ∧ ∀ H', Own (StP K p t z :: R) H' → Q (.bl true) H'
def sp_law (K : PySem.W.Frag) : Sp := fun vs H Q _ => ∃ (a : Addr) (ns : List Int), vs = [.ref a] ∧ ns.length ≤ 63 ∧ Own [ScP K a (ns.map V.int)] H ∧ ∀ H', Q (.bl true) H'
theorem law_start {K : PySem.W.Frag} {H : Hp} {a : Addr} {ns : List Int} {E : XK} (hl : ns.length ≤ 63) (hb : ∀ z ∈ ns, Builtin.Int.intBits z ≤ 1048576) (hO : Only H) (hS : SqL K H a (ns.map V.int)) :
    sp_law K [.ref a] H (fun v _ => v = .bl true) E := ⟨a, ns, rfl, hl, .ofScr (.of hO hS), fun _ => rfl⟩
end K89

namespace K89
open PySem PySem.Spec PyProof.Rows L2 G

/-- Bucket.__init__ -/
def t_Bucket_init (K : PySem.W.Frag) (E : XK) : TS :=
  (tSeq (tIfS (tOr (tTest (tOp gLt (tVar 1) (tC (.int 1)))) (tTest (tOp gLt (tVar 2) (tC (.int 1)))))
  (tRs (He.ga K "InvalidAmount") (wB E))
  tNext)
  (tSeq (sFld K (tVar 0) (tVar 1) "rate")
  (tSeq (sFld K (tVar 0) (tVar 2) "depth")
  (sFld K (tVar 0) (tVar 2) "tokens"))))

/-- Bucket.tick -/
def t_Bucket_tick (K : PySem.W.Frag) (E : XK) : TS :=
  (sFld K (tVar 0) (tCB gMin2 (tCons (tFld K (tVar 0) "depth") (tCons (tOp gAdd (tFld K (tVar 0) "tokens") (tFld K (tVar 0) "rate")) tNil))) "tokens")

/-- Bucket.take -/
def t_Bucket_take (K : PySem.W.Frag) (E : XK) : TS :=
  (tSeq (tIfS (tTest (tOp gGt (tVar 1) (tFld K (tVar 0) "tokens")))
  (tRet (tC (.bl false)))
  tNext)
  (tSeq (sFldAug K (tVar 0) (tVar 1) L2.rSub "tokens")
  (tRet (tC (.bl true)))))

/-- Bucket.fork -/
def t_Bucket_fork (K : PySem.W.Frag) (E : XK) : TS :=
  (tSeq (tAsg (tMk (He.ga K "Bucket") (sp_Bucket_init K) (WE (wB E)) (tCons (tFld K (tVar 0) "rate") (tCons (tFld K (tVar 0) "depth") tNil))) (gName 1))
  (tSeq (sFld K (tVar 1) (tFld K (tVar 0) "tokens") "tokens")
  (tRet (tVar 1))))

/-- Waiting.__init__ -/
def t_Waiting_init (K : PySem.W.Frag) (E : XK) : TS :=
  (tSeq (sFld K (tVar 0) (tVar 1) "key")
  (tSeq (sFld K (tVar 0) (tVar 2) "item")
  (sFld K (tVar 0) (tVar 3) "weight")))

/-- Flow.__init__ -/
def t_Flow_init (K : PySem.W.Frag) (E : XK) : TS :=
  (tSeq (sFld K (tVar 0) (tVar 1) "key")
  (tSeq (sFld K (tVar 0) (tLst tNil) "rows")
  (tSeq (sFld K (tVar 0) (tC (.int 0)) "octets")
  (sFld K (tVar 0) (tC (.int 0)) "credit"))))

/-- Flow.add -/
def t_Flow_add (K : PySem.W.Frag) (E : XK) : TS :=
  (tSeq (tDrop (tBM K "list" rAppend (tFld K (tVar 0) "rows") (tCons (tVar 1) tNil)))
  (sFldAug K (tVar 0) (tFld K (tVar 1) "weight") L2.rAdd "octets"))

/-- Flow.take -/
def t_Flow_take (K : PySem.W.Frag) (E : XK) : TS :=
  (tSeq (tAsg (tBM K "list" rPopAt (tFld K (tVar 0) "rows") (tCons (tVar 1) tNil)) (gName 2))
  (tSeq (sFldAug K (tVar 0) (tFld K (tVar 2) "weight") L2.rSub "octets")
  (tRet (tVar 2))))

/-- Flow.fork -/
def t_Flow_fork (K : PySem.W.Frag) (E : XK) : TS :=
  (tSeq (tAsg (tMk (He.ga K "Flow") (sp_Flow_init K) (WE (wB E)) (tCons (tFld K (tVar 0) "key") tNil)) (gName 1))
  (tSeq (sFld K (tVar 1) (tCB (gListOf K) (tCons (tFld K (tVar 0) "rows") tNil)) "rows")
  (tSeq (sFld K (tVar 1) (tFld K (tVar 0) "octets") "octets")
  (tSeq (sFld K (tVar 1) (tFld K (tVar 0) "credit") "credit")
  (tRet (tVar 1))))))

/-- FairQueue.__init__ -/
def t_FairQueue_init (K : PySem.W.Frag) (E : XK) : TS :=
  (tSeq (tIfS (tOr (tTest (tOp gLt (tVar 1) (tC (.int 1)))) (tTest (tOp gLt (tVar 2) (tC (.int 1)))))
  (tRs (He.ga K "InvalidAmount") (wB E))
  tNext)
  (tSeq (sFld K (tVar 0) (tVar 1) "limit")
  (tSeq (sFld K (tVar 0) (tVar 2) "quantum")
  (tSeq (sFld K (tVar 0) (tLst tNil) "flows")
  (sFld K (tVar 0) (tC (.bl false)) "granted")))))

/-- FairQueue.count -/
def t_FairQueue_count (K : PySem.W.Frag) (E : XK) : TS :=
  (tRet (tCB (rSum K) (tCons (tLc (iList K (tFld K (tVar 0) "flows")) (gName 1) tYes (tCB (gLen K) (tCons (tFld K (tVar 1) "rows") tNil)) [1]) tNil)))

/-- FairQueue.octets -/
def t_FairQueue_octets (K : PySem.W.Frag) (E : XK) : TS :=
  (tRet (tCB (rSum K) (tCons (tLc (iList K (tFld K (tVar 0) "flows")) (gName 1) tYes (tFld K (tVar 1) "octets") [1]) tNil)))

/-- FairQueue.flow_of -/
def t_FairQueue_flow_of (K : PySem.W.Frag) (E : XK) : TS :=
  (tSeq (tFor (iList K (tFld K (tVar 0) "flows")) (gName 2)
  (tIfS (tTest (tOp (rEqD K) (tFld K (tVar 2) "key") (tVar 1)))
  (tRet (tVar 2))
  tNext))
  (tRet (tC .non)))

/-- FairQueue.remove_flow -/
def t_FairQueue_remove_flow (K : PySem.W.Frag) (E : XK) : TS :=
  (tSeq (tDelL (tFld K (tVar 0) "flows") (tVar 1))
  (tIfS (tTest (tOp rEq (tVar 1) (tC (.int 0))))
  (sFld K (tVar 0) (tC (.bl false)) "granted")
  tNext))

/-- FairQueue.put -/
def t_FairQueue_put (K : PySem.W.Frag) (E : XK) : TS :=
  (tSeq (tAsg (tMk (He.ga K "Waiting") (sp_Waiting_init K) (WE (wB E)) (tCons (tVar 1) (tCons (tVar 2) (tCons (tVar 3) tNil)))) (gName 4))
  (tSeq (tIfS (tTest (tOp gGt (tVar 3) (tFld K (tVar 0) "limit")))
  (tRet (tLst (tCons (tVar 4) tNil)))
  tNext)
  (tSeq (tAsg (tMt (He.ga K "FairQueue") "flow_of" (sp_FairQueue_flow_of K) (WE (wB E)) (tVar 0) (tCons (tVar 1) tNil)) (gName 5))
  (Evl.tCut (tIfS (tTest (tOp rIsN (tVar 5) (tC .non)))
  (tSeq (tAsg (tMk (He.ga K "Flow") (sp_Flow_init K) (WE (wB E)) (tCons (tVar 1) tNil)) (gName 5))
  (tDrop (tBM K "list" rAppend (tFld K (tVar 0) "flows") (tCons (tVar 5) tNil))))
  tNext)
  (tSeq (tDrop (tMt (He.ga K "Flow") "add" (sp_Flow_add K) (WE (wB E)) (tVar 5) (tCons (tVar 4) tNil)))
  (tSeq (tAsg (tLst tNil) (gName 6))
  (tSeq (tWhile (tTest (tOp gGt (tMt (He.ga K "FairQueue") "octets" (sp_FairQueue_octets K) (WE (wB E)) (tVar 0) tNil) (tFld K (tVar 0) "limit")))
  (tDrop (tBM K "list" rAppend (tVar 6) (tCons (tMt (He.ga K "FairQueue") "drop" (sp_FairQueue_drop K) (WE (wB E)) (tVar 0) tNil) tNil))))
  (tRet (tVar 6)))))))))

/-- FairQueue.drop -/
def t_FairQueue_drop (K : PySem.W.Frag) (E : XK) : TS :=
  (tSeq (tAsg (tC (.int 0)) (gName 1))
  (tSeq (tFor (iRng2 (tCons (tC (.int 1)) (tCons (tCB (gLen K) (tCons (tFld K (tVar 0) "flows") tNil)) tNil))) (gName 2)
  (tIfS (tTest (tOp gGt (tFld K (tOp (rIxL K) (tFld K (tVar 0) "flows") (tVar 2)) "octets") (tFld K (tOp (rIxL K) (tFld K (tVar 0) "flows") (tVar 1)) "octets")))
  (tAsg (tVar 2) (gName 1))
  tNext))
  (tSeq (tAsg (tOp (rIxL K) (tFld K (tVar 0) "flows") (tVar 1)) (gName 3))
  (tSeq (tAsg (tMt (He.ga K "Flow") "take" (sp_Flow_take K) (WE (wB E)) (tVar 3) (tCons (tOp gMinus (tCB (gLen K) (tCons (tFld K (tVar 3) "rows") tNil)) (tC (.int 1))) tNil)) (gName 4))
  (tSeq (tIfS (tNot (tTru K (tFld K (tVar 3) "rows")))
  (tDrop (tMt (He.ga K "FairQueue") "remove_flow" (sp_FairQueue_remove_flow K) (WE (wB E)) (tVar 0) (tCons (tVar 1) tNil)))
  tNext)
  (tRet (tVar 4)))))))

/-- FairQueue.turn -/
def t_FairQueue_turn (K : PySem.W.Frag) (E : XK) : TS :=
  (tWhile (tTru K (tFld K (tVar 0) "flows"))
  (tSeq (tAsg (tOp (rIxL K) (tFld K (tVar 0) "flows") (tC (.int 0))) (gName 1))
  (Evl.tCut (tIfS (tNot (tB (tFld K (tVar 0) "granted")))
  (tSeq (sFld K (tVar 1) (tOp gAdd (tFld K (tVar 1) "credit") (tFld K (tVar 0) "quantum")) "credit")
  (sFld K (tVar 0) (tC (.bl true)) "granted"))
  tNext)
  (tSeq (tIfS (tTest (tOp gLe (tFld K (tOp (rIxL K) (tFld K (tVar 1) "rows") (tC (.int 0))) "weight") (tFld K (tVar 1) "credit")))
  tRetN
  tNext)
  (tSeq (tDrop (tBM K "list" rAppend (tFld K (tVar 0) "flows") (tCons (tBM K "list" rPopAt (tFld K (tVar 0) "flows") (tCons (tC (.int 0)) tNil)) tNil)))
  (sFld K (tVar 0) (tC (.bl false)) "granted"))))))

/-- FairQueue.next_up -/
def t_FairQueue_next_up (K : PySem.W.Frag) (E : XK) : TS :=
  (tSeq (tDrop (tMt (He.ga K "FairQueue") "turn" (sp_FairQueue_turn K) (WE (wB E)) (tVar 0) tNil))
  (tSeq (tIfS (tNot (tTru K (tFld K (tVar 0) "flows")))
  (tRet (tC .non))
  tNext)
  (tRet (tOp (rIxL K) (tFld K (tOp (rIxL K) (tFld K (tVar 0) "flows") (tC (.int 0))) "rows") (tC (.int 0))))))

/-- FairQueue.take -/
def t_FairQueue_take (K : PySem.W.Frag) (E : XK) : TS :=
  (tSeq (tAsg (tMt (He.ga K "FairQueue") "next_up" (sp_FairQueue_next_up K) (WE (wB E)) (tVar 0) tNil) (gName 1))
  (tSeq (tIfS (tTest (tOp rIsN (tVar 1) (tC .non)))
  (tRet (tC .non))
  tNext)
  (tSeq (tAsg (tOp (rIxL K) (tFld K (tVar 0) "flows") (tC (.int 0))) (gName 2))
  (tSeq (tDrop (tMt (He.ga K "Flow") "take" (sp_Flow_take K) (WE (wB E)) (tVar 2) (tCons (tC (.int 0)) tNil)))
  (tSeq (sFldAug K (tVar 2) (tFld K (tVar 1) "weight") L2.rSub "credit")
  (tSeq (tIfS (tNot (tTru K (tFld K (tVar 2) "rows")))
  (tDrop (tMt (He.ga K "FairQueue") "remove_flow" (sp_FairQueue_remove_flow K) (WE (wB E)) (tVar 0) (tCons (tC (.int 0)) tNil)))
  tNext)
  (tRet (tVar 1))))))))

/-- FairQueue.take_all -/
def t_FairQueue_take_all (K : PySem.W.Frag) (E : XK) : TS :=
  (tSeq (tAsg (tLst tNil) (gName 1))
  (tSeq (tFor (iList K (tFld K (tVar 0) "flows")) (gName 2)
  (tAsg (tOp rCat (tVar 1) (tFld K (tVar 2) "rows")) (gName 1)))
  (tSeq (sFld K (tVar 0) (tLst tNil) "flows")
  (tSeq (sFld K (tVar 0) (tC (.bl false)) "granted")
  (tRet (tVar 1))))))

/-- FairQueue.fork -/
def t_FairQueue_fork (K : PySem.W.Frag) (E : XK) : TS :=
  (tSeq (tAsg (tMk (He.ga K "FairQueue") (sp_FairQueue_init K) (WE (wB E)) (tCons (tFld K (tVar 0) "limit") (tCons (tFld K (tVar 0) "quantum") tNil))) (gName 1))
  (tSeq (sFld K (tVar 1) (tLc (iList K (tFld K (tVar 0) "flows")) (gName 2) tYes (tMt (He.ga K "Flow") "fork" (sp_Flow_fork K) (fun _ => E0) (tVar 2) tNil) [2]) "flows")
  (tSeq (sFld K (tVar 1) (tFld K (tVar 0) "granted") "granted")
  (tRet (tVar 1)))))

/-- LinkOptions.__init__ -/
def t_LinkOptions_init (K : PySem.W.Frag) (E : XK) : TS :=
  (tSeq (tIfS (tOr (tNot (tTest (tChain gLe gLe (tC (.int 1)) (tVar 1) (tC (.int 15))))) (tNot (tTest (tChain gLe gLe (tC (.int 16)) (tVar 2) (tC (.int 65535))))))
  (tRs (He.ga K "InvalidAmount") (wB E))
  tNext)
  (tSeq (tIfS (tOr (tNot (tTest (tChain gLe gLe (tC (.int 1)) (tVar 3) (tC (.int 1073741824))))) (tNot (tTest (tChain3 gLe gLe gLe (tOp gAdd (tVar 2) (tC (.int 64))) (tVar 4) (tVar 5) (tC (.int 1073741824))))))
  (tRs (He.ga K "InvalidAmount") (wB E))
  tNext)
  (tSeq (tIfS (tNot (tTest (tChain gLe gLe (tC (.int 1)) (tVar 6) (tC (.int 1000)))))
  (tRs (He.ga K "InvalidAmount") (wB E))
  tNext)
  (tSeq (sFld K (tVar 0) (tVar 1) "cost")
  (tSeq (sFld K (tVar 0) (tVar 2) "part_size")
  (tSeq (sFld K (tVar 0) (tVar 3) "rate")
  (tSeq (sFld K (tVar 0) (tVar 4) "depth")
  (tSeq (sFld K (tVar 0) (tVar 5) "limit")
  (sFld K (tVar 0) (tVar 6) "delay")))))))))

/-- Line.__init__ -/
def t_Line_init (K : PySem.W.Frag) (E : XK) : TS :=
  (tSeq (sFld K (tVar 0) (tVar 1) "options")
  (tSeq (sFld K (tVar 0) (tMk (He.ga K "FairQueue") (sp_FairQueue_init K) (WE (wB E)) (tCons (tFld K (tVar 1) "limit") (tCons (tFld K (tVar 1) "part_size") tNil))) "queue")
  (tSeq (sFld K (tVar 0) (tMk (He.ga K "Bucket") (sp_Bucket_init K) (WE (wB E)) (tCons (tFld K (tVar 1) "rate") (tCons (tFld K (tVar 1) "depth") tNil))) "bucket")
  (tSeq (sFld K (tVar 0) (tLst tNil) "flying")
  (sFld K (tVar 0) (tC (.bl true)) "is_up")))))

/-- Line.count -/
def t_Line_count (K : PySem.W.Frag) (E : XK) : TS :=
  (tRet (tOp gAdd (tMt (He.ga K "FairQueue") "count" (sp_FairQueue_count K) (WE (wB E)) (tFld K (tVar 0) "queue") tNil) (tCB (gLen K) (tCons (tFld K (tVar 0) "flying") tNil))))

/-- Line.put -/
def t_Line_put (K : PySem.W.Frag) (E : XK) : TS :=
  (tSeq (tIfS (tNot (tB (tFld K (tVar 0) "is_up")))
  (tRet (tLst (tCons (tVar 1) tNil)))
  tNext)
  (Evl.tCut (tIfS (tTest (tOp gGt (tOp gMul (tC (.int 2)) (tMt (He.ga K "FairQueue") "octets" (sp_FairQueue_octets K) (WE (wB E)) (tFld K (tVar 0) "queue") tNil)) (tFld K (tFld K (tVar 0) "options") "limit")))
  (tAsg (tMt (He.ga K "Frame") "with_mark" (sp_Frame_with_mark K) (WE (wB E)) (tVar 1) tNil) (gName 1))
  tNext)
  (tRet (tLc (iList K (tMt (He.ga K "FairQueue") "put" (sp_FairQueue_put K) (WE (wB E)) (tFld K (tVar 0) "queue") (tCons (tMt (He.ga K "Frame") "flow_key" (sp_Frame_flow_key K) (WE (wB E)) (tVar 1) tNil) (tCons (tVar 1) (tCons (tMt (He.ga K "Frame") "weight" (sp_Frame_weight K) (WE (wB E)) (tVar 1) tNil) tNil))))) (gName 2) tYes (tFld K (tVar 2) "item") [2]))))

/-- Line.tick -/
def t_Line_tick (K : PySem.W.Frag) (E : XK) : TS :=
  (tSeq (tDrop (tMt (He.ga K "Bucket") "tick" (sp_Bucket_tick K) (WE (wB E)) (tFld K (tVar 0) "bucket") tNil))
  (tSeq (tAsg (tMt (He.ga K "FairQueue") "next_up" (sp_FairQueue_next_up K) (WE (wB E)) (tFld K (tVar 0) "queue") tNil) (gName 2))
  (Evl.tCut (tWhile (tAnd (tTest (tOp rNotN (tVar 2) (tC .non))) (tB (tMt (He.ga K "Bucket") "take" (sp_Bucket_take K) (WE (wB E)) (tFld K (tVar 0) "bucket") (tCons (tFld K (tVar 2) "weight") tNil))))
  (tSeq (tDrop (tMt (He.ga K "FairQueue") "take" (sp_FairQueue_take K) (WE (wB E)) (tFld K (tVar 0) "queue") tNil))
  (tSeq (tDrop (tBM K "list" rAppend (tFld K (tVar 0) "flying") (tCons (tTup (tCons (tOp gAdd (tVar 1) (tFld K (tFld K (tVar 0) "options") "delay")) (tCons (tFld K (tVar 2) "item") tNil))) tNil)))
  (tAsg (tMt (He.ga K "FairQueue") "next_up" (sp_FairQueue_next_up K) (WE (wB E)) (tFld K (tVar 0) "queue") tNil) (gName 2)))))
  (tSeq (tAsg (tLc (iList K (tCB (gListOf K) (tCons (tFld K (tVar 0) "flying") tNil))) (gTup K 2 (gCons (gName 4) (gCons (gName 5) gNil))) (tTest (tOp gLe (tVar 4) (tVar 1))) (tVar 5) [4, 5]) (gName 3))
  (tSeq (sFld K (tVar 0) (tLc (iList K (tCB (gListOf K) (tCons (tFld K (tVar 0) "flying") tNil))) (gTup K 2 (gCons (gName 4) (gCons (gName 5) gNil))) (tTest (tOp gGt (tVar 4) (tVar 1))) (tTup (tCons (tVar 4) (tCons (tVar 5) tNil))) [4, 5]) "flying")
  (tRet (tVar 3)))))))

/-- Line.cut -/
def t_Line_cut (K : PySem.W.Frag) (E : XK) : TS :=
  (tSeq (sFld K (tVar 0) (tC (.bl false)) "is_up")
  (tSeq (tAsg (tLc (iList K (tMt (He.ga K "FairQueue") "take_all" (sp_FairQueue_take_all K) (WE (wB E)) (tFld K (tVar 0) "queue") tNil)) (gName 2) tYes (tFld K (tVar 2) "item") [2]) (gName 1))
  (tSeq (tAsg (tLc (iList K (tFld K (tVar 0) "flying")) (gTup K 2 (gCons (gName 4) (gCons (gName 5) gNil))) tYes (tVar 5) [4, 5]) (gName 3))
  (tSeq (sFld K (tVar 0) (tLst tNil) "flying")
  (tRet (tOp rCat (tVar 1) (tVar 3)))))))

/-- Line.join -/
def t_Line_join (K : PySem.W.Frag) (E : XK) : TS :=
  (sFld K (tVar 0) (tC (.bl true)) "is_up")

/-- Line.fork -/
def t_Line_fork (K : PySem.W.Frag) (E : XK) : TS :=
  (tSeq (tAsg (tMk (He.ga K "Line") (sp_Line_init K) (WE (wB E)) (tCons (tFld K (tVar 0) "options") tNil)) (gName 1))
  (tSeq (sFld K (tVar 1) (tMt (He.ga K "FairQueue") "fork" (sp_FairQueue_fork K) (WE (wB E)) (tFld K (tVar 0) "queue") tNil) "queue")
  (tSeq (sFld K (tVar 1) (tMt (He.ga K "Bucket") "fork" (sp_Bucket_fork K) (WE (wB E)) (tFld K (tVar 0) "bucket") tNil) "bucket")
  (tSeq (sFld K (tVar 1) (tCB (gListOf K) (tCons (tFld K (tVar 0) "flying") tNil)) "flying")
  (tSeq (sFld K (tVar 1) (tFld K (tVar 0) "is_up") "is_up")
  (tRet (tVar 1)))))))

/-- Frame.__init__ -/
def t_Frame_init (K : PySem.W.Frag) (E : XK) : TS :=
  (tSeq (sFld K (tVar 0) (tVar 1) "kind")
  (tSeq (sFld K (tVar 0) (tVar 2) "sender")
  (tSeq (sFld K (tVar 0) (tVar 3) "target")
  (tSeq (sFld K (tVar 0) (tCB (gListOf K) (tCons (tVar 4) tNil)) "octets")
  (tSeq (sFld K (tVar 0) (tVar 5) "birth")
  (tSeq (sFld K (tVar 0) (tVar 6) "hops")
  (sFld K (tVar 0) (tVar 7) "marked")))))))

/-- Frame.__eq__ -/
def t_Frame__eq (K : PySem.W.Frag) (E : XK) : TS :=
  (tRet (tAndV (tCB (rIsi K) (tCons (tVar 1) (tCons (tC (.ref (He.ga K "Frame"))) tNil))) (tAndV (tOp rEq (tFld K (tVar 0) "kind") (tFld K (tVar 1) "kind")) (tAndV (tOp rEq (tFld K (tVar 0) "sender") (tFld K (tVar 1) "sender")) (tAndV (tOp rEq (tFld K (tVar 0) "target") (tFld K (tVar 1) "target")) (tAndV (tOp (rEqD K) (tFld K (tVar 0) "octets") (tFld K (tVar 1) "octets")) (tAndV (tOp rEq (tFld K (tVar 0) "birth") (tFld K (tVar 1) "birth")) (tAndV (tOp rEq (tFld K (tVar 0) "hops") (tFld K (tVar 1) "hops")) (tOp rEq (tFld K (tVar 0) "marked") (tFld K (tVar 1) "marked"))))))))))

/-- Frame.as_row -/
def t_Frame_as_row (K : PySem.W.Frag) (E : XK) : TS :=
  (tRet (tTup (tCons (tFld K (tVar 0) "kind") (tCons (tFld K (tVar 0) "sender") (tCons (tFld K (tVar 0) "target") (tCons (tFld K (tVar 0) "octets") (tCons (tFld K (tVar 0) "birth") (tCons (tFld K (tVar 0) "hops") (tCons (tFld K (tVar 0) "marked") tNil)))))))))

/-- Frame.weight -/
def t_Frame_weight (K : PySem.W.Frag) (E : XK) : TS :=
  (tRet (tOp gAdd (tC (.int 12)) (tCB (gLen K) (tCons (tFld K (tVar 0) "octets") tNil))))

/-- Frame.flow_key -/
def t_Frame_flow_key (K : PySem.W.Frag) (E : XK) : TS :=
  (tRet (tTup (tCons (tFld K (tVar 0) "kind") (tCons (tFld K (tVar 0) "sender") (tCons (tFld K (tVar 0) "target") tNil)))))

/-- Frame.with_mark -/
def t_Frame_with_mark (K : PySem.W.Frag) (E : XK) : TS :=
  (tRet (tMkK (He.ga K "Frame") 4 (["birth", "hops", "marked"] : List Str).length (sp_Frame_init K) gv_Frame_init_k0 (WE (wB E)) (tCons (tFld K (tVar 0) "kind") (tCons (tFld K (tVar 0) "sender") (tCons (tFld K (tVar 0) "target") (tCons (tFld K (tVar 0) "octets") tNil)))) (tCons (tFld K (tVar 0) "birth") (tCons (tFld K (tVar 0) "hops") (tCons (tC (.bl true)) tNil)))))

/-- Frame.after_hop -/
def t_Frame_after_hop (K : PySem.W.Frag) (E : XK) : TS :=
  (tRet (tMkK (He.ga K "Frame") 4 (["birth", "hops", "marked"] : List Str).length (sp_Frame_init K) gv_Frame_init_k0 (WE (wB E)) (tCons (tFld K (tVar 0) "kind") (tCons (tFld K (tVar 0) "sender") (tCons (tFld K (tVar 0) "target") (tCons (tVar 1) tNil)))) (tCons (tFld K (tVar 0) "birth") (tCons (tOp gMinus (tFld K (tVar 0) "hops") (tC (.int 1))) (tCons (tFld K (tVar 0) "marked") tNil)))))

/-- _law_cell -/
def t_law_cell (K : PySem.W.Frag) (E : XK) : TS :=
  (tSeq (tIfS (tTest (tOp gLt (tVar 1) (tCB (gLen K) (tCons (tVar 0) tNil))))
  (tRet (tOp (rIxL K) (tVar 0) (tVar 1)))
  tNext)
  (tRet (tC (.int 0))))

/-- _law_start -/
def t_law_start (K : PySem.W.Frag) (E : XK) : TS :=
  (tSeq (tAsg (tC (.int 618970019642690137449562111)) (gName 2))
  (tSeq (tIfS (tTest (tChain gLt gLt (tUn gNeg (tC (.int 1000000000000000000))) (tVar 0) (tC (.int 1000000000000000000))))
  (tSeq (tAsg (tOp gMod (tCB gInt1 (tCons (tOp gAdd (tOp gMul (tVar 0) (tC (.int 2654435761))) (tOp gMul (tOp gAdd (tVar 1) (tC (.int 1))) (tC (.int 6700417)))) tNil)) (tVar 2)) (gName 3))
  (tSeq (tAsg (tC (.int 0)) (gName 4))
  (tSeq (tFor (iRng1 (tCons (tC (.int 4)) tNil)) (gName 5)
  (tSeq (tAsg (tOp gMod (tCB gInt1 (tCons (tOp gAdd (tOp gAdd (tOp gAdd (tOp gMulW (tVar 3) (tVar 3)) (tOp gMul (tC (.int 7)) (tVar 3))) (tVar 1)) (tVar 5)) tNil)) (tVar 2)) (gName 3))
  (tAsg (tOp gAdd (tOp gMulW (tVar 4) (tVar 2)) (tVar 3)) (gName 4))))
  (tRet (tLst (tCons (tVar 4) tNil))))))
  tNext)
  (tRet (tLst (tCons (tVar 0) tNil)))))

/-- _law_digit -/
def t_law_digit (K : PySem.W.Frag) (E : XK) : TS :=
  (tSeq (tAsg (tOp gMod (tCB gInt1 (tCons (tOp (rIxL K) (tVar 0) (tC (.int 0))) tNil)) (tVar 1)) (gName 2))
  (tSeq (tAsg (tOp gDivW (tOp (rIxL K) (tVar 0) (tC (.int 0))) (tVar 1)) (gSub (tVar 0) (tC (.int 0)) rSetL))
  (tRet (tVar 2))))

/-- _law_frame -/
def t_law_frame (K : PySem.W.Frag) (E : XK) : TS :=
  (tSeq (tAsg (tOp rCat (tLst (tCons (tOp gMod (tOp gDiv (tVar 0) (tC (.int 256))) (tC (.int 256))) (tCons (tOp gMod (tVar 0) (tC (.int 256))) tNil))) (tLc (iRng1 (tCons (tCallS (sp_law_digit K) (WE (wB E)) (tCons (tVar 1) (tCons (tC (.int 60)) tNil))) tNil)) (gName 4) tYes (tC (.int 7)) [4])) (gName 3))
  (tSeq (tAsg (tOp (rIxT K) (tTup (tCons (tTup (tCons (tC (.str "part")) (tCons (tC (.int 1)) (tCons (tC (.int 2)) tNil)))) (tCons (tTup (tCons (tC (.str "part")) (tCons (tC (.int 2)) (tCons (tC (.int 1)) tNil)))) (tCons (tTup (tCons (tC (.str "part")) (tCons (tC (.int 1)) (tCons (tC (.int 3)) tNil)))) (tCons (tTup (tCons (tC (.str "advert")) (tCons (tC (.int 0)) (tCons (tC (.int 0)) tNil)))) tNil))))) (tCallS (sp_law_digit K) (WE (wB E)) (tCons (tVar 1) (tCons (tC (.int 4)) tNil)))) (gName 5))
  (tRet (tMkK (He.ga K "Frame") 4 (["birth", "hops"] : List Str).length (sp_Frame_init K) gv_Frame_init_k1 (WE (wB E)) (tCons (tOp (rIxT K) (tVar 5) (tC (.int 0))) (tCons (tOp (rIxT K) (tVar 5) (tC (.int 1))) (tCons (tOp (rIxT K) (tVar 5) (tC (.int 2))) (tCons (tVar 3) tNil)))) (tCons (tVar 2) (tCons (tCallS (sp_law_digit K) (WE (wB E)) (tCons (tVar 1) (tCons (tC (.int 16)) tNil))) tNil))))))

/-- _law_values -/
def t_law_values (K : PySem.W.Frag) (E : XK) : TS :=
  (tRet (tTup (tCons (tFld K (tVar 0) "kind") (tCons (tFld K (tVar 0) "sender") (tCons (tFld K (tVar 0) "target") (tCons (tCB (gListOf K) (tCons (tFld K (tVar 0) "octets") tNil)) (tCons (tFld K (tVar 0) "birth") (tCons (tFld K (tVar 0) "hops") (tCons (tFld K (tVar 0) "marked") tNil)))))))))

/-- _law_row -/
def t_law_row (K : PySem.W.Frag) (E : XK) : TS :=
  (tRet (tLc (iList K (tVar 0)) (gName 1) tYes (tCallS (sp_law_values K) (fun _ => E0) (tCons (tVar 1) tNil)) [1]))

/-- _law_frames_are_so -/
def t_law_frames_are_so (K : PySem.W.Frag) (E : XK) : TS :=
  (tSeq (tAsg (tCallS (sp_law_values K) (WE (wB E)) (tCons (tVar 0) tNil)) (gName 2))
  (tSeq (tIfS (tOr (tTest (tOp (rNeD K) (tMt (He.ga K "Frame") "as_row" (sp_Frame_as_row K) (WE (wB E)) (tVar 0) tNil) (tVar 2))) (tOr (tTest (tOp rNe (tMt (He.ga K "Frame") "weight" (sp_Frame_weight K) (WE (wB E)) (tVar 0) tNil) (tOp gAdd (tC (.int 12)) (tCB (gLen K) (tCons (tOp (rIxT K) (tVar 2) (tC (.int 3))) tNil))))) (tTest (tOp (rNeD K) (tMt (He.ga K "Frame") "flow_key" (sp_Frame_flow_key K) (WE (wB E)) (tVar 0) tNil) (tSl (rSlT K) (tVar 2) tNoPart (tPart (tC (.int 3))))))))
  (tRet (tC (.bl false)))
  tNext)
  (tSeq (tIfS (tOr (tTest (tOp (rNeD K) (tCallS (sp_law_values K) (WE (wB E)) (tCons (tMt (He.ga K "Frame") "with_mark" (sp_Frame_with_mark K) (WE (wB E)) (tVar 0) tNil) tNil)) (tOp (rCatT K) (tSl (rSlT K) (tVar 2) tNoPart (tPart (tC (.int 6)))) (tTup (tCons (tC (.bl true)) tNil))))) (tTest (tOp (rNeD K) (tCallS (sp_law_values K) (WE (wB E)) (tCons (tVar 0) tNil)) (tVar 2))))
  (tRet (tC (.bl false)))
  tNext)
  (tSeq (tAsg (tCallS (sp_law_values K) (WE (wB E)) (tCons (tMt (He.ga K "Frame") "after_hop" (sp_Frame_after_hop K) (WE (wB E)) (tVar 0) (tCons (tLst (tCons (tC (.int 1)) (tCons (tC (.int 2)) tNil))) tNil)) tNil)) (gName 3))
  (tSeq (tIfS (tTest (tOp (rNeD K) (tVar 3) (tTup (tCons (tOp (rIxT K) (tVar 2) (tC (.int 0))) (tCons (tOp (rIxT K) (tVar 2) (tC (.int 1))) (tCons (tOp (rIxT K) (tVar 2) (tC (.int 2))) (tCons (tLst (tCons (tC (.int 1)) (tCons (tC (.int 2)) tNil))) (tCons (tOp (rIxT K) (tVar 2) (tC (.int 4))) (tCons (tOp gMinus (tOp (rIxT K) (tVar 2) (tC (.int 5))) (tC (.int 1))) (tCons (tOp (rIxT K) (tVar 2) (tC (.int 6))) tNil))))))))))
  (tRet (tC (.bl false)))
  tNext)
  (tRet (tAndV (tOp rEq (tOp (rOwn K (He.ga K "Frame") (sp_Frame__eq K)) (tVar 0) (tMt (He.ga K "Frame") "with_mark" (sp_Frame_with_mark K) (WE (wB E)) (tVar 0) tNil)) (tFld K (tVar 0) "marked")) (tOp rIsB (tOp (rOwn K (He.ga K "Frame") (sp_Frame__eq K)) (tVar 0) (tVar 2)) (tC (.bl false))))))))))

/-- _law_put -/
def t_law_put (K : PySem.W.Frag) (E : XK) : TS :=
  (tSeq (tAsg (tVar 1) (gTup K 4 (gCons (gName 3) (gCons (gName 4) (gCons (gName 5) (gCons (gName 6) gNil))))))
  (tSeq (tIfS (tNot (tB (tVar 6)))
  (tAsg (tLst (tCons (tCallS (sp_law_values K) (WE (wB E)) (tCons (tVar 2) tNil)) tNil)) (gName 7))
  (tSeq (tAsg (tVar 2) (gName 8))
  (Evl.tCut (tIfS (tTest (tOp gGt (tOp gMul (tC (.int 2)) (tMt (He.ga K "FairQueue") "octets" (sp_FairQueue_octets K) (WE (wB E)) (tVar 3) tNil)) (tFld K (tFld K (tVar 0) "options") "limit")))
  (tAsg (tMt (He.ga K "Frame") "with_mark" (sp_Frame_with_mark K) (WE (wB E)) (tVar 2) tNil) (gName 8))
  tNext)
  (tAsg (tCallS (sp_law_row K) (WE (wB E)) (tCons (tLc (iList K (tMt (He.ga K "FairQueue") "put" (sp_FairQueue_put K) (WE (wB E)) (tVar 3) (tCons (tMt (He.ga K "Frame") "flow_key" (sp_Frame_flow_key K) (WE (wB E)) (tVar 2) tNil) (tCons (tVar 8) (tCons (tMt (He.ga K "Frame") "weight" (sp_Frame_weight K) (WE (wB E)) (tVar 2) tNil) tNil))))) (gName 9) tYes (tFld K (tVar 9) "item") [9]) tNil)) (gName 7)))))
  (tSeq (tIfS (tTest (tOp (rNeD K) (tCallS (sp_law_row K) (WE (wB E)) (tCons (tMt (He.ga K "Line") "put" (sp_Line_put K) (WE (wB E)) (tVar 0) (tCons (tVar 2) tNil)) tNil)) (tVar 7)))
  (tRet (tC .non))
  tNext)
  (tRet (tVar 1)))))

/-- _law_tick -/
def t_law_tick (K : PySem.W.Frag) (E : XK) : TS :=
  (tSeq (tAsg (tVar 1) (gTup K 4 (gCons (gName 3) (gCons (gName 4) (gCons (gName 5) (gCons (gName 6) gNil))))))
  (tSeq (tDrop (tMt (He.ga K "Bucket") "tick" (sp_Bucket_tick K) (WE (wB E)) (tVar 4) tNil))
  (tSeq (tAsg (tCB (gListOf K) (tCons (tVar 5) tNil)) (gName 5))
  (tSeq (tAsg (tMt (He.ga K "FairQueue") "next_up" (sp_FairQueue_next_up K) (WE (wB E)) (tVar 3) tNil) (gName 7))
  (Evl.tCut (tWhile (tAnd (tTest (tOp rNotN (tVar 7) (tC .non))) (tB (tMt (He.ga K "Bucket") "take" (sp_Bucket_take K) (WE (wB E)) (tVar 4) (tCons (tFld K (tVar 7) "weight") tNil))))
  (tSeq (tDrop (tMt (He.ga K "FairQueue") "take" (sp_FairQueue_take K) (WE (wB E)) (tVar 3) tNil))
  (tSeq (tDrop (tBM K "list" rAppend (tVar 5) (tCons (tTup (tCons (tOp gAdd (tVar 2) (tFld K (tFld K (tVar 0) "options") "delay")) (tCons (tFld K (tVar 7) "item") tNil))) tNil)))
  (tAsg (tMt (He.ga K "FairQueue") "next_up" (sp_FairQueue_next_up K) (WE (wB E)) (tVar 3) tNil) (gName 7)))))
  (tSeq (tAsg (tCallS (sp_law_row K) (WE (wB E)) (tCons (tLc (iList K (tVar 5)) (gName 9) (tTest (tOp gLe (tOp (rIxT K) (tVar 9) (tC (.int 0))) (tVar 2))) (tOp (rIxT K) (tVar 9) (tC (.int 1))) [9]) tNil)) (gName 8))
  (tSeq (tIfS (tTest (tOp (rNeD K) (tCallS (sp_law_row K) (WE (wB E)) (tCons (tMt (He.ga K "Line") "tick" (sp_Line_tick K) (WE (wB E)) (tVar 0) (tCons (tVar 2) tNil)) tNil)) (tVar 8)))
  (tRet (tC .non))
  tNext)
  (tRet (tTup (tCons (tVar 3) (tCons (tVar 4) (tCons (tLc (iList K (tVar 5)) (gName 9) (tTest (tOp gGt (tOp (rIxT K) (tVar 9) (tC (.int 0))) (tVar 2))) (tVar 9) [9]) (tCons (tVar 6) tNil)))))))))))))

/-- _law_deed -/
def t_law_deed (K : PySem.W.Frag) (E : XK) : TS :=
  (tSeq (tAsg (tCallS (sp_law_digit K) (WE (wB E)) (tCons (tVar 4) (tCons (tC (.int 30)) tNil))) (gName 5))
  (tSeq (tIfS (tTest (tOp gLt (tVar 5) (tC (.int 14))))
  (tSeq (tAsg (tCallS (sp_law_frame K) (WE (wB E)) (tCons (tVar 2) (tCons (tVar 4) (tCons (tOp (rIxL K) (tVar 3) (tC (.int 0))) tNil)))) (gName 6))
  (tSeq (tIfS (tNot (tB (tCallS (sp_law_frames_are_so K) (WE (wB E)) (tCons (tVar 6) (tCons (tFld K (tVar 0) "options") tNil)))))
  (tRet (tC .non))
  tNext)
  (tRet (tCallS (sp_law_put K) (WE (wB E)) (tCons (tVar 0) (tCons (tVar 1) (tCons (tVar 6) tNil)))))))
  tNext)
  (tSeq (tIfS (tTest (tOp gLt (tVar 5) (tC (.int 28))))
  (tSeq (tAsg (tOp gAdd (tOp (rIxL K) (tVar 3) (tC (.int 0))) (tC (.int 1))) (gSub (tVar 3) (tC (.int 0)) rSetL))
  (tRet (tCallS (sp_law_tick K) (WE (wB E)) (tCons (tVar 0) (tCons (tVar 1) (tCons (tOp (rIxL K) (tVar 3) (tC (.int 0))) tNil))))))
  tNext)
  (tSeq (tIfS (tTest (tOp rEq (tVar 5) (tC (.int 28))))
  (tSeq (tAsg (tOp rCat (tLc (iList K (tMt (He.ga K "FairQueue") "take_all" (sp_FairQueue_take_all K) (WE (wB E)) (tOp (rIxT K) (tVar 1) (tC (.int 0))) tNil)) (gName 8) tYes (tFld K (tVar 8) "item") [8]) (tLc (iList K (tOp (rIxT K) (tVar 1) (tC (.int 2)))) (gName 9) tYes (tOp (rIxT K) (tVar 9) (tC (.int 1))) [9])) (gName 7))
  (tSeq (tIfS (tTest (tOp (rNeD K) (tCallS (sp_law_row K) (WE (wB E)) (tCons (tMt (He.ga K "Line") "cut" (sp_Line_cut K) (WE (wB E)) (tVar 0) tNil) tNil)) (tCallS (sp_law_row K) (WE (wB E)) (tCons (tVar 7) tNil))))
  (tRet (tC .non))
  tNext)
  (tRet (tTup (tCons (tOp (rIxT K) (tVar 1) (tC (.int 0))) (tCons (tOp (rIxT K) (tVar 1) (tC (.int 1))) (tCons (tLst tNil) (tCons (tC (.bl false)) tNil))))))))
  tNext)
  (tSeq (tIfS (tTest (tOp rNotN (tMt (He.ga K "Line") "join" (sp_Line_join K) (WE (wB E)) (tVar 0) tNil) (tC .non)))
  (tRet (tC .non))
  tNext)
  (tRet (tTup (tCons (tOp (rIxT K) (tVar 1) (tC (.int 0))) (tCons (tOp (rIxT K) (tVar 1) (tC (.int 1))) (tCons (tOp (rIxT K) (tVar 1) (tC (.int 2))) (tCons (tC (.bl true)) tNil)))))))))))

/-- _law_agrees -/
def t_law_agrees (K : PySem.W.Frag) (E : XK) : TS :=
  (tRet (tAndV (tOp rEq (tMt (He.ga K "Line") "count" (sp_Line_count K) (WE (wB E)) (tVar 0) tNil) (tOp gAdd (tMt (He.ga K "FairQueue") "count" (sp_FairQueue_count K) (WE (wB E)) (tOp (rIxT K) (tVar 1) (tC (.int 0))) tNil) (tCB (gLen K) (tCons (tOp (rIxT K) (tVar 1) (tC (.int 2))) tNil)))) (tOp rEq (tFld K (tVar 0) "is_up") (tOp (rIxT K) (tVar 1) (tC (.int 3))))))

/-- law -/
def t_law (K : PySem.W.Frag) (E : XK) : TS :=
  (tSeq (tAsg (tCallS (sp_law_start K) (WE (wB E)) (tCons (tCallS (sp_law_cell K) (WE (wB E)) (tCons (tVar 0) (tCons (tC (.int 0)) tNil))) (tCons (tC (.int 0)) tNil))) (gName 1))
  (tSeq (tAsg (tOp gAdd (tC (.int 16)) (tCallS (sp_law_digit K) (WE (wB E)) (tCons (tVar 1) (tCons (tC (.int 60)) tNil)))) (gName 2))
  (tSeq (tAsg (tOp gAdd (tOp gAdd (tVar 2) (tC (.int 64))) (tCallS (sp_law_digit K) (WE (wB E)) (tCons (tVar 1) (tCons (tC (.int 200)) tNil)))) (gName 3))
  (tSeq (tAsg (tOp gAdd (tVar 3) (tCallS (sp_law_digit K) (WE (wB E)) (tCons (tVar 1) (tCons (tC (.int 300)) tNil)))) (gName 4))
  (tSeq (tAsg (tMkK (He.ga K "LinkOptions") 0 (["cost", "size", "rate", "depth", "limit", "delay"] : List Str).length (sp_LinkOptions_init K) gv_LinkOptions_init_k2 (WE (wB E)) tNil (tCons (tC (.int 1)) (tCons (tVar 2) (tCons (tOp gAdd (tC (.int 1)) (tCallS (sp_law_digit K) (WE (wB E)) (tCons (tVar 1) (tCons (tC (.int 120)) tNil)))) (tCons (tVar 3) (tCons (tVar 4) (tCons (tOp gAdd (tC (.int 1)) (tCallS (sp_law_digit K) (WE (wB E)) (tCons (tVar 1) (tCons (tC (.int 5)) tNil)))) tNil))))))) (gName 5))
  (tSeq (tAsg (tMk (He.ga K "Line") (sp_Line_init K) (WE (wB E)) (tCons (tVar 5) tNil)) (gName 6))
  (tSeq (tAsg (tTup (tCons (tMk (He.ga K "FairQueue") (sp_FairQueue_init K) (WE (wB E)) (tCons (tVar 4) (tCons (tVar 2) tNil))) (tCons (tMk (He.ga K "Bucket") (sp_Bucket_init K) (WE (wB E)) (tCons (tFld K (tVar 5) "rate") (tCons (tVar 3) tNil))) (tCons (tLst tNil) (tCons (tC (.bl true)) tNil))))) (gName 7))
  (tSeq (tAsg (tLst (tCons (tC (.int 0)) tNil)) (gName 8))
  (tSeq (tAsg (tC .non) (gName 9))
  (tSeq (tAsg (tC .non) (gName 10))
  (tSeq (tAsg (tLst (tCons (tC (.int 0)) tNil)) (gName 11))
  (tSeq (tFor (iRng1 (tCons (tCB gMin2 (tCons (tC (.int 80)) (tCons (tOp gAdd (tC (.int 1)) (tCB (gLen K) (tCons (tVar 0) tNil))) tNil))) tNil)) (gName 12)
  (tSeq (tAsg (tCallS (sp_law_start K) (WE (wB E)) (tCons (tCallS (sp_law_cell K) (WE (wB E)) (tCons (tVar 0) (tCons (tVar 12) tNil))) (tCons (tOp gAdd (tVar 12) (tC (.int 1))) tNil))) (gName 1))
  (tSeq (tAsg (tCallS (sp_law_deed K) (WE (wB E)) (tCons (tVar 6) (tCons (tVar 7) (tCons (tVar 12) (tCons (tVar 8) (tCons (tVar 1) tNil)))))) (gName 7))
  (tSeq (tIfS (tOr (tTest (tOp rIsN (tVar 7) (tC .non))) (tNot (tB (tCallS (sp_law_agrees K) (WE (wB E)) (tCons (tVar 6) (tCons (tVar 7) tNil))))))
  (tRet (tC (.bl false)))
  tNext)
  (tIfS (tTest (tOp rEq (tOp gMod (tVar 12) (tC (.int 27))) (tC (.int 13))))
  (tSeq (tAsg (tMt (He.ga K "Line") "fork" (sp_Line_fork K) (WE (wB E)) (tVar 6) tNil) (gName 9))
  (tSeq (tAsg (tTup (tCons (tMt (He.ga K "FairQueue") "fork" (sp_FairQueue_fork K) (WE (wB E)) (tOp (rIxT K) (tVar 7) (tC (.int 0))) tNil) (tCons (tMt (He.ga K "Bucket") "fork" (sp_Bucket_fork K) (WE (wB E)) (tOp (rIxT K) (tVar 7) (tC (.int 1))) tNil) (tCons (tCB (gListOf K) (tCons (tOp (rIxT K) (tVar 7) (tC (.int 2))) tNil)) (tCons (tOp (rIxT K) (tVar 7) (tC (.int 3))) tNil))))) (gName 10))
  (tAsg (tLst (tCons (tOp (rIxL K) (tVar 8) (tC (.int 0))) tNil)) (gName 11))))
  (tIfS (tTest (tOp rNotN (tVar 9) (tC .non)))
  (tSeq (tAsg (tCallS (sp_law_deed K) (WE (wB E)) (tCons (tVar 9) (tCons (tVar 10) (tCons (tOp gAdd (tC (.int 1000)) (tVar 12)) (tCons (tVar 11) (tCons (tVar 1) tNil)))))) (gName 10))
  (tIfS (tOr (tTest (tOp rIsN (tVar 10) (tC .non))) (tNot (tB (tCallS (sp_law_agrees K) (WE (wB E)) (tCons (tVar 9) (tCons (tVar 10) tNil))))))
  (tRet (tC (.bl false)))
  tNext))
  tNext))))))
  (tRet (tC (.bl true)))))))))))))))

end K89

namespace K89
open PySem PySem.Spec PyProof.Rows L2 G
section
variable {P : Program} {w : World} {K : PySem.W.Frag} {mg : Str → Option Value} {base : Heap}

theorem d_Bucket_init (T : TX K mg base)  {cdv : Value} {A : Around} {outer : List Env} {s : Shared} {H : Hp} {E : XK} (hr : Room 0 (A.deeper (envOfC "Bucket.__init__" (defScope s_Bucket_init) s.heap.objs.size (He.ma K (He.ga K "Bucket") "__init__") cdv))) :
    PSs (cxOf (L2.CX P w) P w K mg base N_Bucket_init "Bucket.__init__" (defScope s_Bucket_init) (He.ma K (He.ga K "Bucket") "__init__") cdv A outer s H E) (defBody s_Bucket_init) (t_Bucket_init K E) := by
  have tk : Takes (cxOf (L2.CX P w) P w K mg base N_Bucket_init "Bucket.__init__" (defScope s_Bucket_init) (He.ma K (He.ga K "Bucket") "__init__") cdv A outer s H E) (wB E) := takes_of rfl rfl rfl rfl
  exact (pss_cons (ps_if (PW.pt (pw_or (pt_cmpR op_lt (pv 1) pe_int (nomark _)) (pw_or1 (pt_cmpR op_lt (pv 2) pe_int (nomark _)))))
  (pss_one (ps_rs rfl tk (T.exc 1 2) rfl))
  pss_nil)
  (pss_cons (ps_fld (pv 0) (pv 1) rfl)
  (pss_cons (ps_fld (pv 0) (pv 2) rfl)
  (pss_one (ps_fld (pv 0) (pv 2) rfl)))))

theorem d_Bucket_tick (T : TX K mg base)  {cdv : Value} {A : Around} {outer : List Env} {s : Shared} {H : Hp} {E : XK} (hr : Room 0 (A.deeper (envOfC "Bucket.tick" (defScope s_Bucket_tick) s.heap.objs.size (He.ma K (He.ga K "Bucket") "tick") cdv))) :
    PSs (cxOf (L2.CX P w) P w K mg base N_Bucket_tick "Bucket.tick" (defScope s_Bucket_tick) (He.ma K (He.ga K "Bucket") "tick") cdv A outer s H E) (defBody s_Bucket_tick) (t_Bucket_tick K E) := by
  have tk : Takes (cxOf (L2.CX P w) P w K mg base N_Bucket_tick "Bucket.tick" (defScope s_Bucket_tick) (He.ma K (He.ga K "Bucket") "tick") cdv A outer s H E) (wB E) := takes_of rfl rfl rfl rfl
  exact (pss_one (ps_fld (pv 0) (pe_callB (call_min2 rfl) (by rfl) (T.free 3) (by decide +kernel) (pa_cons (pe_fld (pv 0) rfl) (pa_cons (pe_op op_add (pe_fld (pv 0) rfl) (pe_fld (pv 0) rfl)) pa_nil))) rfl))

theorem d_Bucket_take (T : TX K mg base)  {cdv : Value} {A : Around} {outer : List Env} {s : Shared} {H : Hp} {E : XK} (hr : Room 0 (A.deeper (envOfC "Bucket.take" (defScope s_Bucket_take) s.heap.objs.size (He.ma K (He.ga K "Bucket") "take") cdv))) :
    PSs (cxOf (L2.CX P w) P w K mg base N_Bucket_take "Bucket.take" (defScope s_Bucket_take) (He.ma K (He.ga K "Bucket") "take") cdv A outer s H E) (defBody s_Bucket_take) (t_Bucket_take K E) := by
  have tk : Takes (cxOf (L2.CX P w) P w K mg base N_Bucket_take "Bucket.take" (defScope s_Bucket_take) (He.ma K (He.ga K "Bucket") "take") cdv A outer s H E) (wB E) := takes_of rfl rfl rfl rfl
  exact (pss_cons (ps_if (pt_cmpR op_gt (pv 1) (pe_fld (pv 0) rfl) (nomark _))
  (pss_one (ps_ret pe_bl))
  pss_nil)
  (pss_cons (ps_fldaug (pv 0) (pv 1) in_sub)
  (pss_one (ps_ret pe_bl))))

theorem d_Bucket_fork (T : TX K mg base) (h_Bucket_init : HasI P w K mg base 1 "Bucket" P_Bucket_init (sp_Bucket_init K)) {cdv : Value} {A : Around} {outer : List Env} {s : Shared} {H : Hp} {E : XK} (hr : Room 2 (A.deeper (envOfC "Bucket.fork" (defScope s_Bucket_fork) s.heap.objs.size (He.ma K (He.ga K "Bucket") "fork") cdv))) :
    PSs (cxOf (L2.CX P w) P w K mg base N_Bucket_fork "Bucket.fork" (defScope s_Bucket_fork) (He.ma K (He.ga K "Bucket") "fork") cdv A outer s H E) (defBody s_Bucket_fork) (t_Bucket_fork K E) := by
  have tk : Takes (cxOf (L2.CX P w) P w K mg base N_Bucket_fork "Bucket.fork" (defScope s_Bucket_fork) (He.ma K (He.ga K "Bucket") "fork") cdv A outer s H E) (wB E) := takes_of rfl rfl rfl rfl
  exact (pss_cons (ps_set (i := 1) sc_Bucket_fork.nd rfl (Or.inl rfl) (pe_i h_Bucket_init (hr.mono (by decide)) rfl (fun σ => passAt tk σ) (pa_cons (pe_fld (pv 0) rfl) (pa_cons (pe_fld (pv 0) rfl) pa_nil))))
  (pss_cons (ps_fld (pv 1) (pe_fld (pv 0) rfl) rfl)
  (pss_one (ps_ret (pv 1)))))

theorem d_Waiting_init (T : TX K mg base)  {cdv : Value} {A : Around} {outer : List Env} {s : Shared} {H : Hp} {E : XK} (hr : Room 0 (A.deeper (envOfC "Waiting.__init__" (defScope s_Waiting_init) s.heap.objs.size (He.ma K (He.ga K "Waiting") "__init__") cdv))) :
    PSs (cxOf (L2.CX P w) P w K mg base N_Waiting_init "Waiting.__init__" (defScope s_Waiting_init) (He.ma K (He.ga K "Waiting") "__init__") cdv A outer s H E) (defBody s_Waiting_init) (t_Waiting_init K E) := by
  have tk : Takes (cxOf (L2.CX P w) P w K mg base N_Waiting_init "Waiting.__init__" (defScope s_Waiting_init) (He.ma K (He.ga K "Waiting") "__init__") cdv A outer s H E) (wB E) := takes_of rfl rfl rfl rfl
  exact (pss_cons (ps_fld (pv 0) (pv 1) rfl)
  (pss_cons (ps_fld (pv 0) (pv 2) rfl)
  (pss_one (ps_fld (pv 0) (pv 3) rfl))))

theorem d_Flow_init (T : TX K mg base)  {cdv : Value} {A : Around} {outer : List Env} {s : Shared} {H : Hp} {E : XK} (hr : Room 0 (A.deeper (envOfC "Flow.__init__" (defScope s_Flow_init) s.heap.objs.size (He.ma K (He.ga K "Flow") "__init__") cdv))) :
    PSs (cxOf (L2.CX P w) P w K mg base N_Flow_init "Flow.__init__" (defScope s_Flow_init) (He.ma K (He.ga K "Flow") "__init__") cdv A outer s H E) (defBody s_Flow_init) (t_Flow_init K E) := by
  have tk : Takes (cxOf (L2.CX P w) P w K mg base N_Flow_init "Flow.__init__" (defScope s_Flow_init) (He.ma K (He.ga K "Flow") "__init__") cdv A outer s H E) (wB E) := takes_of rfl rfl rfl rfl
  exact (pss_cons (ps_fld (pv 0) (pv 1) rfl)
  (pss_cons (ps_fld (pv 0) (pe_lst pa_nil) rfl)
  (pss_cons (ps_fld (pv 0) pe_int rfl)
  (pss_one (ps_fld (pv 0) pe_int rfl)))))

theorem d_Flow_add (T : TX K mg base)  {cdv : Value} {A : Around} {outer : List Env} {s : Shared} {H : Hp} {E : XK} (hr : Room 0 (A.deeper (envOfC "Flow.add" (defScope s_Flow_add) s.heap.objs.size (He.ma K (He.ga K "Flow") "add") cdv))) :
    PSs (cxOf (L2.CX P w) P w K mg base N_Flow_add "Flow.add" (defScope s_Flow_add) (He.ma K (He.ga K "Flow") "add") cdv A outer s H E) (defBody s_Flow_add) (t_Flow_add K E) := by
  have tk : Takes (cxOf (L2.CX P w) P w K mg base N_Flow_add "Flow.add" (defScope s_Flow_add) (He.ma K (He.ga K "Flow") "add") cdv A outer s H E) (wB E) := takes_of rfl rfl rfl rfl
  exact (pss_cons (ps_expr (pe_bm PySem.F.plainAttrs_list PySem.F.slot_list_append PySem.F.type_list_append mt_append (pe_fld (pv 0) rfl) (pa_cons (pv 1) pa_nil)))
  (pss_one (ps_fldaug (pv 0) (pe_fld (pv 1) rfl) in_add)))

theorem d_Flow_take (T : TX K mg base)  {cdv : Value} {A : Around} {outer : List Env} {s : Shared} {H : Hp} {E : XK} (hr : Room 0 (A.deeper (envOfC "Flow.take" (defScope s_Flow_take) s.heap.objs.size (He.ma K (He.ga K "Flow") "take") cdv))) :
    PSs (cxOf (L2.CX P w) P w K mg base N_Flow_take "Flow.take" (defScope s_Flow_take) (He.ma K (He.ga K "Flow") "take") cdv A outer s H E) (defBody s_Flow_take) (t_Flow_take K E) := by
  have tk : Takes (cxOf (L2.CX P w) P w K mg base N_Flow_take "Flow.take" (defScope s_Flow_take) (He.ma K (He.ga K "Flow") "take") cdv A outer s H E) (wB E) := takes_of rfl rfl rfl rfl
  exact (pss_cons (ps_set (i := 2) sc_Flow_take.nd rfl (Or.inl rfl) (pe_bm PySem.F.plainAttrs_list PySem.F.slot_list_pop PySem.F.type_list_pop mt_popAt (pe_fld (pv 0) rfl) (pa_cons (pv 1) pa_nil)))
  (pss_cons (ps_fldaug (pv 0) (pe_fld (pv 2) rfl) in_sub)
  (pss_one (ps_ret (pv 2)))))

theorem d_Flow_fork (T : TX K mg base) (h_Flow_init : HasI P w K mg base 1 "Flow" P_Flow_init (sp_Flow_init K)) {cdv : Value} {A : Around} {outer : List Env} {s : Shared} {H : Hp} {E : XK} (hr : Room 2 (A.deeper (envOfC "Flow.fork" (defScope s_Flow_fork) s.heap.objs.size (He.ma K (He.ga K "Flow") "fork") cdv))) :
    PSs (cxOf (L2.CX P w) P w K mg base N_Flow_fork "Flow.fork" (defScope s_Flow_fork) (He.ma K (He.ga K "Flow") "fork") cdv A outer s H E) (defBody s_Flow_fork) (t_Flow_fork K E) := by
  have tk : Takes (cxOf (L2.CX P w) P w K mg base N_Flow_fork "Flow.fork" (defScope s_Flow_fork) (He.ma K (He.ga K "Flow") "fork") cdv A outer s H E) (wB E) := takes_of rfl rfl rfl rfl
  exact (pss_cons (ps_set (i := 1) sc_Flow_fork.nd rfl (Or.inl rfl) (pe_i h_Flow_init (hr.mono (by decide)) rfl (fun σ => passAt tk σ) (pa_cons (pe_fld (pv 0) rfl) pa_nil)))
  (pss_cons (ps_fld (pv 1) (pe_callTy call_list_of (by rfl) (T.free 4) (by decide +kernel) (pa_cons (pe_fld (pv 0) rfl) pa_nil)) rfl)
  (pss_cons (ps_fld (pv 1) (pe_fld (pv 0) rfl) rfl)
  (pss_cons (ps_fld (pv 1) (pe_fld (pv 0) rfl) rfl)
  (pss_one (ps_ret (pv 1)))))))

theorem d_FairQueue_init (T : TX K mg base)  {cdv : Value} {A : Around} {outer : List Env} {s : Shared} {H : Hp} {E : XK} (hr : Room 0 (A.deeper (envOfC "FairQueue.__init__" (defScope s_FairQueue_init) s.heap.objs.size (He.ma K (He.ga K "FairQueue") "__init__") cdv))) :
    PSs (cxOf (L2.CX P w) P w K mg base N_FairQueue_init "FairQueue.__init__" (defScope s_FairQueue_init) (He.ma K (He.ga K "FairQueue") "__init__") cdv A outer s H E) (defBody s_FairQueue_init) (t_FairQueue_init K E) := by
  have tk : Takes (cxOf (L2.CX P w) P w K mg base N_FairQueue_init "FairQueue.__init__" (defScope s_FairQueue_init) (He.ma K (He.ga K "FairQueue") "__init__") cdv A outer s H E) (wB E) := takes_of rfl rfl rfl rfl
  exact (pss_cons (ps_if (PW.pt (pw_or (pt_cmpR op_lt (pv 1) pe_int (nomark _)) (pw_or1 (pt_cmpR op_lt (pv 2) pe_int (nomark _)))))
  (pss_one (ps_rs rfl tk (T.exc 1 2) rfl))
  pss_nil)
  (pss_cons (ps_fld (pv 0) (pv 1) rfl)
  (pss_cons (ps_fld (pv 0) (pv 2) rfl)
  (pss_cons (ps_fld (pv 0) (pe_lst pa_nil) rfl)
  (pss_one (ps_fld (pv 0) pe_bl rfl))))))

theorem d_FairQueue_count (T : TX K mg base)  {cdv : Value} {A : Around} {outer : List Env} {s : Shared} {H : Hp} {E : XK} (hr : Room 0 (A.deeper (envOfC "FairQueue.count" (defScope s_FairQueue_count) s.heap.objs.size (He.ma K (He.ga K "FairQueue") "count") cdv))) :
    PSs (cxOf (L2.CX P w) P w K mg base N_FairQueue_count "FairQueue.count" (defScope s_FairQueue_count) (He.ma K (He.ga K "FairQueue") "count") cdv A outer s H E) (defBody s_FairQueue_count) (t_FairQueue_count K E) := by
  have tk : Takes (cxOf (L2.CX P w) P w K mg base N_FairQueue_count "FairQueue.count" (defScope s_FairQueue_count) (He.ma K (He.ga K "FairQueue") "count") cdv A outer s H E) (wB E) := takes_of rfl rfl rfl rfl
  exact (pss_one (ps_ret (pe_callB (cr_sum rfl) (by rfl) (T.free 6) (by decide +kernel) (pa_cons (pe_lc (own := [("flow", 1)]) (g := (gName 1)) (tt := tYes) rfl sc_FairQueue_count.nd (pi_list (pe_fld (pv 0) rfl)) (blkOk_by (own := [("flow", 1)]) (N := N_FairQueue_count) (sc := defScope s_FairQueue_count) (by decide +kernel)) (fun _ _ _ _ _ => (pg_name (i := 1) sc_FairQueue_count.nd rfl (Or.inl rfl))) (fun _ _ _ _ _ => pts_nil) (fun _ _ _ _ _ => (pe_callB call_len (by rfl) (T.free 5) PySem.boot_len (pa_cons (pe_fld (pv 1) rfl) pa_nil)))) pa_nil))))

theorem d_FairQueue_octets (T : TX K mg base)  {cdv : Value} {A : Around} {outer : List Env} {s : Shared} {H : Hp} {E : XK} (hr : Room 0 (A.deeper (envOfC "FairQueue.octets" (defScope s_FairQueue_octets) s.heap.objs.size (He.ma K (He.ga K "FairQueue") "octets") cdv))) :
    PSs (cxOf (L2.CX P w) P w K mg base N_FairQueue_octets "FairQueue.octets" (defScope s_FairQueue_octets) (He.ma K (He.ga K "FairQueue") "octets") cdv A outer s H E) (defBody s_FairQueue_octets) (t_FairQueue_octets K E) := by
  have tk : Takes (cxOf (L2.CX P w) P w K mg base N_FairQueue_octets "FairQueue.octets" (defScope s_FairQueue_octets) (He.ma K (He.ga K "FairQueue") "octets") cdv A outer s H E) (wB E) := takes_of rfl rfl rfl rfl
  exact (pss_one (ps_ret (pe_callB (cr_sum rfl) (by rfl) (T.free 6) (by decide +kernel) (pa_cons (pe_lc (own := [("flow", 1)]) (g := (gName 1)) (tt := tYes) rfl sc_FairQueue_octets.nd (pi_list (pe_fld (pv 0) rfl)) (blkOk_by (own := [("flow", 1)]) (N := N_FairQueue_octets) (sc := defScope s_FairQueue_octets) (by decide +kernel)) (fun _ _ _ _ _ => (pg_name (i := 1) sc_FairQueue_octets.nd rfl (Or.inl rfl))) (fun _ _ _ _ _ => pts_nil) (fun _ _ _ _ _ => (pe_fld (pv 1) rfl))) pa_nil))))

theorem d_FairQueue_flow_of (T : TX K mg base)  {cdv : Value} {A : Around} {outer : List Env} {s : Shared} {H : Hp} {E : XK} (hr : Room 0 (A.deeper (envOfC "FairQueue.flow_of" (defScope s_FairQueue_flow_of) s.heap.objs.size (He.ma K (He.ga K "FairQueue") "flow_of") cdv))) :
    PSs (cxOf (L2.CX P w) P w K mg base N_FairQueue_flow_of "FairQueue.flow_of" (defScope s_FairQueue_flow_of) (He.ma K (He.ga K "FairQueue") "flow_of") cdv A outer s H E) (defBody s_FairQueue_flow_of) (t_FairQueue_flow_of K E) := by
  have tk : Takes (cxOf (L2.CX P w) P w K mg base N_FairQueue_flow_of "FairQueue.flow_of" (defScope s_FairQueue_flow_of) (He.ma K (He.ga K "FairQueue") "flow_of") cdv A outer s H E) (wB E) := takes_of rfl rfl rfl rfl
  have po : PassesOwn (model P w) (cxOf (L2.CX P w) P w K mg base N_FairQueue_flow_of "FairQueue.flow_of" (defScope s_FairQueue_flow_of) (He.ma K (He.ga K "FairQueue") "flow_of") cdv A outer s H E).A (cxOf (L2.CX P w) P w K mg base N_FairQueue_flow_of "FairQueue.flow_of" (defScope s_FairQueue_flow_of) (He.ma K (He.ga K "FairQueue") "flow_of") cdv A outer s H E).env (cxOf (L2.CX P w) P w K mg base N_FairQueue_flow_of "FairQueue.flow_of" (defScope s_FairQueue_flow_of) (He.ma K (He.ga K "FairQueue") "flow_of") cdv A outer s H E).xe := passes_of rfl
  exact (pss_cons (ps_for po rfl (pi_list (pe_fld (pv 0) rfl)) (pg_name (i := 2) sc_FairQueue_flow_of.nd rfl (Or.inl rfl))
  (pss_one (ps_if (pt_cmpR (op_eqD hr.units) (pe_fld (pv 2) rfl) (pv 1) (nomark _))
  (pss_one (ps_ret (pv 2)))
  pss_nil)))
  (pss_one (ps_ret pe_non)))

theorem d_FairQueue_remove_flow (T : TX K mg base)  {cdv : Value} {A : Around} {outer : List Env} {s : Shared} {H : Hp} {E : XK} (hr : Room 0 (A.deeper (envOfC "FairQueue.remove_flow" (defScope s_FairQueue_remove_flow) s.heap.objs.size (He.ma K (He.ga K "FairQueue") "remove_flow") cdv))) :
    PSs (cxOf (L2.CX P w) P w K mg base N_FairQueue_remove_flow "FairQueue.remove_flow" (defScope s_FairQueue_remove_flow) (He.ma K (He.ga K "FairQueue") "remove_flow") cdv A outer s H E) (defBody s_FairQueue_remove_flow) (t_FairQueue_remove_flow K E) := by
  have tk : Takes (cxOf (L2.CX P w) P w K mg base N_FairQueue_remove_flow "FairQueue.remove_flow" (defScope s_FairQueue_remove_flow) (He.ma K (He.ga K "FairQueue") "remove_flow") cdv A outer s H E) (wB E) := takes_of rfl rfl rfl rfl
  exact (pss_cons (ps_delL (pe_fld (pv 0) rfl) (pv 1))
  (pss_one (ps_if (pt_cmpR op_eq (pv 1) pe_int (nomark _))
  (pss_one (ps_fld (pv 0) pe_bl rfl))
  pss_nil)))

theorem d_FairQueue_put (T : TX K mg base) (h_Waiting_init : HasI P w K mg base 1 "Waiting" P_Waiting_init (sp_Waiting_init K)) (h_FairQueue_flow_of : HasM P w K mg base 1 "FairQueue" "flow_of" P_FairQueue_flow_of (sp_FairQueue_flow_of K)) (h_Flow_init : HasI P w K mg base 1 "Flow" P_Flow_init (sp_Flow_init K)) (h_Flow_add : HasM P w K mg base 1 "Flow" "add" P_Flow_add (sp_Flow_add K)) (h_FairQueue_octets : HasM P w K mg base 1 "FairQueue" "octets" P_FairQueue_octets (sp_FairQueue_octets K)) (h_FairQueue_drop : HasM P w K mg base 2 "FairQueue" "drop" P_FairQueue_drop (sp_FairQueue_drop K)) {cdv : Value} {A : Around} {outer : List Env} {s : Shared} {H : Hp} {E : XK} (hr : Room 2 (A.deeper (envOfC "FairQueue.put" (defScope s_FairQueue_put) s.heap.objs.size (He.ma K (He.ga K "FairQueue") "put") cdv))) :
    PSs (cxOf (L2.CX P w) P w K mg base N_FairQueue_put "FairQueue.put" (defScope s_FairQueue_put) (He.ma K (He.ga K "FairQueue") "put") cdv A outer s H E) (defBody s_FairQueue_put) (t_FairQueue_put K E) := by
  have tk : Takes (cxOf (L2.CX P w) P w K mg base N_FairQueue_put "FairQueue.put" (defScope s_FairQueue_put) (He.ma K (He.ga K "FairQueue") "put") cdv A outer s H E) (wB E) := takes_of rfl rfl rfl rfl
  have po : PassesOwn (model P w) (cxOf (L2.CX P w) P w K mg base N_FairQueue_put "FairQueue.put" (defScope s_FairQueue_put) (He.ma K (He.ga K "FairQueue") "put") cdv A outer s H E).A (cxOf (L2.CX P w) P w K mg base N_FairQueue_put "FairQueue.put" (defScope s_FairQueue_put) (He.ma K (He.ga K "FairQueue") "put") cdv A outer s H E).env (cxOf (L2.CX P w) P w K mg base N_FairQueue_put "FairQueue.put" (defScope s_FairQueue_put) (He.ma K (He.ga K "FairQueue") "put") cdv A outer s H E).xe := passes_of rfl
  exact (pss_cons (ps_set (i := 4) sc_FairQueue_put.nd rfl (Or.inl rfl) (pe_i h_Waiting_init (hr.mono (by decide)) rfl (fun σ => passAt tk σ) (pa_cons (pv 1) (pa_cons (pv 2) (pa_cons (pv 3) pa_nil)))))
  (pss_cons (ps_if (pt_cmpR op_gt (pv 3) (pe_fld (pv 0) rfl) (nomark _))
  (pss_one (ps_ret (pe_lst (pa_cons (pv 4) pa_nil))))
  pss_nil)
  (pss_cons (ps_set (i := 5) sc_FairQueue_put.nd rfl (Or.inl rfl) (pe_m (pv 0) h_FairQueue_flow_of (hr.mono (by decide)) (fun σ => passAt tk σ) (pa_cons (pv 1) pa_nil)))
  (Evl.pss_cut (ps_if (pt_cmpR op_isN1 (pv 5) pe_non (nomark _))
  (pss_cons (ps_set (i := 5) sc_FairQueue_put.nd rfl (Or.inl rfl) (pe_i h_Flow_init (hr.mono (by decide)) rfl (fun σ => passAt tk σ) (pa_cons (pv 1) pa_nil)))
  (pss_one (ps_expr (pe_bm PySem.F.plainAttrs_list PySem.F.slot_list_append PySem.F.type_list_append mt_append (pe_fld (pv 0) rfl) (pa_cons (pv 5) pa_nil)))))
  pss_nil)
  (pss_cons (ps_expr (pe_m (pv 5) h_Flow_add (hr.mono (by decide)) (fun σ => passAt tk σ) (pa_cons (pv 4) pa_nil)))
  (pss_cons (ps_set (i := 6) sc_FairQueue_put.nd rfl (Or.inl rfl) (pe_lst pa_nil))
  (pss_cons (ps_while po (pt_cmpR op_gt (pe_m0 (pv 0) h_FairQueue_octets (hr.mono (by decide)) (fun σ => passAt tk σ)) (pe_fld (pv 0) rfl) (nomark _))
  (pss_one (ps_expr (pe_bm PySem.F.plainAttrs_list PySem.F.slot_list_append PySem.F.type_list_append mt_append (pv 6) (pa_cons (pe_m0 (pv 0) h_FairQueue_drop (hr.mono (by decide)) (fun σ => passAt tk σ)) pa_nil)))))
  (pss_one (ps_ret (pv 6))))))))))

theorem d_FairQueue_drop (T : TX K mg base) (h_Flow_take : HasM P w K mg base 1 "Flow" "take" P_Flow_take (sp_Flow_take K)) (h_FairQueue_remove_flow : HasM P w K mg base 1 "FairQueue" "remove_flow" P_FairQueue_remove_flow (sp_FairQueue_remove_flow K)) {cdv : Value} {A : Around} {outer : List Env} {s : Shared} {H : Hp} {E : XK} (hr : Room 1 (A.deeper (envOfC "FairQueue.drop" (defScope s_FairQueue_drop) s.heap.objs.size (He.ma K (He.ga K "FairQueue") "drop") cdv))) :
    PSs (cxOf (L2.CX P w) P w K mg base N_FairQueue_drop "FairQueue.drop" (defScope s_FairQueue_drop) (He.ma K (He.ga K "FairQueue") "drop") cdv A outer s H E) (defBody s_FairQueue_drop) (t_FairQueue_drop K E) := by
  have tk : Takes (cxOf (L2.CX P w) P w K mg base N_FairQueue_drop "FairQueue.drop" (defScope s_FairQueue_drop) (He.ma K (He.ga K "FairQueue") "drop") cdv A outer s H E) (wB E) := takes_of rfl rfl rfl rfl
  have po : PassesOwn (model P w) (cxOf (L2.CX P w) P w K mg base N_FairQueue_drop "FairQueue.drop" (defScope s_FairQueue_drop) (He.ma K (He.ga K "FairQueue") "drop") cdv A outer s H E).A (cxOf (L2.CX P w) P w K mg base N_FairQueue_drop "FairQueue.drop" (defScope s_FairQueue_drop) (He.ma K (He.ga K "FairQueue") "drop") cdv A outer s H E).env (cxOf (L2.CX P w) P w K mg base N_FairQueue_drop "FairQueue.drop" (defScope s_FairQueue_drop) (He.ma K (He.ga K "FairQueue") "drop") cdv A outer s H E).xe := passes_of rfl
  exact (pss_cons (ps_set (i := 1) sc_FairQueue_drop.nd rfl (Or.inl rfl) pe_int)
  (pss_cons (ps_for po rfl (pi_range2 rfl (T.free 7) (pa_cons pe_int (pa_cons (pe_callB call_len (by rfl) (T.free 5) PySem.boot_len (pa_cons (pe_fld (pv 0) rfl) pa_nil)) pa_nil))) (pg_name (i := 2) sc_FairQueue_drop.nd rfl (Or.inl rfl))
  (pss_one (ps_if (pt_cmpR op_gt (pe_fld (pe_ix ix_list (pe_fld (pv 0) rfl) (pv 2) (fun _ _ => rfl)) rfl) (pe_fld (pe_ix ix_list (pe_fld (pv 0) rfl) (pv 1) (fun _ _ => rfl)) rfl) (nomark _))
  (pss_one (ps_set (i := 1) sc_FairQueue_drop.nd rfl (Or.inl rfl) (pv 2)))
  pss_nil)))
  (pss_cons (ps_set (i := 3) sc_FairQueue_drop.nd rfl (Or.inl rfl) (pe_ix ix_list (pe_fld (pv 0) rfl) (pv 1) (fun _ _ => rfl)))
  (pss_cons (ps_set (i := 4) sc_FairQueue_drop.nd rfl (Or.inl rfl) (pe_m (pv 3) h_Flow_take (hr.mono (by decide)) (fun σ => passAt tk σ) (pa_cons (pe_op op_sub (pe_callB call_len (by rfl) (T.free 5) PySem.boot_len (pa_cons (pe_fld (pv 3) rfl) pa_nil)) pe_int) pa_nil)))
  (pss_cons (ps_if (pt_not (pt_truth (pe_fld (pv 3) rfl) (by intro _; rfl)))
  (pss_one (ps_expr (pe_m (pv 0) h_FairQueue_remove_flow (hr.mono (by decide)) (fun σ => passAt tk σ) (pa_cons (pv 1) pa_nil))))
  pss_nil)
  (pss_one (ps_ret (pv 4))))))))

theorem d_FairQueue_turn (T : TX K mg base)  {cdv : Value} {A : Around} {outer : List Env} {s : Shared} {H : Hp} {E : XK} (hr : Room 0 (A.deeper (envOfC "FairQueue.turn" (defScope s_FairQueue_turn) s.heap.objs.size (He.ma K (He.ga K "FairQueue") "turn") cdv))) :
    PSs (cxOf (L2.CX P w) P w K mg base N_FairQueue_turn "FairQueue.turn" (defScope s_FairQueue_turn) (He.ma K (He.ga K "FairQueue") "turn") cdv A outer s H E) (defBody s_FairQueue_turn) (t_FairQueue_turn K E) := by
  have tk : Takes (cxOf (L2.CX P w) P w K mg base N_FairQueue_turn "FairQueue.turn" (defScope s_FairQueue_turn) (He.ma K (He.ga K "FairQueue") "turn") cdv A outer s H E) (wB E) := takes_of rfl rfl rfl rfl
  have po : PassesOwn (model P w) (cxOf (L2.CX P w) P w K mg base N_FairQueue_turn "FairQueue.turn" (defScope s_FairQueue_turn) (He.ma K (He.ga K "FairQueue") "turn") cdv A outer s H E).A (cxOf (L2.CX P w) P w K mg base N_FairQueue_turn "FairQueue.turn" (defScope s_FairQueue_turn) (He.ma K (He.ga K "FairQueue") "turn") cdv A outer s H E).env (cxOf (L2.CX P w) P w K mg base N_FairQueue_turn "FairQueue.turn" (defScope s_FairQueue_turn) (He.ma K (He.ga K "FairQueue") "turn") cdv A outer s H E).xe := passes_of rfl
  exact (pss_one (ps_while po (pt_truth (pe_fld (pv 0) rfl) (by intro _; rfl))
  (pss_cons (ps_set (i := 1) sc_FairQueue_turn.nd rfl (Or.inl rfl) (pe_ix ix_list (pe_fld (pv 0) rfl) pe_int (fun _ _ => rfl)))
  (Evl.pss_cut (ps_if (pt_not (pt_val (pe_fld (pv 0) rfl)))
  (pss_cons (ps_fld (pv 1) (pe_op op_add (pe_fld (pv 1) rfl) (pe_fld (pv 0) rfl)) rfl)
  (pss_one (ps_fld (pv 0) pe_bl rfl)))
  pss_nil)
  (pss_cons (ps_if (pt_cmpR op_le (pe_fld (pe_ix ix_list (pe_fld (pv 1) rfl) pe_int (fun _ _ => rfl)) rfl) (pe_fld (pv 1) rfl) (nomark _))
  (pss_one ps_retN)
  pss_nil)
  (pss_cons (ps_expr (pe_bm PySem.F.plainAttrs_list PySem.F.slot_list_append PySem.F.type_list_append mt_append (pe_fld (pv 0) rfl) (pa_cons (pe_bm PySem.F.plainAttrs_list PySem.F.slot_list_pop PySem.F.type_list_pop mt_popAt (pe_fld (pv 0) rfl) (pa_cons pe_int pa_nil)) pa_nil)))
  (pss_one (ps_fld (pv 0) pe_bl rfl))))))))

theorem d_FairQueue_next_up (T : TX K mg base) (h_FairQueue_turn : HasM P w K mg base 1 "FairQueue" "turn" P_FairQueue_turn (sp_FairQueue_turn K)) {cdv : Value} {A : Around} {outer : List Env} {s : Shared} {H : Hp} {E : XK} (hr : Room 1 (A.deeper (envOfC "FairQueue.next_up" (defScope s_FairQueue_next_up) s.heap.objs.size (He.ma K (He.ga K "FairQueue") "next_up") cdv))) :
    PSs (cxOf (L2.CX P w) P w K mg base N_FairQueue_next_up "FairQueue.next_up" (defScope s_FairQueue_next_up) (He.ma K (He.ga K "FairQueue") "next_up") cdv A outer s H E) (defBody s_FairQueue_next_up) (t_FairQueue_next_up K E) := by
  have tk : Takes (cxOf (L2.CX P w) P w K mg base N_FairQueue_next_up "FairQueue.next_up" (defScope s_FairQueue_next_up) (He.ma K (He.ga K "FairQueue") "next_up") cdv A outer s H E) (wB E) := takes_of rfl rfl rfl rfl
  exact (pss_cons (ps_expr (pe_m0 (pv 0) h_FairQueue_turn (hr.mono (by decide)) (fun σ => passAt tk σ)))
  (pss_cons (ps_if (pt_not (pt_truth (pe_fld (pv 0) rfl) (by intro _; rfl)))
  (pss_one (ps_ret pe_non))
  pss_nil)
  (pss_one (ps_ret (pe_ix ix_list (pe_fld (pe_ix ix_list (pe_fld (pv 0) rfl) pe_int (fun _ _ => rfl)) rfl) pe_int (fun _ _ => rfl))))))

theorem d_FairQueue_take (T : TX K mg base) (h_FairQueue_next_up : HasM P w K mg base 2 "FairQueue" "next_up" P_FairQueue_next_up (sp_FairQueue_next_up K)) (h_Flow_take : HasM P w K mg base 1 "Flow" "take" P_Flow_take (sp_Flow_take K)) (h_FairQueue_remove_flow : HasM P w K mg base 1 "FairQueue" "remove_flow" P_FairQueue_remove_flow (sp_FairQueue_remove_flow K)) {cdv : Value} {A : Around} {outer : List Env} {s : Shared} {H : Hp} {E : XK} (hr : Room 2 (A.deeper (envOfC "FairQueue.take" (defScope s_FairQueue_take) s.heap.objs.size (He.ma K (He.ga K "FairQueue") "take") cdv))) :
    PSs (cxOf (L2.CX P w) P w K mg base N_FairQueue_take "FairQueue.take" (defScope s_FairQueue_take) (He.ma K (He.ga K "FairQueue") "take") cdv A outer s H E) (defBody s_FairQueue_take) (t_FairQueue_take K E) := by
  have tk : Takes (cxOf (L2.CX P w) P w K mg base N_FairQueue_take "FairQueue.take" (defScope s_FairQueue_take) (He.ma K (He.ga K "FairQueue") "take") cdv A outer s H E) (wB E) := takes_of rfl rfl rfl rfl
  exact (pss_cons (ps_set (i := 1) sc_FairQueue_take.nd rfl (Or.inl rfl) (pe_m0 (pv 0) h_FairQueue_next_up (hr.mono (by decide)) (fun σ => passAt tk σ)))
  (pss_cons (ps_if (pt_cmpR op_isN1 (pv 1) pe_non (nomark _))
  (pss_one (ps_ret pe_non))
  pss_nil)
  (pss_cons (ps_set (i := 2) sc_FairQueue_take.nd rfl (Or.inl rfl) (pe_ix ix_list (pe_fld (pv 0) rfl) pe_int (fun _ _ => rfl)))
  (pss_cons (ps_expr (pe_m (pv 2) h_Flow_take (hr.mono (by decide)) (fun σ => passAt tk σ) (pa_cons pe_int pa_nil)))
  (pss_cons (ps_fldaug (pv 2) (pe_fld (pv 1) rfl) in_sub)
  (pss_cons (ps_if (pt_not (pt_truth (pe_fld (pv 2) rfl) (by intro _; rfl)))
  (pss_one (ps_expr (pe_m (pv 0) h_FairQueue_remove_flow (hr.mono (by decide)) (fun σ => passAt tk σ) (pa_cons pe_int pa_nil))))
  pss_nil)
  (pss_one (ps_ret (pv 1)))))))))

theorem d_FairQueue_take_all (T : TX K mg base)  {cdv : Value} {A : Around} {outer : List Env} {s : Shared} {H : Hp} {E : XK} (hr : Room 0 (A.deeper (envOfC "FairQueue.take_all" (defScope s_FairQueue_take_all) s.heap.objs.size (He.ma K (He.ga K "FairQueue") "take_all") cdv))) :
    PSs (cxOf (L2.CX P w) P w K mg base N_FairQueue_take_all "FairQueue.take_all" (defScope s_FairQueue_take_all) (He.ma K (He.ga K "FairQueue") "take_all") cdv A outer s H E) (defBody s_FairQueue_take_all) (t_FairQueue_take_all K E) := by
  have tk : Takes (cxOf (L2.CX P w) P w K mg base N_FairQueue_take_all "FairQueue.take_all" (defScope s_FairQueue_take_all) (He.ma K (He.ga K "FairQueue") "take_all") cdv A outer s H E) (wB E) := takes_of rfl rfl rfl rfl
  have po : PassesOwn (model P w) (cxOf (L2.CX P w) P w K mg base N_FairQueue_take_all "FairQueue.take_all" (defScope s_FairQueue_take_all) (He.ma K (He.ga K "FairQueue") "take_all") cdv A outer s H E).A (cxOf (L2.CX P w) P w K mg base N_FairQueue_take_all "FairQueue.take_all" (defScope s_FairQueue_take_all) (He.ma K (He.ga K "FairQueue") "take_all") cdv A outer s H E).env (cxOf (L2.CX P w) P w K mg base N_FairQueue_take_all "FairQueue.take_all" (defScope s_FairQueue_take_all) (He.ma K (He.ga K "FairQueue") "take_all") cdv A outer s H E).xe := passes_of rfl
  exact (pss_cons (ps_set (i := 1) sc_FairQueue_take_all.nd rfl (Or.inl rfl) (pe_lst pa_nil))
  (pss_cons (ps_for po rfl (pi_list (pe_fld (pv 0) rfl)) (pg_name (i := 2) sc_FairQueue_take_all.nd rfl (Or.inl rfl))
  (pss_one (ps_set (i := 1) sc_FairQueue_take_all.nd rfl (Or.inl rfl) (pe_op op_cat (pv 1) (pe_fld (pv 2) rfl)))))
  (pss_cons (ps_fld (pv 0) (pe_lst pa_nil) rfl)
  (pss_cons (ps_fld (pv 0) pe_bl rfl)
  (pss_one (ps_ret (pv 1)))))))

theorem d_FairQueue_fork (T : TX K mg base) (h_FairQueue_init : HasI P w K mg base 1 "FairQueue" P_FairQueue_init (sp_FairQueue_init K)) (h_Flow_fork : HasM P w K mg base 3 "Flow" "fork" P_Flow_fork (sp_Flow_fork K)) {cdv : Value} {A : Around} {outer : List Env} {s : Shared} {H : Hp} {E : XK} (hr : Room 3 (A.deeper (envOfC "FairQueue.fork" (defScope s_FairQueue_fork) s.heap.objs.size (He.ma K (He.ga K "FairQueue") "fork") cdv))) :
    PSs (cxOf (L2.CX P w) P w K mg base N_FairQueue_fork "FairQueue.fork" (defScope s_FairQueue_fork) (He.ma K (He.ga K "FairQueue") "fork") cdv A outer s H E) (defBody s_FairQueue_fork) (t_FairQueue_fork K E) := by
  have tk : Takes (cxOf (L2.CX P w) P w K mg base N_FairQueue_fork "FairQueue.fork" (defScope s_FairQueue_fork) (He.ma K (He.ga K "FairQueue") "fork") cdv A outer s H E) (wB E) := takes_of rfl rfl rfl rfl
  exact (pss_cons (ps_set (i := 1) sc_FairQueue_fork.nd rfl (Or.inl rfl) (pe_i h_FairQueue_init (hr.mono (by decide)) rfl (fun σ => passAt tk σ) (pa_cons (pe_fld (pv 0) rfl) (pa_cons (pe_fld (pv 0) rfl) pa_nil))))
  (pss_cons (ps_fld (pv 1) (pe_lc (own := [("flow", 2)]) (g := (gName 2)) (tt := tYes) rfl sc_FairQueue_fork.nd (pi_list (pe_fld (pv 0) rfl)) (blkOk_by (own := [("flow", 2)]) (N := N_FairQueue_fork) (sc := defScope s_FairQueue_fork) (by decide +kernel)) (fun _ _ _ _ _ => (pg_name (i := 2) sc_FairQueue_fork.nd rfl (Or.inl rfl))) (fun _ _ _ _ _ => pts_nil) (fun _ _ _ _ _ => (pe_m0 (pv 2) h_Flow_fork (hr.mono (by decide)) (fun σ => passZ σ)))) rfl)
  (pss_cons (ps_fld (pv 1) (pe_fld (pv 0) rfl) rfl)
  (pss_one (ps_ret (pv 1))))))

theorem d_LinkOptions_init (T : TX K mg base)  {cdv : Value} {A : Around} {outer : List Env} {s : Shared} {H : Hp} {E : XK} (hr : Room 0 (A.deeper (envOfC "LinkOptions.__init__" (defScope s_LinkOptions_init) s.heap.objs.size (He.ma K (He.ga K "LinkOptions") "__init__") cdv))) :
    PSs (cxOf (L2.CX P w) P w K mg base N_LinkOptions_init "LinkOptions.__init__" (defScope s_LinkOptions_init) (He.ma K (He.ga K "LinkOptions") "__init__") cdv A outer s H E) (defBody s_LinkOptions_init) (t_LinkOptions_init K E) := by
  have tk : Takes (cxOf (L2.CX P w) P w K mg base N_LinkOptions_init "LinkOptions.__init__" (defScope s_LinkOptions_init) (He.ma K (He.ga K "LinkOptions") "__init__") cdv A outer s H E) (wB E) := takes_of rfl rfl rfl rfl
  exact (pss_cons (ps_if (PW.pt (pw_or (pt_not (pt_chain op_le op_le pe_int (pv 1) (pe_gint rfl (T.int 8)))) (pw_or1 (pt_not (pt_chain op_le op_le (pe_gint rfl (T.int 9)) (pv 2) (pe_gint rfl (T.int 10)))))))
  (pss_one (ps_rs rfl tk (T.exc 1 2) rfl))
  pss_nil)
  (pss_cons (ps_if (PW.pt (pw_or (pt_not (pt_chain op_le op_le pe_int (pv 3) (pe_gint rfl (T.int 11)))) (pw_or1 (pt_not (pt_chain3 op_le op_le op_le (pe_op op_add (pv 2) (pe_gint rfl (T.int 12))) (pv 4) (pv 5) (pe_gint rfl (T.int 11)))))))
  (pss_one (ps_rs rfl tk (T.exc 1 2) rfl))
  pss_nil)
  (pss_cons (ps_if (pt_not (pt_chain op_le op_le pe_int (pv 6) (pe_gint rfl (T.int 13))))
  (pss_one (ps_rs rfl tk (T.exc 1 2) rfl))
  pss_nil)
  (pss_cons (ps_fld (pv 0) (pv 1) rfl)
  (pss_cons (ps_fld (pv 0) (pv 2) rfl)
  (pss_cons (ps_fld (pv 0) (pv 3) rfl)
  (pss_cons (ps_fld (pv 0) (pv 4) rfl)
  (pss_cons (ps_fld (pv 0) (pv 5) rfl)
  (pss_one (ps_fld (pv 0) (pv 6) rfl))))))))))

theorem d_Line_init (T : TX K mg base) (h_FairQueue_init : HasI P w K mg base 1 "FairQueue" P_FairQueue_init (sp_FairQueue_init K)) (h_Bucket_init : HasI P w K mg base 1 "Bucket" P_Bucket_init (sp_Bucket_init K)) {cdv : Value} {A : Around} {outer : List Env} {s : Shared} {H : Hp} {E : XK} (hr : Room 2 (A.deeper (envOfC "Line.__init__" (defScope s_Line_init) s.heap.objs.size (He.ma K (He.ga K "Line") "__init__") cdv))) :
    PSs (cxOf (L2.CX P w) P w K mg base N_Line_init "Line.__init__" (defScope s_Line_init) (He.ma K (He.ga K "Line") "__init__") cdv A outer s H E) (defBody s_Line_init) (t_Line_init K E) := by
  have tk : Takes (cxOf (L2.CX P w) P w K mg base N_Line_init "Line.__init__" (defScope s_Line_init) (He.ma K (He.ga K "Line") "__init__") cdv A outer s H E) (wB E) := takes_of rfl rfl rfl rfl
  exact (pss_cons (ps_fld (pv 0) (pv 1) rfl)
  (pss_cons (ps_fld (pv 0) (pe_i h_FairQueue_init (hr.mono (by decide)) rfl (fun σ => passAt tk σ) (pa_cons (pe_fld (pv 1) rfl) (pa_cons (pe_fld (pv 1) rfl) pa_nil))) rfl)
  (pss_cons (ps_fld (pv 0) (pe_i h_Bucket_init (hr.mono (by decide)) rfl (fun σ => passAt tk σ) (pa_cons (pe_fld (pv 1) rfl) (pa_cons (pe_fld (pv 1) rfl) pa_nil))) rfl)
  (pss_cons (ps_fld (pv 0) (pe_lst pa_nil) rfl)
  (pss_one (ps_fld (pv 0) pe_bl rfl))))))

theorem d_Line_count (T : TX K mg base) (h_FairQueue_count : HasM P w K mg base 1 "FairQueue" "count" P_FairQueue_count (sp_FairQueue_count K)) {cdv : Value} {A : Around} {outer : List Env} {s : Shared} {H : Hp} {E : XK} (hr : Room 1 (A.deeper (envOfC "Line.count" (defScope s_Line_count) s.heap.objs.size (He.ma K (He.ga K "Line") "count") cdv))) :
    PSs (cxOf (L2.CX P w) P w K mg base N_Line_count "Line.count" (defScope s_Line_count) (He.ma K (He.ga K "Line") "count") cdv A outer s H E) (defBody s_Line_count) (t_Line_count K E) := by
  have tk : Takes (cxOf (L2.CX P w) P w K mg base N_Line_count "Line.count" (defScope s_Line_count) (He.ma K (He.ga K "Line") "count") cdv A outer s H E) (wB E) := takes_of rfl rfl rfl rfl
  exact (pss_one (ps_ret (pe_op op_add (pe_m0 (pe_fld (pv 0) rfl) h_FairQueue_count (hr.mono (by decide)) (fun σ => passAt tk σ)) (pe_callB call_len (by rfl) (T.free 5) PySem.boot_len (pa_cons (pe_fld (pv 0) rfl) pa_nil)))))

theorem d_Line_put (T : TX K mg base) (h_FairQueue_octets : HasM P w K mg base 1 "FairQueue" "octets" P_FairQueue_octets (sp_FairQueue_octets K)) (h_Frame_with_mark : HasM P w K mg base 3 "Frame" "with_mark" P_Frame_with_mark (sp_Frame_with_mark K)) (h_FairQueue_put : HasM P w K mg base 3 "FairQueue" "put" P_FairQueue_put (sp_FairQueue_put K)) (h_Frame_weight : HasM P w K mg base 1 "Frame" "weight" P_Frame_weight (sp_Frame_weight K)) (h_Frame_flow_key : HasM P w K mg base 1 "Frame" "flow_key" P_Frame_flow_key (sp_Frame_flow_key K)) {cdv : Value} {A : Around} {outer : List Env} {s : Shared} {H : Hp} {E : XK} (hr : Room 3 (A.deeper (envOfC "Line.put" (defScope s_Line_put) s.heap.objs.size (He.ma K (He.ga K "Line") "put") cdv))) :
    PSs (cxOf (L2.CX P w) P w K mg base N_Line_put "Line.put" (defScope s_Line_put) (He.ma K (He.ga K "Line") "put") cdv A outer s H E) (defBody s_Line_put) (t_Line_put K E) := by
  have tk : Takes (cxOf (L2.CX P w) P w K mg base N_Line_put "Line.put" (defScope s_Line_put) (He.ma K (He.ga K "Line") "put") cdv A outer s H E) (wB E) := takes_of rfl rfl rfl rfl
  exact (pss_cons (ps_if (pt_not (pt_val (pe_fld (pv 0) rfl)))
  (pss_one (ps_ret (pe_lst (pa_cons (pv 1) pa_nil))))
  pss_nil)
  (Evl.pss_cut (ps_if (pt_cmpR op_gt (pe_op op_mul pe_int (pe_m0 (pe_fld (pv 0) rfl) h_FairQueue_octets (hr.mono (by decide)) (fun σ => passAt tk σ))) (pe_fld (pe_fld (pv 0) rfl) rfl) (nomark _))
  (pss_one (ps_set (i := 1) sc_Line_put.nd rfl (Or.inl rfl) (pe_m0 (pv 1) h_Frame_with_mark (hr.mono (by decide)) (fun σ => passAt tk σ))))
  pss_nil)
  (pss_one (ps_ret (pe_lc (own := [("waiting", 2)]) (g := (gName 2)) (tt := tYes) rfl sc_Line_put.nd (pi_list (pe_m (pe_fld (pv 0) rfl) h_FairQueue_put (hr.mono (by decide)) (fun σ => passAt tk σ) (pa_cons (pe_m0 (pv 1) h_Frame_flow_key (hr.mono (by decide)) (fun σ => passAt tk σ)) (pa_cons (pv 1) (pa_cons (pe_m0 (pv 1) h_Frame_weight (hr.mono (by decide)) (fun σ => passAt tk σ)) pa_nil))))) (blkOk_by (own := [("waiting", 2)]) (N := N_Line_put) (sc := defScope s_Line_put) (by decide +kernel)) (fun _ _ _ _ _ => (pg_name (i := 2) sc_Line_put.nd rfl (Or.inl rfl))) (fun _ _ _ _ _ => pts_nil) (fun _ _ _ _ _ => (pe_fld (pv 2) rfl)))))))

theorem d_Line_tick (T : TX K mg base) (h_Bucket_tick : HasM P w K mg base 1 "Bucket" "tick" P_Bucket_tick (sp_Bucket_tick K)) (h_FairQueue_next_up : HasM P w K mg base 2 "FairQueue" "next_up" P_FairQueue_next_up (sp_FairQueue_next_up K)) (h_Bucket_take : HasM P w K mg base 1 "Bucket" "take" P_Bucket_take (sp_Bucket_take K)) (h_FairQueue_take : HasM P w K mg base 3 "FairQueue" "take" P_FairQueue_take (sp_FairQueue_take K)) {cdv : Value} {A : Around} {outer : List Env} {s : Shared} {H : Hp} {E : XK} (hr : Room 3 (A.deeper (envOfC "Line.tick" (defScope s_Line_tick) s.heap.objs.size (He.ma K (He.ga K "Line") "tick") cdv))) :
    PSs (cxOf (L2.CX P w) P w K mg base N_Line_tick "Line.tick" (defScope s_Line_tick) (He.ma K (He.ga K "Line") "tick") cdv A outer s H E) (defBody s_Line_tick) (t_Line_tick K E) := by
  have tk : Takes (cxOf (L2.CX P w) P w K mg base N_Line_tick "Line.tick" (defScope s_Line_tick) (He.ma K (He.ga K "Line") "tick") cdv A outer s H E) (wB E) := takes_of rfl rfl rfl rfl
  have po : PassesOwn (model P w) (cxOf (L2.CX P w) P w K mg base N_Line_tick "Line.tick" (defScope s_Line_tick) (He.ma K (He.ga K "Line") "tick") cdv A outer s H E).A (cxOf (L2.CX P w) P w K mg base N_Line_tick "Line.tick" (defScope s_Line_tick) (He.ma K (He.ga K "Line") "tick") cdv A outer s H E).env (cxOf (L2.CX P w) P w K mg base N_Line_tick "Line.tick" (defScope s_Line_tick) (He.ma K (He.ga K "Line") "tick") cdv A outer s H E).xe := passes_of rfl
  exact (pss_cons (ps_expr (pe_m0 (pe_fld (pv 0) rfl) h_Bucket_tick (hr.mono (by decide)) (fun σ => passAt tk σ)))
  (pss_cons (ps_set (i := 2) sc_Line_tick.nd rfl (Or.inl rfl) (pe_m0 (pe_fld (pv 0) rfl) h_FairQueue_next_up (hr.mono (by decide)) (fun σ => passAt tk σ)))
  (Evl.pss_cut (ps_while po (PW.pt (pw_and (pt_cmpR op_notN1 (pv 2) pe_non (nomark _)) (pw_and1 (pt_val (pe_m (pe_fld (pv 0) rfl) h_Bucket_take (hr.mono (by decide)) (fun σ => passAt tk σ) (pa_cons (pe_fld (pv 2) rfl) pa_nil))))))
  (pss_cons (ps_expr (pe_m0 (pe_fld (pv 0) rfl) h_FairQueue_take (hr.mono (by decide)) (fun σ => passAt tk σ)))
  (pss_cons (ps_expr (pe_bm PySem.F.plainAttrs_list PySem.F.slot_list_append PySem.F.type_list_append mt_append (pe_fld (pv 0) rfl) (pa_cons (pe_tup (pa_cons (pe_op op_add (pv 1) (pe_fld (pe_fld (pv 0) rfl) rfl)) (pa_cons (pe_fld (pv 2) rfl) pa_nil))) pa_nil)))
  (pss_one (ps_set (i := 2) sc_Line_tick.nd rfl (Or.inl rfl) (pe_m0 (pe_fld (pv 0) rfl) h_FairQueue_next_up (hr.mono (by decide)) (fun σ => passAt tk σ)))))))
  (pss_cons (ps_setLc (i := 3) (own := [("due", 4), ("frame", 5)]) (g := (gTup K 2 (gCons (gName 4) (gCons (gName 5) gNil)))) (tt := (tTest (tOp gLe (tVar 4) (tVar 1)))) rfl sc_Line_tick.nd rfl rfl (sw_true rfl rfl rfl (by decide +kernel)) (pi_list (pe_callTy call_list_of (by rfl) (T.free 4) (by decide +kernel) (pa_cons (pe_fld (pv 0) rfl) pa_nil))) (blkOk_by (own := [("due", 4), ("frame", 5)]) (N := N_Line_tick) (sc := defScope s_Line_tick) (by decide +kernel)) (fun _ _ _ _ _ => (pg_tup rfl (pgs_cons (pg_name (i := 4) sc_Line_tick.nd rfl (Or.inl rfl)) (pgs_cons (pg_name (i := 5) sc_Line_tick.nd rfl (Or.inl rfl)) pgs_nil)))) (fun _ _ _ _ _ => (pts_one (pt_cmpR op_le (pv 4) (pv 1) (nomark _)))) (fun _ _ _ _ _ => (pv 5)))
  (pss_cons (ps_fld (pv 0) (pe_lc (own := [("due", 4), ("frame", 5)]) (g := (gTup K 2 (gCons (gName 4) (gCons (gName 5) gNil)))) (tt := (tTest (tOp gGt (tVar 4) (tVar 1)))) rfl sc_Line_tick.nd (pi_list (pe_callTy call_list_of (by rfl) (T.free 4) (by decide +kernel) (pa_cons (pe_fld (pv 0) rfl) pa_nil))) (blkOk_by (own := [("due", 4), ("frame", 5)]) (N := N_Line_tick) (sc := defScope s_Line_tick) (by decide +kernel)) (fun _ _ _ _ _ => (pg_tup rfl (pgs_cons (pg_name (i := 4) sc_Line_tick.nd rfl (Or.inl rfl)) (pgs_cons (pg_name (i := 5) sc_Line_tick.nd rfl (Or.inl rfl)) pgs_nil)))) (fun _ _ _ _ _ => (pts_one (pt_cmpR op_gt (pv 4) (pv 1) (nomark _)))) (fun _ _ _ _ _ => (pe_tup (pa_cons (pv 4) (pa_cons (pv 5) pa_nil))))) rfl)
  (pss_one (ps_ret (pv 3))))))))

theorem d_Line_cut (T : TX K mg base) (h_FairQueue_take_all : HasM P w K mg base 1 "FairQueue" "take_all" P_FairQueue_take_all (sp_FairQueue_take_all K)) {cdv : Value} {A : Around} {outer : List Env} {s : Shared} {H : Hp} {E : XK} (hr : Room 1 (A.deeper (envOfC "Line.cut" (defScope s_Line_cut) s.heap.objs.size (He.ma K (He.ga K "Line") "cut") cdv))) :
    PSs (cxOf (L2.CX P w) P w K mg base N_Line_cut "Line.cut" (defScope s_Line_cut) (He.ma K (He.ga K "Line") "cut") cdv A outer s H E) (defBody s_Line_cut) (t_Line_cut K E) := by
  have tk : Takes (cxOf (L2.CX P w) P w K mg base N_Line_cut "Line.cut" (defScope s_Line_cut) (He.ma K (He.ga K "Line") "cut") cdv A outer s H E) (wB E) := takes_of rfl rfl rfl rfl
  exact (pss_cons (ps_fld (pv 0) pe_bl rfl)
  (pss_cons (ps_setLc (i := 1) (own := [("row", 2)]) (g := (gName 2)) (tt := tYes) rfl sc_Line_cut.nd rfl rfl (sw_true rfl rfl rfl (by decide +kernel)) (pi_list (pe_m0 (pe_fld (pv 0) rfl) h_FairQueue_take_all (hr.mono (by decide)) (fun σ => passAt tk σ))) (blkOk_by (own := [("row", 2)]) (N := N_Line_cut) (sc := defScope s_Line_cut) (by decide +kernel)) (fun _ _ _ _ _ => (pg_name (i := 2) sc_Line_cut.nd rfl (Or.inl rfl))) (fun _ _ _ _ _ => pts_nil) (fun _ _ _ _ _ => (pe_fld (pv 2) rfl)))
  (pss_cons (ps_setLc (i := 3) (own := [("_", 4), ("frame", 5)]) (g := (gTup K 2 (gCons (gName 4) (gCons (gName 5) gNil)))) (tt := tYes) rfl sc_Line_cut.nd rfl rfl (sw_true rfl rfl rfl (by decide +kernel)) (pi_list (pe_fld (pv 0) rfl)) (blkOk_by (own := [("_", 4), ("frame", 5)]) (N := N_Line_cut) (sc := defScope s_Line_cut) (by decide +kernel)) (fun _ _ _ _ _ => (pg_tup rfl (pgs_cons (pg_name (i := 4) sc_Line_cut.nd rfl (Or.inl rfl)) (pgs_cons (pg_name (i := 5) sc_Line_cut.nd rfl (Or.inl rfl)) pgs_nil)))) (fun _ _ _ _ _ => pts_nil) (fun _ _ _ _ _ => (pv 5)))
  (pss_cons (ps_fld (pv 0) (pe_lst pa_nil) rfl)
  (pss_one (ps_ret (pe_op op_cat (pv 1) (pv 3))))))))

theorem d_Line_join (T : TX K mg base)  {cdv : Value} {A : Around} {outer : List Env} {s : Shared} {H : Hp} {E : XK} (hr : Room 0 (A.deeper (envOfC "Line.join" (defScope s_Line_join) s.heap.objs.size (He.ma K (He.ga K "Line") "join") cdv))) :
    PSs (cxOf (L2.CX P w) P w K mg base N_Line_join "Line.join" (defScope s_Line_join) (He.ma K (He.ga K "Line") "join") cdv A outer s H E) (defBody s_Line_join) (t_Line_join K E) := by
  have tk : Takes (cxOf (L2.CX P w) P w K mg base N_Line_join "Line.join" (defScope s_Line_join) (He.ma K (He.ga K "Line") "join") cdv A outer s H E) (wB E) := takes_of rfl rfl rfl rfl
  exact (pss_one (ps_fld (pv 0) pe_bl rfl))

theorem d_Line_fork (T : TX K mg base) (h_Line_init : HasI P w K mg base 3 "Line" P_Line_init (sp_Line_init K)) (h_FairQueue_fork : HasM P w K mg base 4 "FairQueue" "fork" P_FairQueue_fork (sp_FairQueue_fork K)) (h_Bucket_fork : HasM P w K mg base 3 "Bucket" "fork" P_Bucket_fork (sp_Bucket_fork K)) {cdv : Value} {A : Around} {outer : List Env} {s : Shared} {H : Hp} {E : XK} (hr : Room 4 (A.deeper (envOfC "Line.fork" (defScope s_Line_fork) s.heap.objs.size (He.ma K (He.ga K "Line") "fork") cdv))) :
    PSs (cxOf (L2.CX P w) P w K mg base N_Line_fork "Line.fork" (defScope s_Line_fork) (He.ma K (He.ga K "Line") "fork") cdv A outer s H E) (defBody s_Line_fork) (t_Line_fork K E) := by
  have tk : Takes (cxOf (L2.CX P w) P w K mg base N_Line_fork "Line.fork" (defScope s_Line_fork) (He.ma K (He.ga K "Line") "fork") cdv A outer s H E) (wB E) := takes_of rfl rfl rfl rfl
  exact (pss_cons (ps_set (i := 1) sc_Line_fork.nd rfl (Or.inl rfl) (pe_i h_Line_init (hr.mono (by decide)) rfl (fun σ => passAt tk σ) (pa_cons (pe_fld (pv 0) rfl) pa_nil)))
  (pss_cons (ps_fld (pv 1) (pe_m0 (pe_fld (pv 0) rfl) h_FairQueue_fork (hr.mono (by decide)) (fun σ => passAt tk σ)) rfl)
  (pss_cons (ps_fld (pv 1) (pe_m0 (pe_fld (pv 0) rfl) h_Bucket_fork (hr.mono (by decide)) (fun σ => passAt tk σ)) rfl)
  (pss_cons (ps_fld (pv 1) (pe_callTy call_list_of (by rfl) (T.free 4) (by decide +kernel) (pa_cons (pe_fld (pv 0) rfl) pa_nil)) rfl)
  (pss_cons (ps_fld (pv 1) (pe_fld (pv 0) rfl) rfl)
  (pss_one (ps_ret (pv 1))))))))

theorem d_Frame_init (T : TX K mg base)  {cdv : Value} {A : Around} {outer : List Env} {s : Shared} {H : Hp} {E : XK} (hr : Room 0 (A.deeper (envOfC "Frame.__init__" (defScope s_Frame_init) s.heap.objs.size (He.ma K (He.ga K "Frame") "__init__") cdv))) :
    PSs (cxOf (L2.CX P w) P w K mg base N_Frame_init "Frame.__init__" (defScope s_Frame_init) (He.ma K (He.ga K "Frame") "__init__") cdv A outer s H E) (defBody s_Frame_init) (t_Frame_init K E) := by
  have tk : Takes (cxOf (L2.CX P w) P w K mg base N_Frame_init "Frame.__init__" (defScope s_Frame_init) (He.ma K (He.ga K "Frame") "__init__") cdv A outer s H E) (wB E) := takes_of rfl rfl rfl rfl
  exact (pss_cons (ps_fld (pv 0) (pv 1) rfl)
  (pss_cons (ps_fld (pv 0) (pv 2) rfl)
  (pss_cons (ps_fld (pv 0) (pv 3) rfl)
  (pss_cons (ps_fld (pv 0) (pe_callTy call_list_of (by rfl) (T.free 4) (by decide +kernel) (pa_cons (pv 4) pa_nil)) rfl)
  (pss_cons (ps_fld (pv 0) (pv 5) rfl)
  (pss_cons (ps_fld (pv 0) (pv 6) rfl)
  (pss_one (ps_fld (pv 0) (pv 7) rfl))))))))

theorem d_Frame__eq (T : TX K mg base)  {cdv : Value} {A : Around} {outer : List Env} {s : Shared} {H : Hp} {E : XK} (hr : Room 0 (A.deeper (envOfC "Frame.__eq__" (defScope s_Frame__eq) s.heap.objs.size (He.ma K (He.ga K "Frame") "__eq__") cdv))) :
    PSs (cxOf (L2.CX P w) P w K mg base N_Frame__eq "Frame.__eq__" (defScope s_Frame__eq) (He.ma K (He.ga K "Frame") "__eq__") cdv A outer s H E) (defBody s_Frame__eq) (t_Frame__eq K E) := by
  have tk : Takes (cxOf (L2.CX P w) P w K mg base N_Frame__eq "Frame.__eq__" (defScope s_Frame__eq) (He.ma K (He.ga K "Frame") "__eq__") cdv A outer s H E) (wB E) := takes_of rfl rfl rfl rfl
  exact (pss_one (ps_ret (pe_and (pe_callB call_isi (by rfl) (T.free 15) (by decide +kernel) (pa_cons (pv 1) (pa_cons (pe_gref rfl (T.glo 14)) pa_nil))) (pe_and (pe_cmpR op_eq (pe_fld (pv 0) rfl) (pe_fld (pv 1) rfl) (nomark _)) (pe_and (pe_cmpR op_eq (pe_fld (pv 0) rfl) (pe_fld (pv 1) rfl) (nomark _)) (pe_and (pe_cmpR op_eq (pe_fld (pv 0) rfl) (pe_fld (pv 1) rfl) (nomark _)) (pe_and (pe_cmpR (op_eqD hr.units) (pe_fld (pv 0) rfl) (pe_fld (pv 1) rfl) (nomark _)) (pe_and (pe_cmpR op_eq (pe_fld (pv 0) rfl) (pe_fld (pv 1) rfl) (nomark _)) (pe_and (pe_cmpR op_eq (pe_fld (pv 0) rfl) (pe_fld (pv 1) rfl) (nomark _)) (pe_one (pe_cmpR op_eq (pe_fld (pv 0) rfl) (pe_fld (pv 1) rfl) (nomark _))))))))))))

theorem d_Frame_as_row (T : TX K mg base)  {cdv : Value} {A : Around} {outer : List Env} {s : Shared} {H : Hp} {E : XK} (hr : Room 0 (A.deeper (envOfC "Frame.as_row" (defScope s_Frame_as_row) s.heap.objs.size (He.ma K (He.ga K "Frame") "as_row") cdv))) :
    PSs (cxOf (L2.CX P w) P w K mg base N_Frame_as_row "Frame.as_row" (defScope s_Frame_as_row) (He.ma K (He.ga K "Frame") "as_row") cdv A outer s H E) (defBody s_Frame_as_row) (t_Frame_as_row K E) := by
  have tk : Takes (cxOf (L2.CX P w) P w K mg base N_Frame_as_row "Frame.as_row" (defScope s_Frame_as_row) (He.ma K (He.ga K "Frame") "as_row") cdv A outer s H E) (wB E) := takes_of rfl rfl rfl rfl
  exact (pss_one (ps_ret (pe_tup (pa_cons (pe_fld (pv 0) rfl) (pa_cons (pe_fld (pv 0) rfl) (pa_cons (pe_fld (pv 0) rfl) (pa_cons (pe_fld (pv 0) rfl) (pa_cons (pe_fld (pv 0) rfl) (pa_cons (pe_fld (pv 0) rfl) (pa_cons (pe_fld (pv 0) rfl) pa_nil))))))))))

theorem d_Frame_weight (T : TX K mg base)  {cdv : Value} {A : Around} {outer : List Env} {s : Shared} {H : Hp} {E : XK} (hr : Room 0 (A.deeper (envOfC "Frame.weight" (defScope s_Frame_weight) s.heap.objs.size (He.ma K (He.ga K "Frame") "weight") cdv))) :
    PSs (cxOf (L2.CX P w) P w K mg base N_Frame_weight "Frame.weight" (defScope s_Frame_weight) (He.ma K (He.ga K "Frame") "weight") cdv A outer s H E) (defBody s_Frame_weight) (t_Frame_weight K E) := by
  have tk : Takes (cxOf (L2.CX P w) P w K mg base N_Frame_weight "Frame.weight" (defScope s_Frame_weight) (He.ma K (He.ga K "Frame") "weight") cdv A outer s H E) (wB E) := takes_of rfl rfl rfl rfl
  exact (pss_one (ps_ret (pe_op op_add (pe_gint rfl (T.int 16)) (pe_callB call_len (by rfl) (T.free 5) PySem.boot_len (pa_cons (pe_fld (pv 0) rfl) pa_nil)))))

theorem d_Frame_flow_key (T : TX K mg base)  {cdv : Value} {A : Around} {outer : List Env} {s : Shared} {H : Hp} {E : XK} (hr : Room 0 (A.deeper (envOfC "Frame.flow_key" (defScope s_Frame_flow_key) s.heap.objs.size (He.ma K (He.ga K "Frame") "flow_key") cdv))) :
    PSs (cxOf (L2.CX P w) P w K mg base N_Frame_flow_key "Frame.flow_key" (defScope s_Frame_flow_key) (He.ma K (He.ga K "Frame") "flow_key") cdv A outer s H E) (defBody s_Frame_flow_key) (t_Frame_flow_key K E) := by
  have tk : Takes (cxOf (L2.CX P w) P w K mg base N_Frame_flow_key "Frame.flow_key" (defScope s_Frame_flow_key) (He.ma K (He.ga K "Frame") "flow_key") cdv A outer s H E) (wB E) := takes_of rfl rfl rfl rfl
  exact (pss_one (ps_ret (pe_tup (pa_cons (pe_fld (pv 0) rfl) (pa_cons (pe_fld (pv 0) rfl) (pa_cons (pe_fld (pv 0) rfl) pa_nil))))))

theorem d_Frame_with_mark (T : TX K mg base) (h_Frame_init_k0 : HasK P w K mg base 1 "Frame" 4 ["birth", "hops", "marked"] P_Frame_init gv_Frame_init_k0 (sp_Frame_init K)) {cdv : Value} {A : Around} {outer : List Env} {s : Shared} {H : Hp} {E : XK} (hr : Room 2 (A.deeper (envOfC "Frame.with_mark" (defScope s_Frame_with_mark) s.heap.objs.size (He.ma K (He.ga K "Frame") "with_mark") cdv))) :
    PSs (cxOf (L2.CX P w) P w K mg base N_Frame_with_mark "Frame.with_mark" (defScope s_Frame_with_mark) (He.ma K (He.ga K "Frame") "with_mark") cdv A outer s H E) (defBody s_Frame_with_mark) (t_Frame_with_mark K E) := by
  have tk : Takes (cxOf (L2.CX P w) P w K mg base N_Frame_with_mark "Frame.with_mark" (defScope s_Frame_with_mark) (He.ma K (He.ga K "Frame") "with_mark") cdv A outer s H E) (wB E) := takes_of rfl rfl rfl rfl
  exact (pss_one (ps_ret (pe_mkK h_Frame_init_k0 (hr.mono (by decide)) rfl (fun σ => passAt tk σ) (pa_cons (pe_fld (pv 0) rfl) (pa_cons (pe_fld (pv 0) rfl) (pa_cons (pe_fld (pv 0) rfl) (pa_cons (pe_fld (pv 0) rfl) pa_nil)))) (pk_cons (pe_fld (pv 0) rfl) (pk_cons (pe_fld (pv 0) rfl) (pk_cons pe_bl pk_nil))))))

theorem d_Frame_after_hop (T : TX K mg base) (h_Frame_init_k0 : HasK P w K mg base 1 "Frame" 4 ["birth", "hops", "marked"] P_Frame_init gv_Frame_init_k0 (sp_Frame_init K)) {cdv : Value} {A : Around} {outer : List Env} {s : Shared} {H : Hp} {E : XK} (hr : Room 2 (A.deeper (envOfC "Frame.after_hop" (defScope s_Frame_after_hop) s.heap.objs.size (He.ma K (He.ga K "Frame") "after_hop") cdv))) :
    PSs (cxOf (L2.CX P w) P w K mg base N_Frame_after_hop "Frame.after_hop" (defScope s_Frame_after_hop) (He.ma K (He.ga K "Frame") "after_hop") cdv A outer s H E) (defBody s_Frame_after_hop) (t_Frame_after_hop K E) := by
  have tk : Takes (cxOf (L2.CX P w) P w K mg base N_Frame_after_hop "Frame.after_hop" (defScope s_Frame_after_hop) (He.ma K (He.ga K "Frame") "after_hop") cdv A outer s H E) (wB E) := takes_of rfl rfl rfl rfl
  exact (pss_one (ps_ret (pe_mkK h_Frame_init_k0 (hr.mono (by decide)) rfl (fun σ => passAt tk σ) (pa_cons (pe_fld (pv 0) rfl) (pa_cons (pe_fld (pv 0) rfl) (pa_cons (pe_fld (pv 0) rfl) (pa_cons (pv 1) pa_nil)))) (pk_cons (pe_fld (pv 0) rfl) (pk_cons (pe_op op_sub (pe_fld (pv 0) rfl) pe_int) (pk_cons (pe_fld (pv 0) rfl) pk_nil))))))

theorem d_law_cell (T : TX K mg base)  {cdv : Value} {A : Around} {outer : List Env} {s : Shared} {H : Hp} {E : XK} (hr : Room 0 (A.deeper (envOfC "_law_cell" (defScope s_law_cell) s.heap.objs.size (He.ga K "_law_cell") cdv))) :
    PSs (cxOf (L2.CX P w) P w K mg base N_law_cell "_law_cell" (defScope s_law_cell) (He.ga K "_law_cell") cdv A outer s H E) (defBody s_law_cell) (t_law_cell K E) := by
  have tk : Takes (cxOf (L2.CX P w) P w K mg base N_law_cell "_law_cell" (defScope s_law_cell) (He.ga K "_law_cell") cdv A outer s H E) (wB E) := takes_of rfl rfl rfl rfl
  exact (pss_cons (ps_if (pt_cmpR op_lt (pv 1) (pe_callB call_len (by rfl) (T.free 5) PySem.boot_len (pa_cons (pv 0) pa_nil)) (nomark _))
  (pss_one (ps_ret (pe_ix ix_list (pv 0) (pv 1) (fun _ _ => rfl))))
  pss_nil)
  (pss_one (ps_ret pe_int)))

theorem d_law_start (T : TX K mg base)  {cdv : Value} {A : Around} {outer : List Env} {s : Shared} {H : Hp} {E : XK} (hr : Room 0 (A.deeper (envOfC "_law_start" (defScope s_law_start) s.heap.objs.size (He.ga K "_law_start") cdv))) :
    PSs (cxOf (L2.CX P w) P w K mg base N_law_start "_law_start" (defScope s_law_start) (He.ga K "_law_start") cdv A outer s H E) (defBody s_law_start) (t_law_start K E) := by
  have tk : Takes (cxOf (L2.CX P w) P w K mg base N_law_start "_law_start" (defScope s_law_start) (He.ga K "_law_start") cdv A outer s H E) (wB E) := takes_of rfl rfl rfl rfl
  have po : PassesOwn (model P w) (cxOf (L2.CX P w) P w K mg base N_law_start "_law_start" (defScope s_law_start) (He.ga K "_law_start") cdv A outer s H E).A (cxOf (L2.CX P w) P w K mg base N_law_start "_law_start" (defScope s_law_start) (He.ga K "_law_start") cdv A outer s H E).env (cxOf (L2.CX P w) P w K mg base N_law_start "_law_start" (defScope s_law_start) (He.ga K "_law_start") cdv A outer s H E).xe := passes_of rfl
  exact (pss_cons (ps_set (i := 2) sc_law_start.nd rfl (Or.inl rfl) pe_int)
  (pss_cons (ps_if (pt_chain op_lt op_lt (pe_un un_neg pe_int) (pv 0) pe_int)
  (pss_cons (ps_set (i := 3) sc_law_start.nd rfl (Or.inl rfl) (pe_op op_mod (pe_callTy call_int1 (by rfl) (T.free 17) (by decide +kernel) (pa_cons (pe_op op_add (pe_op op_mul (pv 0) pe_int) (pe_op op_mul (pe_op op_add (pv 1) pe_int) pe_int)) pa_nil)) (pv 2)))
  (pss_cons (ps_set (i := 4) sc_law_start.nd rfl (Or.inl rfl) pe_int)
  (pss_cons (ps_for po rfl (pi_range1 rfl (T.free 7) (pa_cons pe_int pa_nil)) (pg_name (i := 5) sc_law_start.nd rfl (Or.inl rfl))
  (pss_cons (ps_set (i := 3) sc_law_start.nd rfl (Or.inl rfl) (pe_op op_mod (pe_callTy call_int1 (by rfl) (T.free 17) (by decide +kernel) (pa_cons (pe_op op_add (pe_op op_add (pe_op op_add (pe_op op_mulW (pv 3) (pv 3)) (pe_op op_mul pe_int (pv 3))) (pv 1)) (pv 5)) pa_nil)) (pv 2)))
  (pss_one (ps_set (i := 4) sc_law_start.nd rfl (Or.inl rfl) (pe_op op_add (pe_op op_mulW (pv 4) (pv 2)) (pv 3))))))
  (pss_one (ps_ret (pe_lst (pa_cons (pv 4) pa_nil)))))))
  pss_nil)
  (pss_one (ps_ret (pe_lst (pa_cons (pv 0) pa_nil))))))

theorem d_law_digit (T : TX K mg base)  {cdv : Value} {A : Around} {outer : List Env} {s : Shared} {H : Hp} {E : XK} (hr : Room 0 (A.deeper (envOfC "_law_digit" (defScope s_law_digit) s.heap.objs.size (He.ga K "_law_digit") cdv))) :
    PSs (cxOf (L2.CX P w) P w K mg base N_law_digit "_law_digit" (defScope s_law_digit) (He.ga K "_law_digit") cdv A outer s H E) (defBody s_law_digit) (t_law_digit K E) := by
  have tk : Takes (cxOf (L2.CX P w) P w K mg base N_law_digit "_law_digit" (defScope s_law_digit) (He.ga K "_law_digit") cdv A outer s H E) (wB E) := takes_of rfl rfl rfl rfl
  exact (pss_cons (ps_set (i := 2) sc_law_digit.nd rfl (Or.inl rfl) (pe_op op_mod (pe_callTy call_int1 (by rfl) (T.free 17) (by decide +kernel) (pa_cons (pe_ix ix_list (pv 0) pe_int (fun _ _ => rfl)) pa_nil)) (pv 1)))
  (pss_cons (ps_asg (pe_op op_fdivW (pe_ix ix_list (pv 0) pe_int (fun _ _ => rfl)) (pv 1)) (pg_sub (pv 0) pe_int set_list))
  (pss_one (ps_ret (pv 2)))))

theorem d_law_frame (T : TX K mg base) (h_law_digit : Has P w K mg base 1 "_law_digit" P_law_digit (sp_law_digit K)) (h_Frame_init_k1 : HasK P w K mg base 1 "Frame" 4 ["birth", "hops"] P_Frame_init gv_Frame_init_k1 (sp_Frame_init K)) {cdv : Value} {A : Around} {outer : List Env} {s : Shared} {H : Hp} {E : XK} (hr : Room 2 (A.deeper (envOfC "_law_frame" (defScope s_law_frame) s.heap.objs.size (He.ga K "_law_frame") cdv))) :
    PSs (cxOf (L2.CX P w) P w K mg base N_law_frame "_law_frame" (defScope s_law_frame) (He.ga K "_law_frame") cdv A outer s H E) (defBody s_law_frame) (t_law_frame K E) := by
  have tk : Takes (cxOf (L2.CX P w) P w K mg base N_law_frame "_law_frame" (defScope s_law_frame) (He.ga K "_law_frame") cdv A outer s H E) (wB E) := takes_of rfl rfl rfl rfl
  exact (pss_cons (ps_set (i := 3) sc_law_frame.nd rfl (Or.inl rfl) (pe_op op_cat (pe_lst (pa_cons (pe_op op_mod (pe_op op_fdiv (pv 0) pe_int) pe_int) (pa_cons (pe_op op_mod (pv 0) pe_int) pa_nil))) (pe_lc (own := [("k", 4)]) (g := (gName 4)) (tt := tYes) rfl sc_law_frame.nd (pi_range1 rfl (T.free 7) (pa_cons (pe_h h_law_digit (hr.mono (by decide)) rfl (fun σ => passAt tk σ) (pa_cons (pv 1) (pa_cons pe_int pa_nil))) pa_nil)) (blkOk_by (own := [("k", 4)]) (N := N_law_frame) (sc := defScope s_law_frame) (by decide +kernel)) (fun _ _ _ _ _ => (pg_name (i := 4) sc_law_frame.nd rfl (Or.inl rfl))) (fun _ _ _ _ _ => pts_nil) (fun _ _ _ _ _ => pe_int))))
  (pss_cons (ps_set (i := 5) sc_law_frame.nd rfl (Or.inl rfl) (pe_ix ix_tup (pe_tup (pa_cons (pe_tup (pa_cons pe_str (pa_cons pe_int (pa_cons pe_int pa_nil)))) (pa_cons (pe_tup (pa_cons pe_str (pa_cons pe_int (pa_cons pe_int pa_nil)))) (pa_cons (pe_tup (pa_cons pe_str (pa_cons pe_int (pa_cons pe_int pa_nil)))) (pa_cons (pe_tup (pa_cons pe_str (pa_cons pe_int (pa_cons pe_int pa_nil)))) pa_nil))))) (pe_h h_law_digit (hr.mono (by decide)) rfl (fun σ => passAt tk σ) (pa_cons (pv 1) (pa_cons pe_int pa_nil))) (fun _ _ => rfl)))
  (pss_one (ps_ret (pe_mkK h_Frame_init_k1 (hr.mono (by decide)) rfl (fun σ => passAt tk σ) (pa_cons (pe_ix ix_tup (pv 5) pe_int (fun _ _ => rfl)) (pa_cons (pe_ix ix_tup (pv 5) pe_int (fun _ _ => rfl)) (pa_cons (pe_ix ix_tup (pv 5) pe_int (fun _ _ => rfl)) (pa_cons (pv 3) pa_nil)))) (pk_cons (pv 2) (pk_cons (pe_h h_law_digit (hr.mono (by decide)) rfl (fun σ => passAt tk σ) (pa_cons (pv 1) (pa_cons pe_int pa_nil))) pk_nil)))))))

theorem d_law_values (T : TX K mg base)  {cdv : Value} {A : Around} {outer : List Env} {s : Shared} {H : Hp} {E : XK} (hr : Room 0 (A.deeper (envOfC "_law_values" (defScope s_law_values) s.heap.objs.size (He.ga K "_law_values") cdv))) :
    PSs (cxOf (L2.CX P w) P w K mg base N_law_values "_law_values" (defScope s_law_values) (He.ga K "_law_values") cdv A outer s H E) (defBody s_law_values) (t_law_values K E) := by
  have tk : Takes (cxOf (L2.CX P w) P w K mg base N_law_values "_law_values" (defScope s_law_values) (He.ga K "_law_values") cdv A outer s H E) (wB E) := takes_of rfl rfl rfl rfl
  exact (pss_one (ps_ret (pe_tup (pa_cons (pe_fld (pv 0) rfl) (pa_cons (pe_fld (pv 0) rfl) (pa_cons (pe_fld (pv 0) rfl) (pa_cons (pe_callTy call_list_of (by rfl) (T.free 4) (by decide +kernel) (pa_cons (pe_fld (pv 0) rfl) pa_nil)) (pa_cons (pe_fld (pv 0) rfl) (pa_cons (pe_fld (pv 0) rfl) (pa_cons (pe_fld (pv 0) rfl) pa_nil))))))))))

theorem d_law_row (T : TX K mg base) (h_law_values : Has P w K mg base 1 "_law_values" P_law_values (sp_law_values K)) {cdv : Value} {A : Around} {outer : List Env} {s : Shared} {H : Hp} {E : XK} (hr : Room 1 (A.deeper (envOfC "_law_row" (defScope s_law_row) s.heap.objs.size (He.ga K "_law_row") cdv))) :
    PSs (cxOf (L2.CX P w) P w K mg base N_law_row "_law_row" (defScope s_law_row) (He.ga K "_law_row") cdv A outer s H E) (defBody s_law_row) (t_law_row K E) := by
  have tk : Takes (cxOf (L2.CX P w) P w K mg base N_law_row "_law_row" (defScope s_law_row) (He.ga K "_law_row") cdv A outer s H E) (wB E) := takes_of rfl rfl rfl rfl
  exact (pss_one (ps_ret (pe_lc (own := [("frame", 1)]) (g := (gName 1)) (tt := tYes) rfl sc_law_row.nd (pi_list (pv 0)) (blkOk_by (own := [("frame", 1)]) (N := N_law_row) (sc := defScope s_law_row) (by decide +kernel)) (fun _ _ _ _ _ => (pg_name (i := 1) sc_law_row.nd rfl (Or.inl rfl))) (fun _ _ _ _ _ => pts_nil) (fun _ _ _ _ _ => (pe_h h_law_values (hr.mono (by decide)) rfl (fun σ => passZ σ) (pa_cons (pv 1) pa_nil))))))

theorem d_law_frames_are_so (T : TX K mg base) (h_law_values : Has P w K mg base 1 "_law_values" P_law_values (sp_law_values K)) (h_Frame_as_row : HasM P w K mg base 1 "Frame" "as_row" P_Frame_as_row (sp_Frame_as_row K)) (h_Frame_weight : HasM P w K mg base 1 "Frame" "weight" P_Frame_weight (sp_Frame_weight K)) (h_Frame_flow_key : HasM P w K mg base 1 "Frame" "flow_key" P_Frame_flow_key (sp_Frame_flow_key K)) (h_Frame_with_mark : HasM P w K mg base 3 "Frame" "with_mark" P_Frame_with_mark (sp_Frame_with_mark K)) (h_Frame_after_hop : HasM P w K mg base 3 "Frame" "after_hop" P_Frame_after_hop (sp_Frame_after_hop K)) (h_Frame__eq : HasM P w K mg base 1 "Frame" "__eq__" P_Frame__eq (sp_Frame__eq K)) {cdv : Value} {A : Around} {outer : List Env} {s : Shared} {H : Hp} {E : XK} (hr : Room 3 (A.deeper (envOfC "_law_frames_are_so" (defScope s_law_frames_are_so) s.heap.objs.size (He.ga K "_law_frames_are_so") cdv))) :
    PSs (cxOf (L2.CX P w) P w K mg base N_law_frames_are_so "_law_frames_are_so" (defScope s_law_frames_are_so) (He.ga K "_law_frames_are_so") cdv A outer s H E) (defBody s_law_frames_are_so) (t_law_frames_are_so K E) := by
  have tk : Takes (cxOf (L2.CX P w) P w K mg base N_law_frames_are_so "_law_frames_are_so" (defScope s_law_frames_are_so) (He.ga K "_law_frames_are_so") cdv A outer s H E) (wB E) := takes_of rfl rfl rfl rfl
  exact (pss_cons (ps_set (i := 2) sc_law_frames_are_so.nd rfl (Or.inl rfl) (pe_h h_law_values (hr.mono (by decide)) rfl (fun σ => passAt tk σ) (pa_cons (pv 0) pa_nil)))
  (pss_cons (ps_if (PW.pt (pw_or (pt_cmpR (op_neD hr.units) (pe_m0 (pv 0) h_Frame_as_row (hr.mono (by decide)) (fun σ => passAt tk σ)) (pv 2) (nomark _)) (pw_or (pt_cmpR op_ne (pe_m0 (pv 0) h_Frame_weight (hr.mono (by decide)) (fun σ => passAt tk σ)) (pe_op op_add pe_int (pe_callB call_len (by rfl) (T.free 5) PySem.boot_len (pa_cons (pe_ix ix_tup (pv 2) pe_int (fun _ _ => rfl)) pa_nil))) (nomark _)) (pw_or1 (pt_cmpR (op_neD hr.units) (pe_m0 (pv 0) h_Frame_flow_key (hr.mono (by decide)) (fun σ => passAt tk σ)) (pe_slice sl_tup (pv 2) po_none (po_some pe_int)) (nomark _))))))
  (pss_one (ps_ret pe_bl))
  pss_nil)
  (pss_cons (ps_if (PW.pt (pw_or (pt_cmpR (op_neD hr.units) (pe_h h_law_values (hr.mono (by decide)) rfl (fun σ => passAt tk σ) (pa_cons (pe_m0 (pv 0) h_Frame_with_mark (hr.mono (by decide)) (fun σ => passAt tk σ)) pa_nil)) (pe_op op_catT (pe_slice sl_tup (pv 2) po_none (po_some pe_int)) (pe_tup (pa_cons pe_bl pa_nil))) (nomark _)) (pw_or1 (pt_cmpR (op_neD hr.units) (pe_h h_law_values (hr.mono (by decide)) rfl (fun σ => passAt tk σ) (pa_cons (pv 0) pa_nil)) (pv 2) (nomark _)))))
  (pss_one (ps_ret pe_bl))
  pss_nil)
  (pss_cons (ps_set (i := 3) sc_law_frames_are_so.nd rfl (Or.inl rfl) (pe_h h_law_values (hr.mono (by decide)) rfl (fun σ => passAt tk σ) (pa_cons (pe_m (pv 0) h_Frame_after_hop (hr.mono (by decide)) (fun σ => passAt tk σ) (pa_cons (pe_lst (pa_cons pe_int (pa_cons pe_int pa_nil))) pa_nil)) pa_nil)))
  (pss_cons (ps_if (pt_cmpR (op_neD hr.units) (pv 3) (pe_tup (pa_cons (pe_ix ix_tup (pv 2) pe_int (fun _ _ => rfl)) (pa_cons (pe_ix ix_tup (pv 2) pe_int (fun _ _ => rfl)) (pa_cons (pe_ix ix_tup (pv 2) pe_int (fun _ _ => rfl)) (pa_cons (pe_lst (pa_cons pe_int (pa_cons pe_int pa_nil))) (pa_cons (pe_ix ix_tup (pv 2) pe_int (fun _ _ => rfl)) (pa_cons (pe_op op_sub (pe_ix ix_tup (pv 2) pe_int (fun _ _ => rfl)) pe_int) (pa_cons (pe_ix ix_tup (pv 2) pe_int (fun _ _ => rfl)) pa_nil)))))))) (nomark _))
  (pss_one (ps_ret pe_bl))
  pss_nil)
  (pss_one (ps_ret (pe_and (pe_cmpR op_eq (pe_cmpR (op_own h_Frame__eq (hr.mono (by decide))) (pv 0) (pe_m0 (pv 0) h_Frame_with_mark (hr.mono (by decide)) (fun σ => passAt tk σ)) (nomark _)) (pe_fld (pv 0) rfl) (nomark _)) (pe_one (pe_cmpR op_is_bl (pe_cmpR (op_own h_Frame__eq (hr.mono (by decide))) (pv 0) (pv 2) (nomark _)) pe_bl (nomark _)))))))))))

theorem d_law_put (T : TX K mg base) (h_law_values : Has P w K mg base 1 "_law_values" P_law_values (sp_law_values K)) (h_FairQueue_octets : HasM P w K mg base 1 "FairQueue" "octets" P_FairQueue_octets (sp_FairQueue_octets K)) (h_Frame_with_mark : HasM P w K mg base 3 "Frame" "with_mark" P_Frame_with_mark (sp_Frame_with_mark K)) (h_law_row : Has P w K mg base 2 "_law_row" P_law_row (sp_law_row K)) (h_FairQueue_put : HasM P w K mg base 3 "FairQueue" "put" P_FairQueue_put (sp_FairQueue_put K)) (h_Frame_weight : HasM P w K mg base 1 "Frame" "weight" P_Frame_weight (sp_Frame_weight K)) (h_Frame_flow_key : HasM P w K mg base 1 "Frame" "flow_key" P_Frame_flow_key (sp_Frame_flow_key K)) (h_Line_put : HasM P w K mg base 4 "Line" "put" P_Line_put (sp_Line_put K)) {cdv : Value} {A : Around} {outer : List Env} {s : Shared} {H : Hp} {E : XK} (hr : Room 4 (A.deeper (envOfC "_law_put" (defScope s_law_put) s.heap.objs.size (He.ga K "_law_put") cdv))) :
    PSs (cxOf (L2.CX P w) P w K mg base N_law_put "_law_put" (defScope s_law_put) (He.ga K "_law_put") cdv A outer s H E) (defBody s_law_put) (t_law_put K E) := by
  have tk : Takes (cxOf (L2.CX P w) P w K mg base N_law_put "_law_put" (defScope s_law_put) (He.ga K "_law_put") cdv A outer s H E) (wB E) := takes_of rfl rfl rfl rfl
  exact (pss_cons (ps_asg (pv 1) (pg_tup rfl (pgs_cons (pg_name (i := 3) sc_law_put.nd rfl (Or.inl rfl)) (pgs_cons (pg_name (i := 4) sc_law_put.nd rfl (Or.inl rfl)) (pgs_cons (pg_name (i := 5) sc_law_put.nd rfl (Or.inl rfl)) (pgs_cons (pg_name (i := 6) sc_law_put.nd rfl (Or.inl rfl)) pgs_nil))))))
  (pss_cons (ps_if (pt_not (pt_val (pv 6)))
  (pss_one (ps_set (i := 7) sc_law_put.nd rfl (Or.inl rfl) (pe_lst (pa_cons (pe_h h_law_values (hr.mono (by decide)) rfl (fun σ => passAt tk σ) (pa_cons (pv 2) pa_nil)) pa_nil))))
  (pss_cons (ps_set (i := 8) sc_law_put.nd rfl (Or.inl rfl) (pv 2))
  (Evl.pss_cut (ps_if (pt_cmpR op_gt (pe_op op_mul pe_int (pe_m0 (pv 3) h_FairQueue_octets (hr.mono (by decide)) (fun σ => passAt tk σ))) (pe_fld (pe_fld (pv 0) rfl) rfl) (nomark _))
  (pss_one (ps_set (i := 8) sc_law_put.nd rfl (Or.inl rfl) (pe_m0 (pv 2) h_Frame_with_mark (hr.mono (by decide)) (fun σ => passAt tk σ))))
  pss_nil)
  (pss_one (ps_set (i := 7) sc_law_put.nd rfl (Or.inl rfl) (pe_h h_law_row (hr.mono (by decide)) rfl (fun σ => passAt tk σ) (pa_cons (pe_lc (own := [("waiting", 9)]) (g := (gName 9)) (tt := tYes) rfl sc_law_put.nd (pi_list (pe_m (pv 3) h_FairQueue_put (hr.mono (by decide)) (fun σ => passAt tk σ) (pa_cons (pe_m0 (pv 2) h_Frame_flow_key (hr.mono (by decide)) (fun σ => passAt tk σ)) (pa_cons (pv 8) (pa_cons (pe_m0 (pv 2) h_Frame_weight (hr.mono (by decide)) (fun σ => passAt tk σ)) pa_nil))))) (blkOk_by (own := [("waiting", 9)]) (N := N_law_put) (sc := defScope s_law_put) (by decide +kernel)) (fun _ _ _ _ _ => (pg_name (i := 9) sc_law_put.nd rfl (Or.inl rfl))) (fun _ _ _ _ _ => pts_nil) (fun _ _ _ _ _ => (pe_fld (pv 9) rfl))) pa_nil)))))))
  (pss_cons (ps_if (pt_cmpR (op_neD hr.units) (pe_h h_law_row (hr.mono (by decide)) rfl (fun σ => passAt tk σ) (pa_cons (pe_m (pv 0) h_Line_put (hr.mono (by decide)) (fun σ => passAt tk σ) (pa_cons (pv 2) pa_nil)) pa_nil)) (pv 7) (nomark _))
  (pss_one (ps_ret pe_non))
  pss_nil)
  (pss_one (ps_ret (pv 1))))))

theorem d_law_tick (T : TX K mg base) (h_Bucket_tick : HasM P w K mg base 1 "Bucket" "tick" P_Bucket_tick (sp_Bucket_tick K)) (h_FairQueue_next_up : HasM P w K mg base 2 "FairQueue" "next_up" P_FairQueue_next_up (sp_FairQueue_next_up K)) (h_Bucket_take : HasM P w K mg base 1 "Bucket" "take" P_Bucket_take (sp_Bucket_take K)) (h_FairQueue_take : HasM P w K mg base 3 "FairQueue" "take" P_FairQueue_take (sp_FairQueue_take K)) (h_law_row : Has P w K mg base 2 "_law_row" P_law_row (sp_law_row K)) (h_Line_tick : HasM P w K mg base 4 "Line" "tick" P_Line_tick (sp_Line_tick K)) {cdv : Value} {A : Around} {outer : List Env} {s : Shared} {H : Hp} {E : XK} (hr : Room 4 (A.deeper (envOfC "_law_tick" (defScope s_law_tick) s.heap.objs.size (He.ga K "_law_tick") cdv))) :
    PSs (cxOf (L2.CX P w) P w K mg base N_law_tick "_law_tick" (defScope s_law_tick) (He.ga K "_law_tick") cdv A outer s H E) (defBody s_law_tick) (t_law_tick K E) := by
  have tk : Takes (cxOf (L2.CX P w) P w K mg base N_law_tick "_law_tick" (defScope s_law_tick) (He.ga K "_law_tick") cdv A outer s H E) (wB E) := takes_of rfl rfl rfl rfl
  have po : PassesOwn (model P w) (cxOf (L2.CX P w) P w K mg base N_law_tick "_law_tick" (defScope s_law_tick) (He.ga K "_law_tick") cdv A outer s H E).A (cxOf (L2.CX P w) P w K mg base N_law_tick "_law_tick" (defScope s_law_tick) (He.ga K "_law_tick") cdv A outer s H E).env (cxOf (L2.CX P w) P w K mg base N_law_tick "_law_tick" (defScope s_law_tick) (He.ga K "_law_tick") cdv A outer s H E).xe := passes_of rfl
  exact (pss_cons (ps_asg (pv 1) (pg_tup rfl (pgs_cons (pg_name (i := 3) sc_law_tick.nd rfl (Or.inl rfl)) (pgs_cons (pg_name (i := 4) sc_law_tick.nd rfl (Or.inl rfl)) (pgs_cons (pg_name (i := 5) sc_law_tick.nd rfl (Or.inl rfl)) (pgs_cons (pg_name (i := 6) sc_law_tick.nd rfl (Or.inl rfl)) pgs_nil))))))
  (pss_cons (ps_expr (pe_m0 (pv 4) h_Bucket_tick (hr.mono (by decide)) (fun σ => passAt tk σ)))
  (pss_cons (ps_set (i := 5) sc_law_tick.nd rfl (Or.inl rfl) (pe_callTy call_list_of (by rfl) (T.free 4) (by decide +kernel) (pa_cons (pv 5) pa_nil)))
  (pss_cons (ps_set (i := 7) sc_law_tick.nd rfl (Or.inl rfl) (pe_m0 (pv 3) h_FairQueue_next_up (hr.mono (by decide)) (fun σ => passAt tk σ)))
  (Evl.pss_cut (ps_while po (PW.pt (pw_and (pt_cmpR op_notN1 (pv 7) pe_non (nomark _)) (pw_and1 (pt_val (pe_m (pv 4) h_Bucket_take (hr.mono (by decide)) (fun σ => passAt tk σ) (pa_cons (pe_fld (pv 7) rfl) pa_nil))))))
  (pss_cons (ps_expr (pe_m0 (pv 3) h_FairQueue_take (hr.mono (by decide)) (fun σ => passAt tk σ)))
  (pss_cons (ps_expr (pe_bm PySem.F.plainAttrs_list PySem.F.slot_list_append PySem.F.type_list_append mt_append (pv 5) (pa_cons (pe_tup (pa_cons (pe_op op_add (pv 2) (pe_fld (pe_fld (pv 0) rfl) rfl)) (pa_cons (pe_fld (pv 7) rfl) pa_nil))) pa_nil)))
  (pss_one (ps_set (i := 7) sc_law_tick.nd rfl (Or.inl rfl) (pe_m0 (pv 3) h_FairQueue_next_up (hr.mono (by decide)) (fun σ => passAt tk σ)))))))
  (pss_cons (ps_set (i := 8) sc_law_tick.nd rfl (Or.inl rfl) (pe_h h_law_row (hr.mono (by decide)) rfl (fun σ => passAt tk σ) (pa_cons (pe_lc (own := [("row", 9)]) (g := (gName 9)) (tt := (tTest (tOp gLe (tOp (rIxT K) (tVar 9) (tC (.int 0))) (tVar 2)))) rfl sc_law_tick.nd (pi_list (pv 5)) (blkOk_by (own := [("row", 9)]) (N := N_law_tick) (sc := defScope s_law_tick) (by decide +kernel)) (fun _ _ _ _ _ => (pg_name (i := 9) sc_law_tick.nd rfl (Or.inl rfl))) (fun _ _ _ _ _ => (pts_one (pt_cmpR op_le (pe_ix ix_tup (pv 9) pe_int (fun _ _ => rfl)) (pv 2) (nomark _)))) (fun _ _ _ _ _ => (pe_ix ix_tup (pv 9) pe_int (fun _ _ => rfl)))) pa_nil)))
  (pss_cons (ps_if (pt_cmpR (op_neD hr.units) (pe_h h_law_row (hr.mono (by decide)) rfl (fun σ => passAt tk σ) (pa_cons (pe_m (pv 0) h_Line_tick (hr.mono (by decide)) (fun σ => passAt tk σ) (pa_cons (pv 2) pa_nil)) pa_nil)) (pv 8) (nomark _))
  (pss_one (ps_ret pe_non))
  pss_nil)
  (pss_one (ps_ret (pe_tup (pa_cons (pv 3) (pa_cons (pv 4) (pa_cons (pe_lc (own := [("row", 9)]) (g := (gName 9)) (tt := (tTest (tOp gGt (tOp (rIxT K) (tVar 9) (tC (.int 0))) (tVar 2)))) rfl sc_law_tick.nd (pi_list (pv 5)) (blkOk_by (own := [("row", 9)]) (N := N_law_tick) (sc := defScope s_law_tick) (by decide +kernel)) (fun _ _ _ _ _ => (pg_name (i := 9) sc_law_tick.nd rfl (Or.inl rfl))) (fun _ _ _ _ _ => (pts_one (pt_cmpR op_gt (pe_ix ix_tup (pv 9) pe_int (fun _ _ => rfl)) (pv 2) (nomark _)))) (fun _ _ _ _ _ => (pv 9))) (pa_cons (pv 6) pa_nil))))))))))))))

theorem d_law_deed (T : TX K mg base) (h_law_digit : Has P w K mg base 1 "_law_digit" P_law_digit (sp_law_digit K)) (h_law_frame : Has P w K mg base 3 "_law_frame" P_law_frame (sp_law_frame K)) (h_law_frames_are_so : Has P w K mg base 4 "_law_frames_are_so" P_law_frames_are_so (sp_law_frames_are_so K)) (h_law_put : Has P w K mg base 5 "_law_put" P_law_put (sp_law_put K)) (h_law_tick : Has P w K mg base 5 "_law_tick" P_law_tick (sp_law_tick K)) (h_FairQueue_take_all : HasM P w K mg base 1 "FairQueue" "take_all" P_FairQueue_take_all (sp_FairQueue_take_all K)) (h_law_row : Has P w K mg base 2 "_law_row" P_law_row (sp_law_row K)) (h_Line_cut : HasM P w K mg base 2 "Line" "cut" P_Line_cut (sp_Line_cut K)) (h_Line_join : HasM P w K mg base 1 "Line" "join" P_Line_join (sp_Line_join K)) {cdv : Value} {A : Around} {outer : List Env} {s : Shared} {H : Hp} {E : XK} (hr : Room 5 (A.deeper (envOfC "_law_deed" (defScope s_law_deed) s.heap.objs.size (He.ga K "_law_deed") cdv))) :
    PSs (cxOf (L2.CX P w) P w K mg base N_law_deed "_law_deed" (defScope s_law_deed) (He.ga K "_law_deed") cdv A outer s H E) (defBody s_law_deed) (t_law_deed K E) := by
  have tk : Takes (cxOf (L2.CX P w) P w K mg base N_law_deed "_law_deed" (defScope s_law_deed) (He.ga K "_law_deed") cdv A outer s H E) (wB E) := takes_of rfl rfl rfl rfl
  exact (pss_cons (ps_set (i := 5) sc_law_deed.nd rfl (Or.inl rfl) (pe_h h_law_digit (hr.mono (by decide)) rfl (fun σ => passAt tk σ) (pa_cons (pv 4) (pa_cons pe_int pa_nil))))
  (pss_cons (ps_if (pt_cmpR op_lt (pv 5) pe_int (nomark _))
  (pss_cons (ps_set (i := 6) sc_law_deed.nd rfl (Or.inl rfl) (pe_h h_law_frame (hr.mono (by decide)) rfl (fun σ => passAt tk σ) (pa_cons (pv 2) (pa_cons (pv 4) (pa_cons (pe_ix ix_list (pv 3) pe_int (fun _ _ => rfl)) pa_nil)))))
  (pss_cons (ps_if (pt_not (pt_val (pe_h h_law_frames_are_so (hr.mono (by decide)) rfl (fun σ => passAt tk σ) (pa_cons (pv 6) (pa_cons (pe_fld (pv 0) rfl) pa_nil)))))
  (pss_one (ps_ret pe_non))
  pss_nil)
  (pss_one (ps_ret (pe_h h_law_put (hr.mono (by decide)) rfl (fun σ => passAt tk σ) (pa_cons (pv 0) (pa_cons (pv 1) (pa_cons (pv 6) pa_nil))))))))
  pss_nil)
  (pss_cons (ps_if (pt_cmpR op_lt (pv 5) pe_int (nomark _))
  (pss_cons (ps_asg (pe_op op_add (pe_ix ix_list (pv 3) pe_int (fun _ _ => rfl)) pe_int) (pg_sub (pv 3) pe_int set_list))
  (pss_one (ps_ret (pe_h h_law_tick (hr.mono (by decide)) rfl (fun σ => passAt tk σ) (pa_cons (pv 0) (pa_cons (pv 1) (pa_cons (pe_ix ix_list (pv 3) pe_int (fun _ _ => rfl)) pa_nil)))))))
  pss_nil)
  (pss_cons (ps_if (pt_cmpR op_eq (pv 5) pe_int (nomark _))
  (pss_cons (ps_set (i := 7) sc_law_deed.nd rfl (Or.inl rfl) (pe_op op_cat (pe_lc (own := [("waiting", 8)]) (g := (gName 8)) (tt := tYes) rfl sc_law_deed.nd (pi_list (pe_m0 (pe_ix ix_tup (pv 1) pe_int (fun _ _ => rfl)) h_FairQueue_take_all (hr.mono (by decide)) (fun σ => passAt tk σ))) (blkOk_by (own := [("waiting", 8)]) (N := N_law_deed) (sc := defScope s_law_deed) (by decide +kernel)) (fun _ _ _ _ _ => (pg_name (i := 8) sc_law_deed.nd rfl (Or.inl rfl))) (fun _ _ _ _ _ => pts_nil) (fun _ _ _ _ _ => (pe_fld (pv 8) rfl))) (pe_lc (own := [("row", 9)]) (g := (gName 9)) (tt := tYes) rfl sc_law_deed.nd (pi_list (pe_ix ix_tup (pv 1) pe_int (fun _ _ => rfl))) (blkOk_by (own := [("row", 9)]) (N := N_law_deed) (sc := defScope s_law_deed) (by decide +kernel)) (fun _ _ _ _ _ => (pg_name (i := 9) sc_law_deed.nd rfl (Or.inl rfl))) (fun _ _ _ _ _ => pts_nil) (fun _ _ _ _ _ => (pe_ix ix_tup (pv 9) pe_int (fun _ _ => rfl))))))
  (pss_cons (ps_if (pt_cmpR (op_neD hr.units) (pe_h h_law_row (hr.mono (by decide)) rfl (fun σ => passAt tk σ) (pa_cons (pe_m0 (pv 0) h_Line_cut (hr.mono (by decide)) (fun σ => passAt tk σ)) pa_nil)) (pe_h h_law_row (hr.mono (by decide)) rfl (fun σ => passAt tk σ) (pa_cons (pv 7) pa_nil)) (nomark _))
  (pss_one (ps_ret pe_non))
  pss_nil)
  (pss_one (ps_ret (pe_tup (pa_cons (pe_ix ix_tup (pv 1) pe_int (fun _ _ => rfl)) (pa_cons (pe_ix ix_tup (pv 1) pe_int (fun _ _ => rfl)) (pa_cons (pe_lst pa_nil) (pa_cons pe_bl pa_nil)))))))))
  pss_nil)
  (pss_cons (ps_if (pt_cmpR op_notN1 (pe_m0 (pv 0) h_Line_join (hr.mono (by decide)) (fun σ => passAt tk σ)) pe_non (nomark _))
  (pss_one (ps_ret pe_non))
  pss_nil)
  (pss_one (ps_ret (pe_tup (pa_cons (pe_ix ix_tup (pv 1) pe_int (fun _ _ => rfl)) (pa_cons (pe_ix ix_tup (pv 1) pe_int (fun _ _ => rfl)) (pa_cons (pe_ix ix_tup (pv 1) pe_int (fun _ _ => rfl)) (pa_cons pe_bl pa_nil))))))))))))

theorem d_law_agrees (T : TX K mg base) (h_Line_count : HasM P w K mg base 2 "Line" "count" P_Line_count (sp_Line_count K)) (h_FairQueue_count : HasM P w K mg base 1 "FairQueue" "count" P_FairQueue_count (sp_FairQueue_count K)) {cdv : Value} {A : Around} {outer : List Env} {s : Shared} {H : Hp} {E : XK} (hr : Room 2 (A.deeper (envOfC "_law_agrees" (defScope s_law_agrees) s.heap.objs.size (He.ga K "_law_agrees") cdv))) :
    PSs (cxOf (L2.CX P w) P w K mg base N_law_agrees "_law_agrees" (defScope s_law_agrees) (He.ga K "_law_agrees") cdv A outer s H E) (defBody s_law_agrees) (t_law_agrees K E) := by
  have tk : Takes (cxOf (L2.CX P w) P w K mg base N_law_agrees "_law_agrees" (defScope s_law_agrees) (He.ga K "_law_agrees") cdv A outer s H E) (wB E) := takes_of rfl rfl rfl rfl
  exact (pss_one (ps_ret (pe_and (pe_cmpR op_eq (pe_m0 (pv 0) h_Line_count (hr.mono (by decide)) (fun σ => passAt tk σ)) (pe_op op_add (pe_m0 (pe_ix ix_tup (pv 1) pe_int (fun _ _ => rfl)) h_FairQueue_count (hr.mono (by decide)) (fun σ => passAt tk σ)) (pe_callB call_len (by rfl) (T.free 5) PySem.boot_len (pa_cons (pe_ix ix_tup (pv 1) pe_int (fun _ _ => rfl)) pa_nil))) (nomark _)) (pe_one (pe_cmpR op_eq (pe_fld (pv 0) rfl) (pe_ix ix_tup (pv 1) pe_int (fun _ _ => rfl)) (nomark _))))))

theorem d_law (T : TX K mg base) (h_law_start : Has P w K mg base 1 "_law_start" P_law_start (sp_law_start K)) (h_law_cell : Has P w K mg base 1 "_law_cell" P_law_cell (sp_law_cell K)) (h_law_digit : Has P w K mg base 1 "_law_digit" P_law_digit (sp_law_digit K)) (h_LinkOptions_init_k2 : HasK P w K mg base 1 "LinkOptions" 0 ["cost", "size", "rate", "depth", "limit", "delay"] P_LinkOptions_init gv_LinkOptions_init_k2 (sp_LinkOptions_init K)) (h_Line_init : HasI P w K mg base 3 "Line" P_Line_init (sp_Line_init K)) (h_Bucket_init : HasI P w K mg base 1 "Bucket" P_Bucket_init (sp_Bucket_init K)) (h_FairQueue_init : HasI P w K mg base 1 "FairQueue" P_FairQueue_init (sp_FairQueue_init K)) (h_law_deed : Has P w K mg base 6 "_law_deed" P_law_deed (sp_law_deed K)) (h_law_agrees : Has P w K mg base 3 "_law_agrees" P_law_agrees (sp_law_agrees K)) (h_Line_fork : HasM P w K mg base 5 "Line" "fork" P_Line_fork (sp_Line_fork K)) (h_Bucket_fork : HasM P w K mg base 3 "Bucket" "fork" P_Bucket_fork (sp_Bucket_fork K)) (h_FairQueue_fork : HasM P w K mg base 4 "FairQueue" "fork" P_FairQueue_fork (sp_FairQueue_fork K)) {cdv : Value} {A : Around} {outer : List Env} {s : Shared} {H : Hp} {E : XK} (hr : Room 6 (A.deeper (envOfC "law" (defScope s_law) s.heap.objs.size (He.ga K "law") cdv))) :
    PSs (cxOf (L2.CX P w) P w K mg base N_law "law" (defScope s_law) (He.ga K "law") cdv A outer s H E) (defBody s_law) (t_law K E) := by
  have tk : Takes (cxOf (L2.CX P w) P w K mg base N_law "law" (defScope s_law) (He.ga K "law") cdv A outer s H E) (wB E) := takes_of rfl rfl rfl rfl
  have po : PassesOwn (model P w) (cxOf (L2.CX P w) P w K mg base N_law "law" (defScope s_law) (He.ga K "law") cdv A outer s H E).A (cxOf (L2.CX P w) P w K mg base N_law "law" (defScope s_law) (He.ga K "law") cdv A outer s H E).env (cxOf (L2.CX P w) P w K mg base N_law "law" (defScope s_law) (He.ga K "law") cdv A outer s H E).xe := passes_of rfl
  exact (pss_cons (ps_set (i := 1) sc_law.nd rfl (Or.inl rfl) (pe_h h_law_start (hr.mono (by decide)) rfl (fun σ => passAt tk σ) (pa_cons (pe_h h_law_cell (hr.mono (by decide)) rfl (fun σ => passAt tk σ) (pa_cons (pv 0) (pa_cons pe_int pa_nil))) (pa_cons pe_int pa_nil))))
  (pss_cons (ps_set (i := 2) sc_law.nd rfl (Or.inl rfl) (pe_op op_add pe_int (pe_h h_law_digit (hr.mono (by decide)) rfl (fun σ => passAt tk σ) (pa_cons (pv 1) (pa_cons pe_int pa_nil)))))
  (pss_cons (ps_set (i := 3) sc_law.nd rfl (Or.inl rfl) (pe_op op_add (pe_op op_add (pv 2) pe_int) (pe_h h_law_digit (hr.mono (by decide)) rfl (fun σ => passAt tk σ) (pa_cons (pv 1) (pa_cons pe_int pa_nil)))))
  (pss_cons (ps_set (i := 4) sc_law.nd rfl (Or.inl rfl) (pe_op op_add (pv 3) (pe_h h_law_digit (hr.mono (by decide)) rfl (fun σ => passAt tk σ) (pa_cons (pv 1) (pa_cons pe_int pa_nil)))))
  (pss_cons (ps_set (i := 5) sc_law.nd rfl (Or.inl rfl) (pe_mkK0 h_LinkOptions_init_k2 (hr.mono (by decide)) rfl (fun σ => passAt tk σ) (pk_cons pe_int (pk_cons (pv 2) (pk_cons (pe_op op_add pe_int (pe_h h_law_digit (hr.mono (by decide)) rfl (fun σ => passAt tk σ) (pa_cons (pv 1) (pa_cons pe_int pa_nil)))) (pk_cons (pv 3) (pk_cons (pv 4) (pk_cons (pe_op op_add pe_int (pe_h h_law_digit (hr.mono (by decide)) rfl (fun σ => passAt tk σ) (pa_cons (pv 1) (pa_cons pe_int pa_nil)))) pk_nil))))))))
  (pss_cons (ps_set (i := 6) sc_law.nd rfl (Or.inl rfl) (pe_i h_Line_init (hr.mono (by decide)) rfl (fun σ => passAt tk σ) (pa_cons (pv 5) pa_nil)))
  (pss_cons (ps_set (i := 7) sc_law.nd rfl (Or.inl rfl) (pe_tup (pa_cons (pe_i h_FairQueue_init (hr.mono (by decide)) rfl (fun σ => passAt tk σ) (pa_cons (pv 4) (pa_cons (pv 2) pa_nil))) (pa_cons (pe_i h_Bucket_init (hr.mono (by decide)) rfl (fun σ => passAt tk σ) (pa_cons (pe_fld (pv 5) rfl) (pa_cons (pv 3) pa_nil))) (pa_cons (pe_lst pa_nil) (pa_cons pe_bl pa_nil))))))
  (pss_cons (ps_set (i := 8) sc_law.nd rfl (Or.inl rfl) (pe_lst (pa_cons pe_int pa_nil)))
  (pss_cons (ps_set (i := 9) sc_law.nd rfl (Or.inl rfl) pe_non)
  (pss_cons (ps_set (i := 10) sc_law.nd rfl (Or.inl rfl) pe_non)
  (pss_cons (ps_set (i := 11) sc_law.nd rfl (Or.inl rfl) (pe_lst (pa_cons pe_int pa_nil)))
  (pss_cons (ps_for po rfl (pi_range1 rfl (T.free 7) (pa_cons (pe_callB (call_min2 rfl) (by rfl) (T.free 3) (by decide +kernel) (pa_cons pe_int (pa_cons (pe_op op_add pe_int (pe_callB call_len (by rfl) (T.free 5) PySem.boot_len (pa_cons (pv 0) pa_nil))) pa_nil))) pa_nil)) (pg_name (i := 12) sc_law.nd rfl (Or.inl rfl))
  (pss_cons (ps_set (i := 1) sc_law.nd rfl (Or.inl rfl) (pe_h h_law_start (hr.mono (by decide)) rfl (fun σ => passAt tk σ) (pa_cons (pe_h h_law_cell (hr.mono (by decide)) rfl (fun σ => passAt tk σ) (pa_cons (pv 0) (pa_cons (pv 12) pa_nil))) (pa_cons (pe_op op_add (pv 12) pe_int) pa_nil))))
  (pss_cons (ps_set (i := 7) sc_law.nd rfl (Or.inl rfl) (pe_h h_law_deed (hr.mono (by decide)) rfl (fun σ => passAt tk σ) (pa_cons (pv 6) (pa_cons (pv 7) (pa_cons (pv 12) (pa_cons (pv 8) (pa_cons (pv 1) pa_nil)))))))
  (pss_cons (ps_if (PW.pt (pw_or (pt_cmpR op_isN1 (pv 7) pe_non (nomark _)) (pw_or1 (pt_not (pt_val (pe_h h_law_agrees (hr.mono (by decide)) rfl (fun σ => passAt tk σ) (pa_cons (pv 6) (pa_cons (pv 7) pa_nil))))))))
  (pss_one (ps_ret pe_bl))
  pss_nil)
  (pss_one (ps_if (pt_cmpR op_eq (pe_op op_mod (pv 12) pe_int) pe_int (nomark _))
  (pss_cons (ps_set (i := 9) sc_law.nd rfl (Or.inl rfl) (pe_m0 (pv 6) h_Line_fork (hr.mono (by decide)) (fun σ => passAt tk σ)))
  (pss_cons (ps_set (i := 10) sc_law.nd rfl (Or.inl rfl) (pe_tup (pa_cons (pe_m0 (pe_ix ix_tup (pv 7) pe_int (fun _ _ => rfl)) h_FairQueue_fork (hr.mono (by decide)) (fun σ => passAt tk σ)) (pa_cons (pe_m0 (pe_ix ix_tup (pv 7) pe_int (fun _ _ => rfl)) h_Bucket_fork (hr.mono (by decide)) (fun σ => passAt tk σ)) (pa_cons (pe_callTy call_list_of (by rfl) (T.free 4) (by decide +kernel) (pa_cons (pe_ix ix_tup (pv 7) pe_int (fun _ _ => rfl)) pa_nil)) (pa_cons (pe_ix ix_tup (pv 7) pe_int (fun _ _ => rfl)) pa_nil))))))
  (pss_one (ps_set (i := 11) sc_law.nd rfl (Or.inl rfl) (pe_lst (pa_cons (pe_ix ix_list (pv 8) pe_int (fun _ _ => rfl)) pa_nil))))))
  (pss_one (ps_if (pt_cmpR op_notN1 (pv 9) pe_non (nomark _))
  (pss_cons (ps_set (i := 10) sc_law.nd rfl (Or.inl rfl) (pe_h h_law_deed (hr.mono (by decide)) rfl (fun σ => passAt tk σ) (pa_cons (pv 9) (pa_cons (pv 10) (pa_cons (pe_op op_add pe_int (pv 12)) (pa_cons (pv 11) (pa_cons (pv 1) pa_nil)))))))
  (pss_one (ps_if (PW.pt (pw_or (pt_cmpR op_isN1 (pv 10) pe_non (nomark _)) (pw_or1 (pt_not (pt_val (pe_h h_law_agrees (hr.mono (by decide)) rfl (fun σ => passAt tk σ) (pa_cons (pv 9) (pa_cons (pv 10) pa_nil))))))))
  (pss_one (ps_ret pe_bl))
  pss_nil)))
  pss_nil))))))))
  (pss_one (ps_ret pe_bl))))))))))))))

end
end K89

namespace K89
open PySem PySem.Spec PyProof.Rows L2 G
local macro_rules | `(tactic| wtm_at "g_get") => `(tactic| first
  | ((with_reducible show kGet _ "key" _ _ _); (with_reducible refine' w_fld ?k1 (cl_Waiting (by assumption)) (na_Waiting_key (by assumption)) lk_Waiting_key ?_); (case k1 => wtm_at "g_hp"))
  | ((with_reducible show kGet _ "item" _ _ _); (with_reducible refine' w_fld ?k1 (cl_Waiting (by assumption)) (na_Waiting_item (by assumption)) lk_Waiting_item ?_); (case k1 => wtm_at "g_hp"))
  | ((with_reducible show kGet _ "weight" _ _ _); (with_reducible refine' w_fld ?k1 (cl_Waiting (by assumption)) (na_Waiting_weight (by assumption)) lk_Waiting_weight ?_); (case k1 => wtm_at "g_hp"))
  | ((with_reducible show kGet _ "key" _ _ _); (with_reducible refine' w_fld ?k1 (cl_Flow (by assumption)) (na_Flow_key (by assumption)) lk_Flow_key ?_); (case k1 => wtm_at "g_hp"))
  | ((with_reducible show kGet _ "rows" _ _ _); (with_reducible refine' w_fld ?k1 (cl_Flow (by assumption)) (na_Flow_rows (by assumption)) lk_Flow_rows ?_); (case k1 => wtm_at "g_hp"))
  | ((with_reducible show kGet _ "octets" _ _ _); (with_reducible refine' w_fld ?k1 (cl_Flow (by assumption)) (na_Flow_octets (by assumption)) lk_Flow_octets ?_); (case k1 => wtm_at "g_hp"))
  | ((with_reducible show kGet _ "credit" _ _ _); (with_reducible refine' w_fld ?k1 (cl_Flow (by assumption)) (na_Flow_credit (by assumption)) lk_Flow_credit ?_); (case k1 => wtm_at "g_hp"))
  | ((with_reducible show kGet _ "limit" _ _ _); (with_reducible refine' w_fld ?k1 (cl_FairQueue (by assumption)) (na_FairQueue_limit (by assumption)) lk_FairQueue_limit ?_); (case k1 => wtm_at "g_hp"))
  | ((with_reducible show kGet _ "quantum" _ _ _); (with_reducible refine' w_fld ?k1 (cl_FairQueue (by assumption)) (na_FairQueue_quantum (by assumption)) lk_FairQueue_quantum ?_); (case k1 => wtm_at "g_hp"))
  | ((with_reducible show kGet _ "flows" _ _ _); (with_reducible refine' w_fld ?k1 (cl_FairQueue (by assumption)) (na_FairQueue_flows (by assumption)) lk_FairQueue_flows ?_); (case k1 => wtm_at "g_hp"))
  | ((with_reducible show kGet _ "granted" _ _ _); (with_reducible refine' w_fld ?k1 (cl_FairQueue (by assumption)) (na_FairQueue_granted (by assumption)) lk_FairQueue_granted ?_); (case k1 => wtm_at "g_hp"))
  | ((with_reducible show kGet _ "rate" _ _ _); (with_reducible refine' w_fld ?k1 (cl_Bucket (by assumption)) (na_Bucket_rate (by assumption)) lk_Bucket_rate ?_); (case k1 => wtm_at "g_hp"))
  | ((with_reducible show kGet _ "depth" _ _ _); (with_reducible refine' w_fld ?k1 (cl_Bucket (by assumption)) (na_Bucket_depth (by assumption)) lk_Bucket_depth ?_); (case k1 => wtm_at "g_hp"))
  | ((with_reducible show kGet _ "tokens" _ _ _); (with_reducible refine' w_fld ?k1 (cl_Bucket (by assumption)) (na_Bucket_tokens (by assumption)) lk_Bucket_tokens ?_); (case k1 => wtm_at "g_hp"))
  | ((with_reducible show kGet _ "kind" _ _ _); (with_reducible refine' w_fld ?k1 (cl_Frame (by assumption)) (na_Frame_kind (by assumption)) lk_Frame_kind ?_); (case k1 => wtm_at "g_hp"))
  | ((with_reducible show kGet _ "sender" _ _ _); (with_reducible refine' w_fld ?k1 (cl_Frame (by assumption)) (na_Frame_sender (by assumption)) lk_Frame_sender ?_); (case k1 => wtm_at "g_hp"))
  | ((with_reducible show kGet _ "target" _ _ _); (with_reducible refine' w_fld ?k1 (cl_Frame (by assumption)) (na_Frame_target (by assumption)) lk_Frame_target ?_); (case k1 => wtm_at "g_hp"))
  | ((with_reducible show kGet _ "octets" _ _ _); (with_reducible refine' w_fld ?k1 (cl_Frame (by assumption)) (na_Frame_octets (by assumption)) lk_Frame_octets ?_); (case k1 => wtm_at "g_hp"))
  | ((with_reducible show kGet _ "birth" _ _ _); (with_reducible refine' w_fld ?k1 (cl_Frame (by assumption)) (na_Frame_birth (by assumption)) lk_Frame_birth ?_); (case k1 => wtm_at "g_hp"))
  | ((with_reducible show kGet _ "hops" _ _ _); (with_reducible refine' w_fld ?k1 (cl_Frame (by assumption)) (na_Frame_hops (by assumption)) lk_Frame_hops ?_); (case k1 => wtm_at "g_hp"))
  | ((with_reducible show kGet _ "marked" _ _ _); (with_reducible refine' w_fld ?k1 (cl_Frame (by assumption)) (na_Frame_marked (by assumption)) lk_Frame_marked ?_); (case k1 => wtm_at "g_hp"))
  | ((with_reducible show kGet _ "cost" _ _ _); (with_reducible refine' w_fld ?k1 (cl_LinkOptions (by assumption)) (na_LinkOptions_cost (by assumption)) lk_LinkOptions_cost ?_); (case k1 => wtm_at "g_hp"))
  | ((with_reducible show kGet _ "part_size" _ _ _); (with_reducible refine' w_fld ?k1 (cl_LinkOptions (by assumption)) (na_LinkOptions_part_size (by assumption)) lk_LinkOptions_part_size ?_); (case k1 => wtm_at "g_hp"))
  | ((with_reducible show kGet _ "rate" _ _ _); (with_reducible refine' w_fld ?k1 (cl_LinkOptions (by assumption)) (na_LinkOptions_rate (by assumption)) lk_LinkOptions_rate ?_); (case k1 => wtm_at "g_hp"))
  | ((with_reducible show kGet _ "depth" _ _ _); (with_reducible refine' w_fld ?k1 (cl_LinkOptions (by assumption)) (na_LinkOptions_depth (by assumption)) lk_LinkOptions_depth ?_); (case k1 => wtm_at "g_hp"))
  | ((with_reducible show kGet _ "limit" _ _ _); (with_reducible refine' w_fld ?k1 (cl_LinkOptions (by assumption)) (na_LinkOptions_limit (by assumption)) lk_LinkOptions_limit ?_); (case k1 => wtm_at "g_hp"))
  | ((with_reducible show kGet _ "delay" _ _ _); (with_reducible refine' w_fld ?k1 (cl_LinkOptions (by assumption)) (na_LinkOptions_delay (by assumption)) lk_LinkOptions_delay ?_); (case k1 => wtm_at "g_hp"))
  | ((with_reducible show kGet _ "options" _ _ _); (with_reducible refine' w_fld ?k1 (cl_Line (by assumption)) (na_Line_options (by assumption)) lk_Line_options ?_); (case k1 => wtm_at "g_hp"))
  | ((with_reducible show kGet _ "queue" _ _ _); (with_reducible refine' w_fld ?k1 (cl_Line (by assumption)) (na_Line_queue (by assumption)) lk_Line_queue ?_); (case k1 => wtm_at "g_hp"))
  | ((with_reducible show kGet _ "bucket" _ _ _); (with_reducible refine' w_fld ?k1 (cl_Line (by assumption)) (na_Line_bucket (by assumption)) lk_Line_bucket ?_); (case k1 => wtm_at "g_hp"))
  | ((with_reducible show kGet _ "flying" _ _ _); (with_reducible refine' w_fld ?k1 (cl_Line (by assumption)) (na_Line_flying (by assumption)) lk_Line_flying ?_); (case k1 => wtm_at "g_hp"))
  | ((with_reducible show kGet _ "is_up" _ _ _); (with_reducible refine' w_fld ?k1 (cl_Line (by assumption)) (na_Line_is_up (by assumption)) lk_Line_is_up ?_); (case k1 => wtm_at "g_hp"))
  | fail)
local macro_rules | `(tactic| wtm_at "g_get2") => `(tactic| first
  | ((with_reducible refine' w_fld ?k1 (cl_Waiting (by assumption)) (na_Waiting_key (by assumption)) lk_Waiting_key ?_); (case k1 => wtm_at "g_hp"))
  | ((with_reducible refine' w_fld ?k1 (cl_Waiting (by assumption)) (na_Waiting_item (by assumption)) lk_Waiting_item ?_); (case k1 => wtm_at "g_hp"))
  | ((with_reducible refine' w_fld ?k1 (cl_Waiting (by assumption)) (na_Waiting_weight (by assumption)) lk_Waiting_weight ?_); (case k1 => wtm_at "g_hp"))
  | ((with_reducible refine' w_fld ?k1 (cl_Flow (by assumption)) (na_Flow_key (by assumption)) lk_Flow_key ?_); (case k1 => wtm_at "g_hp"))
  | ((with_reducible refine' w_fld ?k1 (cl_Flow (by assumption)) (na_Flow_rows (by assumption)) lk_Flow_rows ?_); (case k1 => wtm_at "g_hp"))
  | ((with_reducible refine' w_fld ?k1 (cl_Flow (by assumption)) (na_Flow_octets (by assumption)) lk_Flow_octets ?_); (case k1 => wtm_at "g_hp"))
  | ((with_reducible refine' w_fld ?k1 (cl_Flow (by assumption)) (na_Flow_credit (by assumption)) lk_Flow_credit ?_); (case k1 => wtm_at "g_hp"))
  | ((with_reducible refine' w_fld ?k1 (cl_FairQueue (by assumption)) (na_FairQueue_limit (by assumption)) lk_FairQueue_limit ?_); (case k1 => wtm_at "g_hp"))
  | ((with_reducible refine' w_fld ?k1 (cl_FairQueue (by assumption)) (na_FairQueue_quantum (by assumption)) lk_FairQueue_quantum ?_); (case k1 => wtm_at "g_hp"))
  | ((with_reducible refine' w_fld ?k1 (cl_FairQueue (by assumption)) (na_FairQueue_flows (by assumption)) lk_FairQueue_flows ?_); (case k1 => wtm_at "g_hp"))
  | ((with_reducible refine' w_fld ?k1 (cl_FairQueue (by assumption)) (na_FairQueue_granted (by assumption)) lk_FairQueue_granted ?_); (case k1 => wtm_at "g_hp"))
  | ((with_reducible refine' w_fld ?k1 (cl_Bucket (by assumption)) (na_Bucket_rate (by assumption)) lk_Bucket_rate ?_); (case k1 => wtm_at "g_hp"))
  | ((with_reducible refine' w_fld ?k1 (cl_Bucket (by assumption)) (na_Bucket_depth (by assumption)) lk_Bucket_depth ?_); (case k1 => wtm_at "g_hp"))
  | ((with_reducible refine' w_fld ?k1 (cl_Bucket (by assumption)) (na_Bucket_tokens (by assumption)) lk_Bucket_tokens ?_); (case k1 => wtm_at "g_hp"))
  | ((with_reducible refine' w_fld ?k1 (cl_Frame (by assumption)) (na_Frame_kind (by assumption)) lk_Frame_kind ?_); (case k1 => wtm_at "g_hp"))
  | ((with_reducible refine' w_fld ?k1 (cl_Frame (by assumption)) (na_Frame_sender (by assumption)) lk_Frame_sender ?_); (case k1 => wtm_at "g_hp"))
  | ((with_reducible refine' w_fld ?k1 (cl_Frame (by assumption)) (na_Frame_target (by assumption)) lk_Frame_target ?_); (case k1 => wtm_at "g_hp"))
  | ((with_reducible refine' w_fld ?k1 (cl_Frame (by assumption)) (na_Frame_octets (by assumption)) lk_Frame_octets ?_); (case k1 => wtm_at "g_hp"))
  | ((with_reducible refine' w_fld ?k1 (cl_Frame (by assumption)) (na_Frame_birth (by assumption)) lk_Frame_birth ?_); (case k1 => wtm_at "g_hp"))
  | ((with_reducible refine' w_fld ?k1 (cl_Frame (by assumption)) (na_Frame_hops (by assumption)) lk_Frame_hops ?_); (case k1 => wtm_at "g_hp"))
  | ((with_reducible refine' w_fld ?k1 (cl_Frame (by assumption)) (na_Frame_marked (by assumption)) lk_Frame_marked ?_); (case k1 => wtm_at "g_hp"))
  | ((with_reducible refine' w_fld ?k1 (cl_LinkOptions (by assumption)) (na_LinkOptions_cost (by assumption)) lk_LinkOptions_cost ?_); (case k1 => wtm_at "g_hp"))
  | ((with_reducible refine' w_fld ?k1 (cl_LinkOptions (by assumption)) (na_LinkOptions_part_size (by assumption)) lk_LinkOptions_part_size ?_); (case k1 => wtm_at "g_hp"))
  | ((with_reducible refine' w_fld ?k1 (cl_LinkOptions (by assumption)) (na_LinkOptions_rate (by assumption)) lk_LinkOptions_rate ?_); (case k1 => wtm_at "g_hp"))
  | ((with_reducible refine' w_fld ?k1 (cl_LinkOptions (by assumption)) (na_LinkOptions_depth (by assumption)) lk_LinkOptions_depth ?_); (case k1 => wtm_at "g_hp"))
  | ((with_reducible refine' w_fld ?k1 (cl_LinkOptions (by assumption)) (na_LinkOptions_limit (by assumption)) lk_LinkOptions_limit ?_); (case k1 => wtm_at "g_hp"))
  | ((with_reducible refine' w_fld ?k1 (cl_LinkOptions (by assumption)) (na_LinkOptions_delay (by assumption)) lk_LinkOptions_delay ?_); (case k1 => wtm_at "g_hp"))
  | ((with_reducible refine' w_fld ?k1 (cl_Line (by assumption)) (na_Line_options (by assumption)) lk_Line_options ?_); (case k1 => wtm_at "g_hp"))
  | ((with_reducible refine' w_fld ?k1 (cl_Line (by assumption)) (na_Line_queue (by assumption)) lk_Line_queue ?_); (case k1 => wtm_at "g_hp"))
  | ((with_reducible refine' w_fld ?k1 (cl_Line (by assumption)) (na_Line_bucket (by assumption)) lk_Line_bucket ?_); (case k1 => wtm_at "g_hp"))
  | ((with_reducible refine' w_fld ?k1 (cl_Line (by assumption)) (na_Line_flying (by assumption)) lk_Line_flying ?_); (case k1 => wtm_at "g_hp"))
  | ((with_reducible refine' w_fld ?k1 (cl_Line (by assumption)) (na_Line_is_up (by assumption)) lk_Line_is_up ?_); (case k1 => wtm_at "g_hp"))
  | fail)
local macro_rules | `(tactic| wtm_at "g_set") => `(tactic| first
  | ((with_reducible show kFld _ "key" _ _ _ _ _); (with_reducible refine' k_fld ?k1 ?k2 (cl_Waiting (by assumption)) (na_Waiting_key (by assumption)) pt_Waiting_key rfl ?_); (case k1 => wtm_at "g_own"); (case k2 => wtm_at "g_put"); intro HH ww)
  | ((with_reducible show kFld _ "key" _ _ _ _ _); (with_reducible refine' k_fld ?k1 ?k2 (cl_Waiting (by assumption)) (na_Waiting_key (by assumption)) pn_Waiting_key rfl ?_); (case k1 => wtm_at "g_own"); (case k2 => wtm_at "g_put"); intro HH ww)
  | ((with_reducible show kFld _ "item" _ _ _ _ _); (with_reducible refine' k_fld ?k1 ?k2 (cl_Waiting (by assumption)) (na_Waiting_item (by assumption)) pt_Waiting_item rfl ?_); (case k1 => wtm_at "g_own"); (case k2 => wtm_at "g_put"); intro HH ww)
  | ((with_reducible show kFld _ "item" _ _ _ _ _); (with_reducible refine' k_fld ?k1 ?k2 (cl_Waiting (by assumption)) (na_Waiting_item (by assumption)) pn_Waiting_item rfl ?_); (case k1 => wtm_at "g_own"); (case k2 => wtm_at "g_put"); intro HH ww)
  | ((with_reducible show kFld _ "weight" _ _ _ _ _); (with_reducible refine' k_fld ?k1 ?k2 (cl_Waiting (by assumption)) (na_Waiting_weight (by assumption)) pt_Waiting_weight rfl ?_); (case k1 => wtm_at "g_own"); (case k2 => wtm_at "g_put"); intro HH ww)
  | ((with_reducible show kFld _ "weight" _ _ _ _ _); (with_reducible refine' k_fld ?k1 ?k2 (cl_Waiting (by assumption)) (na_Waiting_weight (by assumption)) pn_Waiting_weight rfl ?_); (case k1 => wtm_at "g_own"); (case k2 => wtm_at "g_put"); intro HH ww)
  | ((with_reducible show kFld _ "key" _ _ _ _ _); (with_reducible refine' k_fld ?k1 ?k2 (cl_Flow (by assumption)) (na_Flow_key (by assumption)) pt_Flow_key rfl ?_); (case k1 => wtm_at "g_own"); (case k2 => wtm_at "g_put"); intro HH ww)
  | ((with_reducible show kFld _ "key" _ _ _ _ _); (with_reducible refine' k_fld ?k1 ?k2 (cl_Flow (by assumption)) (na_Flow_key (by assumption)) pn_Flow_key rfl ?_); (case k1 => wtm_at "g_own"); (case k2 => wtm_at "g_put"); intro HH ww)
  | ((with_reducible show kFld _ "rows" _ _ _ _ _); (with_reducible refine' k_fld ?k1 ?k2 (cl_Flow (by assumption)) (na_Flow_rows (by assumption)) pt_Flow_rows rfl ?_); (case k1 => wtm_at "g_own"); (case k2 => wtm_at "g_put"); intro HH ww)
  | ((with_reducible show kFld _ "rows" _ _ _ _ _); (with_reducible refine' k_fld ?k1 ?k2 (cl_Flow (by assumption)) (na_Flow_rows (by assumption)) pn_Flow_rows rfl ?_); (case k1 => wtm_at "g_own"); (case k2 => wtm_at "g_put"); intro HH ww)
  | ((with_reducible show kFld _ "octets" _ _ _ _ _); (with_reducible refine' k_fld ?k1 ?k2 (cl_Flow (by assumption)) (na_Flow_octets (by assumption)) pt_Flow_octets rfl ?_); (case k1 => wtm_at "g_own"); (case k2 => wtm_at "g_put"); intro HH ww)
  | ((with_reducible show kFld _ "octets" _ _ _ _ _); (with_reducible refine' k_fld ?k1 ?k2 (cl_Flow (by assumption)) (na_Flow_octets (by assumption)) pn_Flow_octets rfl ?_); (case k1 => wtm_at "g_own"); (case k2 => wtm_at "g_put"); intro HH ww)
  | ((with_reducible show kFld _ "credit" _ _ _ _ _); (with_reducible refine' k_fld ?k1 ?k2 (cl_Flow (by assumption)) (na_Flow_credit (by assumption)) pt_Flow_credit rfl ?_); (case k1 => wtm_at "g_own"); (case k2 => wtm_at "g_put"); intro HH ww)
  | ((with_reducible show kFld _ "credit" _ _ _ _ _); (with_reducible refine' k_fld ?k1 ?k2 (cl_Flow (by assumption)) (na_Flow_credit (by assumption)) pn_Flow_credit rfl ?_); (case k1 => wtm_at "g_own"); (case k2 => wtm_at "g_put"); intro HH ww)
  | ((with_reducible show kFld _ "limit" _ _ _ _ _); (with_reducible refine' k_fld ?k1 ?k2 (cl_FairQueue (by assumption)) (na_FairQueue_limit (by assumption)) pt_FairQueue_limit rfl ?_); (case k1 => wtm_at "g_own"); (case k2 => wtm_at "g_put"); intro HH ww)
  | ((with_reducible show kFld _ "limit" _ _ _ _ _); (with_reducible refine' k_fld ?k1 ?k2 (cl_FairQueue (by assumption)) (na_FairQueue_limit (by assumption)) pn_FairQueue_limit rfl ?_); (case k1 => wtm_at "g_own"); (case k2 => wtm_at "g_put"); intro HH ww)
  | ((with_reducible show kFld _ "quantum" _ _ _ _ _); (with_reducible refine' k_fld ?k1 ?k2 (cl_FairQueue (by assumption)) (na_FairQueue_quantum (by assumption)) pt_FairQueue_quantum rfl ?_); (case k1 => wtm_at "g_own"); (case k2 => wtm_at "g_put"); intro HH ww)
  | ((with_reducible show kFld _ "quantum" _ _ _ _ _); (with_reducible refine' k_fld ?k1 ?k2 (cl_FairQueue (by assumption)) (na_FairQueue_quantum (by assumption)) pn_FairQueue_quantum rfl ?_); (case k1 => wtm_at "g_own"); (case k2 => wtm_at "g_put"); intro HH ww)
  | ((with_reducible show kFld _ "flows" _ _ _ _ _); (with_reducible refine' k_fld ?k1 ?k2 (cl_FairQueue (by assumption)) (na_FairQueue_flows (by assumption)) pt_FairQueue_flows rfl ?_); (case k1 => wtm_at "g_own"); (case k2 => wtm_at "g_put"); intro HH ww)
  | ((with_reducible show kFld _ "flows" _ _ _ _ _); (with_reducible refine' k_fld ?k1 ?k2 (cl_FairQueue (by assumption)) (na_FairQueue_flows (by assumption)) pn_FairQueue_flows rfl ?_); (case k1 => wtm_at "g_own"); (case k2 => wtm_at "g_put"); intro HH ww)
  | ((with_reducible show kFld _ "granted" _ _ _ _ _); (with_reducible refine' k_fld ?k1 ?k2 (cl_FairQueue (by assumption)) (na_FairQueue_granted (by assumption)) pt_FairQueue_granted rfl ?_); (case k1 => wtm_at "g_own"); (case k2 => wtm_at "g_put"); intro HH ww)
  | ((with_reducible show kFld _ "granted" _ _ _ _ _); (with_reducible refine' k_fld ?k1 ?k2 (cl_FairQueue (by assumption)) (na_FairQueue_granted (by assumption)) pn_FairQueue_granted rfl ?_); (case k1 => wtm_at "g_own"); (case k2 => wtm_at "g_put"); intro HH ww)
  | ((with_reducible show kFld _ "rate" _ _ _ _ _); (with_reducible refine' k_fld ?k1 ?k2 (cl_Bucket (by assumption)) (na_Bucket_rate (by assumption)) pt_Bucket_rate rfl ?_); (case k1 => wtm_at "g_own"); (case k2 => wtm_at "g_put"); intro HH ww)
  | ((with_reducible show kFld _ "rate" _ _ _ _ _); (with_reducible refine' k_fld ?k1 ?k2 (cl_Bucket (by assumption)) (na_Bucket_rate (by assumption)) pn_Bucket_rate rfl ?_); (case k1 => wtm_at "g_own"); (case k2 => wtm_at "g_put"); intro HH ww)
  | ((with_reducible show kFld _ "depth" _ _ _ _ _); (with_reducible refine' k_fld ?k1 ?k2 (cl_Bucket (by assumption)) (na_Bucket_depth (by assumption)) pt_Bucket_depth rfl ?_); (case k1 => wtm_at "g_own"); (case k2 => wtm_at "g_put"); intro HH ww)
  | ((with_reducible show kFld _ "depth" _ _ _ _ _); (with_reducible refine' k_fld ?k1 ?k2 (cl_Bucket (by assumption)) (na_Bucket_depth (by assumption)) pn_Bucket_depth rfl ?_); (case k1 => wtm_at "g_own"); (case k2 => wtm_at "g_put"); intro HH ww)
  | ((with_reducible show kFld _ "tokens" _ _ _ _ _); (with_reducible refine' k_fld ?k1 ?k2 (cl_Bucket (by assumption)) (na_Bucket_tokens (by assumption)) pt_Bucket_tokens rfl ?_); (case k1 => wtm_at "g_own"); (case k2 => wtm_at "g_put"); intro HH ww)
  | ((with_reducible show kFld _ "tokens" _ _ _ _ _); (with_reducible refine' k_fld ?k1 ?k2 (cl_Bucket (by assumption)) (na_Bucket_tokens (by assumption)) pn_Bucket_tokens rfl ?_); (case k1 => wtm_at "g_own"); (case k2 => wtm_at "g_put"); intro HH ww)
  | ((with_reducible show kFld _ "kind" _ _ _ _ _); (with_reducible refine' k_fld ?k1 ?k2 (cl_Frame (by assumption)) (na_Frame_kind (by assumption)) pt_Frame_kind rfl ?_); (case k1 => wtm_at "g_own"); (case k2 => wtm_at "g_put"); intro HH ww)
  | ((with_reducible show kFld _ "kind" _ _ _ _ _); (with_reducible refine' k_fld ?k1 ?k2 (cl_Frame (by assumption)) (na_Frame_kind (by assumption)) pn_Frame_kind rfl ?_); (case k1 => wtm_at "g_own"); (case k2 => wtm_at "g_put"); intro HH ww)
  | ((with_reducible show kFld _ "sender" _ _ _ _ _); (with_reducible refine' k_fld ?k1 ?k2 (cl_Frame (by assumption)) (na_Frame_sender (by assumption)) pt_Frame_sender rfl ?_); (case k1 => wtm_at "g_own"); (case k2 => wtm_at "g_put"); intro HH ww)
  | ((with_reducible show kFld _ "sender" _ _ _ _ _); (with_reducible refine' k_fld ?k1 ?k2 (cl_Frame (by assumption)) (na_Frame_sender (by assumption)) pn_Frame_sender rfl ?_); (case k1 => wtm_at "g_own"); (case k2 => wtm_at "g_put"); intro HH ww)
  | ((with_reducible show kFld _ "target" _ _ _ _ _); (with_reducible refine' k_fld ?k1 ?k2 (cl_Frame (by assumption)) (na_Frame_target (by assumption)) pt_Frame_target rfl ?_); (case k1 => wtm_at "g_own"); (case k2 => wtm_at "g_put"); intro HH ww)
  | ((with_reducible show kFld _ "target" _ _ _ _ _); (with_reducible refine' k_fld ?k1 ?k2 (cl_Frame (by assumption)) (na_Frame_target (by assumption)) pn_Frame_target rfl ?_); (case k1 => wtm_at "g_own"); (case k2 => wtm_at "g_put"); intro HH ww)
  | ((with_reducible show kFld _ "octets" _ _ _ _ _); (with_reducible refine' k_fld ?k1 ?k2 (cl_Frame (by assumption)) (na_Frame_octets (by assumption)) pt_Frame_octets rfl ?_); (case k1 => wtm_at "g_own"); (case k2 => wtm_at "g_put"); intro HH ww)
  | ((with_reducible show kFld _ "octets" _ _ _ _ _); (with_reducible refine' k_fld ?k1 ?k2 (cl_Frame (by assumption)) (na_Frame_octets (by assumption)) pn_Frame_octets rfl ?_); (case k1 => wtm_at "g_own"); (case k2 => wtm_at "g_put"); intro HH ww)
  | ((with_reducible show kFld _ "birth" _ _ _ _ _); (with_reducible refine' k_fld ?k1 ?k2 (cl_Frame (by assumption)) (na_Frame_birth (by assumption)) pt_Frame_birth rfl ?_); (case k1 => wtm_at "g_own"); (case k2 => wtm_at "g_put"); intro HH ww)
  | ((with_reducible show kFld _ "birth" _ _ _ _ _); (with_reducible refine' k_fld ?k1 ?k2 (cl_Frame (by assumption)) (na_Frame_birth (by assumption)) pn_Frame_birth rfl ?_); (case k1 => wtm_at "g_own"); (case k2 => wtm_at "g_put"); intro HH ww)
  | ((with_reducible show kFld _ "hops" _ _ _ _ _); (with_reducible refine' k_fld ?k1 ?k2 (cl_Frame (by assumption)) (na_Frame_hops (by assumption)) pt_Frame_hops rfl ?_); (case k1 => wtm_at "g_own"); (case k2 => wtm_at "g_put"); intro HH ww)
  | ((with_reducible show kFld _ "hops" _ _ _ _ _); (with_reducible refine' k_fld ?k1 ?k2 (cl_Frame (by assumption)) (na_Frame_hops (by assumption)) pn_Frame_hops rfl ?_); (case k1 => wtm_at "g_own"); (case k2 => wtm_at "g_put"); intro HH ww)
  | ((with_reducible show kFld _ "marked" _ _ _ _ _); (with_reducible refine' k_fld ?k1 ?k2 (cl_Frame (by assumption)) (na_Frame_marked (by assumption)) pt_Frame_marked rfl ?_); (case k1 => wtm_at "g_own"); (case k2 => wtm_at "g_put"); intro HH ww)
  | ((with_reducible show kFld _ "marked" _ _ _ _ _); (with_reducible refine' k_fld ?k1 ?k2 (cl_Frame (by assumption)) (na_Frame_marked (by assumption)) pn_Frame_marked rfl ?_); (case k1 => wtm_at "g_own"); (case k2 => wtm_at "g_put"); intro HH ww)
  | ((with_reducible show kFld _ "cost" _ _ _ _ _); (with_reducible refine' k_fld ?k1 ?k2 (cl_LinkOptions (by assumption)) (na_LinkOptions_cost (by assumption)) pt_LinkOptions_cost rfl ?_); (case k1 => wtm_at "g_own"); (case k2 => wtm_at "g_put"); intro HH ww)
  | ((with_reducible show kFld _ "cost" _ _ _ _ _); (with_reducible refine' k_fld ?k1 ?k2 (cl_LinkOptions (by assumption)) (na_LinkOptions_cost (by assumption)) pn_LinkOptions_cost rfl ?_); (case k1 => wtm_at "g_own"); (case k2 => wtm_at "g_put"); intro HH ww)
  | ((with_reducible show kFld _ "part_size" _ _ _ _ _); (with_reducible refine' k_fld ?k1 ?k2 (cl_LinkOptions (by assumption)) (na_LinkOptions_part_size (by assumption)) pt_LinkOptions_part_size rfl ?_); (case k1 => wtm_at "g_own"); (case k2 => wtm_at "g_put"); intro HH ww)
  | ((with_reducible show kFld _ "part_size" _ _ _ _ _); (with_reducible refine' k_fld ?k1 ?k2 (cl_LinkOptions (by assumption)) (na_LinkOptions_part_size (by assumption)) pn_LinkOptions_part_size rfl ?_); (case k1 => wtm_at "g_own"); (case k2 => wtm_at "g_put"); intro HH ww)
  | ((with_reducible show kFld _ "rate" _ _ _ _ _); (with_reducible refine' k_fld ?k1 ?k2 (cl_LinkOptions (by assumption)) (na_LinkOptions_rate (by assumption)) pt_LinkOptions_rate rfl ?_); (case k1 => wtm_at "g_own"); (case k2 => wtm_at "g_put"); intro HH ww)
  | ((with_reducible show kFld _ "rate" _ _ _ _ _); (with_reducible refine' k_fld ?k1 ?k2 (cl_LinkOptions (by assumption)) (na_LinkOptions_rate (by assumption)) pn_LinkOptions_rate rfl ?_); (case k1 => wtm_at "g_own"); (case k2 => wtm_at "g_put"); intro HH ww)
  | ((with_reducible show kFld _ "depth" _ _ _ _ _); (with_reducible refine' k_fld ?k1 ?k2 (cl_LinkOptions (by assumption)) (na_LinkOptions_depth (by assumption)) pt_LinkOptions_depth rfl ?_); (case k1 => wtm_at "g_own"); (case k2 => wtm_at "g_put"); intro HH ww)
  | ((with_reducible show kFld _ "depth" _ _ _ _ _); (with_reducible refine' k_fld ?k1 ?k2 (cl_LinkOptions (by assumption)) (na_LinkOptions_depth (by assumption)) pn_LinkOptions_depth rfl ?_); (case k1 => wtm_at "g_own"); (case k2 => wtm_at "g_put"); intro HH ww)
  | ((with_reducible show kFld _ "limit" _ _ _ _ _); (with_reducible refine' k_fld ?k1 ?k2 (cl_LinkOptions (by assumption)) (na_LinkOptions_limit (by assumption)) pt_LinkOptions_limit rfl ?_); (case k1 => wtm_at "g_own"); (case k2 => wtm_at "g_put"); intro HH ww)
  | ((with_reducible show kFld _ "limit" _ _ _ _ _); (with_reducible refine' k_fld ?k1 ?k2 (cl_LinkOptions (by assumption)) (na_LinkOptions_limit (by assumption)) pn_LinkOptions_limit rfl ?_); (case k1 => wtm_at "g_own"); (case k2 => wtm_at "g_put"); intro HH ww)
  | ((with_reducible show kFld _ "delay" _ _ _ _ _); (with_reducible refine' k_fld ?k1 ?k2 (cl_LinkOptions (by assumption)) (na_LinkOptions_delay (by assumption)) pt_LinkOptions_delay rfl ?_); (case k1 => wtm_at "g_own"); (case k2 => wtm_at "g_put"); intro HH ww)
  | ((with_reducible show kFld _ "delay" _ _ _ _ _); (with_reducible refine' k_fld ?k1 ?k2 (cl_LinkOptions (by assumption)) (na_LinkOptions_delay (by assumption)) pn_LinkOptions_delay rfl ?_); (case k1 => wtm_at "g_own"); (case k2 => wtm_at "g_put"); intro HH ww)
  | ((with_reducible show kFld _ "options" _ _ _ _ _); (with_reducible refine' k_fld ?k1 ?k2 (cl_Line (by assumption)) (na_Line_options (by assumption)) pt_Line_options rfl ?_); (case k1 => wtm_at "g_own"); (case k2 => wtm_at "g_put"); intro HH ww)
  | ((with_reducible show kFld _ "options" _ _ _ _ _); (with_reducible refine' k_fld ?k1 ?k2 (cl_Line (by assumption)) (na_Line_options (by assumption)) pn_Line_options rfl ?_); (case k1 => wtm_at "g_own"); (case k2 => wtm_at "g_put"); intro HH ww)
  | ((with_reducible show kFld _ "queue" _ _ _ _ _); (with_reducible refine' k_fld ?k1 ?k2 (cl_Line (by assumption)) (na_Line_queue (by assumption)) pt_Line_queue rfl ?_); (case k1 => wtm_at "g_own"); (case k2 => wtm_at "g_put"); intro HH ww)
  | ((with_reducible show kFld _ "queue" _ _ _ _ _); (with_reducible refine' k_fld ?k1 ?k2 (cl_Line (by assumption)) (na_Line_queue (by assumption)) pn_Line_queue rfl ?_); (case k1 => wtm_at "g_own"); (case k2 => wtm_at "g_put"); intro HH ww)
  | ((with_reducible show kFld _ "bucket" _ _ _ _ _); (with_reducible refine' k_fld ?k1 ?k2 (cl_Line (by assumption)) (na_Line_bucket (by assumption)) pt_Line_bucket rfl ?_); (case k1 => wtm_at "g_own"); (case k2 => wtm_at "g_put"); intro HH ww)
  | ((with_reducible show kFld _ "bucket" _ _ _ _ _); (with_reducible refine' k_fld ?k1 ?k2 (cl_Line (by assumption)) (na_Line_bucket (by assumption)) pn_Line_bucket rfl ?_); (case k1 => wtm_at "g_own"); (case k2 => wtm_at "g_put"); intro HH ww)
  | ((with_reducible show kFld _ "flying" _ _ _ _ _); (with_reducible refine' k_fld ?k1 ?k2 (cl_Line (by assumption)) (na_Line_flying (by assumption)) pt_Line_flying rfl ?_); (case k1 => wtm_at "g_own"); (case k2 => wtm_at "g_put"); intro HH ww)
  | ((with_reducible show kFld _ "flying" _ _ _ _ _); (with_reducible refine' k_fld ?k1 ?k2 (cl_Line (by assumption)) (na_Line_flying (by assumption)) pn_Line_flying rfl ?_); (case k1 => wtm_at "g_own"); (case k2 => wtm_at "g_put"); intro HH ww)
  | ((with_reducible show kFld _ "is_up" _ _ _ _ _); (with_reducible refine' k_fld ?k1 ?k2 (cl_Line (by assumption)) (na_Line_is_up (by assumption)) pt_Line_is_up rfl ?_); (case k1 => wtm_at "g_own"); (case k2 => wtm_at "g_put"); intro HH ww)
  | ((with_reducible show kFld _ "is_up" _ _ _ _ _); (with_reducible refine' k_fld ?k1 ?k2 (cl_Line (by assumption)) (na_Line_is_up (by assumption)) pn_Line_is_up rfl ?_); (case k1 => wtm_at "g_own"); (case k2 => wtm_at "g_put"); intro HH ww)
  | fail)
local macro_rules | `(tactic| wtm_at "g_set2") => `(tactic| first
  | ((with_reducible show kFA _ _ "key" _ _ _ _); (with_reducible refine' k_fa ?k1 ?k2 pt_Waiting_key rfl ?_); (case k1 => wtm_at "g_own"); (case k2 => wtm_at "g_put"); intro HH ww)
  | ((with_reducible show kFA _ _ "item" _ _ _ _); (with_reducible refine' k_fa ?k1 ?k2 pt_Waiting_item rfl ?_); (case k1 => wtm_at "g_own"); (case k2 => wtm_at "g_put"); intro HH ww)
  | ((with_reducible show kFA _ _ "weight" _ _ _ _); (with_reducible refine' k_fa ?k1 ?k2 pt_Waiting_weight rfl ?_); (case k1 => wtm_at "g_own"); (case k2 => wtm_at "g_put"); intro HH ww)
  | ((with_reducible show kFA _ _ "key" _ _ _ _); (with_reducible refine' k_fa ?k1 ?k2 pt_Flow_key rfl ?_); (case k1 => wtm_at "g_own"); (case k2 => wtm_at "g_put"); intro HH ww)
  | ((with_reducible show kFA _ _ "rows" _ _ _ _); (with_reducible refine' k_fa ?k1 ?k2 pt_Flow_rows rfl ?_); (case k1 => wtm_at "g_own"); (case k2 => wtm_at "g_put"); intro HH ww)
  | ((with_reducible show kFA _ _ "octets" _ _ _ _); (with_reducible refine' k_fa ?k1 ?k2 pt_Flow_octets rfl ?_); (case k1 => wtm_at "g_own"); (case k2 => wtm_at "g_put"); intro HH ww)
  | ((with_reducible show kFA _ _ "credit" _ _ _ _); (with_reducible refine' k_fa ?k1 ?k2 pt_Flow_credit rfl ?_); (case k1 => wtm_at "g_own"); (case k2 => wtm_at "g_put"); intro HH ww)
  | ((with_reducible show kFA _ _ "limit" _ _ _ _); (with_reducible refine' k_fa ?k1 ?k2 pt_FairQueue_limit rfl ?_); (case k1 => wtm_at "g_own"); (case k2 => wtm_at "g_put"); intro HH ww)
  | ((with_reducible show kFA _ _ "quantum" _ _ _ _); (with_reducible refine' k_fa ?k1 ?k2 pt_FairQueue_quantum rfl ?_); (case k1 => wtm_at "g_own"); (case k2 => wtm_at "g_put"); intro HH ww)
  | ((with_reducible show kFA _ _ "flows" _ _ _ _); (with_reducible refine' k_fa ?k1 ?k2 pt_FairQueue_flows rfl ?_); (case k1 => wtm_at "g_own"); (case k2 => wtm_at "g_put"); intro HH ww)
  | ((with_reducible show kFA _ _ "granted" _ _ _ _); (with_reducible refine' k_fa ?k1 ?k2 pt_FairQueue_granted rfl ?_); (case k1 => wtm_at "g_own"); (case k2 => wtm_at "g_put"); intro HH ww)
  | ((with_reducible show kFA _ _ "rate" _ _ _ _); (with_reducible refine' k_fa ?k1 ?k2 pt_Bucket_rate rfl ?_); (case k1 => wtm_at "g_own"); (case k2 => wtm_at "g_put"); intro HH ww)
  | ((with_reducible show kFA _ _ "depth" _ _ _ _); (with_reducible refine' k_fa ?k1 ?k2 pt_Bucket_depth rfl ?_); (case k1 => wtm_at "g_own"); (case k2 => wtm_at "g_put"); intro HH ww)
  | ((with_reducible show kFA _ _ "tokens" _ _ _ _); (with_reducible refine' k_fa ?k1 ?k2 pt_Bucket_tokens rfl ?_); (case k1 => wtm_at "g_own"); (case k2 => wtm_at "g_put"); intro HH ww)
  | ((with_reducible show kFA _ _ "kind" _ _ _ _); (with_reducible refine' k_fa ?k1 ?k2 pt_Frame_kind rfl ?_); (case k1 => wtm_at "g_own"); (case k2 => wtm_at "g_put"); intro HH ww)
  | ((with_reducible show kFA _ _ "sender" _ _ _ _); (with_reducible refine' k_fa ?k1 ?k2 pt_Frame_sender rfl ?_); (case k1 => wtm_at "g_own"); (case k2 => wtm_at "g_put"); intro HH ww)
  | ((with_reducible show kFA _ _ "target" _ _ _ _); (with_reducible refine' k_fa ?k1 ?k2 pt_Frame_target rfl ?_); (case k1 => wtm_at "g_own"); (case k2 => wtm_at "g_put"); intro HH ww)
  | ((with_reducible show kFA _ _ "octets" _ _ _ _); (with_reducible refine' k_fa ?k1 ?k2 pt_Frame_octets rfl ?_); (case k1 => wtm_at "g_own"); (case k2 => wtm_at "g_put"); intro HH ww)
  | ((with_reducible show kFA _ _ "birth" _ _ _ _); (with_reducible refine' k_fa ?k1 ?k2 pt_Frame_birth rfl ?_); (case k1 => wtm_at "g_own"); (case k2 => wtm_at "g_put"); intro HH ww)
  | ((with_reducible show kFA _ _ "hops" _ _ _ _); (with_reducible refine' k_fa ?k1 ?k2 pt_Frame_hops rfl ?_); (case k1 => wtm_at "g_own"); (case k2 => wtm_at "g_put"); intro HH ww)
  | ((with_reducible show kFA _ _ "marked" _ _ _ _); (with_reducible refine' k_fa ?k1 ?k2 pt_Frame_marked rfl ?_); (case k1 => wtm_at "g_own"); (case k2 => wtm_at "g_put"); intro HH ww)
  | ((with_reducible show kFA _ _ "cost" _ _ _ _); (with_reducible refine' k_fa ?k1 ?k2 pt_LinkOptions_cost rfl ?_); (case k1 => wtm_at "g_own"); (case k2 => wtm_at "g_put"); intro HH ww)
  | ((with_reducible show kFA _ _ "part_size" _ _ _ _); (with_reducible refine' k_fa ?k1 ?k2 pt_LinkOptions_part_size rfl ?_); (case k1 => wtm_at "g_own"); (case k2 => wtm_at "g_put"); intro HH ww)
  | ((with_reducible show kFA _ _ "rate" _ _ _ _); (with_reducible refine' k_fa ?k1 ?k2 pt_LinkOptions_rate rfl ?_); (case k1 => wtm_at "g_own"); (case k2 => wtm_at "g_put"); intro HH ww)
  | ((with_reducible show kFA _ _ "depth" _ _ _ _); (with_reducible refine' k_fa ?k1 ?k2 pt_LinkOptions_depth rfl ?_); (case k1 => wtm_at "g_own"); (case k2 => wtm_at "g_put"); intro HH ww)
  | ((with_reducible show kFA _ _ "limit" _ _ _ _); (with_reducible refine' k_fa ?k1 ?k2 pt_LinkOptions_limit rfl ?_); (case k1 => wtm_at "g_own"); (case k2 => wtm_at "g_put"); intro HH ww)
  | ((with_reducible show kFA _ _ "delay" _ _ _ _); (with_reducible refine' k_fa ?k1 ?k2 pt_LinkOptions_delay rfl ?_); (case k1 => wtm_at "g_own"); (case k2 => wtm_at "g_put"); intro HH ww)
  | ((with_reducible show kFA _ _ "options" _ _ _ _); (with_reducible refine' k_fa ?k1 ?k2 pt_Line_options rfl ?_); (case k1 => wtm_at "g_own"); (case k2 => wtm_at "g_put"); intro HH ww)
  | ((with_reducible show kFA _ _ "queue" _ _ _ _); (with_reducible refine' k_fa ?k1 ?k2 pt_Line_queue rfl ?_); (case k1 => wtm_at "g_own"); (case k2 => wtm_at "g_put"); intro HH ww)
  | ((with_reducible show kFA _ _ "bucket" _ _ _ _); (with_reducible refine' k_fa ?k1 ?k2 pt_Line_bucket rfl ?_); (case k1 => wtm_at "g_own"); (case k2 => wtm_at "g_put"); intro HH ww)
  | ((with_reducible show kFA _ _ "flying" _ _ _ _); (with_reducible refine' k_fa ?k1 ?k2 pt_Line_flying rfl ?_); (case k1 => wtm_at "g_own"); (case k2 => wtm_at "g_put"); intro HH ww)
  | ((with_reducible show kFA _ _ "is_up" _ _ _ _); (with_reducible refine' k_fa ?k1 ?k2 pt_Line_is_up rfl ?_); (case k1 => wtm_at "g_own"); (case k2 => wtm_at "g_put"); intro HH ww)
  | fail)
local macro_rules | `(tactic| wtm_at "g_mt") => `(tactic| first
  | ((with_reducible show kMt _ "add" _ _ _); (with_reducible refine' w_mt1 ?k1 ln_Flow_add ?_); (case k1 => wtm_at "g_hp"))
  | ((with_reducible show kMt _ "take" _ _ _); (with_reducible refine' w_mt1 ?k1 ln_Flow_take ?_); (case k1 => wtm_at "g_hp"))
  | ((with_reducible show kMt _ "fork" _ _ _); (with_reducible refine' w_mt1 ?k1 ln_Flow_fork ?_); (case k1 => wtm_at "g_hp"))
  | ((with_reducible show kMt _ "count" _ _ _); (with_reducible refine' w_mt1 ?k1 ln_FairQueue_count ?_); (case k1 => wtm_at "g_hp"))
  | ((with_reducible show kMt _ "octets" _ _ _); (with_reducible refine' w_mt1 ?k1 ln_FairQueue_octets ?_); (case k1 => wtm_at "g_hp"))
  | ((with_reducible show kMt _ "flow_of" _ _ _); (with_reducible refine' w_mt1 ?k1 ln_FairQueue_flow_of ?_); (case k1 => wtm_at "g_hp"))
  | ((with_reducible show kMt _ "remove_flow" _ _ _); (with_reducible refine' w_mt1 ?k1 ln_FairQueue_remove_flow ?_); (case k1 => wtm_at "g_hp"))
  | ((with_reducible show kMt _ "put" _ _ _); (with_reducible refine' w_mt1 ?k1 ln_FairQueue_put ?_); (case k1 => wtm_at "g_hp"))
  | ((with_reducible show kMt _ "drop" _ _ _); (with_reducible refine' w_mt1 ?k1 ln_FairQueue_drop ?_); (case k1 => wtm_at "g_hp"))
  | ((with_reducible show kMt _ "turn" _ _ _); (with_reducible refine' w_mt1 ?k1 ln_FairQueue_turn ?_); (case k1 => wtm_at "g_hp"))
  | ((with_reducible show kMt _ "next_up" _ _ _); (with_reducible refine' w_mt1 ?k1 ln_FairQueue_next_up ?_); (case k1 => wtm_at "g_hp"))
  | ((with_reducible show kMt _ "take" _ _ _); (with_reducible refine' w_mt1 ?k1 ln_FairQueue_take ?_); (case k1 => wtm_at "g_hp"))
  | ((with_reducible show kMt _ "take_all" _ _ _); (with_reducible refine' w_mt1 ?k1 ln_FairQueue_take_all ?_); (case k1 => wtm_at "g_hp"))
  | ((with_reducible show kMt _ "fork" _ _ _); (with_reducible refine' w_mt1 ?k1 ln_FairQueue_fork ?_); (case k1 => wtm_at "g_hp"))
  | ((with_reducible show kMt _ "tick" _ _ _); (with_reducible refine' w_mt1 ?k1 ln_Bucket_tick ?_); (case k1 => wtm_at "g_hp"))
  | ((with_reducible show kMt _ "take" _ _ _); (with_reducible refine' w_mt1 ?k1 ln_Bucket_take ?_); (case k1 => wtm_at "g_hp"))
  | ((with_reducible show kMt _ "fork" _ _ _); (with_reducible refine' w_mt1 ?k1 ln_Bucket_fork ?_); (case k1 => wtm_at "g_hp"))
  | ((with_reducible show kMt _ "__eq__" _ _ _); (with_reducible refine' w_mt1 ?k1 ln_Frame___eq__ ?_); (case k1 => wtm_at "g_hp"))
  | ((with_reducible show kMt _ "as_row" _ _ _); (with_reducible refine' w_mt1 ?k1 ln_Frame_as_row ?_); (case k1 => wtm_at "g_hp"))
  | ((with_reducible show kMt _ "weight" _ _ _); (with_reducible refine' w_mt1 ?k1 ln_Frame_weight ?_); (case k1 => wtm_at "g_hp"))
  | ((with_reducible show kMt _ "flow_key" _ _ _); (with_reducible refine' w_mt1 ?k1 ln_Frame_flow_key ?_); (case k1 => wtm_at "g_hp"))
  | ((with_reducible show kMt _ "with_mark" _ _ _); (with_reducible refine' w_mt1 ?k1 ln_Frame_with_mark ?_); (case k1 => wtm_at "g_hp"))
  | ((with_reducible show kMt _ "after_hop" _ _ _); (with_reducible refine' w_mt1 ?k1 ln_Frame_after_hop ?_); (case k1 => wtm_at "g_hp"))
  | ((with_reducible show kMt _ "count" _ _ _); (with_reducible refine' w_mt1 ?k1 ln_Line_count ?_); (case k1 => wtm_at "g_hp"))
  | ((with_reducible show kMt _ "put" _ _ _); (with_reducible refine' w_mt1 ?k1 ln_Line_put ?_); (case k1 => wtm_at "g_hp"))
  | ((with_reducible show kMt _ "tick" _ _ _); (with_reducible refine' w_mt1 ?k1 ln_Line_tick ?_); (case k1 => wtm_at "g_hp"))
  | ((with_reducible show kMt _ "cut" _ _ _); (with_reducible refine' w_mt1 ?k1 ln_Line_cut ?_); (case k1 => wtm_at "g_hp"))
  | ((with_reducible show kMt _ "join" _ _ _); (with_reducible refine' w_mt1 ?k1 ln_Line_join ?_); (case k1 => wtm_at "g_hp"))
  | ((with_reducible show kMt _ "fork" _ _ _); (with_reducible refine' w_mt1 ?k1 ln_Line_fork ?_); (case k1 => wtm_at "g_hp"))
  | fail)
local macro_rules | `(tactic| wtm_at "g_mkk") => `(tactic| first
  | ((with_reducible refine' k_mkK' (fun _ => gk_Frame_init_k0) rfl rfl ?k1 ?_); (case k1 => wtm_at "g_own"); intro p dx HH ww)
  | ((with_reducible refine' k_mkK' (fun _ => gk_Frame_init_k1) rfl rfl ?k1 ?_); (case k1 => wtm_at "g_own"); intro p dx HH ww)
  | ((with_reducible refine' k_mkK' (fun _ => gk_LinkOptions_init_k2) rfl rfl ?k1 ?_); (case k1 => wtm_at "g_own"); intro p dx HH ww)
  | fail)
local macro_rules | `(tactic| wtm_at "g_callf") => `(tactic| first
  | ((with_reducible refine' c_Waiting_init ?k1 ?k2 ?k3 ?_); (case k1 => wtm_at "g_own"); (case k2 => wtm_at "g_pk"); (case k3 => wtm_at "g_pk"); intro HH ww)
  | ((with_reducible refine' c_Flow_init ?k1 ?k2 ?k3 ?_); (case k1 => wtm_at "g_own"); (case k2 => wtm_at "g_pk"); (case k3 => wtm_at "g_pk"); intro HH ww)
  | ((with_reducible refine' c_octets ?k0 ?k1 ?k2 ?_); (case k1 => wtm_at "g_own"); (case k2 => wtm_at "g_pk"); (case k0 => omega); intro HH ww)
  | ((with_reducible refine' w_fldT tell_qu_lim ?k1 ?k2 (cl_FairQueue (by assumption)) (na_FairQueue_limit (by assumption)) ?_); (case k1 => wtm_at "g_own"); (case k2 => wtm_at "g_pk"); intro dz fz; (try clear fz dz))
  | ((with_reducible refine' w_fldT tell_qu_q ?k1 ?k2 (cl_FairQueue (by assumption)) (na_FairQueue_quantum (by assumption)) ?_); (case k1 => wtm_at "g_own"); (case k2 => wtm_at "g_pk"); intro dz fz; (try clear fz dz))
  | ((with_reducible refine' w_fldT tell_wt_w ?k1 ?k2 (cl_Waiting (by assumption)) (na_Waiting_weight (by assumption)) ?_); (case k1 => wtm_at "g_own"); (case k2 => wtm_at "g_pk"); intro dz fz; (try clear fz dz))
  | ((with_reducible refine' w_fldT tell_wt_i ?k1 ?k2 (cl_Waiting (by assumption)) (na_Waiting_item (by assumption)) ?_); (case k1 => wtm_at "g_own"); (case k2 => wtm_at "g_pk"); intro dz fz; (try clear fz dz))
  | ((with_reducible refine' w_mtT (tell_qu_m ln_FairQueue_octets) ?k1 ?k2 ?_); (case k1 => wtm_at "g_own"); (case k2 => wtm_at "g_pk"))
  | ((with_reducible refine' w_mtT (tell_qu_m ln_FairQueue_drop) ?k1 ?k2 ?_); (case k1 => wtm_at "g_own"); (case k2 => wtm_at "g_pk"))
  | ((with_reducible refine' w_mtT (tell_qu_m ln_FairQueue_turn) ?k1 ?k2 ?_); (case k1 => wtm_at "g_own"); (case k2 => wtm_at "g_pk"))
  | ((with_reducible refine' w_mtT (tell_qu_m ln_FairQueue_next_up) ?k1 ?k2 ?_); (case k1 => wtm_at "g_own"); (case k2 => wtm_at "g_pk"))
  | ((with_reducible refine' w_mtT (tell_qu_m ln_FairQueue_remove_flow) ?k1 ?k2 ?_); (case k1 => wtm_at "g_own"); (case k2 => wtm_at "g_pk"))
  | ((with_reducible refine' w_mtT (tell_fl_m ln_Flow_add) ?k1 ?k2 ?_); (case k1 => wtm_at "g_own"); (case k2 => wtm_at "g_pk"))
  | ((with_reducible refine' w_mtT (tell_fl_m ln_Flow_take) ?k1 ?k2 ?_); (case k1 => wtm_at "g_own"); (case k2 => wtm_at "g_pk"))
  | fail)
local macro_rules | `(tactic| wtm_at "g_callfl") => `(tactic| first
  | ((with_reducible refine' w_mtT (tell_qu_m ln_FairQueue_count) ?k1 ?k2 ?_); (case k1 => wtm_at "g_own"); (case k2 => wtm_at "g_pk"))
  | ((with_reducible refine' w_mtT (tell_qu_m ln_FairQueue_put) ?k1 ?k2 ?_); (case k1 => wtm_at "g_own"); (case k2 => wtm_at "g_pk"))
  | ((with_reducible refine' w_mtT (tell_qu_m ln_FairQueue_take) ?k1 ?k2 ?_); (case k1 => wtm_at "g_own"); (case k2 => wtm_at "g_pk"))
  | ((with_reducible refine' w_mtT (tell_qu_m ln_FairQueue_take_all) ?k1 ?k2 ?_); (case k1 => wtm_at "g_own"); (case k2 => wtm_at "g_pk"))
  | ((with_reducible refine' w_mtT (tell_qu_m ln_FairQueue_fork) ?k1 ?k2 ?_); (case k1 => wtm_at "g_own"); (case k2 => wtm_at "g_pk"))
  | ((with_reducible refine' w_mtT (tell_fl_m ln_Flow_fork) ?k1 ?k2 ?_); (case k1 => wtm_at "g_own"); (case k2 => wtm_at "g_pk"))
  | ((with_reducible refine' w_mtT (tell_fr_m ln_Frame_as_row) ?k1 ?k2 ?_); (case k1 => wtm_at "g_own"); (case k2 => wtm_at "g_pk"))
  | ((with_reducible refine' w_mtT (tell_fr_m ln_Frame_weight) ?k1 ?k2 ?_); (case k1 => wtm_at "g_own"); (case k2 => wtm_at "g_pk"))
  | ((with_reducible refine' w_mtT (tell_fr_m ln_Frame_flow_key) ?k1 ?k2 ?_); (case k1 => wtm_at "g_own"); (case k2 => wtm_at "g_pk"))
  | ((with_reducible refine' w_mtT (tell_fr_m ln_Frame_with_mark) ?k1 ?k2 ?_); (case k1 => wtm_at "g_own"); (case k2 => wtm_at "g_pk"))
  | ((with_reducible refine' w_mtT (tell_fr_m ln_Frame_after_hop) ?k1 ?k2 ?_); (case k1 => wtm_at "g_own"); (case k2 => wtm_at "g_pk"))
  | ((with_reducible refine' w_mtT (tell_bu_m ln_Bucket_tick) ?k1 ?k2 ?_); (case k1 => wtm_at "g_own"); (case k2 => wtm_at "g_pk"))
  | ((with_reducible refine' w_mtT (tell_bu_m ln_Bucket_take) ?k1 ?k2 ?_); (case k1 => wtm_at "g_own"); (case k2 => wtm_at "g_pk"))
  | ((with_reducible refine' w_mtT (tell_bu_m ln_Bucket_fork) ?k1 ?k2 ?_); (case k1 => wtm_at "g_own"); (case k2 => wtm_at "g_pk"))
  | ((with_reducible refine' w_mtT (tell_ln_m ln_Line_count) ?k1 ?k2 ?_); (case k1 => wtm_at "g_own"); (case k2 => wtm_at "g_pk"))
  | ((with_reducible refine' w_mtT (tell_ln_m ln_Line_put) ?k1 ?k2 ?_); (case k1 => wtm_at "g_own"); (case k2 => wtm_at "g_pk"))
  | ((with_reducible refine' w_mtT (tell_ln_m ln_Line_tick) ?k1 ?k2 ?_); (case k1 => wtm_at "g_own"); (case k2 => wtm_at "g_pk"))
  | ((with_reducible refine' w_mtT (tell_ln_m ln_Line_cut) ?k1 ?k2 ?_); (case k1 => wtm_at "g_own"); (case k2 => wtm_at "g_pk"))
  | ((with_reducible refine' w_mtT (tell_ln_m ln_Line_join) ?k1 ?k2 ?_); (case k1 => wtm_at "g_own"); (case k2 => wtm_at "g_pk"))
  | ((with_reducible refine' w_mtT (tell_ln_m ln_Line_fork) ?k1 ?k2 ?_); (case k1 => wtm_at "g_own"); (case k2 => wtm_at "g_pk"))
  | ((with_reducible refine' w_fldT tell_fr_kind ?k1 ?k2 (cl_Frame (by assumption)) (na_Frame_kind (by assumption)) ?_); (case k1 => wtm_at "g_own"); (case k2 => wtm_at "g_pk"); intro dz fz; (try clear fz dz))
  | ((with_reducible refine' w_fldT tell_fr_sender ?k1 ?k2 (cl_Frame (by assumption)) (na_Frame_sender (by assumption)) ?_); (case k1 => wtm_at "g_own"); (case k2 => wtm_at "g_pk"); intro dz fz; (try clear fz dz))
  | ((with_reducible refine' w_fldT tell_fr_target ?k1 ?k2 (cl_Frame (by assumption)) (na_Frame_target (by assumption)) ?_); (case k1 => wtm_at "g_own"); (case k2 => wtm_at "g_pk"); intro dz fz; (try clear fz dz))
  | ((with_reducible refine' w_fldT tell_fr_birth ?k1 ?k2 (cl_Frame (by assumption)) (na_Frame_birth (by assumption)) ?_); (case k1 => wtm_at "g_own"); (case k2 => wtm_at "g_pk"); intro dz fz; (try clear fz dz))
  | ((with_reducible refine' w_fldT tell_fr_hops ?k1 ?k2 (cl_Frame (by assumption)) (na_Frame_hops (by assumption)) ?_); (case k1 => wtm_at "g_own"); (case k2 => wtm_at "g_pk"); intro dz fz; (try clear fz dz))
  | ((with_reducible refine' w_fldT tell_fr_marked ?k1 ?k2 (cl_Frame (by assumption)) (na_Frame_marked (by assumption)) ?_); (case k1 => wtm_at "g_own"); (case k2 => wtm_at "g_pk"); intro dz fz; (try clear fz dz))
  | ((with_reducible refine' w_fldT tell_lo_rate ?k1 ?k2 (cl_LinkOptions (by assumption)) (na_LinkOptions_rate (by assumption)) ?_); (case k1 => wtm_at "g_own"); (case k2 => wtm_at "g_pk"); intro dz fz; (try clear fz dz))
  | ((with_reducible refine' w_fldT tell_lo_depth ?k1 ?k2 (cl_LinkOptions (by assumption)) (na_LinkOptions_depth (by assumption)) ?_); (case k1 => wtm_at "g_own"); (case k2 => wtm_at "g_pk"); intro dz fz; (try clear fz dz))
  | ((with_reducible refine' w_fldT tell_lo_limit ?k1 ?k2 (cl_LinkOptions (by assumption)) (na_LinkOptions_limit (by assumption)) ?_); (case k1 => wtm_at "g_own"); (case k2 => wtm_at "g_pk"); intro dz fz; (try clear fz dz))
  | ((with_reducible refine' w_fldT tell_lo_delay ?k1 ?k2 (cl_LinkOptions (by assumption)) (na_LinkOptions_delay (by assumption)) ?_); (case k1 => wtm_at "g_own"); (case k2 => wtm_at "g_pk"); intro dz fz; (try clear fz dz))
  | ((with_reducible refine' w_fldT tell_lo_size ?k1 ?k2 (cl_LinkOptions (by assumption)) (na_LinkOptions_part_size (by assumption)) ?_); (case k1 => wtm_at "g_own"); (case k2 => wtm_at "g_pk"); intro dz fz; (try clear fz dz))
  | ((with_reducible refine' w_fldT tell_ln_up ?k1 ?k2 (cl_Line (by assumption)) (na_Line_is_up (by assumption)) ?_); (case k1 => wtm_at "g_own"); (case k2 => wtm_at "g_pk"); intro dz fz; (try clear fz dz))
  | ((with_reducible refine' c_weight ?k1 ?k2 ?_); (case k1 => wtm_at "g_own"); (case k2 => wtm_at "g_pk"); intro HH ww)
  | ((with_reducible refine' c_key ?k1 ?k2 ?_); (case k1 => wtm_at "g_own"); (case k2 => wtm_at "g_pk"); intro HH tt ww)
  | ((with_reducible refine' c_mark ?k0 ?k1 ?k2 ?_); (case k1 => wtm_at "g_own"); (case k2 => wtm_at "g_pk"); (case k0 => omega); intro HH tt ww)
  | ((with_reducible refine' c_btick ?k1 ?k2 ?_); (case k1 => wtm_at "g_own"); (case k2 => wtm_at "g_pk"); intro HH ww)
  | ((with_reducible refine' c_bfork ?k3 ?k4 ?k1 ?k2 ?_); (case k1 => wtm_at "g_own"); (case k2 => wtm_at "g_pk"); (case k3 => with_reducible assumption); (case k4 => with_reducible assumption); intro HH tt ww)
  | ((with_reducible refine' c_qcount ?k3 ?k4 ?k1 ?k2 ?_); (case k1 => wtm_at "g_own"); (case k2 => wtm_at "g_pk"); (case k3 => omega); (case k4 => omega); intro HH ww)
  | ((with_reducible refine' c_qall ?k3 ?k1 ?k2 ?_); (case k1 => wtm_at "g_own"); (case k2 => wtm_at "g_pk"); (case k3 => omega); intro HH tt ws ww)
  | fail)
local macro_rules | `(tactic| wtm_at "g_calltup") => `(tactic| first
  | fail)
local macro_rules | `(tactic| wtm_at "g_call") => `(tactic| first
  | wtm_at "g_callf"
  | wtm_at "g_callfl"
  | wtm_at "g_calltup"
  | ((with_reducible refine' c_values ?k0 ?k1 ?k2 ?_); (case k1 => wtm_at "g_own"); (case k2 => wtm_at "g_pk"); (case k0 => omega); intro HH tt ww)
  | fail)
local macro_rules | `(tactic| wtm_at "g_own") => `(tactic| first
  | (with_reducible assumption)
  | ((with_reducible refine' Own.newT ?k1 ?k2); (case k1 => with_reducible assumption); (case k2 => wtm_at "g_own"))
  | ((with_reducible refine' Own.new ?k1 ?k2); (case k1 => with_reducible assumption); (case k2 => wtm_at "g_own"))
  | ((with_reducible refine' Own.put ?k1 ?k2); (case k1 => wtm_at "g_own"); (case k2 => wtm_at "g_put"))
  | ((with_reducible refine' Own.sel ?k1 ?k2); (case k1 => with_reducible assumption); (case k2 => wtm_at "g_sel"))
  | fail)
local macro_rules | `(tactic| wtm_at "g_sel") => `(tactic| first
  | (with_reducible exact Sel.rf) | (with_reducible exact Sel.nil)
  | ((first
      | ((with_reducible refine' Sel.cons ?k1 ?_); (case k1 => wtm_at "g_pk"))
      | (with_reducible refine' Sel.drop ?_)
      | fail); wtm_at "g_sel")
  | fail)
local macro_rules | `(tactic| wtm_at "g_got") => `(tactic| first
  | (with_reducible assumption) | (with_reducible exact Got.here)
  | ((with_reducible refine' Got.next ?k1); (case k1 => wtm_at "g_got"))
  | fail)
local macro_rules | `(tactic| wtm_at "g_gl") => `(tactic| first
  | (with_reducible assumption) | (with_reducible exact GotL.here) | (with_reducible exact GotL.hereS)
  | ((with_reducible refine' GotL.next ?k1); (case k1 => wtm_at "g_gl"))
  | fail)
local macro_rules | `(tactic| wtm_at "g_put") => `(tactic| first
  | (with_reducible assumption) | (with_reducible exact Put.here)
  | ((with_reducible refine' Put.next ?k1); (case k1 => wtm_at "g_put"))
  | fail)
local macro_rules | `(tactic| wtm_at "g_pk") => `(tactic| first
  | (with_reducible assumption) | (with_reducible exact Pick.keep) | (with_reducible exact Pick.here)
  | ((with_reducible refine' Pick.next ?k1); (case k1 => wtm_at "g_pk"))
  | fail)
local macro_rules | `(tactic| wtm_at "g_hp") => `(tactic| first
  | (with_reducible assumption) | (with_reducible exact upd_same)
  | ((with_reducible refine' Own.get ?k1 ?k2); (case k1 => wtm_at "g_own"); (case k2 => wtm_at "g_got"))
  | fail)
local macro_rules | `(tactic| wtm_at "g_sq") => `(tactic| first
  | (with_reducible assumption)
  | ((with_reducible refine' Own.sql ?k1 ?k2); (case k1 => wtm_at "g_own"); (case k2 => wtm_at "g_gl"))
  | ((with_reducible refine' SqL.of ?k1); (case k1 => wtm_at "g_hp"))
  | fail)
local macro_rules | `(tactic| wtm_at "g_sqt") => `(tactic| first
  | (with_reducible assumption) | ((with_reducible refine' SqT.of' ?k1); (case k1 => wtm_at "g_hp"))
  | fail)
local macro_rules | `(tactic| wtm_at "g_sz") => `(tactic| first
  | (with_reducible assumption) | (exact small_le rfl)
  | ((with_reducible refine' small16 ?k1); (case k1 => (try simp only [List.length_append, List.length_map, List.length_cons, List.length_nil, List.length_take, List.length_drop, List.length_set, List.length_range]); omega))
  | ((with_reducible refine' small16l ?k1); (case k1 => (try simp only [List.length_append, List.length_map, List.length_cons, List.length_nil, List.length_take, List.length_drop, List.length_set, List.length_range]); omega))
  | fail)
local macro_rules | `(tactic| wtm_at "g_gd") => `(tactic| first
  | (with_reducible assumption) | (with_reducible exact GotD.here) | (with_reducible exact GotD.hereR) | (with_reducible exact GotD.ints)
  | ((with_reducible refine' GotD.next ?k1); (case k1 => wtm_at "g_gd"))
  | fail)
local macro_rules | `(tactic| wtm_at "g_dp") => `(tactic| first
  | (with_reducible assumption)
  | ((with_reducible refine' Own.dpG ?k1 ?k2); (case k1 => wtm_at "g_own"); (case k2 => wtm_at "g_gd"))
  | fail)
local macro_rules | `(tactic| wtm_at "g_ar") => `(tactic| first
  | decide | (exact ⟨by decide, by decide⟩) | (exact Or.inr ⟨by decide, by decide⟩) | (exact Or.inl ⟨by decide, by decide⟩) | omega | (exact Or.inr ⟨by omega, by omega⟩) | (exact Or.inl ⟨by omega, by omega⟩) | (exact ⟨by omega, by omega⟩)
  | fail)
local macro_rules | `(tactic| wtm_at "g_ow") => `(tactic| first
  | wtm_at "g_own"
  | ((simp only [List.map_cons, List.map_nil]); wtm_at "g_own")
  | fail)
local macro_rules | `(tactic| wtm_at "g_callc") => `(tactic| first
  | ((with_reducible refine' o_digit ?k1 ?k2 ?k3 ?k4 ?_); (case k1 => wtm_at "g_own"); (case k2 => wtm_at "g_pk"); (case k3 => omega); (case k4 => omega); intro d HH d0 d1 ww)
  | ((with_reducible refine' o_start ?k1 ?_); (case k1 => wtm_at "g_own"); intro p HH ww)
  | ((with_reducible refine' c_cell ?k1 ?k2 ?_); (case k1 => wtm_at "g_sq"); (case k2 => omega); intro n)
  | ((with_reducible refine' c_isint ?_))
  | fail)
local macro_rules | `(tactic| wtm_at "g_st") => `(tactic| first
  | (with_reducible first | refine Stp.go ?_ | refine w_var rfl ?_ | refine w_small rfl ?_ | refine w_aug rfl ?_)
  | ((with_reducible show kTup _ _ _); first
      | ((with_reducible refine' k_tup rfl ?k1 ?_); (case k1 => wtm_at "g_own"); intro p HH ww)
      | fail)
  | ((with_reducible show kLst _ _ _); first
      | ((with_reducible refine' k_lst1R ?k1 ?_); (case k1 => wtm_at "g_own"); intro p HH ww)
      | ((with_reducible refine' k_lst1I ?k1 ?_); (case k1 => wtm_at "g_own"); intro p HH ww)
      | ((with_reducible refine' k_lst rfl ?k1 ?_); (case k1 => wtm_at "g_own"); intro p HH ww)
      | fail)
  | ((with_reducible show kMk _ _ _ _ _ _ _); first
      | ((with_reducible refine' k_mk ?k1 ?_); (case k1 => wtm_at "g_own"); intro p dx HH ww)
      | fail)
  | ((with_reducible show kMkK _ _ _ _ _ _ _ _ _ _ _); first
      | wtm_at "g_mkk"
      | fail)
  | ((with_reducible show gListOf _ _ _ _); first
      | ((with_reducible refine' k_listL ?k1 ?k2 ?_); (case k1 => wtm_at "g_own"); (case k2 => wtm_at "g_sq"); intro p HH ww)
      | ((with_reducible refine' k_listT ?k1 ?k2 ?_); (case k1 => wtm_at "g_own"); (case k2 => wtm_at "g_sqt"); intro p HH ww)
      | fail)
  | ((with_reducible show gTupOf _ _ _ _); first
      | ((with_reducible refine' k_tupL ?k1 ?k2 ?_); (case k1 => wtm_at "g_own"); (case k2 => wtm_at "g_sq"); intro p HH ww)
      | fail)
  | ((with_reducible show rSlL _ _ _ _ _ _); first
      | ((with_reducible refine' k_slfromRs ?k1 ?k2 ?_); (case k1 => wtm_at "g_own"); (case k2 => wtm_at "g_sq"); intro p HH ww)
      | ((with_reducible refine' k_slfromR1 ?k1 ?k2 ?_); (case k1 => wtm_at "g_own"); (case k2 => wtm_at "g_sq"); intro p HH ww)
      | ((with_reducible refine' k_slfromRn ?k1 ?k2 ?_); (case k1 => wtm_at "g_own"); (case k2 => wtm_at "g_sq"); intro p HH ww)
      | ((with_reducible refine' k_sltoR1 ?k1 ?k2 ?_); (case k1 => wtm_at "g_own"); (case k2 => wtm_at "g_sq"); intro p HH ww)
      | ((with_reducible refine' k_sltoRn ?k1 ?k2 ?_); (case k1 => wtm_at "g_own"); (case k2 => wtm_at "g_sq"); intro p HH ww)
      | ((with_reducible refine' k_slfromIs ?k1 ?k2 ?_); (case k1 => wtm_at "g_own"); (case k2 => wtm_at "g_sq"); intro p HH ww)
      | ((with_reducible refine' k_slfromI1 ?k1 ?k2 ?_); (case k1 => wtm_at "g_own"); (case k2 => wtm_at "g_sq"); intro p HH ww)
      | ((with_reducible refine' k_slfromIn ?k1 ?k2 ?_); (case k1 => wtm_at "g_own"); (case k2 => wtm_at "g_sq"); intro p HH ww)
      | ((with_reducible refine' k_sltoI1 ?k1 ?k2 ?_); (case k1 => wtm_at "g_own"); (case k2 => wtm_at "g_sq"); intro p HH ww)
      | ((with_reducible refine' k_sltoIn ?k1 ?k2 ?_); (case k1 => wtm_at "g_own"); (case k2 => wtm_at "g_sq"); intro p HH ww)
      | ((with_reducible refine' k_slfromI ?k1 ?k2 ?k3 ?_); (case k1 => wtm_at "g_own"); (case k2 => wtm_at "g_sq"); (case k3 => omega); intro p HH ww)
      | ((with_reducible refine' k_sltoI ?k1 ?k2 ?k3 ?_); (case k1 => wtm_at "g_own"); (case k2 => wtm_at "g_sq"); (case k3 => omega); intro p HH ww)
      | ((with_reducible refine' k_slmidI ?k1 ?k2 ?k3 ?k4 ?_); (case k1 => wtm_at "g_own"); (case k2 => wtm_at "g_sq"); (case k3 => omega); (case k4 => omega); intro p HH ww)
      | ((with_reducible refine' k_slfromR ?k1 ?k2 ?k3 ?_); (case k1 => wtm_at "g_own"); (case k2 => wtm_at "g_sq"); (case k3 => omega); intro p HH ww)
      | ((with_reducible refine' k_sltoR ?k1 ?k2 ?k3 ?_); (case k1 => wtm_at "g_own"); (case k2 => wtm_at "g_sq"); (case k3 => omega); intro p HH ww)
      | ((with_reducible refine' k_slfrom ?k1 ?k2 ?k3 ?_); (case k1 => wtm_at "g_own"); (case k2 => wtm_at "g_sq"); (case k3 => omega); intro p HH ww)
      | ((with_reducible refine' k_slto ?k1 ?k2 ?k3 ?_); (case k1 => wtm_at "g_own"); (case k2 => wtm_at "g_sq"); (case k3 => omega); intro p HH ww)
      | ((with_reducible refine' k_slmid ?k1 ?k2 ?k3 ?k4 ?_); (case k1 => wtm_at "g_own"); (case k2 => wtm_at "g_sq"); (case k3 => omega); (case k4 => omega); intro p HH ww)
      | ((with_reducible refine' k_slinitR ?k1 ?k2 ?_); (case k1 => wtm_at "g_own"); (case k2 => wtm_at "g_sq"); intro p HH ww)
      | fail)
  | ((with_reducible show rCat _ _ _ _); first
      | ((with_reducible refine' k_catI ?k1 ?k2 ?k3 ?k4 ?_); (case k1 => wtm_at "g_own"); (case k2 => wtm_at "g_got"); (case k3 => wtm_at "g_got"); (case k4 => wtm_at "g_sz"); intro p HH ww)
      | ((with_reducible refine' k_catR ?k1 ?k2 ?k3 ?k4 ?_); (case k1 => wtm_at "g_own"); (case k2 => wtm_at "g_got"); (case k3 => wtm_at "g_got"); (case k4 => wtm_at "g_sz"); intro p HH ww)
      | ((with_reducible refine' k_cat ?k1 ?k2 ?k3 ?k4 ?_); (case k1 => wtm_at "g_own"); (case k2 => wtm_at "g_got"); (case k3 => wtm_at "g_got"); (case k4 => wtm_at "g_sz"); intro p HH ww)
      | fail)
  | ((with_reducible show rAppend _ _ _ _); first
      | ((with_reducible refine' k_appI ?k1 ?k2 ?k3 ?_); (case k1 => wtm_at "g_own"); (case k2 => wtm_at "g_put"); (case k3 => wtm_at "g_sz"); intro HH ww)
      | ((with_reducible refine' k_appR ?k1 ?k2 ?k3 ?_); (case k1 => wtm_at "g_own"); (case k2 => wtm_at "g_put"); (case k3 => wtm_at "g_sz"); intro HH ww)
      | ((with_reducible refine' k_app ?k1 ?k2 ?k3 ?_); (case k1 => wtm_at "g_own"); (case k2 => wtm_at "g_put"); (case k3 => wtm_at "g_sz"); intro HH ww)
      | fail)
  | ((with_reducible show rExtend _ _ _ _); first
      | ((with_reducible refine' k_extendI ?k1 ?k2 ?k3 ?k4 ?_); (case k1 => wtm_at "g_own"); (case k2 => wtm_at "g_put"); (case k3 => wtm_at "g_got"); (case k4 => wtm_at "g_sz"); intro HH ww)
      | fail)
  | ((with_reducible refine' ty_list ?k1 ?_); (case k1 => wtm_at "g_hp"))
  | ((with_reducible refine' k_truR ?k1 ?_); (case k1 => wtm_at "g_sq"))
  | ((with_reducible refine' k_truI ?k1 ?_); (case k1 => wtm_at "g_sq"))
  | ((with_reducible refine' k_truL ?k1 ?_); (case k1 => wtm_at "g_sq"))
  | ((with_reducible show gLen _ _ _ _); first
      | ((with_reducible refine' w_lenLI ?k1 ?_); (case k1 => wtm_at "g_sq"))
      | ((with_reducible refine' w_lenLR ?k1 ?_); (case k1 => wtm_at "g_sq"))
      | ((with_reducible refine' w_lenL ?k1 ?_); (case k1 => wtm_at "g_sq"))
      | ((with_reducible refine' w_lenT ?k1 ?_); (case k1 => wtm_at "g_sqt"))
      | fail)
  | ((with_reducible show rIxT _ _ _ _ _); first
      | ((with_reducible refine' w_ixT ?k1 ?k2 ?_); (case k1 => wtm_at "g_sqt"); (case k2 => first | rfl | fail))
      | fail)
  | ((with_reducible show rIxL _ _ _ _ _); first
      | ((with_reducible refine' w_ixRc ?k1 ?_); (case k1 => wtm_at "g_sq"))
      | ((with_reducible refine' w_ixR0 ?k1 ?k2 ?_); (case k1 => wtm_at "g_sq"); (case k2 => with_reducible assumption))
      | ((with_reducible refine' w_ixR ?k1 ?k2 ?_); (case k1 => wtm_at "g_sq"); (case k2 => with_reducible assumption))
      | ((with_reducible refine' w_ixLastR ?k1 ?k2 ?_); (case k1 => wtm_at "g_sq"); (case k2 => with_reducible assumption))
      | ((with_reducible refine' w_ixI ?k1 ?k2 ?k3 ?_); (case k1 => wtm_at "g_sq"); (case k2 => omega); (case k3 => omega))
      | fail)
  | ((with_reducible show gTup _ _ _ _ _ _ _); first
      | ((with_reducible refine' w_gTup ?k1 ?k2 ?_); (case k1 => wtm_at "g_sqt"); (case k2 => rfl))
      | fail)
  | (with_reducible refine w_gCons ?_)
  | (with_reducible refine w_gNil ?_)
  | ((with_reducible show rI _ _ _ _ _ _); first
      | ((with_reducible refine' w_I ?k1 ?_); (case k1 => wtm_at "g_ar"))
      | fail)
  | ((with_reducible show rReverse _ _ _ _); first
      | ((with_reducible refine' k_reverse ?k1 ?k2 ?_); (case k1 => wtm_at "g_own"); (case k2 => wtm_at "g_put"); intro HH ww)
      | fail)
  | ((with_reducible show rIsi _ _ _ _); first
      | ((with_reducible refine' w_isi_ll ?k1 ?_); (case k1 => wtm_at "g_hp"))
      | ((with_reducible refine' w_isi_tt ?k1 ?_); (case k1 => wtm_at "g_hp"))
      | ((with_reducible refine' w_isi_lt ?k1 ?_); (case k1 => wtm_at "g_hp"))
      | ((with_reducible refine' w_isi_tl ?k1 ?_); (case k1 => wtm_at "g_hp"))
      | fail)
  | ((with_reducible refine' w_ll ?k1 ?k2 ?_); (case k1 => rfl); (case k2 => rfl))
  | wtm_at "g_get"
  | wtm_at "g_mt"
  | ((with_reducible show kFld _ _ _ _ _ _ _); first
      | wtm_at "g_set"
      | fail)
  | ((with_reducible show kFA _ _ _ _ _ _ _); first
      | wtm_at "g_set2"
      | fail)
  | wtm_at "g_call"
  | wtm_at "g_callc"
  | wtm_at "g_get2"
  | fail)
local macro_rules | `(tactic| wtm_at "g_go") => `(tactic| repeat wtm_at "g_st")
local macro_rules | `(tactic| wtm_at "g_ifo") => `(tactic| first
  | (refine if_nno rfl ?_) | (refine if_yes rfl ?_)
  | (refine if_no (by omega) ?_)
  | (refine if_yes (by omega) ?_)
  | (refine if_nno (by omega) ?_)
  | (refine if_nyes (by omega) ?_)
  | (refine if_nno (decide_eq_false (by omega)).symm ?_)
  | (refine if_nno (decide_eq_true (by omega)).symm ?_)
  | fail)
local macro_rules | `(tactic| wtm_at "g_goo") => `(tactic| repeat (first | wtm_at "g_st" | wtm_at "g_ifo"))
section
variable {K : PySem.W.Frag} {mg : Str → Option Value} {base : Heap}
theorem pure_law_cell (T : TX K mg base) (vs : List V) (H : Hp) (Q : VK) (E : XK) (h : sp_law_cell K vs H Q E) : t_law_cell K E { nx := fun _ H' => Q .non H', rt := Q } (start N_law_cell vs) H := g_law_cell vs H Q E h
theorem pure_law_digit (T : TX K mg base) (vs : List V) (H : Hp) (Q : VK) (E : XK) (h : sp_law_digit K vs H Q E) : t_law_digit K E { nx := fun _ H' => Q .non H', rt := Q } (start N_law_digit vs) H := g_law_digit vs H Q E h
theorem pure_law_start (T : TX K mg base) (vs : List V) (H : Hp) (Q : VK) (E : XK) (h : sp_law_start K vs H Q E) : t_law_start K E { nx := fun _ H' => Q .non H', rt := Q } (start N_law_start vs) H := g_law_start vs H Q E h
end
section
variable {K : PySem.W.Frag} {mg : Str → Option Value} {base : Heap}
theorem pure_Waiting_init (T : TX K mg base) (vs : List V) (H : Hp) (Q : VK) (E : XK) (h : sp_Waiting_init K vs H Q E) : t_Waiting_init K E { nx := fun _ H' => Q .non H', rt := Q } (start N_Waiting_init vs) H := by
  obtain ⟨p, dx, ka, k, i, w, R, rfl, v, q⟩ := h
  unfold t_Waiting_init
  wtm_at "g_go"
  exact q _ (wt_in (x := ⟨k, i, w⟩) (Own.toRo (by wtm_at "g_own")))
theorem pure_Flow_init (T : TX K mg base) (vs : List V) (H : Hp) (Q : VK) (E : XK) (h : sp_Flow_init K vs H Q E) : t_Flow_init K E { nx := fun _ H' => Q .non H', rt := Q } (start N_Flow_init vs) H := by
  obtain ⟨p, dx, ka, k, R, rfl, v, q⟩ := h
  unfold t_Flow_init
  wtm_at "g_go"
  rename_i w'
  have w2 := Own.bigNil (f := WtP K) w'
  exact q _ (fl_in (f := ⟨k, [], 0⟩) (ws := []) (show Own (pt p (.ins _ dx (fFlow (.ref ka) (.ref _) (.int 0) (.int 0))) :: KyP ka k :: pt _ (.lst []) :: big (WtP K) [] [] :: R) _ from by wtm_at "g_own"))
theorem oct_app {f : Fl} {r : V × Int} : ({ f with rows := f.rows ++ [r] } : Fl).oct = f.oct + r.2 := by
  unfold Fl.oct
  rw [List.map_append, sum_app]
  simp
theorem wt_app {f : Fl} {r : V × Int} : ({ f with rows := f.rows ++ [r] } : Fl).rows.map ({ f with rows := f.rows ++ [r] } : Fl).wt = f.rows.map f.wt ++ [f.wt r] := by
  show (f.rows ++ [r]).map f.wt = _
  rw [List.map_append]
  rfl
theorem sum_erase : ∀ (l : List Int) (j : Nat) (r : Int), l[j]? = some r → (l.eraseIdx j).sum = l.sum - r
  | [], _, _, h => by simp at h
  | a :: l, 0, r, h => by
    simp at h
    subst h
    show l.sum = _
    rw [List.sum_cons]
    omega
  | a :: l, j + 1, r, h => by
    have := sum_erase l j r (by simpa using h)
    show (a :: l.eraseIdx j).sum = _
    rw [List.sum_cons, List.sum_cons, this]
    omega
theorem oct_erase {f : Fl} {j : Nat} {r : V × Int} (h : f.rows[j]? = some r) : ({ f with rows := f.rows.eraseIdx j } : Fl).oct = f.oct - r.2 := by
  unfold Fl.oct
  show ((f.rows.eraseIdx j).map (·.2)).sum = _
  rw [eraseIdx_map']
  exact sum_erase _ j _ (by rw [List.getElem?_map, h]; rfl)
theorem wt_erase {f : Fl} {j : Nat} : ({ f with rows := f.rows.eraseIdx j } : Fl).rows.map ({ f with rows := f.rows.eraseIdx j } : Fl).wt = (f.rows.map f.wt).eraseIdx j := by
  show (f.rows.eraseIdx j).map f.wt = _
  rw [eraseIdx_map']
theorem pure_Flow_add (T : TX K mg base) (vs : List V) (H : Hp) (Q : VK) (E : XK) (h : sp_Flow_add K vs H Q E) : t_Flow_add K E { nx := fun _ H' => Q .non H', rt := Q } (start N_Flow_add vs) H := by
  obtain ⟨p, x, f, r, R, rfl, hl, w, q⟩ := h
  obtain ⟨dy, kb, w⟩ := wt_out (w.swap.dup)
  obtain ⟨dx, ka, l, ws, w⟩ := fl_out (w.pick (.next (.next (.next .here))))
  have hws : ws.length = f.rows.length := by
    have := (w.pick (.next (.next (.next .here)))).bigLen
    rw [List.length_map] at this
    exact this
  unfold t_Flow_add
  wtm_at "g_go"
  rename_i H2 w2
  refine q _ (fl_in (f := { f with rows := f.rows ++ [r] }) (ws := ws ++ [x]) (l := l) (dx := dx) (ka := ka) ?_)
  rw [oct_app, wt_app]
  have w3 : Own (big (WtP K) ws (f.rows.map f.wt) :: WtP K x (f.wt r) :: pt p (.ins (He.ga K "Flow") dx (fFlow (.ref ka) (.ref l) (.int (f.oct + r.2)) (.int f.cr))) :: KyP ka f.k :: pt l (.lst ((ws ++ [x]).map V.ref)) :: R) H2 := by
    wtm_at "g_own"
  exact w3.bigSnoc.perm (by exact (List.Perm.swap _ _ _).trans (.cons _ ((List.Perm.swap _ _ _).trans (.cons _ (List.Perm.swap _ _ _)))))
theorem pure_Flow_take (T : TX K mg base) (vs : List V) (H : Hp) (Q : VK) (E : XK) (h : sp_Flow_take K vs H Q E) : t_Flow_take K E { nx := fun _ H' => Q .non H', rt := Q } (start N_Flow_take vs) H := by
  obtain ⟨p, f, j, r, R, rfl, hr, hl, w, q⟩ := h
  obtain ⟨dx, ka, l, ws, w⟩ := fl_out w
  have hws : ws.length = f.rows.length := by
    have := (w.pick (.next (.next (.next .here)))).bigLen
    rw [List.length_map] at this
    exact this
  have hj := (List.getElem?_eq_some_iff.mp hr).1
  obtain ⟨x, hx⟩ : ∃ x, ws[j]? = some x := ⟨_, List.getElem?_eq_getElem (by omega)⟩
  have w1 := (w.pick (.next (.next (.next .here)))).bigErase hx (show (f.rows.map f.wt)[j]? = some (f.wt r) by rw [List.getElem?_map, hr]; rfl)
  obtain ⟨dy, kb, w2⟩ := wt_out w1.dup
  unfold t_Flow_take
  wtm_at "g_go"
  refine k_popAtR (ps := ws) (by wtm_at "g_own") rfl (by omega) hx (by wtm_at "g_put") fun H1 w3 => ?_
  wtm_at "g_go"
  rename_i H2 w4
  refine q _ _ (Own.swap (fl_in (f := { f with rows := f.rows.eraseIdx j }) (ws := ws.eraseIdx j) (l := l) (dx := dx) (ka := ka) ?_))
  rw [oct_erase hr, wt_erase]
  wtm_at "g_own"
theorem pure_FairQueue_init (T : TX K mg base) (vs : List V) (H : Hp) (Q : VK) (E : XK) (h : sp_FairQueue_init K vs H Q E) : t_FairQueue_init K E { nx := fun _ H' => Q .non H', rt := Q } (start N_FairQueue_init vs) H := by
  obtain ⟨p, dx, lim, q, R, rfl, w, q1, q2⟩ := h
  unfold t_FairQueue_init
  wtm_at "g_go"
  refine if_d (fun h1 => ?_) (fun h1 => ?_)
  · wtm_at "g_go"
    exact q1 (.inl h1) _ w.tail
  wtm_at "g_go"
  refine if_d (fun h2 => ?_) (fun h2 => ?_)
  · wtm_at "g_go"
    exact q1 (.inr h2) _ w.tail
  wtm_at "g_go"
  rename_i w'
  have w2 := Own.bigNil (f := FlP K) w'
  exact q2 (by omega) (by omega) _ (qu_in (y := ⟨lim, q, [], false⟩) (fs := []) (show Own (pt p (.ins _ dx (fFairQueue (.int lim) (.int q) (.ref _) (.bl false))) :: pt _ (.lst []) :: big (FlP K) [] [] :: R) _ from by wtm_at "g_own"))
theorem map_ref_at {ps : List Addr} {i : Nat} {x : V} (h : (ps.map V.ref)[i]? = some x) : ∃ p, ps[i]? = some p ∧ V.ref p = x := by
  rw [List.getElem?_map] at h
  cases e : ps[i]? with
  | none => rw [e] at h; cases h
  | some p => rw [e] at h; cases h; exact ⟨p, rfl, rfl⟩
theorem at_of_len {α β : Type} {as : List α} {bs : List β} {i : Nat} {a : α} (h : as[i]? = some a) (l : as.length = bs.length) : ∃ b, bs[i]? = some b :=
  ⟨bs[i]'(by have := (List.getElem?_eq_some_iff.mp h).1; omega), List.getElem?_eq_getElem _⟩
theorem take_map_s {α β : Type} {f : α → β} {xs : List α} {i : Nat} {x : α} (h : xs[i]? = some x) : (xs.take (i + 1)).map f = (xs.take i).map f ++ [f x] := by
  rw [List.take_add_one, h, List.map_append]
  rfl
theorem pure_FairQueue_octets (T : TX K mg base) (vs : List V) (H : Hp) (Q : VK) (E : XK) (h : sp_FairQueue_octets K vs H Q E) : t_FairQueue_octets K E { nx := fun _ H' => Q .non H', rt := Q } (start N_FairQueue_octets vs) H := by
  obtain ⟨p, x, R, rfl, hl, w, q⟩ := h
  obtain ⟨dx, l, fs, w⟩ := qu_out w
  have hlen := (w.pick (.next (.next .here))).bigLen
  unfold t_FairQueue_octets
  wtm_at "g_go"
  refine lcLO (fun i A L => A = (x.fs.take i).map (fun f => V.int f.oct) ∧ L = pt p (.ins (He.ga K "FairQueue") dx (fFairQueue (.int x.lim) (.int x.q) (.ref l) (.bl x.gr))) :: pt l (.lst (fs.map V.ref)) :: big (FlP K) fs x.fs :: R) w ⟨rfl, rfl⟩ ?_ (by wtm_at "g_sq") ?_ ?_
  · rintro i A L D H' ⟨rfl, rfl⟩ w'
    wtm_at "g_sq"
  · rintro i y D A L H1 hy ⟨rfl, rfl⟩ w'
    obtain ⟨a, ha, rfl⟩ := map_ref_at hy
    obtain ⟨f, hf⟩ := at_of_len ha hlen
    obtain ⟨dy, ka, lf, hp, _⟩ := (w'.pick (.next (.next (.next .here)))).bigTell ha hf tell_fl
    wtm_at "g_go"
    refine lc_addO w' .here (small16l ?_) ⟨?_, rfl⟩
    · rw [List.length_map, List.length_take]; omega
    · rw [take_map_s hf]
  · rintro D A L H1 ⟨rfl, rfl⟩ w'
    wtm_at "g_go"
    have e : (List.take (fs.map V.ref).length x.fs).map (fun f => V.int f.oct) = (x.fs.map Fl.oct).map V.int := by
      rw [List.length_map, hlen, List.take_length, List.map_map]
      rfl
    rw [e] at w'
    refine w_sum (ns := x.fs.map Fl.oct) (by wtm_at "g_sq") ?_
    exact q _ (qu_in (by wtm_at "g_own"))
theorem eqv_kd : ∀ a b : Ky, PyData.eqvAll (a.map kDat) (b.map kDat) = decide (a = b)
  | [], [] => by simp [PyData.eqvAll]
  | [], y :: ys => by simp [PyData.eqvAll]
  | x :: xs, [] => by simp [PyData.eqvAll]
  | x :: xs, y :: ys => by
    have h := eqv_kd xs ys
    show (PyData.eqv (kDat x) (kDat y) && PyData.eqvAll (xs.map kDat) (ys.map kDat)) = _
    rw [h]
    have hx : PyData.eqv (kDat x) (kDat y) = decide (x = y) := by
      cases x <;> cases y <;> simp [kDat, PyData.eqv, Bool.beq_eq_decide_eq]
    rw [hx]
    by_cases h1 : x = y <;> by_cases h2 : xs = ys <;> simp [h1, h2]
theorem dp_kds {H : Hp} : ∀ k : Ky, DpAll K H (k.map kV) (k.map kDat)
  | [] => .nil
  | .inl i :: r => .cons (.int i) (dp_kds r)
  | .inr s :: r => .cons (.str s) (dp_kds r)
theorem w_eqK {H : Hp} {Q : VK} {a b : Addr} {k j : Ky} (h1 : H a = some (.tup (k.map kV))) (h2 : H b = some (.tup (j.map kV))) (o1 : kOk k) (o2 : kOk j) (q : Q (.bl (decide (k = j))) H) : rEqD K (.ref a) (.ref b) H Q :=
  w_eqD (.tup (SqT.of' h1) (dp_kds k)) (.tup (SqT.of' h2) (dp_kds j)) o1 o2 (by
    show Q (.bl (PyData.eqvAll _ _)) H
    rw [eqv_kd]
    exact q)
theorem fnd_none {fs : List Fl} {k : Ky} (h : ∀ (j : Nat) (f : Fl), fs[j]? = some f → f.k ≠ k) : fnd fs k = none := by
  unfold fnd
  rw [List.findIdx?_eq_none_iff]
  intro f hf
  obtain ⟨j, hj, e⟩ := List.getElem_of_mem hf
  exact decide_eq_false (h j f (by rw [List.getElem?_eq_getElem hj, e]))
theorem fnd_some {fs : List Fl} {k : Ky} {i : Nat} {f : Fl} (hi : fs[i]? = some f) (e : f.k = k) (h : ∀ (j : Nat) (g : Fl), j < i → fs[j]? = some g → g.k ≠ k) : fnd fs k = some i := by
  unfold fnd
  rw [List.findIdx?_eq_some_iff_getElem]
  obtain ⟨hl, rfl⟩ := List.getElem?_eq_some_iff.mp hi
  refine ⟨hl, decide_eq_true e, fun j hj => ?_⟩
  have := h j _ hj (List.getElem?_eq_getElem (by omega))
  simpa using this
theorem pure_FairQueue_flow_of (T : TX K mg base) (vs : List V) (H : Hp) (Q : VK) (E : XK) (h : sp_FairQueue_flow_of K vs H Q E) : t_FairQueue_flow_of K E { nx := fun _ H' => Q .non H', rt := Q } (start N_FairQueue_flow_of vs) H := by
  obtain ⟨p, dx, l, ka, fs, x, k, R, rfl, ho, hos, w, q⟩ := h
  have hlen := (w.pick (.next (.next .here))).bigLen
  unfold t_FairQueue_flow_of
  wtm_at "g_go"
  refine loopL (xs := fs.map V.ref) (fun i σ H' => ∃ v2, σ = [some (.ref p), some (.ref ka), v2] ∧ (∀ (j : Nat) (f : Fl), j < i → x.fs[j]? = some f → f.k ≠ k) ∧ Own (pt p (.ins (He.ga K "FairQueue") dx (fFairQueue (.int x.lim) (.int x.q) (.ref l) (.bl x.gr))) :: pt l (.lst (fs.map V.ref)) :: big (FlP K) fs x.fs :: KyP ka k :: R) H') (by wtm_at "g_sq") ⟨_, rfl, (fun j f hj => absurd hj (Nat.not_lt_zero j)), w⟩ ?_ ?_ ?_
  · rintro i σ H' hi ⟨v2, rfl, hn, w'⟩
    wtm_at "g_sq"
  · rintro i y σ H1 hy ⟨v2, rfl, hn, w'⟩
    obtain ⟨a, ha, rfl⟩ := map_ref_at hy
    obtain ⟨f, hf⟩ := at_of_len ha hlen
    obtain ⟨dy, kb, lf, hp, hk⟩ := (w'.pick (.next (.next .here))).bigTell ha hf tell_fl
    have hka : H1 ka = some (.tup (k.map kV)) := w'.get (.next (.next (.next (by unfold KyP; exact Got.here))))
    wtm_at "g_go"
    refine w_eqK hk hka (hos f (List.mem_of_getElem? hf)) ho ?_
    wtm_at "g_go"
    refine if_d (fun h1 => ?_) (fun h1 => ?_)
    · wtm_at "g_go"
      exact q _ w' _ (.inr ⟨i, a, rfl, fnd_some hf h1 hn, ha⟩)
    · wtm_at "g_go"
      refine ⟨_, rfl, fun j g hj hg => ?_, w'⟩
      by_cases e : j = i
      · subst e
        rw [hf] at hg
        cases hg
        exact h1
      · exact hn j g (by omega) hg
  · rintro σ H1 ⟨v2, rfl, hn, w'⟩
    wtm_at "g_go"
    refine q _ w' _ (.inl ⟨rfl, fnd_none fun j f hf => hn j f ?_ hf⟩)
    have := (List.getElem?_eq_some_iff.mp hf).1
    rw [List.length_map]
    omega
theorem pure_FairQueue_remove_flow (T : TX K mg base) (vs : List V) (H : Hp) (Q : VK) (E : XK) (h : sp_FairQueue_remove_flow K vs H Q E) : t_FairQueue_remove_flow K E { nx := fun _ H' => Q .non H', rt := Q } (start N_FairQueue_remove_flow vs) H := by
  obtain ⟨p, x, j, R, rfl, hj, hl, w, q⟩ := h
  obtain ⟨dx, l, fs, w⟩ := qu_out w
  have hlen := (w.pick (.next (.next .here))).bigLen
  have w1 := (w.pick (.next (.next .here))).bigErase (i := j) (List.getElem?_eq_getElem (by omega)) (List.getElem?_eq_getElem hj)
  unfold t_FairQueue_remove_flow
  wtm_at "g_go"
  refine k_delR (ps := fs) (j := j) (by wtm_at "g_own") rfl (by omega) (by omega) (by wtm_at "g_put") fun H2 w2 => ?_
  wtm_at "g_go"
  refine if_d (fun h1 => ?_) (fun h1 => ?_)
  · wtm_at "g_go"
    refine q _ (qu_in (y := { x with fs := x.fs.eraseIdx j, gr := if j = 0 then false else x.gr }) (fs := fs.eraseIdx j) (l := l) (dx := dx) ?_)
    rw [if_pos (by omega)]
    wtm_at "g_own"
  · wtm_at "g_go"
    refine q _ (qu_in (y := { x with fs := x.fs.eraseIdx j, gr := if j = 0 then false else x.gr }) (fs := fs.eraseIdx j) (l := l) (dx := dx) ?_)
    rw [if_neg (by omega)]
    wtm_at "g_own"
end
section
variable {K : PySem.W.Frag} {mg : Str → Option Value} {base : Heap}
theorem mostTo_le (fs : List Fl) : ∀ n, mostTo fs n ≤ n
  | 0 => Nat.le_refl 0
  | n + 1 => by
    have := mostTo_le fs n
    unfold mostTo
    split <;> omega
theorem most_lt {fs : List Fl} (h : fs ≠ []) : most fs < fs.length := by
  have := mostTo_le fs (fs.length - 1)
  have : 0 < fs.length := List.length_pos_iff.mpr h
  unfold most
  omega
theorem getD_some {α : Type} {xs : List α} {i : Nat} {x d : α} (h : xs[i]? = some x) : xs.getD i d = x := by rw [List.getD_eq_getElem?_getD, h]; rfl
theorem some_lt {α : Type} {xs : List α} {i : Nat} (h : i < xs.length) : ∃ x, xs[i]? = some x := ⟨_, List.getElem?_eq_getElem h⟩
theorem len_cnt {fs : List Fl} {f : Fl} (h : f ∈ fs) : f.rows.length ≤ cnt fs := by
  unfold cnt
  induction fs with
  | nil => cases h
  | cons g r ih =>
    rw [List.map_cons, List.sum_cons]
    rcases List.mem_cons.mp h with rfl | h
    · omega
    · have := ih h; omega
theorem fs_cnt {fs : List Fl} (h : ∀ f ∈ fs, f.rows ≠ []) : fs.length ≤ cnt fs := by
  unfold cnt
  induction fs with
  | nil => exact Nat.le_refl 0
  | cons g r ih =>
    rw [List.map_cons, List.sum_cons, List.length_cons]
    have := ih fun f hf => h f (List.mem_cons_of_mem _ hf)
    have : 0 < g.rows.length := List.length_pos_iff.mpr (h g List.mem_cons_self)
    omega
theorem last_at {α : Type} {xs : List α} {d : α} (h : xs ≠ []) : xs[xs.length - 1]? = some (xs.getLastD d) := by
  rw [List.getLastD_eq_getLast?, ← List.getLast?_eq_getElem?]
  cases e : xs.getLast? with
  | none => exact absurd (List.getLast?_eq_none_iff.mp e) h
  | some x => rfl
theorem pure_FairQueue_drop (T : TX K mg base) (vs : List V) (H : Hp) (Q : VK) (E : XK) (h : sp_FairQueue_drop K vs H Q E) : t_FairQueue_drop K E { nx := fun _ H' => Q .non H', rt := Q } (start N_FairQueue_drop vs) H := by
  obtain ⟨p, x, R, rfl, hne, hrs, hc, w, q⟩ := h
  obtain ⟨dx, l, fs, w⟩ := qu_out w
  have hlen := (w.pick (.next (.next .here))).bigLen
  have hfl : x.fs.length ≤ 200000 := Nat.le_trans (fs_cnt hrs) hc
  have hpos : 0 < x.fs.length := List.length_pos_iff.mpr hne
  unfold t_FairQueue_drop
  wtm_at "g_go"
  refine loop2 (fun i σ H' => ∃ v2, σ = [some (.ref p), some (.int (mostTo x.fs i : Nat)), v2, none, none] ∧ Own (pt p (.ins (He.ga K "FairQueue") dx (fFairQueue (.int x.lim) (.int x.q) (.ref l) (.bl x.gr))) :: pt l (.lst (fs.map V.ref)) :: big (FlP K) fs x.fs :: R) H') ⟨by omega, by omega, by omega, by omega⟩ ⟨_, rfl, w⟩ ?_ ?_
  · rintro i σ H1 hi ⟨v2, rfl, w1⟩
    have hm := mostTo_le x.fs i
    obtain ⟨a, ha⟩ := some_lt (xs := fs) (i := 1 + i) (by omega)
    obtain ⟨f, hf⟩ := at_of_len ha hlen
    obtain ⟨b, hb⟩ := some_lt (xs := fs) (i := mostTo x.fs i) (by omega)
    obtain ⟨g, hg⟩ := at_of_len hb hlen
    obtain ⟨d1, k1, l1, hp1, _⟩ := (w1.pick (.next (.next .here))).bigTell ha hf tell_fl
    obtain ⟨d2, k2, l2, hp2, _⟩ := (w1.pick (.next (.next .here))).bigTell hb hg tell_fl
    wtm_at "g_go"
    refine w_ixL (xs := fs.map V.ref) (by wtm_at "g_sq") (atI_ref ha (by omega)) ?_
    wtm_at "g_go"
    have em : mostTo x.fs (i + 1) = if g.oct < f.oct then i + 1 else mostTo x.fs i := by
      rw [mostTo, getD_some hg, show i + 1 = 1 + i by omega, getD_some hf]
    refine if_d (fun h1 => ?_) (fun h1 => ?_)
    · wtm_at "g_go"
      exact ⟨_, by rw [em, if_pos h1, show ((i + 1 : Nat) : Int) = 1 + (i : Int) by omega]; rfl, w1⟩
    · wtm_at "g_go"
      exact ⟨_, by rw [em, if_neg h1]; rfl, w1⟩
  rintro σ H1 ⟨v2, rfl, w1⟩
  have e1 : (((fs.length : Nat) : Int) - 1).toNat = x.fs.length - 1 := by omega
  rw [e1]
  change Own _ H1 at w1
  have hmost : mostTo x.fs (x.fs.length - 1) = most x.fs := rfl
  rw [hmost]
  have hml := most_lt hne
  obtain ⟨a, ha⟩ := some_lt (xs := fs) (i := most x.fs) (by omega)
  obtain ⟨f, hf⟩ := at_of_len ha hlen
  have hfm := List.mem_of_getElem? hf
  have hfr := hrs f hfm
  have hfc : f.rows.length ≤ 200000 := Nat.le_trans (len_cnt hfm) hc
  have hfp : 0 < f.rows.length := List.length_pos_iff.mpr hfr
  wtm_at "g_go"
  obtain ⟨dy, ka, lf, ws, w2⟩ := fl_out ((w1.pick (.next (.next .here))).bigOut ha hf)
  have hws : ws.length = f.rows.length := by
    have := (w2.pick (.next (.next (.next .here)))).bigLen
    rw [List.length_map] at this
    exact this
  wtm_at "g_go"
  have w3 := fl_in w2
  refine c_take (f := f) (j := f.rows.length - 1) (by omega) (last_at (d := (V.non, (0 : Int))) hfr) (by omega) w3 .here fun H2 b w4 => ?_
  rw [List.eraseIdx_length_sub_one] at w4
  obtain ⟨dz, kb, lg, us, w5⟩ := fl_out (w4.swap)
  have hus : us.length = f.rows.dropLast.length := by
    have := (w5.pick (.next (.next (.next .here)))).bigLen
    rw [List.length_map] at this
    exact this
  wtm_at "g_go"
  have w6 := (fl_in w5).perm (.swap _ _ _)
  have w7 : Own (FlP K a { f with rows := f.rows.dropLast } :: big (FlP K) (fs.take (most x.fs)) (x.fs.take (most x.fs)) :: big (FlP K) (fs.drop (most x.fs + 1)) (x.fs.drop (most x.fs + 1)) :: WtP K b (dropW x.fs) :: pt p (.ins (He.ga K "FairQueue") dx (fFairQueue (.int x.lim) (.int x.q) (.ref l) (.bl x.gr))) :: pt l (.lst (fs.map V.ref)) :: R) H2 := by
    have e : dropW x.fs = f.wt (f.rows.getLastD (V.non, 0)) := by unfold dropW; rw [getD_some hf]
    rw [e]
    wtm_at "g_own"
  have w8 := w7.bigBack ha (by omega)
  have e8 : x.fs.set (most x.fs) { f with rows := f.rows.dropLast } = x.fs.set (most x.fs) ((x.fs.getD (most x.fs) fl0).wr (x.fs.getD (most x.fs) fl0).rows.dropLast) := by rw [getD_some hf]
  refine if_nd (fun h1 => ?_) (fun h1 => ?_)
  · have he : f.rows.dropLast = [] := List.length_eq_zero_iff.mp (by omega)
    have hs : dropS x.fs x.gr = ((x.fs.set (most x.fs) { f with rows := f.rows.dropLast }).eraseIdx (most x.fs), if most x.fs = 0 then false else x.gr) := by
      rw [dropS, ← e8, outAt, if_pos]
      rw [getD_some (List.getElem?_set_self hml)]
      exact he
    have w9 := (Own.swap w8)
    have w10 : Own (QuP K p { x with fs := x.fs.set (most x.fs) { f with rows := f.rows.dropLast } } :: WtP K b (dropW x.fs) :: R) H2 := qu_in (by wtm_at "g_own")
    obtain ⟨d3, l3, hp3⟩ := w10.ent (.here tell_qu)
    wtm_at "g_go"
    refine c_remove (j := most x.fs) rfl (by rw [List.length_set]; exact hml) (by rw [List.length_set]; omega) w10 .here fun H3 w11 => ?_
    wtm_at "g_go"
    refine q _ _ (Own.swap ?_)
    rw [hs]
    exact w11
  · have he : f.rows.dropLast ≠ [] := fun z => by rw [z] at hus; simp at hus; simp [hus] at h1
    have hs : dropS x.fs x.gr = (x.fs.set (most x.fs) { f with rows := f.rows.dropLast }, x.gr) := by
      rw [dropS, ← e8, outAt, if_neg]
      rw [getD_some (List.getElem?_set_self hml)]
      exact he
    wtm_at "g_go"
    refine q _ _ (Own.swap (qu_in (fs := fs) (l := l) (dx := dx) ?_))
    rw [hs]
    wtm_at "g_own"
end
section
variable {K : PySem.W.Frag} {mg : Str → Option Value} {base : Heap}
theorem cnt_set {fs : List Fl} {i : Nat} {f g : Fl} (h : fs[i]? = some f) : cnt (fs.set i g) + f.rows.length = cnt fs + g.rows.length := by
  induction fs generalizing i with
  | nil => simp at h
  | cons a r ih =>
    cases i with
    | zero =>
      simp at h
      subst h
      simp only [List.set_cons_zero, cnt, List.map_cons, List.sum_cons]
      omega
    | succ i =>
      have := ih (i := i) (by simpa using h)
      simp only [List.set_cons_succ, cnt, List.map_cons, List.sum_cons] at this ⊢
      omega
theorem cnt_erase {fs : List Fl} {i : Nat} {f : Fl} (h : fs[i]? = some f) : cnt (fs.eraseIdx i) + f.rows.length = cnt fs := by
  induction fs generalizing i with
  | nil => simp at h
  | cons a r ih =>
    cases i with
    | zero =>
      simp at h
      subst h
      simp only [List.eraseIdx_cons_zero, cnt, List.map_cons, List.sum_cons]
      omega
    | succ i =>
      have := ih (i := i) (by simpa using h)
      simp only [List.eraseIdx_cons_succ, cnt, List.map_cons, List.sum_cons] at this ⊢
      omega
theorem cnt_dropS {fs : List Fl} {gr : Bool} (h : fs ≠ []) (hr : ∀ f ∈ fs, f.rows ≠ []) : cnt (dropS fs gr).1 + 1 = cnt fs := by
  have hm := most_lt h
  obtain ⟨f, hf⟩ := some_lt hm
  have hp := List.length_pos_iff.mpr (hr f (List.mem_of_getElem? hf))
  have hs := cnt_set (g := { f with rows := f.rows.dropLast }) hf
  unfold dropS outAt
  rw [getD_some hf, getD_some (List.getElem?_set_self hm)]
  have hl : ({ f with rows := f.rows.dropLast } : Fl).rows.length = f.rows.length - 1 := List.length_dropLast
  split
  · rename_i he
    have he' : ({ f with rows := f.rows.dropLast } : Fl).rows.length = 0 := by rw [he]; rfl
    have := cnt_erase (fs := fs.set (most fs) { f with rows := f.rows.dropLast }) (i := most fs) (List.getElem?_set_self hm)
    show cnt ((fs.set (most fs) { f with rows := f.rows.dropLast }).eraseIdx (most fs)) + 1 = _
    omega
  · show cnt (fs.set (most fs) { f with rows := f.rows.dropLast }) + 1 = _
    omega
theorem wfl_dropS {fs : List Fl} {gr : Bool} (h : fs ≠ []) (hw : ∀ f ∈ fs, WFl f) : ∀ g ∈ (dropS fs gr).1, WFl g := by
  have hm := most_lt h
  obtain ⟨f, hf⟩ := some_lt hm
  have hwf := hw f (List.mem_of_getElem? hf)
  unfold dropS outAt
  rw [getD_some hf, getD_some (List.getElem?_set_self hm)]
  have hmem : ∀ g ∈ fs.set (most fs) { f with rows := f.rows.dropLast }, g = { f with rows := f.rows.dropLast } ∨ g ∈ fs := fun g hg => (List.mem_or_eq_of_mem_set hg).symm
  split
  · intro g hg
    have he : (fs.set (most fs) { f with rows := f.rows.dropLast }).eraseIdx (most fs) = fs.eraseIdx (most fs) := by
      rw [List.eraseIdx_set_eq]
    rw [he] at hg
    exact hw g (List.mem_of_mem_eraseIdx hg)
  · rename_i hne
    intro g hg
    rcases hmem g hg with rfl | hg
    · exact ⟨hwf.k, hne, fun r hr => hwf.w r (List.dropLast_subset _ hr)⟩
    · exact hw g hg
theorem octs_nil : octs [] = 0 := rfl
theorem dropL_nil {lim : Int} (h : 1 ≤ lim) : ∀ n gr, dropL lim n [] gr = ([], gr, [])
  | 0, gr => rfl
  | n + 1, gr => by rw [dropL, if_pos (by rw [octs_nil]; omega)]
theorem wfl_add {fs : List Fl} {k : Ky} {r : V × Int} (hk : kOk k) (hr : 1 ≤ r.2) (hw : ∀ f ∈ fs, WFl f) : ∀ g ∈ addF fs k r, WFl g := by
  unfold addF
  split
  · rename_i j hj
    intro g hg
    rcases List.mem_or_eq_of_mem_set hg with hg | rfl
    · exact hw g hg
    · unfold fnd at hj
      rw [List.findIdx?_eq_some_iff_getElem] at hj
      obtain ⟨hl, e, _⟩ := hj
      have hf := hw _ (List.getElem_mem hl)
      rw [getD_some (List.getElem?_eq_getElem hl)]
      refine ⟨hf.k, by simp, fun z hz => ?_⟩
      rcases List.mem_append.mp hz with hz | hz
      · exact hf.w z hz
      · rw [List.mem_singleton.mp hz]; exact hr
  · intro g hg
    rcases List.mem_append.mp hg with hg | hg
    · exact hw g hg
    · rw [List.mem_singleton.mp hg]
      exact ⟨hk, by simp, fun z hz => by rw [List.mem_singleton.mp hz]; exact hr⟩
theorem cnt_app {fs gs : List Fl} : cnt (fs ++ gs) = cnt fs + cnt gs := by
  unfold cnt
  rw [List.map_append, List.sum_append]
theorem cnt_add {fs : List Fl} {k : Ky} {r : V × Int} : cnt (addF fs k r) = cnt fs + 1 := by
  unfold addF
  split
  · rename_i j hj
    unfold fnd at hj
    rw [List.findIdx?_eq_some_iff_getElem] at hj
    obtain ⟨hl, e, _⟩ := hj
    have := cnt_set (g := ((fs.getD j fl0).wr ((fs.getD j fl0).rows ++ [r]))) (List.getElem?_eq_getElem hl)
    rw [getD_some (List.getElem?_eq_getElem hl)] at this ⊢
    rw [List.length_append] at this
    simp only [List.length_cons, List.length_nil] at this
    omega
  · rw [cnt_app]
    rfl
theorem fnd_at {fs : List Fl} {k : Ky} {j : Nat} (h : fnd fs k = some j) : ∃ f, fs[j]? = some f ∧ f.k = k := by
  unfold fnd at h
  rw [List.findIdx?_eq_some_iff_getElem] at h
  obtain ⟨hl, e, _⟩ := h
  exact ⟨_, List.getElem?_eq_getElem hl, of_decide_eq_true e⟩
theorem pure_FairQueue_put (T : TX K mg base) (vs : List V) (H : Hp) (Q : VK) (E : XK) (h : sp_FairQueue_put K vs H Q E) : t_FairQueue_put K E { nx := fun _ H' => Q .non H', rt := Q } (start N_FairQueue_put vs) H := by
  obtain ⟨p, ka, x, k, i, wt, R, rfl, wf, hc, hk, hwt, w, q⟩ := h
  unfold t_FairQueue_put
  wtm_at "g_go"
  rename_i u du H1 w1 H2 w2
  refine if_d (fun h1 => ?_) (fun h1 => ?_)
  · wtm_at "g_go"
    rename_i t H3 w3
    have e : putF x k i wt = (x, [⟨k, i, wt⟩]) := if_pos h1
    rw [e] at q
    refine q _ t [u] (Own.swap (Own.big1 ?_))
    wtm_at "g_own"
  obtain ⟨dx, l, fs, w4⟩ := qu_out (w2.pick (.next .here))
  have hlen := (w4.pick (.next (.next .here))).bigLen
  have hne : ∀ f ∈ x.fs, f.rows ≠ [] := fun f hf => (wf.fs f hf).ne
  have hfl := fs_cnt hne
  wtm_at "g_go"
  refine ⟨p, dx, l, ka, fs, x, k, WtP K u ⟨k, i, wt⟩ :: R, rfl, hk, fun f hf => (wf.fs f hf).k, by wtm_at "g_own", fun H3 w5 v hv => ?_⟩
  wtm_at "g_go"
  refine w_cut (fun σ H' => ∃ a f L0, σ = [some (.ref p), some (.ref ka), some i, some (.int wt), some (.ref u), some (.ref a), none] ∧ f.rows.length ≤ 1000000 ∧ f.k = k ∧ Own (FlP K a f :: WtP K u ⟨k, i, wt⟩ :: L0) H' ∧
    ∀ H2, Own (FlP K a (f.wr (f.rows ++ [(i, wt)])) :: L0) H2 → Own (QuP K p { x with fs := addF x.fs k (i, wt) } :: R) H2) ?_ ?_
  · wtm_at "g_go"
    refine if_d (fun h2 => ?_) (fun h2 => ?_)
    · have hn : fnd x.fs k = none := by
        rcases hv with ⟨_, e⟩ | ⟨j, a, e, _⟩
        · exact e
        · rw [h2] at e; cases e
      subst h2
      wtm_at "g_go"
      rename_i a da H4 w6 H5 w7 H6 w8
      refine ⟨a, ⟨k, [], 0⟩, pt l (.lst ((fs ++ [a]).map V.ref)) :: pt p (.ins (He.ga K "FairQueue") dx (fFairQueue (.int x.lim) (.int x.q) (.ref l) (.bl x.gr))) :: big (FlP K) fs x.fs :: R, rfl, Nat.zero_le _, rfl, by wtm_at "g_own", fun H2 w9 => ?_⟩
      have w10 : Own (big (FlP K) fs x.fs :: FlP K a ⟨k, [(i, wt)], 0⟩ :: pt p (.ins (He.ga K "FairQueue") dx (fFairQueue (.int x.lim) (.int x.q) (.ref l) (.bl x.gr))) :: pt l (.lst ((fs ++ [a]).map V.ref)) :: R) H2 := by
        change Own (FlP K a ⟨k, [(i, wt)], 0⟩ :: _) H2 at w9
        wtm_at "g_own"
      have ea : addF x.fs k (i, wt) = x.fs ++ [⟨k, [(i, wt)], 0⟩] := by unfold addF; rw [hn]
      rw [ea]
      have w11 := w10.bigSnoc
      exact qu_in (y := { x with fs := x.fs ++ [⟨k, [(i, wt)], 0⟩] }) (l := l) (dx := dx) (fs := fs ++ [a]) (by wtm_at "g_own")
    · obtain ⟨j, a, rfl, hj, ha⟩ : ∃ j a, v = V.ref a ∧ fnd x.fs k = some j ∧ fs[j]? = some a := by
        rcases hv with ⟨e, _⟩ | e
        · exact absurd e h2
        · exact e
      obtain ⟨f, hf, hfk⟩ := fnd_at hj
      have hjl := (List.getElem?_eq_some_iff.mp hf).1
      have hfl2 := len_cnt (List.mem_of_getElem? hf)
      have w6 := (w5.pick (.next (.next .here))).bigOut ha hf
      wtm_at "g_go"
      refine ⟨a, f, big (FlP K) (fs.take j) (x.fs.take j) :: big (FlP K) (fs.drop (j + 1)) (x.fs.drop (j + 1)) :: pt l (.lst (fs.map V.ref)) :: pt p (.ins (He.ga K "FairQueue") dx (fFairQueue (.int x.lim) (.int x.q) (.ref l) (.bl x.gr))) :: R, rfl, by omega, hfk, by wtm_at "g_own", fun H2 w7 => ?_⟩
      have ea : addF x.fs k (i, wt) = x.fs.set j (f.wr (f.rows ++ [(i, wt)])) := by unfold addF; rw [hj]; show x.fs.set j _ = _; rw [getD_some hf]
      rw [ea]
      have w8 := w7.bigBack ha hjl
      exact qu_in (y := { x with fs := x.fs.set j (f.wr (f.rows ++ [(i, wt)])) }) (l := l) (dx := dx) (fs := fs) (by wtm_at "g_own")
  rintro σ H4 ⟨a, f, L0, rfl, hfr, hfk, w6, hfold⟩
  wtm_at "g_go"
  have w7 : Own (FlP K a f :: WtP K u (f.wt (i, wt)) :: L0) H4 := by
    have e : (⟨k, i, wt⟩ : Wt) = f.wt (i, wt) := by rw [← hfk]
    rw [← e]
    exact w6
  refine c_add (f := f) (r := (i, wt)) hfr w7 .here .here fun H5 w8 => ?_
  have w9 := hfold _ w8
  have hwf := wfl_add (r := (i, wt)) hk hwt wf.fs
  have hcn : cnt (addF x.fs k (i, wt)) = cnt x.fs + 1 := cnt_add
  have hp2 : (putF x k i wt) = ({ x with fs := (dropL x.lim (cnt (addF x.fs k (i, wt))) (addF x.fs k (i, wt)) x.gr).1, gr := (dropL x.lim (cnt (addF x.fs k (i, wt))) (addF x.fs k (i, wt)) x.gr).2.1 }, (dropL x.lim (cnt (addF x.fs k (i, wt))) (addF x.fs k (i, wt)) x.gr).2.2) := if_neg h1
  rw [hp2] at q
  generalize addF x.fs k (i, wt) = fs0 at *
  wtm_at "g_go"
  rename_i t H6 w10
  refine w_whileO (m0 := cnt fs0) (fun m σ H' => ∃ (gs : List Fl) (gr : Bool) (ws : List Addr) (ds : List Wt), σ = [some (.ref p), some (.ref ka), some i, some (.int wt), some (.ref u), some (.ref a), some (.ref t)] ∧ m = cnt gs ∧ m ≤ cnt fs0 ∧ ws.length + m = cnt fs0 ∧ (∀ f ∈ gs, WFl f) ∧
    dropL x.lim (cnt fs0) fs0 x.gr = ((dropL x.lim m gs gr).1, (dropL x.lim m gs gr).2.1, ds ++ (dropL x.lim m gs gr).2.2) ∧ Own (pt t (.lst (ws.map V.ref)) :: big (WtP K) ws ds :: QuP K p { x with fs := gs, gr := gr } :: R) H') ⟨fs0, x.gr, [], [], rfl, rfl, Nat.le_refl _, Nat.zero_add _, hwf, rfl, Own.swap (Own.bigNil (by wtm_at "g_ow"))⟩ ?_
  rintro m σ H7 ⟨gs, gr, ws, ds, rfl, hm, hm2, hwl, hw, hd, w11⟩
  have hgl := fs_cnt fun f hf => (hw f hf).ne
  have hgl2 : ({ x with fs := gs, gr := gr } : Qu).fs.length ≤ 1000000 := by show gs.length ≤ _; omega
  wtm_at "g_go"
  refine if_d (fun h2 => ?_) (fun h2 => ?_)
  · have hgn : gs ≠ [] := fun z => by
      subst z
      have := wf.lim
      have : octs [] = 0 := rfl
      simp only at h2
      omega
    wtm_at "g_go"
    refine c_drop (y := { x with fs := gs, gr := gr }) hgn (fun f hf => (hw f hf).ne) (by show cnt gs ≤ _; omega) (by wtm_at "g_own") .here fun H8 b w12 => ?_
    have hcd := cnt_dropS (gr := gr) hgn fun f hf => (hw f hf).ne
    wtm_at "g_go"
    rename_i H9 w13
    obtain ⟨m', rfl⟩ : ∃ m', m = m' + 1 := ⟨m - 1, by omega⟩
    refine ⟨m', Nat.lt_succ_self _, (dropS gs gr).1, (dropS gs gr).2, ws ++ [b], ds ++ [dropW gs], rfl, by omega, by omega, by rw [List.length_append]; simp only [List.length_cons, List.length_nil]; omega, wfl_dropS hgn hw, ?_, ?_⟩
    · rw [hd, dropL, if_neg (by simp only at h2; omega)]
      simp only [List.append_assoc, List.cons_append, List.nil_append]
    · have w14 : Own (big (WtP K) ws ds :: WtP K b (dropW gs) :: pt t (.lst ((ws ++ [b]).map V.ref)) :: QuP K p { x with fs := (dropS gs gr).1, gr := (dropS gs gr).2 } :: R) H9 := by wtm_at "g_own"
      exact w14.bigSnoc.swap
  · wtm_at "g_go"
    refine q _ t ws ?_
    have he : dropL x.lim m gs gr = (gs, gr, []) := by
      cases m with
      | zero => rfl
      | succ n => rw [dropL, if_pos (by simp only at h2; omega)]
    rw [hd, he, List.append_nil]
    wtm_at "g_own"
end
section
variable {K : PySem.W.Frag} {mg : Str → Option Value} {base : Heap}
theorem want_cons {f : Fl} {r : List Fl} : want (f :: r) = (f.w0 - f.cr).toNat + want r := by
  unfold want
  rw [List.map_cons, List.sum_cons]
theorem want_snoc {f : Fl} {r : List Fl} : want (r ++ [f]) = want r + (f.w0 - f.cr).toNat := by
  unfold want
  rw [List.map_append, List.sum_append]
  simp
theorem cnt_cons {f : Fl} {r : List Fl} : cnt (f :: r) = f.rows.length + cnt r := by
  unfold cnt
  rw [List.map_cons, List.sum_cons]
theorem wfl_wc {f : Fl} {c : Int} (h : WFl f) : WFl (f.wc c) := ⟨h.k, h.ne, h.w⟩
theorem oct_wc {f : Fl} {c : Int} : (f.wc c).oct = f.oct := rfl
theorem pure_FairQueue_turn (T : TX K mg base) (vs : List V) (H : Hp) (Q : VK) (E : XK) (h : sp_FairQueue_turn K vs H Q E) : t_FairQueue_turn K E { nx := fun _ H' => Q .non H', rt := Q } (start N_FairQueue_turn vs) H := by
  obtain ⟨p, x, R, rfl, wf, hc, w, q⟩ := h
  unfold t_FairQueue_turn
  have hq := wf.q
  refine w_whileO (m0 := mu x.fs x.gr) (fun m σ H' => ∃ gs gr v1 n, σ = [some (.ref p), v1] ∧ m = mu gs gr ∧ mu gs gr ≤ n ∧ turnL x.q (n + 1) gs gr = turnL x.q (mu x.fs x.gr + 1) x.fs x.gr ∧ (∀ f ∈ gs, WFl f) ∧ cnt gs = cnt x.fs ∧ Own (QuP K p { x with fs := gs, gr := gr } :: R) H')
    ⟨x.fs, x.gr, _, _, rfl, rfl, Nat.le_refl _, rfl, wf.fs, rfl, w⟩ ?_
  rintro m σ H1 ⟨gs, gr, v1, n, rfl, hm, hn, ht, hw, hcn, w1⟩
  obtain ⟨dx, l, as, w1⟩ := qu_out w1
  have hlen := (w1.pick (.next (.next .here))).bigLen
  have hgl := fs_cnt fun f hf => (hw f hf).ne
  wtm_at "g_go"
  refine if_d (fun h1 => ?_) (fun h1 => ?_)
  rotate_left
  · have hg : gs = [] := List.length_eq_zero_iff.mp (by show gs.length = 0; simp only at hlen; omega)
    subst hg
    refine q _ ?_
    have e : turnF x = { x with fs := [], gr := gr } := by
      unfold turnF
      rw [← ht]
      rfl
    rw [e]
    exact qu_in w1
  obtain ⟨f, r, rfl⟩ : ∃ f r, gs = f :: r := by
    cases gs with
    | nil => simp only [List.length_nil] at hlen; omega
    | cons f r => exact ⟨f, r, rfl⟩
  obtain ⟨a, as', rfl⟩ : ∃ a as', as = a :: as' := by
    cases as with
    | nil => simp at h1
    | cons a as' => exact ⟨a, as', rfl⟩
  have hwf := hw f List.mem_cons_self
  obtain ⟨r0, rs, hrows⟩ : ∃ r0 rs, f.rows = r0 :: rs := by
    cases hr : f.rows with
    | nil => exact absurd hr hwf.ne
    | cons r0 rs => exact ⟨r0, rs, rfl⟩
  obtain ⟨da, ka, la, us, w2⟩ := fl_out ((w1.pick (.next (.next .here))).bigUncons)
  have hus := (w2.pick (.next (.next (.next .here)))).bigLen
  rw [List.length_map, hrows] at hus
  obtain ⟨u0, us', rfl⟩ : ∃ u0 us', us = u0 :: us' := by
    cases us with
    | nil => simp at hus
    | cons u0 us' => exact ⟨u0, us', rfl⟩
  have w3 := (w2.pick (.next (.next (.next .here)))).bigAt (i := 0) (x := u0) (y := f.wt r0) rfl (by rw [hrows]; rfl)
  have hcnt := cnt_cons (f := f) (r := r)
  have hf0 : f.w0 = r0.2 := by unfold Fl.w0; rw [hrows]; rfl
  wtm_at "g_go"
  refine w_cut (fun σ H' => σ = [some (.ref p), some (.ref a)] ∧ Own (pt a (.ins (He.ga K "Flow") da (fFlow (.ref ka) (.ref la) (.int f.oct) (.int (if gr then f.cr else f.cr + x.q)))) :: KyP ka f.k :: pt la (.lst ((u0 :: us').map V.ref)) :: big (WtP K) (u0 :: us') (f.rows.map f.wt) :: WtP K u0 (f.wt r0) ::
    pt p (.ins (He.ga K "FairQueue") dx (fFairQueue (.int x.lim) (.int x.q) (.ref l) (.bl true))) :: pt l (.lst ((a :: as').map V.ref)) :: big (FlP K) as' r :: R) H') ?_ ?_
  · cases gr with
    | true =>
      wtm_at "g_go"
      exact ⟨rfl, by rw [if_pos rfl]; wtm_at "g_own"⟩
    | false =>
      wtm_at "g_go"
      exact ⟨rfl, by rw [if_neg Bool.false_ne_true]; wtm_at "g_own"⟩
  rintro σ H2 ⟨rfl, w4⟩
  generalize hcr : (if gr = true then f.cr else f.cr + x.q) = c at *
  wtm_at "g_go"
  have ht1 : turnL x.q (n + 1) (f :: r) gr = if f.w0 ≤ c then (f.wc c :: r, true) else turnL x.q n (r ++ [f.wc c]) false := by
    rw [turnL, hcr]
  refine if_d (fun h2 => ?_) (fun h2 => ?_)
  · wtm_at "g_go"
    refine q _ ?_
    have e : turnF x = { x with fs := f.wc c :: r, gr := true } := by
      unfold turnF
      rw [← ht, ht1, if_pos (by rw [hf0]; exact h2)]
    rw [e]
    have w5 : Own (pt a (.ins (He.ga K "Flow") da (fFlow (.ref ka) (.ref la) (.int f.oct) (.int c))) :: KyP ka f.k :: pt la (.lst ((u0 :: us').map V.ref)) :: big (WtP K) (u0 :: us') (f.rows.map f.wt) :: big (FlP K) as' r ::
      pt p (.ins (He.ga K "FairQueue") dx (fFairQueue (.int x.lim) (.int x.q) (.ref l) (.bl true))) :: pt l (.lst ((a :: as').map V.ref)) :: R) H2 := by wtm_at "g_own"
    have w6 := Own.bigCons (fl_in (f := f.wc c) w5)
    exact qu_in (y := { x with fs := f.wc c :: r, gr := true }) (by wtm_at "g_own")
  wtm_at "g_go"
  have hlen2 : as'.length = r.length := by simpa using hlen
  have hrl : r.length ≤ 200000 := by
    have : (f :: r).length ≤ 200000 := by omega
    simp only [List.length_cons] at this
    omega
  refine k_popAtR (ps := a :: as') (j := 0) (by wtm_at "g_own") rfl (by simp only [List.length_cons]; omega) rfl (by wtm_at "g_put") fun H3 w5 => ?_
  rw [List.eraseIdx_cons_zero] at w5
  wtm_at "g_go"
  rename_i H5 w7
  have hmu : mu (r ++ [f.wc c]) false < mu (f :: r) gr := by
    unfold mu
    rw [want_cons, want_snoc]
    have e0 : (f.wc c).w0 = r0.2 := hf0
    have h2' : ¬ r0.2 ≤ c := h2
    cases gr with
    | true =>
      have hc' : f.cr = c := hcr
      show want r + ((f.wc c).w0 - c).toNat + 0 < (f.w0 - f.cr).toNat + want r + 1
      rw [e0, hf0]
      omega
    | false =>
      have hc' : f.cr + x.q = c := hcr
      show want r + ((f.wc c).w0 - c).toNat + 0 < (f.w0 - f.cr).toNat + want r + 0
      rw [e0, hf0]
      omega
  refine ⟨mu (r ++ [f.wc c]) false, by omega, r ++ [f.wc c], false, _, n - 1, rfl, rfl, by omega, ?_, ?_, ?_, ?_⟩
  · rw [← ht, ht1, if_neg (by rw [hf0]; exact h2)]
    rw [show n - 1 + 1 = n by omega]
  · intro g hg
    rcases List.mem_append.mp hg with hg | hg
    · exact hw g (List.mem_cons_of_mem _ hg)
    · rw [List.mem_singleton.mp hg]
      exact wfl_wc hwf
  · rw [cnt_app, ← hcn, hcnt]
    show cnt r + (f.rows.length + 0) = _
    omega
  · have w8 : Own (pt a (.ins (He.ga K "Flow") da (fFlow (.ref ka) (.ref la) (.int f.oct) (.int c))) :: KyP ka f.k :: pt la (.lst ((u0 :: us').map V.ref)) :: big (WtP K) (u0 :: us') (f.rows.map f.wt) :: big (FlP K) as' r ::
      pt p (.ins (He.ga K "FairQueue") dx (fFairQueue (.int x.lim) (.int x.q) (.ref l) (.bl false))) :: pt l (.lst ((as' ++ [a]).map V.ref)) :: R) H5 := by wtm_at "g_own"
    have w9 := Own.bigSnoc (Own.swap (fl_in (f := f.wc c) w8))
    exact qu_in (y := { x with fs := r ++ [f.wc c], gr := false }) (fs := as' ++ [a]) (l := l) (dx := dx) (by wtm_at "g_own")
theorem wfl_turn {q : Int} : ∀ (n : Nat) (fs : List Fl) (gr : Bool), (∀ f ∈ fs, WFl f) → (∀ f ∈ (turnL q n fs gr).1, WFl f) ∧ cnt (turnL q n fs gr).1 = cnt fs
  | 0, fs, gr, h => ⟨h, rfl⟩
  | n + 1, [], gr, h => ⟨h, rfl⟩
  | n + 1, f :: r, gr, h => by
    rw [turnL]
    by_cases hw : f.w0 ≤ (if gr = true then f.cr else f.cr + q)
    · rw [if_pos hw]
      refine ⟨fun g hg => ?_, ?_⟩
      · rcases List.mem_cons.mp hg with rfl | hg
        · exact wfl_wc (h f List.mem_cons_self)
        · exact h g (List.mem_cons_of_mem _ hg)
      · rw [cnt_cons, cnt_cons]
    · rw [if_neg hw]
      have ih := wfl_turn (q := q) n (r ++ [f.wc (if gr = true then f.cr else f.cr + q)]) false (fun g hg => by
        rcases List.mem_append.mp hg with hg | hg
        · exact h g (List.mem_cons_of_mem _ hg)
        · rw [List.mem_singleton.mp hg]
          exact wfl_wc (h f List.mem_cons_self))
      refine ⟨ih.1, ih.2.trans ?_⟩
      rw [cnt_app, cnt_cons (f := f) (r := r)]
      show cnt r + (f.rows.length + 0) = _
      omega
theorem wf_turn {x : Qu} (h : WF x) : WF (turnF x) := ⟨h.lim, h.q, (wfl_turn _ _ _ h.fs).1⟩
theorem cnt_turn {x : Qu} (h : WF x) : cnt (turnF x).fs = cnt x.fs := (wfl_turn _ _ _ h.fs).2
theorem pure_FairQueue_next_up (T : TX K mg base) (vs : List V) (H : Hp) (Q : VK) (E : XK) (h : sp_FairQueue_next_up K vs H Q E) : t_FairQueue_next_up K E { nx := fun _ H' => Q .non H', rt := Q } (start N_FairQueue_next_up vs) H := by
  obtain ⟨p, x, R, rfl, wf, hc, w, q1, q2⟩ := h
  unfold t_FairQueue_next_up
  wtm_at "g_go"
  refine c_turn wf hc w .here fun H1 w1 => ?_
  have wf' := wf_turn wf
  generalize turnF x = y at *
  obtain ⟨dx, l, as, w2⟩ := qu_out w1
  have hlen := (w2.pick (.next (.next .here))).bigLen
  wtm_at "g_go"
  refine if_nd (fun h1 => ?_) (fun h1 => ?_)
  · have hg : y.fs = [] := List.length_eq_zero_iff.mp (by omega)
    wtm_at "g_go"
    exact q1 (by unfold firstF; rw [hg]) _ w1
  obtain ⟨f, r, hfs⟩ : ∃ f r, y.fs = f :: r := by
    cases hy : y.fs with
    | nil => rw [hy] at hlen; simp at hlen; simp [hlen] at h1
    | cons f r => exact ⟨f, r, rfl⟩
  obtain ⟨a, as', rfl⟩ : ∃ a as', as = a :: as' := by
    cases as with
    | nil => simp at h1
    | cons a as' => exact ⟨a, as', rfl⟩
  have hwf := wf'.fs f (by rw [hfs]; exact List.mem_cons_self)
  obtain ⟨r0, rs, hrows⟩ : ∃ r0 rs, f.rows = r0 :: rs := by
    cases hr : f.rows with
    | nil => exact absurd hr hwf.ne
    | cons r0 rs => exact ⟨r0, rs, rfl⟩
  have w3 : Own (big (FlP K) (a :: as') (f :: r) :: pt p (.ins (He.ga K "FairQueue") dx (fFairQueue (.int y.lim) (.int y.q) (.ref l) (.bl y.gr))) :: pt l (.lst ((a :: as').map V.ref)) :: R) H1 := by rw [← hfs]; wtm_at "g_own"
  obtain ⟨da, ka, la, us, w4⟩ := fl_out w3.bigUncons
  have hus := (w4.pick (.next (.next (.next .here)))).bigLen
  rw [List.length_map, hrows] at hus
  obtain ⟨u0, us', rfl⟩ : ∃ u0 us', us = u0 :: us' := by
    cases us with
    | nil => simp at hus
    | cons u0 us' => exact ⟨u0, us', rfl⟩
  have w5 := (w4.pick (.next (.next (.next .here)))).bigAt (i := 0) (x := u0) (y := f.wt r0) rfl (by rw [hrows]; rfl)
  wtm_at "g_go"
  refine q2 (f.wt r0) (by unfold firstF; rw [hfs]; show some (f.wt (f.rows.headD _)) = _; rw [hrows]; rfl) _ _ ?_
  have w6 : Own (pt a (.ins (He.ga K "Flow") da (fFlow (.ref ka) (.ref la) (.int f.oct) (.int f.cr))) :: KyP ka f.k :: pt la (.lst ((u0 :: us').map V.ref)) :: big (WtP K) (u0 :: us') (f.rows.map f.wt) :: big (FlP K) as' r :: WtP K u0 (f.wt r0) :: pt p (.ins (He.ga K "FairQueue") dx (fFairQueue (.int y.lim) (.int y.q) (.ref l) (.bl y.gr))) :: pt l (.lst ((a :: as').map V.ref)) :: R) H1 := by wtm_at "g_own"
  have w7 := (fl_in w6).bigCons
  rw [← hfs] at w7
  exact Own.swap (qu_in (fs := a :: as') (l := l) (dx := dx) (by wtm_at "g_own"))
theorem pure_FairQueue_take (T : TX K mg base) (vs : List V) (H : Hp) (Q : VK) (E : XK) (h : sp_FairQueue_take K vs H Q E) : t_FairQueue_take K E { nx := fun _ H' => Q .non H', rt := Q } (start N_FairQueue_take vs) H := by
  obtain ⟨p, x, R, rfl, wf, hc, w, q1, q2⟩ := h
  unfold t_FairQueue_take
  have wf' := wf_turn wf
  have hc' := cnt_turn wf
  wtm_at "g_go"
  refine ⟨p, x, R, rfl, wf, hc, w, fun hn H1 w1 => ?_, fun y hy H1 u w1 => ?_⟩
  · wtm_at "g_go"
    exact q1 hn _ w1
  have q2 := q2 y hy
  rw [← hc'] at hc
  generalize turnF x = z at *
  obtain ⟨f, r, hfs⟩ : ∃ f r, z.fs = f :: r := by
    cases hz : z.fs with
    | nil => rw [firstF, hz] at hy; cases hy
    | cons f r => exact ⟨f, r, rfl⟩
  have hyf : y = f.wt (f.rows.headD (.non, 0)) := by
    rw [firstF, hfs] at hy
    cases hy
    rfl
  have hwf := wf'.fs f (by rw [hfs]; exact List.mem_cons_self)
  obtain ⟨r0, rs, hrows⟩ : ∃ r0 rs, f.rows = r0 :: rs := by
    cases hr : f.rows with
    | nil => exact absurd hr hwf.ne
    | cons r0 rs => exact ⟨r0, rs, rfl⟩
  have hyf : y = f.wt r0 := by rw [hyf, hrows]; rfl
  subst hyf
  obtain ⟨dx, l, as, w2⟩ := qu_out w1.swap
  have hlen := (w2.pick (.next (.next .here))).bigLen
  rw [hfs] at hlen
  obtain ⟨a, as', rfl⟩ : ∃ a as', as = a :: as' := by
    cases as with
    | nil => simp at hlen
    | cons a as' => exact ⟨a, as', rfl⟩
  have hrl : f.rows.length ≤ 200000 := by
    have := len_cnt (fs := z.fs) (f := f) (by rw [hfs]; exact List.mem_cons_self)
    omega
  have hfl : z.fs.length ≤ 200000 := by
    have := fs_cnt (fs := z.fs) fun g hg => (wf'.fs g hg).ne
    omega
  have w3 : Own (big (FlP K) (a :: as') (f :: r) :: WtP K u (f.wt r0) :: pt p (.ins (He.ga K "FairQueue") dx (fFairQueue (.int z.lim) (.int z.q) (.ref l) (.bl z.gr))) :: pt l (.lst ((a :: as').map V.ref)) :: R) H1 := by rw [← hfs]; wtm_at "g_own"
  have w4 := w3.bigUncons
  wtm_at "g_go"
  refine c_take (f := f) (j := 0) rfl (by rw [hrows]; rfl) (by omega) w4 .here fun H2 u2 w5 => ?_
  have er : f.rows.eraseIdx 0 = rs := by rw [hrows]; rfl
  rw [er] at w5
  obtain ⟨da, ka, la, us, w6⟩ := fl_out w5.swap
  have hus := (w6.pick (.next (.next (.next .here)))).bigLen
  rw [List.length_map] at hus
  wtm_at "g_go"
  rename_i H3 w7
  have ew : (f.wt r0).w = f.w0 := by unfold Fl.w0; rw [hrows]; rfl
  rw [ew] at w7
  refine if_nd (fun h1 => ?_) (fun h1 => ?_)
  · have hrs : rs = [] := List.length_eq_zero_iff.mp (by show rs.length = 0; simp only at hus; omega)
    have eg : goneF z = { z with fs := r, gr := false } := by
      unfold goneF
      rw [hfs]
      show ({ z with fs := (outAt _ z.gr 0).1, gr := (outAt _ z.gr 0).2 } : Qu) = _
      unfold outAt
      rw [if_pos (by show f.rows.tail = []; rw [hrows]; exact hrs)]
      rfl
    have w8 : Own (pt a (.ins (He.ga K "Flow") da (fFlow (.ref ka) (.ref la) (.int (f.wr rs).oct) (.int (f.cr - f.w0)))) :: KyP ka f.k :: pt la (.lst (us.map V.ref)) :: big (WtP K) us (rs.map f.wt) :: big (FlP K) as' r :: WtP K u (f.wt r0) :: pt p (.ins (He.ga K "FairQueue") dx (fFairQueue (.int z.lim) (.int z.q) (.ref l) (.bl z.gr))) :: pt l (.lst ((a :: as').map V.ref)) :: R) H3 := by wtm_at "g_own"
    have w9 := (fl_in (f := ⟨f.k, rs, f.cr - f.w0⟩) w8).bigCons
    have w10 : Own (QuP K p { z with fs := ⟨f.k, rs, f.cr - f.w0⟩ :: r } :: WtP K u (f.wt r0) :: R) H3 := qu_in (y := { z with fs := ⟨f.k, rs, f.cr - f.w0⟩ :: r }) (fs := a :: as') (l := l) (dx := dx) (by wtm_at "g_own")
    wtm_at "g_go"
    refine c_remove (y := { z with fs := ⟨f.k, rs, f.cr - f.w0⟩ :: r }) (j := 0) rfl (Nat.succ_pos _) (by show r.length + 1 ≤ _; rw [hfs] at hfl; simp only [List.length_cons] at hfl; omega) w10 .here fun H4 w11 => ?_
    wtm_at "g_go"
    refine q2 _ _ (Own.swap ?_)
    rw [eg]
    exact w11
  · have hrs : rs ≠ [] := fun e => by
      rw [e] at hus
      simp at hus
      rw [hus] at h1
      simp at h1
    have eg : goneF z = { z with fs := ⟨f.k, rs, f.cr - f.w0⟩ :: r } := by
      unfold goneF
      rw [hfs]
      show ({ z with fs := (outAt _ z.gr 0).1, gr := (outAt _ z.gr 0).2 } : Qu) = _
      unfold outAt
      rw [if_neg (by show ¬ f.rows.tail = []; rw [hrows]; exact hrs)]
      show ({ z with fs := ⟨f.k, f.rows.tail, f.cr - f.w0⟩ :: r } : Qu) = _
      rw [hrows]
      rfl
    wtm_at "g_go"
    refine q2 _ _ (Own.swap ?_)
    rw [eg]
    have w8 : Own (pt a (.ins (He.ga K "Flow") da (fFlow (.ref ka) (.ref la) (.int (f.wr rs).oct) (.int (f.cr - f.w0)))) :: KyP ka f.k :: pt la (.lst (us.map V.ref)) :: big (WtP K) us (rs.map f.wt) :: big (FlP K) as' r :: WtP K u (f.wt r0) :: pt p (.ins (He.ga K "FairQueue") dx (fFairQueue (.int z.lim) (.int z.q) (.ref l) (.bl z.gr))) :: pt l (.lst ((a :: as').map V.ref)) :: R) H3 := by wtm_at "g_own"
    have w9 := (fl_in (f := ⟨f.k, rs, f.cr - f.w0⟩) w8).bigCons
    exact qu_in (y := { z with fs := ⟨f.k, rs, f.cr - f.w0⟩ :: r }) (fs := a :: as') (l := l) (dx := dx) (by wtm_at "g_own")
end
section
variable {K : PySem.W.Frag} {mg : Str → Option Value} {base : Heap}
theorem pure_Flow_fork (T : TX K mg base) (vs : List V) (H : Hp) (Q : VK) (E : XK) (h : sp_Flow_fork K vs H Q E) : t_Flow_fork K E { nx := fun _ H' => Q .non H', rt := Q } (start N_Flow_fork vs) H := by
  obtain ⟨p, f, R, rfl, w, q⟩ := h
  obtain ⟨dx, ka, l, ws, w⟩ := fl_out w
  unfold t_Flow_fork
  wtm_at "g_go"
  rename_i d dx' H1 w1 H2 w2 c H3 w3
  obtain ⟨dy, kb, l2, ws2, w4⟩ := fl_out (w3.swap)
  wtm_at "g_go"
  rename_i H5 w5
  refine q _ _ (fl_in (f := f) (l := c) (ws := ws) (dx := dy) (ka := kb) ?_)
  have w6 : Own (pt p (.ins (He.ga K "Flow") dx (fFlow (.ref ka) (.ref l) (.int f.oct) (.int f.cr))) :: KyP ka f.k :: pt l (.lst (ws.map V.ref)) :: big (WtP K) ws (f.rows.map f.wt) :: pt d (.ins (He.ga K "Flow") dy (fFlow (.ref kb) (.ref c) (.int f.oct) (.int f.cr))) :: KyP kb f.k :: pt c (.lst (ws.map V.ref)) :: big (WtP K) ws (f.rows.map f.wt) :: R) H5 := by wtm_at "g_own"
  have w7 := fl_in w6
  wtm_at "g_own"
theorem flat_len {fs : List Fl} : (allW fs).length = cnt fs := by
  unfold allW cnt
  rw [List.length_flatten, List.map_map]
  congr 1
  refine List.map_congr_left fun f _ => ?_
  show (f.rows.map f.wt).length = _
  rw [List.length_map]
theorem allW_s {fs : List Fl} {i : Nat} {f : Fl} (h : fs[i]? = some f) : allW (fs.take (i + 1)) = allW (fs.take i) ++ f.rows.map f.wt := by
  unfold allW
  rw [take_map_s h, List.flatten_append]
  simp
theorem cnt_take {fs : List Fl} (i : Nat) : cnt (fs.take i) ≤ cnt fs := by
  have : cnt fs = cnt (fs.take i) + cnt (fs.drop i) := by rw [← cnt_app, List.take_append_drop]
  omega
theorem pure_FairQueue_take_all (T : TX K mg base) (vs : List V) (H : Hp) (Q : VK) (E : XK) (h : sp_FairQueue_take_all K vs H Q E) : t_FairQueue_take_all K E { nx := fun _ H' => Q .non H', rt := Q } (start N_FairQueue_take_all vs) H := by
  obtain ⟨p, x, R, rfl, hc, w, q⟩ := h
  obtain ⟨dx, l, fs, w⟩ := qu_out w
  have hlen := (w.pick (.next (.next .here))).bigLen
  unfold t_FairQueue_take_all
  wtm_at "g_go"
  rename_i t H1 w1
  refine loopL (xs := fs.map V.ref) (fun i σ H' => ∃ t v2 ws, σ = [some (.ref p), some (.ref t), v2] ∧ Own (pt t (.lst (ws.map V.ref)) :: big (WtP K) ws (allW (x.fs.take i)) :: pt p (.ins (He.ga K "FairQueue") dx (fFairQueue (.int x.lim) (.int x.q) (.ref l) (.bl x.gr))) :: pt l (.lst (fs.map V.ref)) :: big (FlP K) fs x.fs :: R) H') (by wtm_at "g_sq") ⟨t, _, [], rfl, Own.swap (Own.bigNil (by wtm_at "g_ow"))⟩ ?_ ?_ ?_
  · rintro i σ H' hi ⟨t, v2, ws, rfl, w'⟩
    wtm_at "g_sq"
  · rintro i y σ H2 hy ⟨t, v2, ws, rfl, w2⟩
    obtain ⟨a, ha, rfl⟩ := map_ref_at hy
    obtain ⟨f, hf⟩ := at_of_len ha hlen
    have hil := (List.getElem?_eq_some_iff.mp ha).1
    have hws : ws.length = cnt (x.fs.take i) := by
      have := w2.swap.bigLen
      rw [flat_len] at this
      exact this
    have hct := cnt_take (fs := x.fs) i
    have hfr := len_cnt (List.mem_of_getElem? hf)
    obtain ⟨da, ka, la, us, w3⟩ := fl_out ((w2.pick (.next (.next (.next (.next .here))))).bigOut ha hf)
    have hus := (w3.pick (.next (.next (.next .here)))).bigLen
    rw [List.length_map] at hus
    wtm_at "g_go"
    rename_i t2 H3 w4
    refine ⟨_, _, ws ++ us, rfl, ?_⟩
    have w5 : Own (pt a (.ins (He.ga K "Flow") da (fFlow (.ref ka) (.ref la) (.int f.oct) (.int f.cr))) :: KyP ka f.k :: pt la (.lst (us.map V.ref)) :: big (WtP K) us (f.rows.map f.wt) :: big (FlP K) (fs.take i) (x.fs.take i) :: big (FlP K) (fs.drop (i + 1)) (x.fs.drop (i + 1)) :: big (WtP K) us (f.rows.map f.wt) :: big (WtP K) ws (allW (x.fs.take i)) :: pt t2 (.lst ((ws ++ us).map V.ref)) :: pt p (.ins (He.ga K "FairQueue") dx (fFairQueue (.int x.lim) (.int x.q) (.ref l) (.bl x.gr))) :: pt l (.lst (fs.map V.ref)) :: R) H3 := by wtm_at "g_own"
    have w6 := (fl_in w5).bigBack ha (by omega)
    have ef : x.fs.set i f = x.fs := by
      obtain ⟨h1, rfl⟩ := List.getElem?_eq_some_iff.mp hf
      exact List.set_getElem_self h1
    rw [ef] at w6
    have w7 : Own (big (WtP K) ws (allW (x.fs.take i)) :: big (WtP K) us (f.rows.map f.wt) :: pt t2 (.lst ((ws ++ us).map V.ref)) :: pt p (.ins (He.ga K "FairQueue") dx (fFairQueue (.int x.lim) (.int x.q) (.ref l) (.bl x.gr))) :: pt l (.lst (fs.map V.ref)) :: big (FlP K) fs x.fs :: R) H3 := by wtm_at "g_own"
    rw [allW_s hf]
    exact w7.bigApp.swap
  · rintro σ H2 ⟨t, v2, ws, rfl, w2⟩
    wtm_at "g_go"
    rename_i l2 H3 w3 H4 w4 H5 w5
    rw [List.length_map, hlen, List.take_length] at w5
    refine q _ t ws ?_
    have w6 := Own.bigNil (f := FlP K) w5
    have w7 : Own (pt p (.ins (He.ga K "FairQueue") dx (fFairQueue (.int x.lim) (.int x.q) (.ref l2) (.bl false))) :: pt l2 (.lst (([] : List Addr).map V.ref)) :: big (FlP K) [] [] :: pt t (.lst (ws.map V.ref)) :: big (WtP K) ws (allW x.fs) :: R) H5 := by wtm_at "g_ow"
    have w8 := qu_in (y := { x with fs := [], gr := false }) w7
    wtm_at "g_own"
theorem pure_FairQueue_fork (T : TX K mg base) (vs : List V) (H : Hp) (Q : VK) (E : XK) (h : sp_FairQueue_fork K vs H Q E) : t_FairQueue_fork K E { nx := fun _ H' => Q .non H', rt := Q } (start N_FairQueue_fork vs) H := by
  obtain ⟨p, x, R, rfl, h1, h2, hl, w, q⟩ := h
  unfold t_FairQueue_fork
  wtm_at "g_go"
  rename_i d dx' H1 w1
  refine ⟨d, dx', x.lim, x.q, QuP K p x :: R, rfl, w1, fun z => by omega, fun _ _ H2 w2 => ?_⟩
  obtain ⟨dd, ld, fd, w3⟩ := qu_out w2
  have hfd := (w3.pick (.next (.next .here))).bigLen
  obtain ⟨dx, l, fs, w4⟩ := qu_out (w3.pick (.next (.next (.next .here))))
  have hlen := (w4.pick (.next (.next .here))).bigLen
  wtm_at "g_go"
  refine lcLO (fun i A L => ∃ ps : List Addr, A = ps.map V.ref ∧ ps.length = i ∧ L = big (FlP K) ps (x.fs.take i) :: big (FlP K) fs x.fs :: pt p (.ins (He.ga K "FairQueue") dx (fFairQueue (.int x.lim) (.int x.q) (.ref l) (.bl x.gr))) :: pt l (.lst (fs.map V.ref)) :: pt d (.ins (He.ga K "FairQueue") dd (fFairQueue (.int x.lim) (.int x.q) (.ref ld) (.bl false))) :: R)
    (Own.bigNil (f := FlP K) (by wtm_at "g_own")) ⟨[], rfl, rfl, rfl⟩ ?_ (by wtm_at "g_sq") ?_ ?_
  · rintro i A L D H' ⟨ps, rfl, hps, rfl⟩ w'
    wtm_at "g_sq"
  · rintro i y D A L H3 hy ⟨ps, rfl, hps, rfl⟩ w5
    obtain ⟨a, ha, rfl⟩ := map_ref_at hy
    obtain ⟨f, hf⟩ := at_of_len ha hlen
    have hil := (List.getElem?_eq_some_iff.mp ha).1
    have w6 := (w5.pick (.next (.next .here))).bigOut ha hf
    wtm_at "g_go"
    refine ⟨a, f, _, rfl, w6, fun H4 b w7 => ?_⟩
    have w8 : Own (FlP K a f :: big (FlP K) (fs.take i) (x.fs.take i) :: big (FlP K) (fs.drop (i + 1)) (x.fs.drop (i + 1)) :: big (FlP K) ps (x.fs.take i) :: FlP K b f :: pt D (.lst (ps.map V.ref)) :: pt p (.ins (He.ga K "FairQueue") dx (fFairQueue (.int x.lim) (.int x.q) (.ref l) (.bl x.gr))) :: pt l (.lst (fs.map V.ref)) :: pt d (.ins (He.ga K "FairQueue") dd (fFairQueue (.int x.lim) (.int x.q) (.ref ld) (.bl false))) :: R) H4 := by wtm_at "g_own"
    have w9 := w8.bigBack ha (by omega)
    have ef : x.fs.set i f = x.fs := by
      obtain ⟨h1, rfl⟩ := List.getElem?_eq_some_iff.mp hf
      exact List.set_getElem_self h1
    rw [ef] at w9
    have w10 := (w9.pick (.next .here)).rest (M := FlP K b f :: big (FlP K) fs x.fs :: pt D (.lst (ps.map V.ref)) :: pt p (.ins (He.ga K "FairQueue") dx (fFairQueue (.int x.lim) (.int x.q) (.ref l) (.bl x.gr))) :: pt l (.lst (fs.map V.ref)) :: pt d (.ins (He.ga K "FairQueue") dd (fFairQueue (.int x.lim) (.int x.q) (.ref ld) (.bl false))) :: R) (by exact Sel.cons (.next .here) (by wtm_at "g_sel"))
    have w11 := w10.bigSnoc
    refine lc_addO (A := ps.map V.ref) (R := big (FlP K) (ps ++ [b]) (x.fs.take (i + 1)) :: big (FlP K) fs x.fs :: pt p (.ins (He.ga K "FairQueue") dx (fFairQueue (.int x.lim) (.int x.q) (.ref l) (.bl x.gr))) :: pt l (.lst (fs.map V.ref)) :: pt d (.ins (He.ga K "FairQueue") dd (fFairQueue (.int x.lim) (.int x.q) (.ref ld) (.bl false))) :: R) (L := pt D (.lst (ps.map V.ref)) :: big (FlP K) (ps ++ [b]) (x.fs.take (i + 1)) :: big (FlP K) fs x.fs :: pt p (.ins (He.ga K "FairQueue") dx (fFairQueue (.int x.lim) (.int x.q) (.ref l) (.bl x.gr))) :: pt l (.lst (fs.map V.ref)) :: pt d (.ins (He.ga K "FairQueue") dd (fFairQueue (.int x.lim) (.int x.q) (.ref ld) (.bl false))) :: R) ?_ .here (by rw [List.length_map]; exact small16l (by omega)) ⟨ps ++ [b], by rw [List.map_append]; rfl, by rw [List.length_append, hps]; rfl, rfl⟩
    rw [List.take_add_one, hf]
    exact Own.sel w11 (Sel.cons (.next (.next .here)) (Sel.cons .here (by wtm_at "g_sel")))
  · rintro D A L H3 ⟨ps, rfl, hps, rfl⟩ w5
    rw [List.length_map, hlen, List.take_length] at w5
    wtm_at "g_go"
    rename_i H4 w6 H5 w7
    refine q _ d ?_
    have w8 : Own (pt p (.ins (He.ga K "FairQueue") dx (fFairQueue (.int x.lim) (.int x.q) (.ref l) (.bl x.gr))) :: pt l (.lst (fs.map V.ref)) :: big (FlP K) fs x.fs :: pt d (.ins (He.ga K "FairQueue") dd (fFairQueue (.int x.lim) (.int x.q) (.ref D) (.bl x.gr))) :: pt D (.lst (ps.map V.ref)) :: big (FlP K) ps x.fs :: R) H5 := by wtm_at "g_own"
    have w9 := qu_in w8
    exact qu_in (fs := ps) (l := D) (dx := dd) (by wtm_at "g_own")
end
section
variable {K : PySem.W.Frag} {mg : Str → Option Value} {base : Heap}
theorem pure_Frame_as_row (T : TX K mg base) (vs : List V) (H : Hp) (Q : VK) (E : XK) (h : sp_Frame_as_row K vs H Q E) : t_Frame_as_row K E { nx := fun _ H' => Q .non H', rt := Q } (start N_Frame_as_row vs) H := by
  obtain ⟨p, f, R, rfl, w, q⟩ := h
  obtain ⟨dx, l, w⟩ := fr_out w
  unfold t_Frame_as_row
  wtm_at "g_go"
  exact q _ _ l (by wtm_at "g_own")
theorem pure_Frame_flow_key (T : TX K mg base) (vs : List V) (H : Hp) (Q : VK) (E : XK) (h : sp_Frame_flow_key K vs H Q E) : t_Frame_flow_key K E { nx := fun _ H' => Q .non H', rt := Q } (start N_Frame_flow_key vs) H := by
  obtain ⟨p, f, R, rfl, w, q⟩ := h
  obtain ⟨dx, l, w⟩ := fr_out w
  unfold t_Frame_flow_key
  wtm_at "g_go"
  rename_i t H1 w1
  exact q _ t (show Own (ro t (.tup [.str f.kind, .int f.sender, .int f.target]) :: R) H1 from by wtm_at "g_own")
theorem pure_Frame_weight (T : TX K mg base) (vs : List V) (H : Hp) (Q : VK) (E : XK) (h : sp_Frame_weight K vs H Q E) : t_Frame_weight K E { nx := fun _ H' => Q .non H', rt := Q } (start N_Frame_weight vs) H := by
  obtain ⟨p, f, R, rfl, w, q⟩ := h
  obtain ⟨dx, l, w⟩ := fr_out w
  unfold t_Frame_weight
  wtm_at "g_go"
  exact q _ (by wtm_at "g_own")
theorem pure_Bucket_init (T : TX K mg base) (vs : List V) (H : Hp) (Q : VK) (E : XK) (h : sp_Bucket_init K vs H Q E) : t_Bucket_init K E { nx := fun _ H' => Q .non H', rt := Q } (start N_Bucket_init vs) H := by
  obtain ⟨p, dx, r, d, R, rfl, hr, hd, w, q⟩ := h
  unfold t_Bucket_init
  wtm_at "g_go"
  refine if_d (fun z => absurd z (by omega)) (fun _ => ?_)
  wtm_at "g_go"
  refine if_d (fun z => absurd z (by omega)) (fun _ => ?_)
  wtm_at "g_go"
  exact q _ (bu_in (b := ⟨r, d, d⟩) (dx := dx) (by wtm_at "g_own"))
theorem pure_Bucket_tick (T : TX K mg base) (vs : List V) (H : Hp) (Q : VK) (E : XK) (h : sp_Bucket_tick K vs H Q E) : t_Bucket_tick K E { nx := fun _ H' => Q .non H', rt := Q } (start N_Bucket_tick vs) H := by
  obtain ⟨p, b, R, rfl, w, q⟩ := h
  obtain ⟨dx, w⟩ := bu_out w
  unfold t_Bucket_tick
  wtm_at "g_go"
  exact q _ (bu_in (b := b.tick) (dx := dx) (by unfold Bk.tick; wtm_at "g_own"))
theorem pure_Bucket_take (T : TX K mg base) (vs : List V) (H : Hp) (Q : VK) (E : XK) (h : sp_Bucket_take K vs H Q E) : t_Bucket_take K E { nx := fun _ H' => Q .non H', rt := Q } (start N_Bucket_take vs) H := by
  obtain ⟨p, b, s, R, rfl, w, q1, q2⟩ := h
  obtain ⟨dx, w⟩ := bu_out w
  unfold t_Bucket_take
  wtm_at "g_go"
  refine if_d (fun h1 => ?_) (fun h1 => ?_)
  · wtm_at "g_go"
    exact q1 (by omega) _ (bu_in (dx := dx) (by wtm_at "g_own"))
  · wtm_at "g_go"
    exact q2 (by omega) _ (bu_in (b := { b with tokens := b.tokens - s }) (dx := dx) (by wtm_at "g_own"))
end
section
variable {K : PySem.W.Frag} {mg : Str → Option Value} {base : Heap}
theorem pure_Line_join (T : TX K mg base) (vs : List V) (H : Hp) (Q : VK) (E : XK) (h : sp_Line_join K vs H Q E) : t_Line_join K E { nx := fun _ H' => Q .non H', rt := Q } (start N_Line_join vs) H := by
  obtain ⟨p, z, R, rfl, w, q⟩ := h
  obtain ⟨dx, lo, qa, ba, fl, ts, w⟩ := ln_out w
  unfold t_Line_join
  wtm_at "g_go"
  exact q _ (ln_in (z := { z with up := true }) (dx := dx) (lo := lo) (qa := qa) (ba := ba) (fl := fl) (ts := ts) (by wtm_at "g_own"))
theorem pure_Bucket_fork (T : TX K mg base) (vs : List V) (H : Hp) (Q : VK) (E : XK) (h : sp_Bucket_fork K vs H Q E) : t_Bucket_fork K E { nx := fun _ H' => Q .non H', rt := Q } (start N_Bucket_fork vs) H := by
  obtain ⟨p, b, R, rfl, hr, hd, w, q⟩ := h
  obtain ⟨dx, w⟩ := bu_out w
  unfold t_Bucket_fork
  wtm_at "g_go"
  rename_i p2 d2 H1 w1
  refine ⟨p2, d2, b.rate, b.depth, _, rfl, hr, hd, w1, fun H2 w2 => ?_⟩
  obtain ⟨d3, w3⟩ := bu_out w2
  wtm_at "g_go"
  rename_i H3 w4
  exact q _ p2 (bu_in (dx := d3) (Own.swap (bu_in (dx := dx) (by wtm_at "g_own"))))
theorem pure_LinkOptions_init (T : TX K mg base) (vs : List V) (H : Hp) (Q : VK) (E : XK) (h : sp_LinkOptions_init K vs H Q E) : t_LinkOptions_init K E { nx := fun _ H' => Q .non H', rt := Q } (start N_LinkOptions_init vs) H := by
  obtain ⟨p, dx, o, R, rfl, hO, w, q⟩ := h
  have h1 := hO.cost
  have h2 := hO.size
  have h3 := hO.rate
  have h4 := hO.depth
  have h5 := hO.limit
  have h6 := hO.delay
  unfold t_LinkOptions_init
  wtm_at "g_goo"
  unfold tChain3
  wtm_at "g_goo"
  exact q _ (lo_in (o := o) (dx := dx) (Own.toRo (by wtm_at "g_own")))
end
section
variable {K : PySem.W.Frag} {mg : Str → Option Value} {base : Heap}
theorem pure_Frame_init (T : TX K mg base) (vs : List V) (H : Hp) (Q : VK) (E : XK) (h : sp_Frame_init K vs H Q E) : t_Frame_init K E { nx := fun _ H' => Q .non H', rt := Q } (start N_Frame_init vs) H := by
  obtain ⟨p, dx, l, f, R, rfl, hl, w, g, q⟩ := h
  unfold t_Frame_init
  wtm_at "g_go"
  rename_i l2 H1 w1 H2 w2 H3 w3 H4 w4 H5 w5
  have w6 : Own (pt p (.ins (He.ga K "Frame") dx (fFrame (.str f.kind) (.int f.sender) (.int f.target) (.ref l2) (.int f.birth) (.int f.hops) (.bl f.marked))) :: pt l2 (.lst (f.oct.map V.int)) :: R) H5 := by wtm_at "g_own"
  exact q _ (fr_in (w6.toRo.swap.toRo.swap))
theorem pure_Frame_with_mark (T : TX K mg base) (vs : List V) (H : Hp) (Q : VK) (E : XK) (h : sp_Frame_with_mark K vs H Q E) : t_Frame_with_mark K E { nx := fun _ H' => Q .non H', rt := Q } (start N_Frame_with_mark vs) H := by
  obtain ⟨p, f, R, rfl, hl, w, q⟩ := h
  obtain ⟨dx, l, w⟩ := fr_out w
  unfold t_Frame_with_mark
  wtm_at "g_go"
  rename_i a da H1 w1
  refine ⟨a, da, l, f.mark, _, rfl, hl, w1, .next .here, fun H2 w2 => ?_⟩
  wtm_at "g_go"
  exact q _ a (by wtm_at "g_own")
theorem pure_Frame_after_hop (T : TX K mg base) (vs : List V) (H : Hp) (Q : VK) (E : XK) (h : sp_Frame_after_hop K vs H Q E) : t_Frame_after_hop K E { nx := fun _ H' => Q .non H', rt := Q } (start N_Frame_after_hop vs) H := by
  obtain ⟨p, l0, f, xs, R, rfl, hl, w, g, q⟩ := h
  obtain ⟨dx, l, w⟩ := fr_out w
  unfold t_Frame_after_hop
  wtm_at "g_go"
  rename_i a da H1 w1
  refine ⟨a, da, l0, { f with oct := xs, hops := f.hops - 1 }, _, rfl, hl, w1, .next (.next g), fun H2 w2 => ?_⟩
  wtm_at "g_go"
  exact q _ a (by wtm_at "g_own")
theorem pure_Frame__eq (T : TX K mg base) (vs : List V) (H : Hp) (Q : VK) (E : XK) (h : sp_Frame__eq K vs H Q E) : t_Frame__eq K E { nx := fun _ H' => Q .non H', rt := Q } (start N_Frame__eq vs) H := by
  obtain ⟨p, v, f, R, rfl, w0, ⟨a, g, rfl, w, q⟩ | ⟨t, xs, rfl, gt, q⟩⟩ := h
  · obtain ⟨da, la, w⟩ := fr_out w
    obtain ⟨dp, lp, w⟩ := fr_out (w.pick (.next (.next .here)))
    have q := q _ w.tail.tail.tail.tail
    have no : ∀ h : ¬ f = g, Q (.bl false) H := fun h => by
      rw [decide_eq_false h] at q
      exact q
    unfold t_Frame__eq
    wtm_at "g_go"
    refine w_isi_own (by wtm_at "g_hp") (insB_ok (T.b.ex_ 0)) (.own _) (of_decide_eq_true (T.b.ex_ 1)) ?_
    refine ⟨true, rfl, ?_⟩
    wtm_at "g_go"
    refine if_d (fun h1 => ?_) (fun z => no fun e => z (by rw [e]))
    wtm_at "g_go"
    refine if_d (fun h2 => ?_) (fun z => no fun e => z (by rw [e]))
    wtm_at "g_go"
    refine if_d (fun h3 => ?_) (fun z => no fun e => z (by rw [e]))
    wtm_at "g_go"
    refine w_eqLI (xs := f.oct) (ys := g.oct) (by wtm_at "g_sq") (by wtm_at "g_sq") ?_
    wtm_at "g_go"
    refine if_d (fun h4 => ?_) (fun z => no fun e => z (by rw [e]))
    wtm_at "g_go"
    refine if_d (fun h5 => ?_) (fun z => no fun e => z (by rw [e]))
    wtm_at "g_go"
    refine if_d (fun h6 => ?_) (fun z => no fun e => z (by rw [e]))
    wtm_at "g_go"
    have e : decide (f = g) = decide (f.marked = g.marked) := decide_eq_decide.mpr ⟨fun z => by rw [z], fun z => by
      cases f
      cases g
      simp only at *
      subst h1 h2 h3 h4 h5 h6 z
      rfl⟩
    rw [← e]
    exact q
  · have hy := w0.tail.get gt
    unfold t_Frame__eq
    wtm_at "g_go"
    refine w_isi (.own _) (.base (.tup hy)) (of_decide_eq_true (T.b.ex_ 2)) ?_
    exact ⟨false, rfl, q _ w0.tail⟩
theorem tell_fl_l {p : Addr} {f : Fl} : Tell (FlP K p f) (fun H => ∃ (dx ka l : Addr) (ws : List Addr), H p = some (.ins (He.ga K "Flow") dx (fFlow (.ref ka) (.ref l) (.int f.oct) (.int f.cr))) ∧ H l = some (.lst (ws.map V.ref)) ∧ ws.length = f.rows.length) := fun h ⟨dx, ka, l, ws, h1, h2, d, s1, s2, p, h3, h4, _, s3, s4, q, h5, h6, _, s5, s6, r, h7, h8, _, s7, s8, b, _⟩ H e => ⟨dx, ka, l, ws, e _ _ _ (s1 _ _ p), e _ _ _ (s2 _ _ (s4 _ _ (s5 _ _ r))), (big_len_h b).trans (by rw [List.length_map])⟩
theorem pure_FairQueue_count (T : TX K mg base) (vs : List V) (H : Hp) (Q : VK) (E : XK) (h : sp_FairQueue_count K vs H Q E) : t_FairQueue_count K E { nx := fun _ H' => Q .non H', rt := Q } (start N_FairQueue_count vs) H := by
  obtain ⟨p, x, R, rfl, hc, hl, w, q⟩ := h
  obtain ⟨dx, l, fs, w⟩ := qu_out w
  unfold t_FairQueue_count
  wtm_at "g_go"
  refine lcSel (F := FlP K) (fun _ => true) (fun f => V.int (f.rows.length : Nat)) (by omega) w (.next .here) (.next .here) (fun i a f H1 X B0 B1 ha hf w' h0 h1 => ?_) (fun D H' w' => ?_)
  · obtain ⟨dy, ka, lf, ws, hp, hq, hwl⟩ := (w'.pick (.next (.next .here))).bigTell ha hf tell_fl_l
    wtm_at "g_go"
    refine ⟨wipe1, ?_⟩
    wtm_at "g_go"
    rw [hwl]
    exact h1 rfl
  · rw [filter_tt] at w'
    have e : x.fs.map (fun f => V.int (f.rows.length : Nat)) = (x.fs.map (fun f => ((f.rows.length : Nat) : Int))).map V.int := by
      rw [List.map_map]
      rfl
    rw [e] at w'
    wtm_at "g_go"
    refine w_sum (ns := x.fs.map (fun f => ((f.rows.length : Nat) : Int))) (by wtm_at "g_sq") ?_
    have e2 : (x.fs.map (fun f => ((f.rows.length : Nat) : Int))).sum = ((cnt x.fs : Nat) : Int) := by
      unfold cnt
      generalize x.fs = fs
      induction fs with
      | nil => rfl
      | cons f r ih => rw [List.map_cons, List.sum_cons, List.map_cons, List.sum_cons, ih]; omega
    rw [e2]
    exact q _ (qu_in (by wtm_at "g_own"))
end
section
/-! ### the queue keeps its rules; items told by P -/
def WI (P : V → Prop) (fs : List Fl) : Prop := ∀ f ∈ fs, ∀ r ∈ f.rows, P r.1
structure GW (P : V → Prop) (x : Wt) : Prop where
  k : kOk x.k
  i : P x.i
  w : 1 ≤ x.w
variable {P : V → Prop}
theorem lastD_mem {α : Type} {xs : List α} {d : α} (h : xs ≠ []) : xs.getLastD d ∈ xs := List.mem_of_getElem? (last_at (d := d) h)
theorem gw_dropW {fs : List Fl} (h : fs ≠ []) (hw : ∀ f ∈ fs, WFl f) (hi : WI P fs) : GW P (dropW fs) := by
  obtain ⟨f, hf⟩ := some_lt (most_lt h)
  have hm := List.mem_of_getElem? hf
  unfold dropW
  rw [getD_some hf]
  exact ⟨(hw f hm).k, hi f hm _ (lastD_mem (hw f hm).ne), (hw f hm).w _ (lastD_mem (hw f hm).ne)⟩
theorem wi_dropS {fs : List Fl} {gr : Bool} (h : fs ≠ []) (hi : WI P fs) : WI P (dropS fs gr).1 := by
  obtain ⟨f, hf⟩ := some_lt (most_lt h)
  have hm := List.mem_of_getElem? hf
  have key : WI P (fs.set (most fs) ⟨f.k, f.rows.dropLast, f.cr⟩) := fun g hg => by
    rcases List.mem_or_eq_of_mem_set hg with hg | rfl
    · exact hi g hg
    · exact fun r hr => hi f hm r (List.dropLast_subset _ hr)
  unfold dropS outAt
  rw [getD_some hf]
  split
  · exact fun g hg => key g (List.mem_of_mem_eraseIdx hg)
  · exact key
theorem dropL_ok {lim : Int} (hl : 1 ≤ lim) : ∀ (n : Nat) (fs : List Fl) (gr : Bool), (∀ f ∈ fs, WFl f) → WI P fs → (∀ f ∈ (dropL lim n fs gr).1, WFl f) ∧ WI P (dropL lim n fs gr).1 ∧ cnt (dropL lim n fs gr).1 + (dropL lim n fs gr).2.2.length ≤ cnt fs ∧ ∀ y ∈ (dropL lim n fs gr).2.2, GW P y
  | 0, fs, gr, hw, hi => ⟨hw, hi, Nat.le_refl _, fun y hy => by cases hy⟩
  | n + 1, fs, gr, hw, hi => by
    rw [dropL]
    split
    · exact ⟨hw, hi, Nat.le_refl _, fun y hy => by cases hy⟩
    · rename_i hn
      have hne : fs ≠ [] := fun z => by
        subst z
        have : octs [] = 0 := rfl
        omega
      have hc := cnt_dropS (gr := gr) hne fun f hf => (hw f hf).ne
      obtain ⟨a, b, c, d⟩ := dropL_ok hl n (dropS fs gr).1 (dropS fs gr).2 (wfl_dropS hne hw) (wi_dropS hne hi)
      refine ⟨a, b, by show cnt (dropL lim n (dropS fs gr).1 (dropS fs gr).2).1 + ((dropL lim n (dropS fs gr).1 (dropS fs gr).2).2.2.length + 1) ≤ _; omega, fun y hy => ?_⟩
      rcases List.mem_cons.mp hy with rfl | hy
      · exact gw_dropW hne hw hi
      · exact d y hy
theorem wi_add {fs : List Fl} {k : Ky} {i : V} {w : Int} (hp : P i) (hi : WI P fs) : WI P (addF fs k (i, w)) := by
  unfold addF
  split
  · rename_i j hj
    obtain ⟨f, hf, _⟩ := fnd_at hj
    intro g hg
    rcases List.mem_or_eq_of_mem_set hg with hg | rfl
    · exact hi g hg
    · rw [getD_some hf]
      intro r hr
      rcases List.mem_append.mp hr with hr | hr
      · exact hi f (List.mem_of_getElem? hf) r hr
      · rw [List.mem_singleton.mp hr]
        exact hp
  · intro g hg
    rcases List.mem_append.mp hg with hg | hg
    · exact hi g hg
    · rw [List.mem_singleton.mp hg]
      intro r hr
      rw [List.mem_singleton.mp hr]
      exact hp
theorem put_ok {x : Qu} {k : Ky} {i : V} {w : Int} (wf : WF x) (hi : WI P x.fs) (hp : P i) (hk : kOk k) (hw : 1 ≤ w) : WF (putF x k i w).1 ∧ WI P (putF x k i w).1.fs ∧ cnt (putF x k i w).1.fs + (putF x k i w).2.length ≤ cnt x.fs + 1 ∧ (∀ y ∈ (putF x k i w).2, GW P y) ∧ (putF x k i w).1.lim = x.lim ∧ (putF x k i w).1.q = x.q := by
  unfold putF
  split
  · refine ⟨wf, hi, Nat.le_refl _, fun y hy => ?_, rfl, rfl⟩
    rw [List.mem_singleton.mp hy]
    exact ⟨hk, hp, hw⟩
  · obtain ⟨a, b, c, d⟩ := dropL_ok (P := P) wf.lim (cnt (addF x.fs k (i, w))) (addF x.fs k (i, w)) x.gr (wfl_add hk hw wf.fs) (wi_add hp hi)
    refine ⟨⟨wf.lim, wf.q, a⟩, b, ?_, d, rfl, rfl⟩
    have : cnt (addF x.fs k (i, w)) = cnt x.fs + 1 := cnt_add
    show cnt (dropL _ _ _ _).1 + (dropL _ _ _ _).2.2.length ≤ _
    omega
theorem wi_turnL {q : Int} : ∀ (n : Nat) (fs : List Fl) (gr : Bool), WI P fs → WI P (turnL q n fs gr).1
  | 0, fs, gr, h => h
  | n + 1, [], gr, h => h
  | n + 1, f :: r, gr, h => by
    rw [turnL]
    by_cases hw : f.w0 ≤ (if gr = true then f.cr else f.cr + q)
    · rw [if_pos hw]
      intro g hg
      rcases List.mem_cons.mp hg with rfl | hg
      · exact h f List.mem_cons_self
      · exact h g (List.mem_cons_of_mem _ hg)
    · rw [if_neg hw]
      refine wi_turnL n _ false fun g hg => ?_
      rcases List.mem_append.mp hg with hg | hg
      · exact h g (List.mem_cons_of_mem _ hg)
      · rw [List.mem_singleton.mp hg]
        exact h f List.mem_cons_self
theorem gone_eq {x : Qu} {f : Fl} {r : List Fl} (h : x.fs = f :: r) : (goneF x).fs = (if f.rows.tail = [] then r else ⟨f.k, f.rows.tail, f.cr - f.w0⟩ :: r) ∧ (goneF x).lim = x.lim ∧ (goneF x).q = x.q := by
  unfold goneF
  rw [h]
  refine ⟨?_, rfl, rfl⟩
  show (outAt (⟨f.k, f.rows.tail, f.cr - f.w0⟩ :: r) x.gr 0).1 = _
  unfold outAt
  by_cases e : f.rows.tail = []
  · rw [if_pos (show ((⟨f.k, f.rows.tail, f.cr - f.w0⟩ :: r : List Fl).getD 0 fl0).rows = [] from e), if_pos e]
    rfl
  · rw [if_neg (show ¬ ((⟨f.k, f.rows.tail, f.cr - f.w0⟩ :: r : List Fl).getD 0 fl0).rows = [] from e), if_neg e]
theorem gone_ok {x : Qu} {y : Wt} (wf : WF x) (hi : WI P x.fs) (hy : firstF x = some y) : WF (goneF x) ∧ WI P (goneF x).fs ∧ cnt (goneF x).fs + 1 = cnt x.fs ∧ GW P y ∧ (goneF x).lim = x.lim ∧ (goneF x).q = x.q := by
  obtain ⟨f, r, hx⟩ : ∃ f r, x.fs = f :: r := by
    cases hz : x.fs with
    | nil => rw [firstF, hz] at hy; cases hy
    | cons f r => exact ⟨f, r, rfl⟩
  obtain ⟨e, e1, e2⟩ := gone_eq hx
  have hf : f ∈ x.fs := by rw [hx]; exact List.mem_cons_self
  have hr : ∀ g ∈ r, g ∈ x.fs := fun g hg => by rw [hx]; exact List.mem_cons_of_mem _ hg
  have hc := cnt_cons (f := f) (r := r)
  rw [← hx] at hc
  have hne := (wf.fs f hf).ne
  obtain ⟨r0, rs, hrows⟩ : ∃ r0 rs, f.rows = r0 :: rs := by
    cases hz : f.rows with
    | nil => exact absurd hz hne
    | cons r0 rs => exact ⟨r0, rs, rfl⟩
  have h0 : r0 ∈ f.rows := by rw [hrows]; exact List.mem_cons_self
  refine ⟨⟨by rw [e1]; exact wf.lim, by rw [e2]; exact wf.q, ?_⟩, ?_, ?_, ?_, e1, e2⟩
  · rw [e]
    split
    · exact fun g hg => wf.fs g (hr g hg)
    · rename_i hn
      intro g hg
      rcases List.mem_cons.mp hg with rfl | hg
      · exact ⟨(wf.fs f hf).k, hn, fun z hz => (wf.fs f hf).w z (List.mem_of_mem_tail hz)⟩
      · exact wf.fs g (hr g hg)
  · rw [e]
    split
    · exact fun g hg => hi g (hr g hg)
    · intro g hg
      rcases List.mem_cons.mp hg with rfl | hg
      · exact fun z hz => hi f hf z (List.mem_of_mem_tail hz)
      · exact hi g (hr g hg)
  · rw [hrows] at hc
    simp only [List.length_cons] at hc
    rw [e, hrows]
    split
    · rename_i hn
      rw [List.tail_cons] at hn
      rw [hn] at hc
      simp only [List.length_nil] at hc
      omega
    · rw [cnt_cons]
      show rs.length + cnt r + 1 = _
      omega
  · rw [firstF, hx] at hy
    cases hy
    show GW P (f.wt (f.rows.headD (.non, 0)))
    rw [hrows]
    exact ⟨(wf.fs f hf).k, hi f hf r0 h0, (wf.fs f hf).w r0 h0⟩
theorem turn_lim {x : Qu} : (turnF x).lim = x.lim ∧ (turnF x).q = x.q := ⟨rfl, rfl⟩
/-- the first one may go -/
theorem turn_head {q : Int} (hq : 1 ≤ q) : ∀ (n : Nat) (fs : List Fl) (gr : Bool), mu fs gr < n → fs ≠ [] → ∃ f r, turnL q n fs gr = (f :: r, true) ∧ f.w0 ≤ f.cr
  | 0, fs, gr, h, _ => absurd h (Nat.not_lt_zero _)
  | n + 1, [], gr, _, h => absurd rfl h
  | n + 1, f :: r, gr, h, _ => by
    rw [turnL]
    by_cases hc : f.w0 ≤ (if gr = true then f.cr else f.cr + q)
    · rw [if_pos hc]
      exact ⟨_, r, rfl, hc⟩
    · rw [if_neg hc]
      refine turn_head hq n _ false ?_ (by simp)
      have h1 : mu (f :: r) gr = (f.w0 - f.cr).toNat + want r + if gr then 1 else 0 := by unfold mu; rw [want_cons]
      have h2 : mu (r ++ [f.wc (if gr = true then f.cr else f.cr + q)]) false = want r + (f.w0 - (if gr = true then f.cr else f.cr + q)).toNat := by unfold mu; rw [want_snoc]; rfl
      rw [h2]
      rw [h1] at h
      cases gr with
      | true => simp at hc h ⊢; omega
      | false => simp at hc h ⊢; omega
theorem turn_again {x : Qu} (hq : 1 ≤ x.q) : turnF (turnF x) = turnF x := by
  by_cases he : x.fs = []
  · have : turnF x = x := by
      unfold turnF
      cases x
      dsimp only at he
      rw [he]
      rfl
    rw [this, this]
  · obtain ⟨f, r, e, hc⟩ := turn_head hq (mu x.fs x.gr + 1) x.fs x.gr (Nat.lt_succ_self _) he
    have e1 : turnF x = { x with fs := f :: r, gr := true } := by unfold turnF; rw [e]
    rw [e1]
    unfold turnF
    show ({ x with fs := (turnL x.q (mu (f :: r) true + 1) (f :: r) true).1, gr := (turnL x.q (mu (f :: r) true + 1) (f :: r) true).2 } : Qu) = _
    rw [turnL, if_pos (by rw [if_pos rfl]; exact hc)]
    rfl
theorem first_none {x : Qu} (hc : cnt x.fs = 0) (wf : WF x) : firstF (turnF x) = none := by
  have h1 := wf_turn wf
  have h2 := cnt_turn wf
  rw [hc] at h2
  have h3 := fs_cnt fun f hf => (h1.fs f hf).ne
  have h4 : (turnF x).fs = [] := List.length_eq_zero_iff.mp (by omega)
  unfold firstF
  rw [h4]
/-! what is sent -/
theorem send_ok : ∀ (n : Nat) (x : Qu) (b : Bk), WF x → WI P x.fs → WF (sendL n x b).2.1 ∧ WI P (sendL n x b).2.1.fs ∧ cnt (sendL n x b).2.1.fs + (sendL n x b).1.length = cnt x.fs ∧ (∀ y ∈ (sendL n x b).1, GW P y) ∧ (sendL n x b).2.1.lim = x.lim ∧ (sendL n x b).2.1.q = x.q ∧ (sendL n x b).2.2.rate = b.rate ∧ (sendL n x b).2.2.depth = b.depth
  | 0, x, b, wf, hi => ⟨wf_turn wf, wi_turnL _ _ _ hi, cnt_turn wf, (fun y hy => by cases hy), rfl, rfl, rfl, rfl⟩
  | n + 1, x, b, wf, hi => by
    rw [sendL]
    have h0 : WF (turnF x) ∧ WI P (turnF x).fs ∧ cnt (turnF x).fs = cnt x.fs := ⟨wf_turn wf, wi_turnL _ _ _ hi, cnt_turn wf⟩
    cases hy : firstF (turnF x) with
    | none => exact ⟨h0.1, h0.2.1, h0.2.2, (fun y hy => by cases hy), rfl, rfl, rfl, rfl⟩
    | some y =>
      dsimp only
      split
      · obtain ⟨g1, g2, g3, g4, g5, g6⟩ := gone_ok h0.1 h0.2.1 hy
        obtain ⟨a1, a2, a3, a4, a5, a6, a7, a8⟩ := send_ok n (goneF (turnF x)) { b with tokens := b.tokens - y.w } g1 g2
        refine ⟨a1, a2, ?_, fun z hz => ?_, a5.trans g5, a6.trans g6, a7, a8⟩
        · have := h0.2.2
          show cnt (sendL n (goneF (turnF x)) { b with tokens := b.tokens - y.w }).2.1.fs + ((sendL n (goneF (turnF x)) { b with tokens := b.tokens - y.w }).1.length + 1) = _
          omega
        · rcases List.mem_cons.mp hz with rfl | hz
          · exact g4
          · exact a4 z hz
      · exact ⟨h0.1, h0.2.1, h0.2.2, (fun y hy => by cases hy), rfl, rfl, rfl, rfl⟩
end
section
variable {K : PySem.W.Frag} {mg : Str → Option Value} {base : Heap}
theorem pure_Line_init (T : TX K mg base) (vs : List V) (H : Hp) (Q : VK) (E : XK) (h : sp_Line_init K vs H Q E) : t_Line_init K E { nx := fun _ H' => Q .non H', rt := Q } (start N_Line_init vs) H := by
  obtain ⟨p, dx, a, o, R, rfl, hO, w, q⟩ := h
  have h1 := hO.size
  have h2 := hO.rate
  have h3 := hO.depth
  have h4 := hO.limit
  unfold t_Line_init
  wtm_at "g_go"
  rename_i H1 w1 qa dq H2 w2
  refine ⟨qa, dq, o.limit, o.size, _, rfl, w2, fun z => by omega, fun _ _ H3 w3 => ?_⟩
  wtm_at "g_go"
  rename_i H4 w4 ba db H5 w5
  refine ⟨ba, db, o.rate, o.depth, _, rfl, by omega, by omega, w5, fun H6 w6 => ?_⟩
  wtm_at "g_go"
  rename_i H7 w7 fl H8 w8 H9 w9 H10 w10
  have w11 := Own.bigNil (f := DuP) w10
  exact q _ (ln_in (z := ⟨o, ⟨o.limit, o.size, [], false⟩, ⟨o.rate, o.depth, o.depth⟩, [], true⟩) (dx := dx) (lo := a) (qa := qa) (ba := ba) (fl := fl) (ts := []) (by wtm_at "g_ow"))
theorem pure_Line_count (T : TX K mg base) (vs : List V) (H : Hp) (Q : VK) (E : XK) (h : sp_Line_count K vs H Q E) : t_Line_count K E { nx := fun _ H' => Q .non H', rt := Q } (start N_Line_count vs) H := by
  obtain ⟨p, z, R, rfl, hc, hl, w, q⟩ := h
  obtain ⟨dx, lo, qa, ba, fl, ts, w⟩ := ln_out w
  have hlen := (w.pick (.next (.next (.next (.next (.next .here)))))).bigLen
  unfold t_Line_count
  wtm_at "g_go"
  rename_i H1 w1
  have e : ((cnt z.x.fs : Nat) : Int) + ((ts.length : Nat) : Int) = ((cnt z.x.fs + z.fly.length : Nat) : Int) := by omega
  rw [e]
  exact q _ (ln_in (z := z) (dx := dx) (lo := lo) (qa := qa) (ba := ba) (fl := fl) (ts := ts) (by wtm_at "g_own"))
theorem pure_Line_put (T : TX K mg base) (vs : List V) (H : Hp) (Q : VK) (E : XK) (h : sp_Line_put K vs H Q E) : t_Line_put K E { nx := fun _ H' => Q .non H', rt := Q } (start N_Line_put vs) H := by
  obtain ⟨p, a, z, f, R, rfl, wf, hc, hk, hl, w, q1, q2⟩ := h
  obtain ⟨dx, lo, qa, ba, fl, ts, w⟩ := ln_out w
  have hfl := fs_cnt fun f hf => (wf.fs f hf).ne
  have hw : 1 ≤ f.wt := by unfold Fr.wt; omega
  unfold t_Line_put
  wtm_at "g_go"
  refine if_b (fun hu => ?_) (fun hu => ?_)
  · wtm_at "g_go"
    rename_i t H1 w1
    exact q1 (by simpa using hu) _ t (Own.swap (ln_in (z := z) (dx := dx) (lo := lo) (qa := qa) (ba := ba) (fl := fl) (ts := ts) (by wtm_at "g_own")))
  wtm_at "g_go"
  refine w_cut (fun σ H' => ∃ a', σ = [some (.ref p), some (.ref a'), none] ∧ Own (FrP K a' (if z.o.limit < 2 * octs z.x.fs then f.mark else f) :: pt p (.ins (He.ga K "Line") dx (fLine (.ref lo) (.ref qa) (.ref ba) (.ref fl) (.bl z.up))) :: LoP K lo z.o :: QuP K qa z.x :: BuP K ba z.b :: pt fl (.lst (ts.map V.ref)) :: big DuP ts z.fly :: R) H') ?_ ?_
  · wtm_at "g_go"
    refine if_d (fun h => ?_) (fun h => ?_)
    · wtm_at "g_go"
      refine ⟨_, rfl, ?_⟩
      rw [if_pos h]
      wtm_at "g_own"
    · wtm_at "g_go"
      refine ⟨_, rfl, ?_⟩
      rw [if_neg h]
      wtm_at "g_own"
  rintro σ H1 ⟨a', rfl, w1⟩
  have q2 := fun H' t => q2 (by simpa using hu) H' t a'
  have e1 : (if z.o.limit < 2 * octs z.x.fs then f.mark else f).key = f.key := by split <;> rfl
  have e2 : (if z.o.limit < 2 * octs z.x.fs then f.mark else f).wt = f.wt := by split <;> rfl
  generalize (if z.o.limit < 2 * octs z.x.fs then f.mark else f) = f' at *
  have hk' : kOk f'.key := by rw [e1]; exact hk
  have hw' : 1 ≤ f'.wt := by rw [e2]; exact hw
  wtm_at "g_go"
  rename_i H2 kt w2 H3 w3
  refine c_qput wf hc hk' hw' w3 (by wtm_at "g_pk") (by wtm_at "g_pk") fun H4 t ws w4 => ?_
  obtain ⟨_, _, hcn, _⟩ := put_ok (P := fun _ => True) (i := .ref a') wf (fun _ _ _ _ => trivial) trivial hk' hw'
  wtm_at "g_go"
  refine lcSel (F := WtP K) (fun _ => true) (fun y => y.i) (by omega) w4 .here .here (fun i b y H5 X B0 B1 hb hy w5 h0 h1 => ?_) (fun D H5 w5 => ?_)
  · have w6 := (w5.pick (.next (.next .here))).bigAt hb hy
    wtm_at "g_go"
    refine ⟨wipe1, ?_⟩
    wtm_at "g_go"
    exact h1 rfl
  · rw [filter_tt, e1, e2] at w5
    refine q2 _ D ?_
    have w6 := ln_in (z := { z with x := (putF z.x f.key (.ref a') f.wt).1 }) (dx := dx) (lo := lo) (qa := qa) (ba := ba) (fl := fl) (ts := ts) (L := FrP K a' f' :: pt D (.lst ((putF z.x f.key (.ref a') f.wt).2.map (·.i))) :: R) (H := H5) (by wtm_at "g_own")
    wtm_at "g_own"
theorem pure_Line_cut (T : TX K mg base) (vs : List V) (H : Hp) (Q : VK) (E : XK) (h : sp_Line_cut K vs H Q E) : t_Line_cut K E { nx := fun _ H' => Q .non H', rt := Q } (start N_Line_cut vs) H := by
  obtain ⟨p, z, R, rfl, hc, w, q⟩ := h
  obtain ⟨dx, lo, qa, ba, fl, ts, w⟩ := ln_out w
  have hfl := flat_len (fs := z.x.fs)
  unfold t_Line_cut
  wtm_at "g_go"
  rename_i H1 w1 H2 t ws w2
  refine lcSel (F := WtP K) (fun _ => true) (fun y => y.i) (by omega) w2 .here .here (fun i b y H5 X B0 B1 hb hy w5 h0 h1 => ?_) (fun D H3 w3 => ?_)
  · have w6 := (w5.pick (.next (.next .here))).bigAt hb hy
    wtm_at "g_go"
    refine ⟨wipe1, ?_⟩
    wtm_at "g_go"
    exact h1 rfl
  rw [filter_tt] at w3
  wtm_at "g_go"
  refine lcSel (F := DuP) (xs := z.fly) (ps := ts) (l := fl) (fun _ => true) (fun y => y.2) (by omega) w3 (by wtm_at "g_pk") (by wtm_at "g_pk") (fun i b y H5 X B0 B1 hb hy w5 h0 h1 => ?_) (fun D2 H4 w4 => ?_)
  · have w6 := (w5.pick (.next (.next .here))).bigAt hb hy
    unfold DuP at w6
    wtm_at "g_go"
    refine ⟨rfl, ?_⟩
    wtm_at "g_go"
    exact h1 rfl
  rw [filter_tt] at w4
  wtm_at "g_go"
  rename_i l2 H5 w5 H6 w6 D3 H7 w7
  refine q _ D3 ?_
  have w8 := Own.bigNil (f := DuP) w7
  have w9 := ln_in (z := { z with x := { z.x with fs := [], gr := false }, fly := [], up := false }) (dx := dx) (lo := lo) (qa := qa) (ba := ba) (fl := l2) (ts := []) (L := pt D3 (.lst ((allW z.x.fs).map (fun y => y.i) ++ z.fly.map (fun y => y.2))) :: R) (H := H7) (by wtm_at "g_ow")
  exact w9.swap
theorem pure_Line_fork (T : TX K mg base) (vs : List V) (H : Hp) (Q : VK) (E : XK) (h : sp_Line_fork K vs H Q E) : t_Line_fork K E { nx := fun _ H' => Q .non H', rt := Q } (start N_Line_fork vs) H := by
  obtain ⟨p, z, R, rfl, hO, wf, hr, hd, hc, w, q⟩ := h
  obtain ⟨dx, lo, qa, ba, fl, ts, w⟩ := ln_out w
  have hfl := fs_cnt fun f hf => (wf.fs f hf).ne
  have hlen := (w.pick (.next (.next (.next (.next (.next .here)))))).bigLen
  unfold t_Line_fork
  wtm_at "g_go"
  rename_i d dd H1 w1
  have w1' : Own (pt d (.ins (He.ga K "Line") dd []) :: LoP K lo z.o :: LoP K lo z.o :: pt p (.ins (He.ga K "Line") dx (fLine (.ref lo) (.ref qa) (.ref ba) (.ref fl) (.bl z.up))) :: QuP K qa z.x :: BuP K ba z.b :: pt fl (.lst (ts.map V.ref)) :: big DuP ts z.fly :: R) H1 := by wtm_at "g_own"
  refine ⟨d, dd, lo, z.o, _, rfl, hO, w1', fun H2 w2 => ?_⟩
  obtain ⟨dx2, lo2, qa2, ba2, fl2, ts2, w2⟩ := ln_out w2
  wtm_at "g_go"
  refine c_qfork wf.lim wf.q (by omega) w2 (.next (.next (.next (.next (.next (.next (.next (.next .here)))))))) fun H3 q3 w3 => ?_
  wtm_at "g_go"
  rename_i H4 w4 H5 b5 w5 H6 w6 l7 H7 w7 H8 w8 H9 w9
  have w10 : Own (pt p (.ins (He.ga K "Line") dx (fLine (.ref lo) (.ref qa) (.ref ba) (.ref fl) (.bl z.up))) :: LoP K lo z.o :: QuP K qa z.x :: BuP K ba z.b :: pt fl (.lst (ts.map V.ref)) :: big DuP ts z.fly :: pt d (.ins (He.ga K "Line") dx2 (fLine (.ref lo2) (.ref q3) (.ref b5) (.ref l7) (.bl z.up))) :: LoP K lo2 z.o :: QuP K q3 z.x :: BuP K b5 z.b :: pt l7 (.lst (ts.map V.ref)) :: big DuP ts z.fly :: R) H9 := by wtm_at "g_own"
  have w11 := ln_in (z := z) w10
  refine q _ d (ln_in (z := z) (dx := dx2) (lo := lo2) (qa := q3) (ba := b5) (fl := l7) (ts := ts) ?_)
  wtm_at "g_own"
end
section
variable {K : PySem.W.Frag} {mg : Str → Option Value} {base : Heap}
theorem pure_Line_tick (T : TX K mg base) (vs : List V) (H : Hp) (Q : VK) (E : XK) (h : sp_Line_tick K vs H Q E) : t_Line_tick K E { nx := fun _ H' => Q .non H', rt := Q } (start N_Line_tick vs) H := by
  obtain ⟨p, z, now, R, rfl, wf, hc, w, q⟩ := h
  obtain ⟨dx, lo, qa, ba, fl, ts0, w⟩ := ln_out w
  have hlen := (w.pick (.next (.next (.next (.next (.next .here)))))).bigLen
  unfold t_Line_tick
  wtm_at "g_go"
  rename_i H1 w1
  refine c_nextN (p := qa) wf (by omega) w1 (by wtm_at "g_pk") fun H2 v w2 => ?_
  replace w2 : Own (Nx K v z.x :: QuP K qa (turnF z.x) :: BuP K ba z.b.tick :: pt p (.ins (He.ga K "Line") dx (fLine (.ref lo) (.ref qa) (.ref ba) (.ref fl) (.bl z.up))) :: LoP K lo z.o :: pt fl (.lst (ts0.map V.ref)) :: big DuP ts0 z.fly :: R) H2 := by wtm_at "g_own"
  wtm_at "g_go"
  refine w_cut (fun σ H' => ∃ (x : Qu) (b : Bk) (v : V) (acc : List Wt) (ts : List Addr), σ = [some (.ref p), some (.int now), some v, none, none, none] ∧ WF x ∧ acc.length ≤ cnt z.x.fs ∧ sendL (cnt z.x.fs) z.x z.b.tick = (acc, turnF x, b) ∧
    Own (QuP K qa (turnF x) :: BuP K ba b :: pt p (.ins (He.ga K "Line") dx (fLine (.ref lo) (.ref qa) (.ref ba) (.ref fl) (.bl z.up))) :: LoP K lo z.o :: pt fl (.lst (ts.map V.ref)) :: big DuP ts (z.fly ++ acc.map (fun y => (now + z.o.delay, y.i))) :: R) H') ?_ ?_
  rotate_left
  · rintro σ H4 ⟨x, b, v, acc, ts, rfl, wfx, hacc, hs, w4⟩
    have ht : tickF z now = ({ z with x := turnF x, b := b, fly := (z.fly ++ acc.map (fun y => (now + z.o.delay, y.i))).filter (fun r => decide (now < r.1)) }, ((z.fly ++ acc.map (fun y => (now + z.o.delay, y.i))).filter (fun r => decide (r.1 ≤ now))).map (fun y => y.2)) := by
      unfold tickF sendF
      rw [hs]
    rw [ht] at q
    have hfl : (z.fly ++ acc.map (fun y => (now + z.o.delay, y.i))).length ≤ 100000 := by rw [List.length_append, List.length_map]; omega
    generalize z.fly ++ acc.map (fun y => (now + z.o.delay, y.i)) = fly at *
    wtm_at "g_go"
    rename_i l5 H5 w5
    refine lcSel (F := DuP) (xs := fly) (ps := ts) (l := l5) (fun r => decide (r.1 ≤ now)) (fun y => y.2) (by omega) w5 (by wtm_at "g_pk") (by wtm_at "g_pk") (fun i a y H5 X B0 B1 ha hy w5 h0 h1 => ?_) (fun D H6 w6 => ?_)
    · have w6 := (w5.pick (.next (.next .here))).bigAt ha hy
      unfold DuP at w6
      wtm_at "g_go"
      refine ⟨rfl, ?_⟩
      wtm_at "g_go"
      refine if_d (fun h => ?_) (fun h => ?_)
      · wtm_at "g_go"
        exact h1 (decide_eq_true h)
      · exact h0 (decide_eq_false h)
    wtm_at "g_go"
    rename_i l7 H7 w7
    refine lcBig (F := DuP) (xs := fly) (ps := ts) (l := l7) (fun r => decide (now < r.1)) (fun y => y) DuP (by omega) w7 (by wtm_at "g_pk") (by wtm_at "g_pk") (fun i a y H5 X Y B0 B1 ha hy w5 h0 h1 => ?_) (fun D2 ts2 H8 w8 => ?_)
    · have w6 := (w5.pick (.next (.next (.next .here)))).bigAt ha hy
      unfold DuP at w6
      wtm_at "g_go"
      refine ⟨rfl, ?_⟩
      wtm_at "g_go"
      refine if_d (fun h => ?_) (fun h => ?_)
      · wtm_at "g_go"
        rename_i t H8 w8
        refine h1 (decide_eq_true h) _ t (show Own (ro t (.tup [.int y.1, y.2]) :: _) H8 from ?_)
        unfold DuP
        wtm_at "g_own"
      · refine h0 (decide_eq_false h) _ ?_
        unfold DuP
        wtm_at "g_own"
    rw [List.map_id'] at w8
    wtm_at "g_go"
    rename_i H9 w9
    refine q _ D (Own.swap (ln_in (z := { z with x := turnF x, b := b, fly := fly.filter (fun r => decide (now < r.1)) }) (dx := dx) (lo := lo) (qa := qa) (ba := ba) (fl := D2) (ts := ts2) ?_))
    wtm_at "g_own"
  refine w_whileO (m0 := cnt z.x.fs) (fun m σ H' => ∃ (x : Qu) (b : Bk) (v : V) (acc : List Wt) (ts : List Addr), σ = [some (.ref p), some (.int now), some v, none, none, none] ∧ m = cnt x.fs ∧ WF x ∧ acc.length + m = cnt z.x.fs ∧
    sendL (cnt z.x.fs) z.x z.b.tick = (acc ++ (sendL m x b).1, (sendL m x b).2) ∧ Own (Nx K v x :: QuP K qa (turnF x) :: BuP K ba b :: pt p (.ins (He.ga K "Line") dx (fLine (.ref lo) (.ref qa) (.ref ba) (.ref fl) (.bl z.up))) :: LoP K lo z.o :: pt fl (.lst (ts.map V.ref)) :: big DuP ts (z.fly ++ acc.map (fun y => (now + z.o.delay, y.i))) :: R) H')
    ⟨z.x, z.b.tick, v, [], ts0, rfl, rfl, wf, by simp, by simp, by rw [List.map_nil, List.append_nil]; exact w2⟩ ?_
  rintro m σ H3 ⟨x, b, v, acc, ts, rfl, rfl, wfx, hacc, hs, w3⟩
  have hlt := (w3.pick (.next (.next (.next (.next (.next (.next .here))))))).bigLen
  rw [List.length_append, List.length_map] at hlt
  rcases nx_out w3 with ⟨hn, rfl, w4⟩ | ⟨y, a, hy, rfl, w4⟩
  · clear w3
    wtm_at "g_go"
    have hse : sendL (cnt x.fs) x b = ([], turnF x, b) := by
      cases hcx : cnt x.fs with
      | zero => rfl
      | succ n => rw [sendL, hn]
    rw [hse, List.append_nil] at hs
    exact ⟨x, b, _, acc, ts, rfl, wfx, by omega, hs, w4⟩
  · clear w3
    have hcp : ∃ n, cnt x.fs = n + 1 := by
      cases hcx : cnt x.fs with
      | zero => rw [first_none hcx wfx] at hy; cases hy
      | succ n => exact ⟨n, rfl⟩
    obtain ⟨n, hcx⟩ := hcp
    have wft := wf_turn wfx
    have hct := cnt_turn wfx
    obtain ⟨g1, _, g3, g4, _, _⟩ := gone_ok (P := fun _ => True) wft (fun _ _ _ _ => trivial) hy
    wtm_at "g_go"
    refine c_btake (p := ba) (b := b) (by wtm_at "g_own") (by wtm_at "g_pk") (fun hlt H5 w5 => ?_) (fun hle H5 w5 => ?_)
    · wtm_at "g_go"
      have hse : sendL (cnt x.fs) x b = ([], turnF x, b) := by
        rw [hcx, sendL, hy]
        dsimp only
        rw [if_neg (by omega)]
      rw [hse, List.append_nil] at hs
      exact ⟨x, b, _, acc, ts, rfl, wfx, by omega, hs, by wtm_at "g_own"⟩
    · wtm_at "g_go"
      have hag := turn_again (x := x) wfx.q
      refine c_qtake_s (x := turnF x) (p := qa) (y := y) wft (by omega) (by rw [hag]; exact hy) (by wtm_at "g_own") (by wtm_at "g_pk") fun H6 a2 w6 => ?_
      rw [hag] at w6
      wtm_at "g_go"
      rename_i t H7 w7 H8 w8
      have w9 : Own (QuP K qa (goneF (turnF x)) :: big DuP ts (z.fly ++ acc.map (fun y => (now + z.o.delay, y.i))) :: DuP t (now + z.o.delay, y.i) :: BuP K ba { b with tokens := b.tokens - y.w } :: pt p (.ins (He.ga K "Line") dx (fLine (.ref lo) (.ref qa) (.ref ba) (.ref fl) (.bl z.up))) :: LoP K lo z.o :: pt fl (.lst ((ts ++ [t]).map V.ref)) :: R) H8 := by
        show Own (_ :: _ :: ro t (.tup [.int (now + z.o.delay), y.i]) :: _) H8
        wtm_at "g_own"
      have w10 := w9.swap.perm ((List.Perm.swap _ _ _).cons _)
      have w11 := w10.bigSnoc.swap
      have hend : sendL (cnt z.x.fs) z.x z.b.tick = ((acc ++ [y]) ++ (sendL n (goneF (turnF x)) { b with tokens := b.tokens - y.w }).1, (sendL n (goneF (turnF x)) { b with tokens := b.tokens - y.w }).2) := by
        rw [hs, hcx, sendL, hy]
        dsimp only
        rw [if_pos hle, List.append_assoc]
        rfl
      have hcn : cnt (goneF (turnF x)).fs = n := by omega
      have hg2 : z.fly ++ acc.map (fun y => (now + z.o.delay, y.i)) ++ [(now + z.o.delay, y.i)] = z.fly ++ (acc ++ [y]).map (fun y => (now + z.o.delay, y.i)) := by rw [List.map_append, List.append_assoc]; rfl
      rw [hg2] at w11
      refine c_nextN (p := qa) g1 (by omega) w11 (by wtm_at "g_pk") fun H9 v w12 => ?_
      replace w12 : Own (Nx K v (goneF (turnF x)) :: QuP K qa (turnF (goneF (turnF x))) :: BuP K ba { b with tokens := b.tokens - y.w } :: pt p (.ins (He.ga K "Line") dx (fLine (.ref lo) (.ref qa) (.ref ba) (.ref fl) (.bl z.up))) :: LoP K lo z.o :: pt fl (.lst ((ts ++ [t]).map V.ref)) :: big DuP (ts ++ [t]) (z.fly ++ (acc ++ [y]).map (fun y => (now + z.o.delay, y.i))) :: R) H9 := by wtm_at "g_own"
      wtm_at "g_go"
      exact ⟨n, by omega, goneF (turnF x), _, v, acc ++ [y], ts ++ [t], rfl, hcn.symm, g1, by rw [List.length_append]; simp only [List.length_cons, List.length_nil]; omega, hend, w12⟩
end
section
/-! ### items mapped -/
variable {g : V → V}
theorem oct_mp {f : Fl} : (Fl.mp g f).oct = f.oct := by
  unfold Fl.oct
  rw [List.map_map]
  rfl
theorem octs_mp {fs : List Fl} : octs (fs.map (Fl.mp g)) = octs fs := by
  unfold octs
  rw [List.map_map]
  congr 1
  exact List.map_congr_left fun f _ => oct_mp
theorem cnt_mp {fs : List Fl} : cnt (fs.map (Fl.mp g)) = cnt fs := by
  unfold cnt
  rw [List.map_map]
  congr 1
  exact List.map_congr_left fun f _ => List.length_map ..
theorem getD_mp {fs : List Fl} {i : Nat} : (fs.map (Fl.mp g)).getD i fl0 = Fl.mp g (fs.getD i fl0) := by
  rw [List.getD_eq_getElem?_getD, List.getD_eq_getElem?_getD, List.getElem?_map]
  cases fs[i]? <;> rfl
theorem mostTo_mp {fs : List Fl} : ∀ n, mostTo (fs.map (Fl.mp g)) n = mostTo fs n
  | 0 => rfl
  | n + 1 => by rw [mostTo, mostTo, mostTo_mp n, getD_mp, getD_mp, oct_mp, oct_mp]
theorem most_mp {fs : List Fl} : most (fs.map (Fl.mp g)) = most fs := by
  unfold most
  rw [mostTo_mp, List.length_map]
theorem set_mp {fs : List Fl} {i : Nat} {f : Fl} : (fs.map (Fl.mp g)).set i (Fl.mp g f) = (fs.set i f).map (Fl.mp g) := by rw [List.map_set]
theorem outAt_mp {fs : List Fl} {gr : Bool} {a : Nat} : outAt (fs.map (Fl.mp g)) gr a = ((outAt fs gr a).1.map (Fl.mp g), (outAt fs gr a).2) := by
  unfold outAt
  rw [getD_mp]
  by_cases h : (fs.getD a fl0).rows = []
  · rw [if_pos h, if_pos (by show (fs.getD a fl0).rows.map _ = []; rw [h]; rfl), eraseIdx_map']
  · rw [if_neg h, if_neg (by intro z; exact h (List.map_eq_nil_iff.mp z))]
theorem dropS_mp {fs : List Fl} {gr : Bool} : dropS (fs.map (Fl.mp g)) gr = ((dropS fs gr).1.map (Fl.mp g), (dropS fs gr).2) := by
  unfold dropS
  rw [most_mp, getD_mp, ← outAt_mp, ← set_mp]
  congr 2
  show (⟨_, ((fs.getD (most fs) fl0).rows.map _).dropLast, _⟩ : Fl) = ⟨_, (fs.getD (most fs) fl0).rows.dropLast.map _, _⟩
  rw [List.map_dropLast]
theorem lastD_mp {r : List (V × Int)} (hg : g .non = .non) : (r.map (fun r => (g r.1, r.2))).getLastD (.non, 0) = (fun r : V × Int => (g r.1, r.2)) (r.getLastD (.non, 0)) := by
  rw [List.getLastD_eq_getLast?, List.getLastD_eq_getLast?, List.getLast?_map]
  cases r.getLast? with
  | none => show (V.non, (0 : Int)) = (g .non, 0); rw [hg]
  | some _ => rfl
theorem dropW_mp {fs : List Fl} (hg : g .non = .non) : dropW (fs.map (Fl.mp g)) = Wt.mp g (dropW fs) := by
  unfold dropW
  rw [most_mp, getD_mp]
  show (⟨_, (((fs.getD (most fs) fl0).rows.map (fun r : V × Int => (g r.1, r.2))).getLastD (V.non, 0)).1, (((fs.getD (most fs) fl0).rows.map (fun r : V × Int => (g r.1, r.2))).getLastD (V.non, 0)).2⟩ : Wt) = _
  rw [lastD_mp hg]
theorem dropL_mp {lim : Int} (hg : g .non = .non) : ∀ (n : Nat) (fs : List Fl) (gr : Bool), dropL lim n (fs.map (Fl.mp g)) gr = ((dropL lim n fs gr).1.map (Fl.mp g), (dropL lim n fs gr).2.1, (dropL lim n fs gr).2.2.map (Wt.mp g))
  | 0, fs, gr => rfl
  | n + 1, fs, gr => by
    rw [dropL, dropL, octs_mp]
    by_cases h : octs fs ≤ lim
    · rw [if_pos h, if_pos h]
      rfl
    · rw [if_neg h, if_neg h, dropS_mp, dropL_mp hg n, dropW_mp hg]
      rfl
theorem fnd_mp {fs : List Fl} {k : Ky} : fnd (fs.map (Fl.mp g)) k = fnd fs k := by
  unfold fnd
  rw [List.findIdx?_map]
  rfl
theorem addF_mp {fs : List Fl} {k : Ky} {i : V} {w : Int} : addF (fs.map (Fl.mp g)) k (g i, w) = (addF fs k (i, w)).map (Fl.mp g) := by
  unfold addF
  rw [fnd_mp]
  split
  · rw [getD_mp, ← set_mp]
    congr 1
    show (⟨_, ((fs.getD _ fl0).rows.map _) ++ _, _⟩ : Fl) = ⟨_, ((fs.getD _ fl0).rows ++ _).map _, _⟩
    rw [List.map_append]
    rfl
  · rw [List.map_append]
    rfl
theorem putF_mp {x : Qu} {k : Ky} {i : V} {w : Int} (hg : g .non = .non) : putF (x.mp g) k (g i) w = ((putF x k i w).1.mp g, (putF x k i w).2.map (Wt.mp g)) := by
  unfold putF
  by_cases h : x.lim < w
  · rw [if_pos h, if_pos h]
    rfl
  · rw [if_neg h, if_neg h]
    show (Prod.mk ({ x.mp g with fs := (dropL x.lim (cnt (addF (x.fs.map (Fl.mp g)) k (g i, w))) (addF (x.fs.map (Fl.mp g)) k (g i, w)) x.gr).1, gr := _ } : Qu) _) = _
    rw [addF_mp, cnt_mp, dropL_mp hg]
theorem w0_mp {f : Fl} : (Fl.mp g f).w0 = f.w0 := by
  unfold Fl.w0
  show ((f.rows.map (fun r : V × Int => (g r.1, r.2))).headD (V.non, 0)).2 = _
  cases f.rows <;> rfl
theorem want_mp {fs : List Fl} : want (fs.map (Fl.mp g)) = want fs := by
  unfold want
  rw [List.map_map]
  congr 1
  exact List.map_congr_left fun f _ => by show ((Fl.mp g f).w0 - f.cr).toNat = _; rw [w0_mp]
theorem mu_mp {fs : List Fl} {gr : Bool} : mu (fs.map (Fl.mp g)) gr = mu fs gr := by
  unfold mu
  rw [want_mp]
theorem turnL_mp {q : Int} : ∀ (n : Nat) (fs : List Fl) (gr : Bool), turnL q n (fs.map (Fl.mp g)) gr = ((turnL q n fs gr).1.map (Fl.mp g), (turnL q n fs gr).2)
  | 0, fs, gr => rfl
  | n + 1, [], gr => rfl
  | n + 1, f :: r, gr => by
    rw [List.map_cons, turnL, turnL, w0_mp]
    by_cases h : f.w0 ≤ (if gr = true then f.cr else f.cr + q)
    · rw [if_pos h, if_pos h]
      rfl
    · rw [if_neg h, if_neg h, ← turnL_mp n, List.map_append]
      rfl
theorem turnF_mp {x : Qu} : turnF (x.mp g) = (turnF x).mp g := by
  unfold turnF
  show ({ x.mp g with fs := (turnL x.q (mu (x.fs.map (Fl.mp g)) x.gr + 1) (x.fs.map (Fl.mp g)) x.gr).1, gr := (turnL x.q (mu (x.fs.map (Fl.mp g)) x.gr + 1) (x.fs.map (Fl.mp g)) x.gr).2 } : Qu) = _
  rw [mu_mp, turnL_mp]
theorem headD_mp {r : List (V × Int)} (hg : g .non = .non) : (r.map (fun r => (g r.1, r.2))).headD (.non, 0) = (fun r : V × Int => (g r.1, r.2)) (r.headD (.non, 0)) := by
  cases r with
  | nil => show (V.non, (0 : Int)) = (g .non, 0); rw [hg]
  | cons a r => rfl
theorem firstF_mp {x : Qu} (hg : g .non = .non) : firstF (x.mp g) = (firstF x).map (Wt.mp g) := by
  unfold firstF
  show (match x.fs.map (Fl.mp g) with | [] => none | f :: _ => some (f.wt (f.rows.headD (.non, 0)))) = _
  cases x.fs with
  | nil => rfl
  | cons f r =>
    show some (⟨_, ((f.rows.map (fun r : V × Int => (g r.1, r.2))).headD (V.non, 0)).1, ((f.rows.map (fun r : V × Int => (g r.1, r.2))).headD (V.non, 0)).2⟩ : Wt) = some _
    rw [headD_mp hg]
theorem goneF_mp {x : Qu} : goneF (x.mp g) = (goneF x).mp g := by
  unfold goneF
  show (match x.fs.map (Fl.mp g) with | [] => x.mp g | f :: r => ({ x.mp g with fs := (outAt ({ f with rows := f.rows.tail, cr := f.cr - f.w0 } :: r) x.gr 0).1, gr := (outAt ({ f with rows := f.rows.tail, cr := f.cr - f.w0 } :: r) x.gr 0).2 } : Qu)) = _
  cases x.fs with
  | nil => rfl
  | cons f r =>
    have e : (⟨f.k, (f.rows.map (fun r => (g r.1, r.2))).tail, f.cr - (Fl.mp g f).w0⟩ :: r.map (Fl.mp g) : List Fl) = (⟨f.k, f.rows.tail, f.cr - f.w0⟩ :: r).map (Fl.mp g) := by
      rw [w0_mp, ← List.map_tail]
      rfl
    show ({ x.mp g with fs := (outAt (⟨f.k, (f.rows.map (fun r => (g r.1, r.2))).tail, f.cr - (Fl.mp g f).w0⟩ :: r.map (Fl.mp g)) x.gr 0).1, gr := (outAt (⟨f.k, (f.rows.map (fun r => (g r.1, r.2))).tail, f.cr - (Fl.mp g f).w0⟩ :: r.map (Fl.mp g)) x.gr 0).2 } : Qu) = _
    rw [e, outAt_mp]
theorem allW_mp {fs : List Fl} : allW (fs.map (Fl.mp g)) = (allW fs).map (Wt.mp g) := by
  unfold allW
  rw [List.map_map, List.map_flatten, List.map_map]
  congr 1
  refine List.map_congr_left fun f _ => ?_
  show (f.rows.map _).map _ = (f.rows.map f.wt).map _
  rw [List.map_map, List.map_map]
  rfl
theorem sendL_mp (hg : g .non = .non) : ∀ (n : Nat) (x : Qu) (b : Bk), sendL n (x.mp g) b = ((sendL n x b).1.map (Wt.mp g), (sendL n x b).2.1.mp g, (sendL n x b).2.2)
  | 0, x, b => by rw [sendL, sendL, turnF_mp]; rfl
  | n + 1, x, b => by
    rw [sendL, sendL, turnF_mp, firstF_mp hg]
    cases firstF (turnF x) with
    | none => rfl
    | some y =>
      show (if y.w ≤ b.tokens then _ else _) = _
      by_cases h : y.w ≤ b.tokens
      · rw [if_pos h, goneF_mp, sendL_mp hg n]
        show _ = ((if y.w ≤ b.tokens then _ else _ : List Wt × Qu × Bk).1.map _, _, _)
        simp only [if_pos h]
        rfl
      · rw [if_neg h]
        show _ = ((if y.w ≤ b.tokens then _ else _ : List Wt × Qu × Bk).1.map _, _, _)
        simp only [if_neg h]
        rfl
/-- maps that agree on the items -/
theorem mp_congr {g' : V → V} {P : V → Prop} {fs : List Fl} (hi : WI P fs) (h : ∀ v, P v → g v = g' v) : fs.map (Fl.mp g) = fs.map (Fl.mp g') := by
  refine List.map_congr_left fun f hf => ?_
  show (⟨f.k, f.rows.map _, f.cr⟩ : Fl) = ⟨f.k, f.rows.map _, f.cr⟩
  congr 1
  exact List.map_congr_left fun r hr => by rw [h r.1 (hi f hf r hr)]
theorem wf_mp {x : Qu} (h : WF x) : WF (x.mp g) := ⟨h.lim, h.q, fun f hf => by
  obtain ⟨f, hf2, rfl⟩ := List.mem_map.mp hf
  have z := h.fs f hf2
  exact ⟨z.k, fun e => z.ne (List.map_eq_nil_iff.mp e), fun r' hr => by
    obtain ⟨r, hr2, rfl⟩ := List.mem_map.mp hr
    exact z.w r hr2⟩⟩
end
section
variable {K : PySem.W.Frag} {mg : Str → Option Value} {base : Heap}
theorem key_of {t : Addr} {xs : List V} (h : xs ∈ ([[V.str "part", .int 1, .int 2], [V.str "part", .int 2, .int 1], [V.str "part", .int 1, .int 3], [V.str "advert", .int 0, .int 0]] : List (List V))) :
    ∃ (k : Str) (a b : Int), xs = [V.str k, .int a, .int b] ∧ kOk [.inr k, .inl a, .inl b] ∧ PyData.strOk k = true := by
  have h1 : PyData.strOk "part" = true := by decide +kernel
  have h2 : PyData.strOk "advert" = true := by decide +kernel
  have ok : ∀ (k : Str) (a b : Int), PyData.strOk k = true → kOk [.inr k, .inl a, .inl b] := fun k a b hk => by
    unfold kOk kD SeqAt.shaped
    simp [kDat, PyData.canLay0, PyData.canLayAll0, PyData.depth, PyData.depthAll, hk]
  simp only [List.mem_cons, List.not_mem_nil, or_false] at h
  rcases h with rfl | rfl | rfl | rfl
  · exact ⟨_, _, _, rfl, ok _ _ _ h1, h1⟩
  · exact ⟨_, _, _, rfl, ok _ _ _ h1, h1⟩
  · exact ⟨_, _, _, rfl, ok _ _ _ h1, h1⟩
  · exact ⟨_, _, _, rfl, ok _ _ _ h2, h2⟩
theorem pure_law_frame (T : TX K mg base) (vs : List V) (H : Hp) (Q : VK) (E : XK) (h : sp_law_frame K vs H Q E) : t_law_frame K E { nx := fun _ H' => Q .non H', rt := Q } (start N_law_frame vs) H := by
  obtain ⟨n, now, s, R, rfl, w, q⟩ := h
  unfold t_law_frame
  wtm_at "g_go"
  rename_i l1 H1 w1 d H2 d0 d1 w2
  obtain ⟨dn, rfl⟩ := Int.eq_ofNat_of_zero_le d0
  refine lcR1O (n := dn) (fun i A L => A = (List.replicate i (7 : Int)).map V.int ∧ L = Drw s :: pt l1 (.lst [V.int (n / 256 % 256), V.int (n % 256)]) :: R) (by wtm_at "g_own") ⟨rfl, rfl⟩ rfl (by omega) ?_ ?_
  · rintro i D A L H3 hi ⟨rfl, rfl⟩ w3
    wtm_at "g_go"
    exact lc_addO w3 .here (by rw [List.length_map, List.length_replicate]; exact small16l (by omega)) ⟨by rw [List.replicate_succ', List.map_append]; rfl, rfl⟩
  rintro D A L H3 ⟨rfl, rfl⟩ w3
  wtm_at "g_go"
  refine k_cat w3 (xs := [V.int (n / 256 % 256), V.int (n % 256)]) (by wtm_at "g_got") (by wtm_at "g_got") (small16 (by simp only [List.length_map, List.length_replicate, List.length_cons, List.length_nil]; omega)) fun l2 H4 w4 => ?_
  wtm_at "g_go"
  rename_i t1 H5 w5 t2 H6 w6 t3 H7 w7 t4 H8 w8 t5 H9 w9 e H10 e0 e1 w10
  obtain ⟨tk, xs, htk, hxs, w11⟩ : ∃ (tk : Addr) (xs : List V), atI [V.ref t1, V.ref t2, V.ref t3, V.ref t4] e = some (.ref tk) ∧ xs ∈ ([[V.str "part", .int 1, .int 2], [V.str "part", .int 2, .int 1], [V.str "part", .int 1, .int 3], [V.str "advert", .int 0, .int 0]] : List (List V)) ∧
      Own (ro tk (.tup xs) :: Drw s :: pt l2 (.lst ([V.int (n / 256 % 256), V.int (n % 256)] ++ (List.replicate dn (7 : Int)).map V.int)) :: R) H10 := by
    have he : e = 0 ∨ e = 1 ∨ e = 2 ∨ e = 3 := by omega
    rcases he with rfl | rfl | rfl | rfl
    · exact ⟨t1, [V.str "part", .int 1, .int 2], rfl, by simp, by wtm_at "g_own"⟩
    · exact ⟨t2, [V.str "part", .int 2, .int 1], rfl, by simp, by wtm_at "g_own"⟩
    · exact ⟨t3, [V.str "part", .int 1, .int 3], rfl, by simp, by wtm_at "g_own"⟩
    · exact ⟨t4, [V.str "advert", .int 0, .int 0], rfl, by simp, by wtm_at "g_own"⟩
  obtain ⟨k, a, b, rfl, hk, hs⟩ := key_of (t := tk) hxs
  refine w_ixT (SqT.of' (w10.get (by wtm_at "g_got"))) htk ?_
  wtm_at "g_go"
  rename_i hp H11 hp0 hp1 w12 p dx H12 w13
  refine ⟨p, dx, l2, ⟨k, a, b, [n / 256 % 256, n % 256] ++ List.replicate dn 7, now, hp, false⟩, _, rfl, by simp only [List.length_append, List.length_replicate, List.length_cons, List.length_nil]; omega, w13, ?_, fun H13 w14 => ?_⟩
  · rw [List.map_append]
    exact .next (.next .here)
  wtm_at "g_go"
  exact q _ p ⟨k, a, b, [n / 256 % 256, n % 256] ++ List.replicate dn 7, now, hp, false⟩ ⟨hk, hs, by simp only [List.length_append, List.length_replicate, List.length_cons, List.length_nil]; omega⟩ (by wtm_at "g_own")
theorem pure_law_values (T : TX K mg base) (vs : List V) (H : Hp) (Q : VK) (E : XK) (h : sp_law_values K vs H Q E) : t_law_values K E { nx := fun _ H' => Q .non H', rt := Q } (start N_law_values vs) H := by
  obtain ⟨a, f, R, rfl, hl, w, q⟩ := h
  obtain ⟨dx, l, w⟩ := fr_out w
  unfold t_law_values
  wtm_at "g_go"
  rename_i l2 H1 w1 t H2 w2
  have w3 : Own (pt l2 (.lst (f.oct.map V.int)) :: ro t (.tup [.str f.kind, .int f.sender, .int f.target, .ref l2, .int f.birth, .int f.hops, .bl f.marked]) :: R) H2 := by wtm_at "g_own"
  exact q _ t (Own.exi l2 (Own.fold (L := [_, _]) w3.toRo.swap))
theorem pure_law_row (T : TX K mg base) (vs : List V) (H : Hp) (Q : VK) (E : XK) (h : sp_law_row K vs H Q E) : t_law_row K E { nx := fun _ H' => Q .non H', rt := Q } (start N_law_row vs) H := by
  obtain ⟨l, as, fs, c, R, rfl, hl, hok, w, q⟩ := h
  unfold t_law_row
  wtm_at "g_go"
  refine lcBig (F := FrP K) (xs := fs) (ps := as) (l := l) (fun _ => true) (fun f => f) VaP (by omega) w .here .here (fun i a f H1 X Y B0 B1 ha hf w1 h0 h1 => ?_) (fun D ts H1 w1 => ?_)
  · have w2 := (w1.pick (.next (.next (.next .here)))).bigAt ha hf
    wtm_at "g_go"
    refine ⟨wipe1, ?_⟩
    wtm_at "g_go"
    refine ⟨a, f, _, rfl, (hok f (List.mem_of_getElem? hf)).len, w2, fun H2 t w3 => h1 rfl H2 t ?_⟩
    wtm_at "g_own"
  · rw [filter_tt, List.map_id'] at w1
    exact q _ D ts (by wtm_at "g_own")
end
section
variable {K : PySem.W.Frag} {mg : Str → Option Value} {base : Heap}
theorem eq_mark {f : Fr} : decide (f = f.mark) = f.marked := by
  cases f with
  | mk k a b o c d m =>
    cases m with
    | true => exact decide_eq_true rfl
    | false => exact decide_eq_false fun e => by cases e
theorem pure_law_frames_are_so (T : TX K mg base) (vs : List V) (H : Hp) (Q : VK) (E : XK) (h : sp_law_frames_are_so K vs H Q E) : t_law_frames_are_so K E { nx := fun _ H' => Q .non H', rt := Q } (start N_law_frames_are_so vs) H := by
  obtain ⟨a, o, f, R, rfl, hok, w, q⟩ := h
  have hl := hok.len
  have hwt : f.wt = 12 + (f.oct.length : Nat) := rfl
  have hm : FOk f.mark := ⟨hok.key, hok.kind, hok.len⟩
  unfold t_law_frames_are_so
  wtm_at "g_go"
  rename_i H1 t w1
  obtain ⟨lv, w1⟩ := va_out w1
  wtm_at "g_go"
  refine ⟨a, f, _, rfl, w1.pick (by wtm_at "g_pk"), fun H2 t2 l2 w2 => ?_⟩
  wtm_at "g_go"
  refine w_neS' (d := f.d) (dp_fr (by wtm_at "g_hp") (by wtm_at "g_sq")) (dp_fr (by wtm_at "g_hp") (by wtm_at "g_sq")) (fd_shaped hok) ?_
  wtm_at "g_goo"
  refine k_slT (L := _) (ys := [.str f.kind, .int f.sender, .int f.target]) (by with_reducible assumption) (by wtm_at "g_got") rfl rfl fun t4 H5 w5 => ?_
  refine w_neS' (d := kD f.key) (.tup (SqT.of' (w5.get (.next (show Got (ro _ (.tup (f.key.map kV)) :: _) _ _ from .here)))) (dp_kds _)) (.tup (SqT.of' (by wtm_at "g_hp")) (.cons (.str _) (.cons (.int _) (.cons (.int _) .nil)))) hok.key ?_
  wtm_at "g_go"
  rename_i H6 am w6 H7 tm w7
  obtain ⟨lm, w7⟩ := va_out w7
  refine k_slT (ys := [.str f.kind, .int f.sender, .int f.target, .ref lv, .int f.birth, .int f.hops]) w7 (by wtm_at "g_got") rfl rfl fun t8 H8 w8 => ?_
  wtm_at "g_go"
  rename_i t9 H9 w9
  refine k_catT w9 (xs := [.str f.kind, .int f.sender, .int f.target, .ref lv, .int f.birth, .int f.hops]) (by wtm_at "g_got") (by wtm_at "g_got") rfl rfl rfl fun t10 H10 w10 => ?_
  refine w_neS' (d := f.mark.d) (dp_fr (w10.get (t := by wtm_at "g_got")) (by wtm_at "g_sq")) (dp_fr (w10.get .here) (by wtm_at "g_sq")) (fd_shaped hm) ?_
  wtm_at "g_go"
  rename_i H11 tv w11
  refine w_neS' (d := f.d) (w11.ent (.here tell_va)) (dp_fr (w11.get (t := by wtm_at "g_got")) (by wtm_at "g_sq")) (fd_shaped hok) ?_
  have w11 : Own (FrP K a f :: ro t (.tup [.str f.kind, .int f.sender, .int f.target, .ref lv, .int f.birth, .int f.hops, .bl f.marked]) :: ro lv (.lst (f.oct.map V.int)) :: R) H11 := by wtm_at "g_own"
  wtm_at "g_go"
  rename_i l12 H12 w12
  have w12' := w12.pick (P := FrP K a f) (by wtm_at "g_pk")
  refine ⟨a, l12, f, [1, 2], _, rfl, by decide, w12', GotL.here, fun H13 a13 w13 => ?_⟩
  have hok2 : FOk { f with oct := [1, 2], hops := f.hops - 1 } := ⟨hok.key, hok.kind, by simp⟩
  have hl2 : ({ f with oct := [1, 2], hops := f.hops - 1 } : Fr).oct.length ≤ 100 := by simp
  wtm_at "g_go"
  rename_i H14 t14 w14 l15 H15 w15 t16 H16 w16
  refine w_neS' (d := Fr.d { f with oct := [1, 2], hops := f.hops - 1 }) (w16.ent (.next (.next (.here tell_va)))) (dp_fr (xs := [1, 2]) (w16.get (t := by wtm_at "g_got")) (w16.sql (by exact .next .here))) (fd_shaped hok2) ?_
  have w16 : Own (FrP K a f :: ro t (.tup [.str f.kind, .int f.sender, .int f.target, .ref lv, .int f.birth, .int f.hops, .bl f.marked]) :: ro lv (.lst (f.oct.map V.int)) :: R) H16 := by wtm_at "g_own"
  wtm_at "g_go"
  rename_i H17 a17 w17
  have w17 : Own (FrP K a17 f.mark :: FrP K a f :: ro t (.tup [.str f.kind, .int f.sender, .int f.target, .ref lv, .int f.birth, .int f.hops, .bl f.marked]) :: ro lv (.lst (f.oct.map V.int)) :: R) H17 := by wtm_at "g_own"
  have w18 : Own (FrP K a17 f.mark :: FrP K a f :: FrP K a f :: ro t (.tup [.str f.kind, .int f.sender, .int f.target, .ref lv, .int f.birth, .int f.hops, .bl f.marked]) :: ro lv (.lst (f.oct.map V.int)) :: R) H17 := by wtm_at "g_own"
  obtain ⟨dx, l, hx, _⟩ := w17.ent (.next (.here tell_fr))
  obtain ⟨dy, m, hy, _⟩ := w17.ent (.here tell_fr)
  refine w_own hx (tyR_ins hy) nf_same ⟨a, .ref a17, f, _, rfl, w18.tail, .inl ⟨a17, f.mark, rfl, w18, fun H18 w19 => ⟨_, rfl, ?_⟩⟩⟩
  rw [eq_mark]
  wtm_at "g_go"
  rw [decide_eq_true rfl]
  wtm_at "g_go"
  obtain ⟨dx, l, hx, _⟩ := w19.ent (.here tell_fr)
  refine w_own hx (tyR_tup (w19.get (t := by wtm_at "g_got"))) (T.b.ex_ 3) ⟨a, .ref t, f, _, rfl, w19, .inr ⟨t, _, rfl, .here, fun H19 w21 => ⟨_, rfl, ?_⟩⟩⟩
  wtm_at "g_go"
  exact q _ (by wtm_at "g_own")
end
section
/-! ### what law and line have in common -/
abbrev itm (N : Nat) (v : V) : Prop := ∃ n : Nat, v = .int n ∧ n < N
def fr0 : Fr := ⟨"", 0, 0, [], 0, 0, false⟩
def markA (z : Ab) (f : Fr) : Fr := if z.o.limit < 2 * octs z.x.fs then f.mark else f
def putA (z : Ab) (f : Fr) : Ab := { z with x := (putF z.x f.key (.int (z.cs.length : Nat)) f.wt).1, cs := z.cs ++ [markA z f] }
def outA (z : Ab) (f : Fr) : List V := (putF z.x f.key (.int (z.cs.length : Nat)) f.wt).2.map (·.i)
def flA (z : Ab) (now : Int) : List (Int × V) := z.fly ++ (sendF z.x z.b.tick).1.map (fun y => (now + z.o.delay, y.i))
def tickA (z : Ab) (now : Int) : Ab := { z with x := (sendF z.x z.b.tick).2.1, b := (sendF z.x z.b.tick).2.2, fly := (flA z now).filter (fun r => decide (now < r.1)) }
def goA (z : Ab) (now : Int) : List V := ((flA z now).filter (fun r => decide (r.1 ≤ now))).map (·.2)
def cutA (z : Ab) : Ab := { z with x := { z.x with fs := [], gr := false }, fly := [], up := false }
theorem atR_int {as : List Addr} {n : Nat} : atR as (.int (n : Int)) = .ref (as.getD n 0) := by
  show V.ref (as.getD (n : Int).toNat 0) = _
  rw [Int.toNat_natCast]
theorem ix_of {N : Nat} : ∀ {vs : List V}, (∀ v ∈ vs, itm N v) → ∃ ns : List Nat, vs = ns.map (fun n : Nat => V.int (n : Int)) ∧ ∀ n ∈ ns, n < N
  | [], _ => ⟨[], rfl, fun _ h => by cases h⟩
  | v :: vs, h => by
    obtain ⟨n, rfl, hn⟩ := h v List.mem_cons_self
    obtain ⟨ns, rfl, hs⟩ := ix_of (vs := vs) fun u hu => h u (List.mem_cons_of_mem _ hu)
    exact ⟨n :: ns, rfl, fun m hm => by
      rcases List.mem_cons.mp hm with rfl | hm
      · exact hn
      · exact hs m hm⟩
/-- the frames of a row of items -/
theorem row_of {cs : List Fr} {vs : List V} (h : ∀ v ∈ vs, itm cs.length v) : ∃ fs : List Fr, (∀ f ∈ fs, f ∈ cs) ∧ fs.length = vs.length ∧ ∀ (K : PySem.W.Frag) (as : List Addr) (L : List HP) (H : Hp), Own (big (FrP K) as cs :: L) H → ∃ qs : List Addr, vs.map (atR as) = qs.map V.ref ∧ Own (big (FrP K) qs fs :: big (FrP K) as cs :: L) H := by
  obtain ⟨ns, rfl, hn⟩ := ix_of h
  refine ⟨ns.map (fun n => cs.getD n fr0), fun f hf => ?_, by rw [List.length_map, List.length_map], fun K as L H w => ⟨ns.map (fun n => as.getD n 0), ?_, ?_⟩⟩
  · obtain ⟨n, hm, rfl⟩ := List.mem_map.mp hf
    have hl := hn n hm
    rw [List.getD_eq_getElem?_getD, List.getElem?_eq_getElem hl]
    exact List.getElem_mem hl
  · rw [List.map_map, List.map_map]
    exact List.map_congr_left fun n _ => atR_int
  · have hl := w.bigLen
    exact Own.bigPickAt (fun n hm => by have := hn n hm; omega) w
theorem wi_mono {N M : Nat} {fs : List Fl} (h : WI (itm N) fs) (l : N ≤ M) : WI (itm M) fs := fun f hf r hr => let ⟨n, e, hn⟩ := h f hf r hr; ⟨n, e, Nat.lt_of_lt_of_le hn l⟩
theorem grow {z : Ab} {bs : List Addr} {b : Addr} (hz : AOk z) (hl : bs.length = z.cs.length) : z.x.mp (atR bs) = z.x.mp (atR (bs ++ [b])) ∧ z.fly.map (fun r => (r.1, atR bs r.2)) = z.fly.map (fun r => (r.1, atR (bs ++ [b]) r.2)) ∧ atR (bs ++ [b]) (.int (z.cs.length : Nat)) = .ref b := by
  have key : ∀ v, itm z.cs.length v → atR bs v = atR (bs ++ [b]) v := fun v ⟨n, e, hn⟩ => by
    subst e
    rw [atR_int, atR_int, List.getD_eq_getElem?_getD, List.getD_eq_getElem?_getD, List.getElem?_append_left (by omega)]
  refine ⟨?_, ?_, ?_⟩
  · show (⟨z.x.lim, z.x.q, z.x.fs.map _, z.x.gr⟩ : Qu) = ⟨z.x.lim, z.x.q, z.x.fs.map _, z.x.gr⟩
    rw [mp_congr (P := itm z.cs.length) hz.items.1 key]
  · exact List.map_congr_left fun r hr => by rw [key r.2 (hz.items.2 r hr)]
  · rw [atR_int, ← hl, List.getD_eq_getElem?_getD, List.getElem?_append_right (Nat.le_refl _), Nat.sub_self]
    rfl
theorem markA_key {z : Ab} {f : Fr} : (markA z f).key = f.key ∧ (markA z f).wt = f.wt := by
  unfold markA
  split <;> exact ⟨rfl, rfl⟩
theorem markA_ok {z : Ab} {f : Fr} (h : FOk f) : FOk (markA z f) := by
  unfold markA
  split
  · exact ⟨h.key, h.kind, h.len⟩
  · exact h
theorem fwt {f : Fr} : 1 ≤ f.wt := by unfold Fr.wt; omega
theorem putA_ok {z : Ab} {f : Fr} (hz : AOk z) (hf : FOk f) : AOk (putA z f) ∧ (∀ v ∈ outA z f, itm (z.cs.length + 1) v) ∧ (outA z f).length ≤ cnt z.x.fs + 1 := by
  obtain ⟨h1, h2, h3, h4, h5, h6⟩ := put_ok (P := itm (z.cs.length + 1)) (k := f.key) (i := .int (z.cs.length : Nat)) (w := f.wt) hz.x (wi_mono hz.items.1 (Nat.le_succ _)) ⟨_, rfl, Nat.lt_succ_self _⟩ hf.key fwt
  have hs := hz.small
  refine ⟨⟨hz.o, h1, h5.trans hz.lim, hz.b, ⟨?_, ?_⟩, ?_, ?_⟩, fun v hv => ?_, ?_⟩
  · show WI (itm (z.cs ++ [markA z f]).length) _
    rw [List.length_append]
    exact h2
  · intro r hr
    obtain ⟨n, e, hn⟩ := hz.items.2 r hr
    exact ⟨n, e, by show n < (z.cs ++ [markA z f]).length; rw [List.length_append]; omega⟩
  · intro g hg
    rcases List.mem_append.mp hg with hg | hg
    · exact hz.cs g hg
    · rw [List.mem_singleton.mp hg]
      exact markA_ok hf
  · show cnt (putF z.x f.key (.int (z.cs.length : Nat)) f.wt).1.fs + z.fly.length ≤ (z.cs ++ [markA z f]).length
    rw [List.length_append, List.length_singleton]
    omega
  · obtain ⟨y, hy, rfl⟩ := List.mem_map.mp hv
    exact (h4 y hy).i
  · unfold outA
    rw [List.length_map]
    omega
theorem tickA_ok {z : Ab} {now : Int} (hz : AOk z) : AOk (tickA z now) ∧ (∀ v ∈ goA z now, itm z.cs.length v) ∧ (goA z now).length ≤ z.cs.length ∧ (flA z now).length ≤ z.cs.length := by
  obtain ⟨h1, h2, h3, h4, h5, h6, h7, h8⟩ := send_ok (P := itm z.cs.length) (cnt z.x.fs) z.x z.b.tick hz.x hz.items.1
  have hs := hz.small
  have hfl : ∀ r ∈ flA z now, itm z.cs.length r.2 := fun r hr => by
    rcases List.mem_append.mp hr with hr | hr
    · exact hz.items.2 r hr
    · obtain ⟨y, hy, rfl⟩ := List.mem_map.mp hr
      exact (h4 y hy).i
  have hle : (flA z now).length + cnt (sendF z.x z.b.tick).2.1.fs = cnt z.x.fs + z.fly.length := by
    unfold flA sendF
    rw [List.length_append, List.length_map]
    omega
  refine ⟨⟨hz.o, h1, h5.trans hz.lim, ⟨by show 1 ≤ (sendL _ _ _).2.2.rate; rw [h7]; exact hz.b.1, by show 1 ≤ (sendL _ _ _).2.2.depth; rw [h8]; exact hz.b.2⟩, ⟨h2, fun r hr => hfl r (List.mem_filter.mp hr).1⟩, hz.cs, ?_⟩, fun v hv => ?_, ?_, ?_⟩
  · have := List.length_filter_le (fun r : Int × V => decide (now < r.1)) (flA z now)
    show cnt (sendF z.x z.b.tick).2.1.fs + ((flA z now).filter (fun r => decide (now < r.1))).length ≤ z.cs.length
    omega
  · obtain ⟨r, hr, rfl⟩ := List.mem_map.mp hv
    exact hfl r (List.mem_filter.mp hr).1
  · have := List.length_filter_le (fun r : Int × V => decide (r.1 ≤ now)) (flA z now)
    unfold goA
    rw [List.length_map]
    omega
  · omega
theorem flt_map {α β : Type} {f : α → β} {P : β → Bool} {xs : List α} : (xs.map f).filter P = (xs.filter (fun x => P (f x))).map f := by
  rw [List.filter_map]
  rfl
theorem fl_mp {z : Ab} {now : Int} {as : List Addr} : z.fly.map (fun r => (r.1, atR as r.2)) ++ (sendF (z.x.mp (atR as)) z.b.tick).1.map (fun y => (now + z.o.delay, y.i)) = (flA z now).map (fun r => (r.1, atR as r.2)) := by
  unfold flA sendF
  rw [List.map_append]
  congr 1
  show (sendL (cnt (z.x.fs.map (Fl.mp (atR as)))) (z.x.mp (atR as)) z.b.tick).1.map _ = _
  rw [cnt_mp, sendL_mp rfl, List.map_map, List.map_map]
  rfl
theorem send_mp {z : Ab} {as : List Addr} : (sendF (z.x.mp (atR as)) z.b.tick).2 = ((tickA z 0).x.mp (atR as), (tickA z 0).b) := by
  unfold sendF
  show (sendL (cnt (z.x.fs.map (Fl.mp (atR as)))) (z.x.mp (atR as)) z.b.tick).2 = _
  rw [cnt_mp, sendL_mp rfl]
  rfl
theorem tick_ln {z : Ab} {now : Int} {as : List Addr} : tickF (z.ln as) now = ((tickA z now).ln as, (goA z now).map (atR as)) := by
  unfold tickF Ab.ln
  dsimp only
  rw [fl_mp, send_mp, flt_map, flt_map]
  unfold goA
  rw [List.map_map, List.map_map]
  rfl
theorem put_ln {z : Ab} {f : Fr} {as : List Addr} {a : Addr} (hz : AOk z) (hl : as.length = z.cs.length) : putF (z.x.mp (atR as)) f.key (.ref a) f.wt = ((putA z f).x.mp (atR (as ++ [a])), (putF z.x f.key (.int (z.cs.length : Nat)) f.wt).2.map (Wt.mp (atR (as ++ [a])))) := by
  obtain ⟨e1, e2, e3⟩ := grow (b := a) hz hl
  rw [e1, ← e3, putF_mp rfl]
  rfl
theorem out_mp {l : List Wt} {g : V → V} : (l.map (Wt.mp g)).map (·.i) = (l.map (·.i)).map g := by
  rw [List.map_map, List.map_map]
  rfl
theorem cut_ok {z : Ab} (hz : AOk z) : AOk (cutA z) ∧ (∀ v ∈ (allW z.x.fs).map (·.i) ++ z.fly.map (·.2), itm z.cs.length v) := by
  refine ⟨⟨hz.o, ⟨hz.x.lim, hz.x.q, fun f hf => by cases hf⟩, hz.lim, hz.b, ⟨(fun f hf => by cases hf), (fun r hr => by cases hr)⟩, hz.cs, Nat.zero_le _⟩, fun v hv => ?_⟩
  rcases List.mem_append.mp hv with hv | hv
  · obtain ⟨y, hy, rfl⟩ := List.mem_map.mp hv
    unfold allW at hy
    obtain ⟨l, hl, hy⟩ := List.mem_flatten.mp hy
    obtain ⟨f, hf, rfl⟩ := List.mem_map.mp hl
    obtain ⟨r, hr, rfl⟩ := List.mem_map.mp hy
    exact hz.items.1 f hf r hr
  · obtain ⟨r, hr, rfl⟩ := List.mem_map.mp hv
    exact hz.items.2 r hr
/-! ### rows as data -/
theorem dpAll_of {K : PySem.W.Frag} {H : Hp} {α β : Type} {f : α → V} {g : β → PyData} : ∀ {as : List α} {bs : List β}, as.length = bs.length → (∀ (i : Nat) a b, as[i]? = some a → bs[i]? = some b → Dp K H (f a) (g b)) → DpAll K H (as.map f) (bs.map g)
  | [], [], _, _ => .nil
  | a :: as, b :: bs, e, h => .cons (h 0 a b rfl rfl) (dpAll_of (Nat.succ.inj e) fun i x y hx hy => h (i + 1) x y hx hy)
  | [], _ :: _, e, _ => nomatch e
  | _ :: _, [], e, _ => nomatch e
theorem rows_dp {K : PySem.W.Frag} {L : List HP} {H : Hp} {l : Addr} {c : Bool} {ts : List Addr} {fs : List Fr} (w : Own (cell c l (.lst (ts.map V.ref)) :: big VaP ts fs :: L) H) : Dp K H (.ref l) (.list (fs.map Fr.d)) := by
  have hl := w.swap.bigLen
  exact .lst (SqL.of w.get') (dpAll_of hl fun i a b ha hb => w.swap.bigTell ha hb tell_va)
theorem fd_lay {f : Fr} (h : FOk f) : f.d.canLay0 = true ∧ f.d.depth ≤ 63 := by
  have h1 := lay_ints f.oct
  have h2 := depth_ints f.oct
  have h3 := h.kind
  unfold Fr.d
  simp [PyData.canLay0, PyData.canLayAll0, PyData.depth, PyData.depthAll, h1, h2, h3]
theorem rows_shaped {fs : List Fr} (h : ∀ f ∈ fs, FOk f) : SeqAt.shaped (.list (fs.map Fr.d)) = true := shaped_lm (fun f hf => (fd_lay (h f hf)).1) fun f hf => (fd_lay (h f hf)).2
end
section
variable {K : PySem.W.Frag} {mg : Str → Option Value} {base : Heap}
theorem c_lrow {L L1 R : List HP} {H : Hp} {Q : VK} {E : XK} {l : Addr} {qs : List Addr} {fs : List Fr} {c : Bool} (hl : fs.length ≤ 100000) (hok : ∀ f ∈ fs, FOk f) (w : Own L H) (p1 : Pick L (cell c l (.lst (qs.map V.ref))) L1) (p2 : Pick L1 (big (FrP K) qs fs) R)
    (q : ∀ H' t ts, Own (pt t (.lst (ts.map V.ref)) :: big VaP ts fs :: R) H' → Q (.ref t) H') : sp_law_row K [.ref l] H Q E := ⟨l, qs, fs, c, R, rfl, hl, hok, w.take2 p1 p2, q⟩
theorem pure_law_put (T : TX K mg base) (vs : List V) (H : Hp) (Q : VK) (E : XK) (h : sp_law_put K vs H Q E) : t_law_put K E { nx := fun _ H' => Q .non H', rt := Q } (start N_law_put vs) H := by
  obtain ⟨p, t, a, z, f, R, rfl, hz, hc, hf, w, q⟩ := h
  have hsm := hz.small
  have hfl := hf.len
  have hfl2 : z.x.fs.length ≤ cnt z.x.fs := fs_cnt fun f hf => (hz.x.fs f hf).ne
  obtain ⟨as, bs, w⟩ := st_out w
  have hla := (w.pick (.next (.next .here))).bigLen
  have hlb := (w.pick (.next (.next (.next .here)))).bigLen
  have wfa : WF (z.x.mp (atR as)) := wf_mp hz.x
  have wfb : WF (z.x.mp (atR bs)) := wf_mp hz.x
  have hca : cnt (z.x.mp (atR as)).fs = cnt z.x.fs := cnt_mp
  have hcb : cnt (z.x.mp (atR bs)).fs = cnt z.x.fs := cnt_mp
  have hfb : (z.x.mp (atR bs)).fs.length = z.x.fs.length := List.length_map ..
  obtain ⟨qa, ba, fl, ts, w⟩ := wo_out (w.pick (.next .here))
  unfold t_law_put
  wtm_at "g_go"
  cases hu : z.up with
  | false =>
    rw [hu] at w
    wtm_at "g_go"
    rename_i H1 tv w1 te H2 w2
    have w3 : Own (LnP K p (z.ln as) :: FrP K a f :: VaP tv f :: pt te (.lst ([tv].map V.ref)) :: FrP K a f :: ro t (.tup [.ref qa, .ref ba, .ref fl, .bl false]) :: QuP K qa (z.x.mp (atR bs)) :: BuP K ba z.b :: pt fl (.lst (ts.map V.ref)) :: big DuP ts (z.fly.map (fun r => (r.1, atR bs r.2))) :: big (FrP K) as z.cs :: big (FrP K) bs z.cs :: R) H2 := by wtm_at "g_own"
    refine ⟨p, a, z.ln as, f, _, rfl, wfa, by show cnt (z.x.mp (atR as)).fs ≤ _; omega, hf.key, by omega, w3, fun _ H3 l w4 => ?_, fun e => ?_⟩
    rotate_left
    · have e2 : z.up = true := e
      rw [hu] at e2
      cases e2
    wtm_at "g_go"
    have w5 := (w4.pick (P := FrP K a f) (by wtm_at "g_pk")).big1
    refine c_lrow (fs := [f]) (qs := [a]) (by simp) (fun g hg => by rw [List.mem_singleton.mp hg]; exact hf) w5 (by wtm_at "g_pk") (by exact .here) fun H4 tr us w6 => ?_
    wtm_at "g_go"
    have w7 := (w6.pick (P := VaP tv f) (by wtm_at "g_pk")).big1
    refine w_neS' (d := .list ([f].map Fr.d)) (rows_dp w6) (rows_dp (c := false) (l := te) (ts := [tv]) (fs := [f]) (H := H4) (L := R) (by wtm_at "g_own")) (rows_shaped fun g hg => by rw [List.mem_singleton.mp hg]; exact hf) ?_
    wtm_at "g_go"
    refine q _ z hz (by omega) (st_in (as := as) (bs := bs) ?_)
    have w8 := wo_in (z := z) (as := bs) (t := t) (qa := qa) (ba := ba) (fl := fl) (ts := ts) (K := K) (H := H4) (L := LnP K p (z.ln as) :: big (FrP K) as z.cs :: big (FrP K) bs z.cs :: R) (by rw [hu]; wtm_at "g_own")
    wtm_at "g_own"
  | true =>
    rw [hu] at w
    wtm_at "g_go"
    obtain ⟨dx, lo, qa', ba', fl', ts', w⟩ := ln_out (w.pick (P := LnP K p (z.ln as)) (by wtm_at "g_pk"))
    have hob : octs (z.x.mp (atR bs)).fs = octs z.x.fs := octs_mp
    refine w_cut (fun σ H' => ∃ b, σ = [some (.ref p), some (.ref t), some (.ref a), some (.ref qa), some (.ref ba), some (.ref fl), some (.bl true), none, some (.ref b), none] ∧ Own (FrP K b (markA z f) :: QuP K qa (z.x.mp (atR bs)) :: pt p (.ins (He.ga K "Line") dx (fLine (.ref lo) (.ref qa') (.ref ba') (.ref fl') (.bl (z.ln as).up))) :: LoP K lo (z.ln as).o :: QuP K qa' (z.ln as).x :: BuP K ba' (z.ln as).b :: pt fl' (.lst (ts'.map V.ref)) :: big DuP ts' (z.ln as).fly :: ro t (.tup [.ref qa, .ref ba, .ref fl, .bl true]) :: BuP K ba z.b :: pt fl (.lst (ts.map V.ref)) :: big DuP ts (z.fly.map (fun r => (r.1, atR bs r.2))) :: big (FrP K) as z.cs :: big (FrP K) bs z.cs :: FrP K a f :: R) H') ?_ ?_
    · wtm_at "g_go"
      refine if_d (fun h => ?_) (fun h => ?_)
      · have em : markA z f = f.mark := if_pos (by have h2 : z.o.limit < 2 * octs (z.x.mp (atR bs)).fs := h; omega)
        wtm_at "g_go"
        refine ⟨_, rfl, ?_⟩
        rw [em]
        wtm_at "g_own"
      · have em : markA z f = f := if_neg (by have h2 : ¬ z.o.limit < 2 * octs (z.x.mp (atR bs)).fs := h; omega)
        wtm_at "g_go"
        refine ⟨_, rfl, ?_⟩
        rw [em]
        wtm_at "g_own"
    rintro σ H1 ⟨b, rfl, w1⟩
    have hmo := markA_ok (z := z) hf
    have hml := hmo.len
    obtain ⟨po, pv, pl⟩ := putA_ok hz hf
    have hpb := put_ln (f := f) (a := b) hz (by omega : bs.length = z.cs.length)
    wtm_at "g_go"
    rename_i H2 kt w2 H3 w3
    refine c_qput (x := z.x.mp (atR bs)) (k := f.key) wfb (by omega) hf.key fwt w3 (by wtm_at "g_pk") (by wtm_at "g_pk") fun H4 l ws w4 => ?_
    rw [hpb] at w4
    wtm_at "g_go"
    have hpl : ((putF z.x f.key (.int (z.cs.length : Nat)) f.wt).2.map (Wt.mp (atR (bs ++ [b])))).length ≤ 1000000 := by
      unfold outA at pl
      rw [List.length_map] at pl ⊢
      omega
    refine lcSel (F := WtP K) (fun _ => true) (fun y => y.i) hpl w4 .here .here (fun i b y H5 X B0 B1 hb hy w5 h0 h1 => ?_) (fun D H5 w5 => ?_)
    · have w6 := (w5.pick (.next (.next .here))).bigAt hb hy
      wtm_at "g_go"
      refine ⟨wipe1, ?_⟩
      wtm_at "g_go"
      exact h1 rfl
    rw [filter_tt, out_mp] at w5
    have w6 : Own (big (FrP K) bs z.cs :: FrP K b (markA z f) :: pt D (.lst ((outA z f).map (atR (bs ++ [b])))) :: QuP K qa ((putA z f).x.mp (atR (bs ++ [b]))) :: pt p (.ins (He.ga K "Line") dx (fLine (.ref lo) (.ref qa') (.ref ba') (.ref fl') (.bl (z.ln as).up))) :: LoP K lo (z.ln as).o :: QuP K qa' (z.ln as).x :: BuP K ba' (z.ln as).b :: pt fl' (.lst (ts'.map V.ref)) :: big DuP ts' (z.ln as).fly :: ro t (.tup [.ref qa, .ref ba, .ref fl, .bl true]) :: BuP K ba z.b :: pt fl (.lst (ts.map V.ref)) :: big DuP ts (z.fly.map (fun r => (r.1, atR bs r.2))) :: big (FrP K) as z.cs :: FrP K a f :: R) H5 := by
      unfold outA
      wtm_at "g_own"
    obtain ⟨fs, hfs, hfl, rowk⟩ := row_of (cs := z.cs ++ [markA z f]) (vs := outA z f) (by rw [List.length_append]; exact pv)
    have hfok : ∀ g ∈ fs, FOk g := fun g hg => po.cs g (hfs g hg)
    obtain ⟨qs, eqs, w7⟩ := rowk K (bs ++ [b]) _ _ w6.bigSnoc
    rw [eqs] at w7
    wtm_at "g_go"
    refine c_lrow (fs := fs) (qs := qs) (c := false) (by omega) hfok w7 (by exact .next (.next .here)) .here fun H6 e es w8 => ?_
    have w9 := ln_in (z := z.ln as) (dx := dx) (lo := lo) (qa := qa') (ba := ba') (fl := fl') (ts := ts') (K := K) (p := p) (H := H6) (L := pt e (.lst (es.map V.ref)) :: big VaP es fs :: big (FrP K) (bs ++ [b]) (z.cs ++ [markA z f]) :: QuP K qa ((putA z f).x.mp (atR (bs ++ [b]))) :: ro t (.tup [.ref qa, .ref ba, .ref fl, .bl true]) :: BuP K ba z.b :: pt fl (.lst (ts.map V.ref)) :: big DuP ts (z.fly.map (fun r => (r.1, atR bs r.2))) :: big (FrP K) as z.cs :: FrP K a f :: R) (by wtm_at "g_own")
    wtm_at "g_go"
    have w10 : Own (LnP K p (z.ln as) :: FrP K a f :: pt e (.lst (es.map V.ref)) :: big VaP es fs :: big (FrP K) (bs ++ [b]) (z.cs ++ [markA z f]) :: QuP K qa ((putA z f).x.mp (atR (bs ++ [b]))) :: ro t (.tup [.ref qa, .ref ba, .ref fl, .bl true]) :: BuP K ba z.b :: pt fl (.lst (ts.map V.ref)) :: big DuP ts (z.fly.map (fun r => (r.1, atR bs r.2))) :: big (FrP K) as z.cs :: R) H6 := by wtm_at "g_own"
    refine ⟨p, a, z.ln as, f, _, rfl, wfa, by show cnt (z.x.mp (atR as)).fs ≤ _; omega, hf.key, by omega, w10, fun e => ?_, fun _ H7 l2 a' w11 => ?_⟩
    · have e2 : z.up = false := e
      rw [hu] at e2
      cases e2
    have hpa : putF (z.ln as).x f.key (.ref a') f.wt = _ := put_ln (f := f) (a := a') hz hla
    have hm2 : (if (z.ln as).o.limit < 2 * octs (z.ln as).x.fs then f.mark else f) = markA z f := by
      show (if z.o.limit < 2 * octs (z.x.fs.map _) then f.mark else f) = _
      rw [octs_mp]
      rfl
    obtain ⟨ga1, ga2, ga3⟩ := grow (b := a') hz hla
    obtain ⟨gb1, gb2, gb3⟩ := grow (b := b) hz hlb
    have hln : ({ z.ln as with x := (putA z f).x.mp (atR (as ++ [a'])) } : Ln) = (putA z f).ln (as ++ [a']) := by
      unfold Ab.ln putA
      dsimp only
      rw [ga2]
    rw [hpa, hm2, out_mp] at w11
    dsimp only at w11
    rw [hln] at w11
    have w12 : Own (big (FrP K) as z.cs :: FrP K a' (markA z f) :: pt l2 (.lst ((outA z f).map (atR (as ++ [a'])))) :: LnP K p ((putA z f).ln (as ++ [a'])) :: pt e (.lst (es.map V.ref)) :: big VaP es fs :: big (FrP K) (bs ++ [b]) (z.cs ++ [markA z f]) :: QuP K qa ((putA z f).x.mp (atR (bs ++ [b]))) :: ro t (.tup [.ref qa, .ref ba, .ref fl, .bl true]) :: BuP K ba z.b :: pt fl (.lst (ts.map V.ref)) :: big DuP ts (z.fly.map (fun r => (r.1, atR bs r.2))) :: R) H7 := by
      unfold outA
      wtm_at "g_own"
    obtain ⟨qs2, eqs2, w13⟩ := rowk K (as ++ [a']) _ _ w12.bigSnoc
    rw [eqs2] at w13
    wtm_at "g_go"
    refine c_lrow (fs := fs) (qs := qs2) (c := false) (by omega) hfok w13 (by exact .next (.next .here)) .here fun H8 g gs w14 => ?_
    wtm_at "g_go"
    refine w_neS' (d := .list (fs.map Fr.d)) (rows_dp w14) (rows_dp (c := false) (l := e) (ts := es) (fs := fs) (H := H8) (L := R) (by wtm_at "g_own")) (rows_shaped hfok) ?_
    wtm_at "g_go"
    refine q _ (putA z f) po (by show (z.cs ++ [markA z f]).length ≤ _; rw [List.length_append]; simp) (st_in (as := as ++ [a']) (bs := bs ++ [b]) ?_)
    rw [gb2] at w14
    have w15 := wo_in (z := putA z f) (as := bs ++ [b]) (t := t) (qa := qa) (ba := ba) (fl := fl) (ts := ts) (K := K) (H := H8) (L := LnP K p ((putA z f).ln (as ++ [a'])) :: big (FrP K) (as ++ [a']) (z.cs ++ [markA z f]) :: big (FrP K) (bs ++ [b]) (z.cs ++ [markA z f]) :: R) (by
      show Own (ro t (.tup [.ref qa, .ref ba, .ref fl, .bl z.up]) :: _) H8
      rw [hu]
      show Own (_ :: _ :: BuP K ba z.b :: _ :: big DuP ts (z.fly.map _) :: _) H8
      wtm_at "g_own")
    show Own (_ :: _ :: big (FrP K) (as ++ [a']) (z.cs ++ [markA z f]) :: big (FrP K) (bs ++ [b]) (z.cs ++ [markA z f]) :: R) H8
    wtm_at "g_own"
end
section
variable {K : PySem.W.Frag} {mg : Str → Option Value} {base : Heap}
theorem pure_law_tick (T : TX K mg base) (vs : List V) (H : Hp) (Q : VK) (E : XK) (h : sp_law_tick K vs H Q E) : t_law_tick K E { nx := fun _ H' => Q .non H', rt := Q } (start N_law_tick vs) H := by
  obtain ⟨p, t, now, z, R, rfl, hz, hc, w, q⟩ := h
  have hsm := hz.small
  obtain ⟨as, bs, w⟩ := st_out w
  have hla := (w.pick (.next (.next .here))).bigLen
  have hlb := (w.pick (.next (.next (.next .here)))).bigLen
  have wfa : WF (z.x.mp (atR as)) := wf_mp hz.x
  have wfb : WF (z.x.mp (atR bs)) := wf_mp hz.x
  have hca : cnt (z.x.mp (atR as)).fs = cnt z.x.fs := cnt_mp
  have hcb : cnt (z.x.mp (atR bs)).fs = cnt z.x.fs := cnt_mp
  obtain ⟨qa, ba, fl, ts0, w⟩ := wo_out (w.pick (.next .here))
  have hlen := (w.pick (.next (.next (.next (.next .here))))).bigLen
  rw [List.length_map] at hlen
  obtain ⟨dx, lo, qa', ba', fl', ts', w⟩ := ln_out (w.pick (P := LnP K p (z.ln as)) (by wtm_at "g_pk"))
  have hfm := fl_mp (z := z) (now := now) (as := bs)
  have hsx := send_mp (z := z) (as := bs)
  obtain ⟨po, pv, pl, pf⟩ := tickA_ok (now := now) hz
  have hx0 : (tickA z 0).x = (tickA z now).x ∧ (tickA z 0).b = (tickA z now).b := ⟨rfl, rfl⟩
  rw [hx0.1, hx0.2] at hsx
  have hfl0 : ts0.length = (z.fly.map (fun r => (r.1, atR bs r.2))).length := by rw [List.length_map]; exact hlen
  have hfle : (z.fly.map (fun r => (r.1, atR bs r.2))).length + cnt (z.x.mp (atR bs)).fs ≤ 1000 := by rw [List.length_map]; omega
  generalize hF0 : z.fly.map (fun r => (r.1, atR bs r.2)) = F0 at *
  generalize hX : z.x.mp (atR bs) = X at *
  unfold t_law_tick
  wtm_at "g_go"
  rename_i H1 w1 l5 H2 w2
  refine c_nextN (p := qa) wfb (by omega) w2 (by wtm_at "g_pk") fun H3 v w3 => ?_
  replace w3 : Own (Nx K v X :: QuP K qa (turnF X) :: BuP K ba z.b.tick :: pt l5 (.lst (ts0.map V.ref)) :: big DuP ts0 F0 :: pt p (.ins (He.ga K "Line") dx (fLine (.ref lo) (.ref qa') (.ref ba') (.ref fl') (.bl (z.ln as).up))) :: LoP K lo (z.ln as).o :: QuP K qa' (z.ln as).x :: BuP K ba' (z.ln as).b :: pt fl' (.lst (ts'.map V.ref)) :: big DuP ts' (z.ln as).fly :: big (FrP K) as z.cs :: big (FrP K) bs z.cs :: R) H3 := by wtm_at "g_own"
  wtm_at "g_go"
  refine w_cut (fun σ H' => ∃ (x : Qu) (b : Bk) (v : V) (acc : List Wt) (ts : List Addr), σ = [some (.ref p), some (.ref t), some (.int now), some (.ref qa), some (.ref ba), some (.ref l5), some (.bl z.up), some v, none, none] ∧ WF x ∧ acc.length ≤ cnt X.fs ∧ sendL (cnt X.fs) X z.b.tick = (acc, turnF x, b) ∧
    Own (QuP K qa (turnF x) :: BuP K ba b :: pt l5 (.lst (ts.map V.ref)) :: big DuP ts (F0 ++ acc.map (fun y => (now + z.o.delay, y.i))) :: pt p (.ins (He.ga K "Line") dx (fLine (.ref lo) (.ref qa') (.ref ba') (.ref fl') (.bl (z.ln as).up))) :: LoP K lo (z.ln as).o :: QuP K qa' (z.ln as).x :: BuP K ba' (z.ln as).b :: pt fl' (.lst (ts'.map V.ref)) :: big DuP ts' (z.ln as).fly :: big (FrP K) as z.cs :: big (FrP K) bs z.cs :: R) H') ?_ ?_
  rotate_left
  · rintro σ H4 ⟨x, b, v, acc, ts, rfl, wfx, hacc, hs, w4⟩
    unfold sendF at hfm hsx
    rw [hs] at hfm hsx
    rw [hfm] at w4
    obtain ⟨hsx1, hsx2⟩ : turnF x = (tickA z now).x.mp (atR bs) ∧ b = (tickA z now).b := ⟨congrArg Prod.fst hsx, congrArg Prod.snd hsx⟩
    rw [hsx1, hsx2] at w4
    have hfll : ((flA z now).map (fun r => (r.1, atR bs r.2))).length ≤ 1000000 := by rw [List.length_map]; omega
    wtm_at "g_go"
    refine lcSel (F := DuP) (xs := (flA z now).map (fun r => (r.1, atR bs r.2))) (ps := ts) (l := l5) (fun r => decide (r.1 ≤ now)) (fun y => y.2) hfll w4 (by wtm_at "g_pk") (by wtm_at "g_pk") (fun i a y H5 X B0 B1 ha hy w5 h0 h1 => ?_) (fun D H6 w6 => ?_)
    · have w6 := (w5.pick (.next (.next .here))).bigAt ha hy
      unfold DuP at w6
      wtm_at "g_go"
      refine ⟨wipe1, ?_⟩
      wtm_at "g_go"
      refine if_d (fun h => ?_) (fun h => ?_)
      · wtm_at "g_go"
        exact h1 (decide_eq_true h)
      · exact h0 (decide_eq_false h)
    have hgo : (((flA z now).map (fun r => (r.1, atR bs r.2))).filter (fun r => decide (r.1 ≤ now))).map (fun y => y.2) = (goA z now).map (atR bs) := by
      rw [flt_map]
      unfold goA
      rw [List.map_map, List.map_map]
      rfl
    rw [hgo] at w6
    obtain ⟨fs, hfs, hfl, rowk⟩ := row_of pv
    have hfok : ∀ g ∈ fs, FOk g := fun g hg => hz.cs g (hfs g hg)
    obtain ⟨qs, eqs, w7⟩ := rowk K bs _ _ (w6.pick (P := big (FrP K) bs z.cs) (by wtm_at "g_pk"))
    rw [eqs] at w7
    wtm_at "g_go"
    refine c_lrow (fs := fs) (qs := qs) (l := D) (c := false) (by omega) hfok w7 (by wtm_at "g_pk") (by wtm_at "g_pk") fun H8 e es w8 => ?_
    wtm_at "g_go"
    have w9 : Own (pt p (.ins (He.ga K "Line") dx (fLine (.ref lo) (.ref qa') (.ref ba') (.ref fl') (.bl (z.ln as).up))) :: LoP K lo (z.ln as).o :: QuP K qa' (z.ln as).x :: BuP K ba' (z.ln as).b :: pt fl' (.lst (ts'.map V.ref)) :: big DuP ts' (z.ln as).fly :: pt e (.lst (es.map V.ref)) :: big VaP es fs :: QuP K qa ((tickA z now).x.mp (atR bs)) :: BuP K ba (tickA z now).b :: pt l5 (.lst (ts.map V.ref)) :: big DuP ts ((flA z now).map (fun r => (r.1, atR bs r.2))) :: big (FrP K) as z.cs :: big (FrP K) bs z.cs :: R) H8 := by wtm_at "g_own"
    have w10 := ln_in (z := z.ln as) w9
    wtm_at "g_go"
    have hcl : (z.ln as).fly.length = z.fly.length := List.length_map ..
    refine ⟨p, z.ln as, now, _, rfl, wfa, by show cnt (z.x.mp (atR as)).fs + (z.ln as).fly.length ≤ _; omega, w10, fun H9 l9 w11 => ?_⟩
    rw [tick_ln] at w11
    obtain ⟨qs2, eqs2, w12⟩ := rowk K as _ _ (w11.pick (P := big (FrP K) as z.cs) (by wtm_at "g_pk"))
    dsimp only at w12
    rw [eqs2] at w12
    wtm_at "g_go"
    refine c_lrow (fs := fs) (qs := qs2) (l := l9) (c := false) (by omega) hfok w12 (by wtm_at "g_pk") (by wtm_at "g_pk") fun H10 g gs w13 => ?_
    wtm_at "g_go"
    refine w_neS' (d := .list (fs.map Fr.d)) (rows_dp w13) (rows_dp (c := false) (l := e) (ts := es) (fs := fs) (H := H10) (L := R) (by wtm_at "g_own")) (rows_shaped hfok) ?_
    wtm_at "g_go"
    refine lcBig (F := DuP) (xs := (flA z now).map (fun r => (r.1, atR bs r.2))) (ps := ts) (l := l5) (fun r => decide (now < r.1)) (fun y => y) DuP hfll w13 (by wtm_at "g_pk") (by wtm_at "g_pk") (fun i a y H5 X Y B0 B1 ha hy w5 h0 h1 => ?_) (fun D2 ts2 H11 w14 => ?_)
    · have w6 := (w5.pick (.next (.next (.next .here)))).bigAt ha hy
      unfold DuP at w6
      wtm_at "g_go"
      refine ⟨wipe1, ?_⟩
      wtm_at "g_go"
      refine if_d (fun h => ?_) (fun h => ?_)
      · wtm_at "g_go"
        refine h1 (decide_eq_true h) _ a (show Own (ro a (.tup [.int y.1, y.2]) :: _) _ from ?_)
        unfold DuP
        wtm_at "g_own"
      · refine h0 (decide_eq_false h) _ ?_
        unfold DuP
        wtm_at "g_own"
    rw [List.map_id', flt_map] at w14
    wtm_at "g_go"
    rename_i t2 H12 w15
    refine q _ t2 (tickA z now) po (Nat.le_refl _) (st_in (as := as) (bs := bs) ?_)
    have w16 := wo_in (z := tickA z now) (as := bs) (t := t2) (qa := qa) (ba := ba) (fl := D2) (ts := ts2) (K := K) (H := H12) (L := LnP K p ((tickA z now).ln as) :: big (FrP K) as z.cs :: big (FrP K) bs z.cs :: R) (by
      show Own (ro t2 (.tup [.ref qa, .ref ba, .ref D2, .bl z.up]) :: _ :: _ :: _ :: big DuP ts2 (((flA z now).filter (fun r : Int × V => decide (now < r.1))).map _) :: _) H12
      wtm_at "g_own")
    show Own (_ :: _ :: big (FrP K) as z.cs :: big (FrP K) bs z.cs :: R) H12
    wtm_at "g_own"
  refine w_whileO (m0 := cnt X.fs) (fun m σ H' => ∃ (x : Qu) (b : Bk) (v : V) (acc : List Wt) (ts : List Addr), σ = [some (.ref p), some (.ref t), some (.int now), some (.ref qa), some (.ref ba), some (.ref l5), some (.bl z.up), some v, none, none] ∧ m = cnt x.fs ∧ WF x ∧ acc.length + m = cnt X.fs ∧
    sendL (cnt X.fs) X z.b.tick = (acc ++ (sendL m x b).1, (sendL m x b).2) ∧ Own (Nx K v x :: QuP K qa (turnF x) :: BuP K ba b :: pt l5 (.lst (ts.map V.ref)) :: big DuP ts (F0 ++ acc.map (fun y => (now + z.o.delay, y.i))) :: pt p (.ins (He.ga K "Line") dx (fLine (.ref lo) (.ref qa') (.ref ba') (.ref fl') (.bl (z.ln as).up))) :: LoP K lo (z.ln as).o :: QuP K qa' (z.ln as).x :: BuP K ba' (z.ln as).b :: pt fl' (.lst (ts'.map V.ref)) :: big DuP ts' (z.ln as).fly :: big (FrP K) as z.cs :: big (FrP K) bs z.cs :: R) H')
    ⟨X, z.b.tick, v, [], ts0, rfl, rfl, wfb, by simp, by simp, by rw [List.map_nil, List.append_nil]; exact w3⟩ ?_
  rintro m σ H3 ⟨x, b, v, acc, ts, rfl, rfl, wfx, hacc, hs, w3⟩
  have hlt := (w3.pick (.next (.next (.next (.next .here))))).bigLen
  rw [List.length_append, List.length_map] at hlt
  rcases nx_out w3 with ⟨hn, rfl, w4⟩ | ⟨y, a, hy, rfl, w4⟩
  · clear w3
    wtm_at "g_go"
    have hse : sendL (cnt x.fs) x b = ([], turnF x, b) := by
      cases hcx : cnt x.fs with
      | zero => rfl
      | succ n => rw [sendL, hn]
    rw [hse, List.append_nil] at hs
    exact ⟨x, b, _, acc, ts, rfl, wfx, by omega, hs, w4⟩
  · clear w3
    have hcp : ∃ n, cnt x.fs = n + 1 := by
      cases hcx : cnt x.fs with
      | zero => rw [first_none hcx wfx] at hy; cases hy
      | succ n => exact ⟨n, rfl⟩
    obtain ⟨n, hcx⟩ := hcp
    have wft := wf_turn wfx
    have hct := cnt_turn wfx
    obtain ⟨g1, _, g3, g4, _, _⟩ := gone_ok (P := fun _ => True) wft (fun _ _ _ _ => trivial) hy
    wtm_at "g_go"
    refine c_btake (p := ba) (b := b) (by wtm_at "g_own") (by wtm_at "g_pk") (fun hlt H5 w5 => ?_) (fun hle H5 w5 => ?_)
    · wtm_at "g_go"
      have hse : sendL (cnt x.fs) x b = ([], turnF x, b) := by
        rw [hcx, sendL, hy]
        dsimp only
        rw [if_neg (by omega)]
      rw [hse, List.append_nil] at hs
      exact ⟨x, b, _, acc, ts, rfl, wfx, by omega, hs, by wtm_at "g_own"⟩
    · wtm_at "g_go"
      have hag := turn_again (x := x) wfx.q
      refine c_qtake_s (x := turnF x) (p := qa) (y := y) wft (by omega) (by rw [hag]; exact hy) (by wtm_at "g_own") (by wtm_at "g_pk") fun H6 a2 w6 => ?_
      rw [hag] at w6
      wtm_at "g_go"
      rename_i tt H7 w7 H8 w8
      have w9 : Own (QuP K qa (goneF (turnF x)) :: big DuP ts (F0 ++ acc.map (fun y => (now + z.o.delay, y.i))) :: DuP tt (now + z.o.delay, y.i) :: BuP K ba { b with tokens := b.tokens - y.w } :: pt l5 (.lst ((ts ++ [tt]).map V.ref)) :: pt p (.ins (He.ga K "Line") dx (fLine (.ref lo) (.ref qa') (.ref ba') (.ref fl') (.bl (z.ln as).up))) :: LoP K lo (z.ln as).o :: QuP K qa' (z.ln as).x :: BuP K ba' (z.ln as).b :: pt fl' (.lst (ts'.map V.ref)) :: big DuP ts' (z.ln as).fly :: big (FrP K) as z.cs :: big (FrP K) bs z.cs :: R) H8 := by
        show Own (_ :: _ :: ro tt (.tup [.int (now + (z.ln as).o.delay), y.i]) :: _) H8
        wtm_at "g_own"
      have w10 := w9.swap.perm ((List.Perm.swap _ _ _).cons _)
      have w11 := w10.bigSnoc.swap
      have hend : sendL (cnt X.fs) X z.b.tick = ((acc ++ [y]) ++ (sendL n (goneF (turnF x)) { b with tokens := b.tokens - y.w }).1, (sendL n (goneF (turnF x)) { b with tokens := b.tokens - y.w }).2) := by
        rw [hs, hcx, sendL, hy]
        dsimp only
        rw [if_pos hle, List.append_assoc]
        rfl
      have hcn : cnt (goneF (turnF x)).fs = n := by omega
      have hg2 : F0 ++ acc.map (fun y => (now + z.o.delay, y.i)) ++ [(now + z.o.delay, y.i)] = F0 ++ (acc ++ [y]).map (fun y => (now + z.o.delay, y.i)) := by rw [List.map_append, List.append_assoc]; rfl
      rw [hg2] at w11
      refine c_nextN (p := qa) g1 (by omega) w11 (by wtm_at "g_pk") fun H9 v w12 => ?_
      replace w12 : Own (Nx K v (goneF (turnF x)) :: QuP K qa (turnF (goneF (turnF x))) :: BuP K ba { b with tokens := b.tokens - y.w } :: pt l5 (.lst ((ts ++ [tt]).map V.ref)) :: big DuP (ts ++ [tt]) (F0 ++ (acc ++ [y]).map (fun y => (now + z.o.delay, y.i))) :: pt p (.ins (He.ga K "Line") dx (fLine (.ref lo) (.ref qa') (.ref ba') (.ref fl') (.bl (z.ln as).up))) :: LoP K lo (z.ln as).o :: QuP K qa' (z.ln as).x :: BuP K ba' (z.ln as).b :: pt fl' (.lst (ts'.map V.ref)) :: big DuP ts' (z.ln as).fly :: big (FrP K) as z.cs :: big (FrP K) bs z.cs :: R) H9 := by wtm_at "g_own"
      wtm_at "g_go"
      exact ⟨n, by omega, goneF (turnF x), _, v, acc ++ [y], ts ++ [tt], rfl, hcn.symm, g1, by rw [List.length_append]; simp only [List.length_cons, List.length_nil]; omega, hend, w12⟩
end
section
variable {K : PySem.W.Frag} {mg : Str → Option Value} {base : Heap}
theorem tell_st_ln {p t : Addr} {z : Ab} : Tell (StP K p t z) (fun H => ∃ dx lo x1 x2 x3, H p = some (.ins (He.ga K "Line") dx (fLine (.ref lo) x1 x2 x3 (.bl z.up)))) := fun h ⟨as, bs, h1, h2, d, s1, s2, q, _⟩ H e => let ⟨dx, lo, a, b, c, w⟩ := tell_ln _ q H (e.sub s1); ⟨dx, lo, _, _, _, w⟩
theorem tell_st_m {p t : Addr} {z : Ab} {m : Str} (ln : ∀ {x0 x1 x2 x3 x4 : V}, (fLine x0 x1 x2 x3 x4).lookup m = none) : TMt (StP K p t z) p (He.ga K "Line") m := fun h q H e => let ⟨dx, lo, x1, x2, x3, w⟩ := tell_st_ln h q H e; ⟨dx, _, w, ln⟩
theorem tell_st_up {p t : Addr} {z : Ab} : TFld (StP K p t z) p (He.ga K "Line") "is_up" (.bl z.up) := fun h q H e => let ⟨dx, lo, x1, x2, x3, w⟩ := tell_st_ln h q H e; ⟨dx, _, w, lk_Line_is_up⟩
theorem pure_law_agrees (T : TX K mg base) (vs : List V) (H : Hp) (Q : VK) (E : XK) (h : sp_law_agrees K vs H Q E) : t_law_agrees K E { nx := fun _ H' => Q .non H', rt := Q } (start N_law_agrees vs) H := by
  obtain ⟨p, t, z, R, rfl, hz, hc, w, q⟩ := h
  have hsm := hz.small
  have hfl2 : z.x.fs.length ≤ cnt z.x.fs := fs_cnt fun f hf => (hz.x.fs f hf).ne
  obtain ⟨as, bs, w⟩ := st_out w
  have hca : cnt (z.x.mp (atR as)).fs = cnt z.x.fs := cnt_mp
  have hcb : cnt (z.x.mp (atR bs)).fs = cnt z.x.fs := cnt_mp
  have hfa : (z.x.mp (atR as)).fs.length = z.x.fs.length := List.length_map ..
  have hfb : (z.x.mp (atR bs)).fs.length = z.x.fs.length := List.length_map ..
  have hcl : (z.ln as).fly.length = z.fly.length := List.length_map ..
  obtain ⟨qa, ba, fl, ts, w⟩ := wo_out (w.pick (.next .here))
  have hlen := (w.pick (.next (.next (.next (.next .here))))).bigLen
  rw [List.length_map] at hlen
  unfold t_law_agrees
  wtm_at "g_go"
  refine ⟨p, z.ln as, _, rfl, by show cnt (z.x.mp (atR as)).fs ≤ _; omega, by show (z.x.mp (atR as)).fs.length ≤ _; omega, w.pick (by wtm_at "g_pk"), fun H1 w1 => ?_⟩
  wtm_at "g_go"
  have e : decide (((cnt (z.ln as).x.fs + (z.ln as).fly.length : Nat) : Int) = ((cnt (z.x.mp (atR bs)).fs : Nat) : Int) + (ts.length : Nat)) = true := by
    refine decide_eq_true ?_
    show ((cnt (z.x.mp (atR as)).fs + (z.ln as).fly.length : Nat) : Int) = _
    omega
  rw [e]
  wtm_at "g_go"
  have e2 : decide ((z.ln as).up = z.up) = true := decide_eq_true rfl
  rw [e2]
  refine q _ (st_in (as := as) (bs := bs) ?_)
  rename_i H2 w2
  have w3 := wo_in (z := z) (as := bs) (t := t) (qa := qa) (ba := ba) (fl := fl) (ts := ts) (K := K) (H := H2) (L := LnP K p (z.ln as) :: big (FrP K) as z.cs :: big (FrP K) bs z.cs :: R) (by wtm_at "g_own")
  wtm_at "g_own"
theorem pure_law_deed (T : TX K mg base) (vs : List V) (H : Hp) (Q : VK) (E : XK) (h : sp_law_deed K vs H Q E) : t_law_deed K E { nx := fun _ H' => Q .non H', rt := Q } (start N_law_deed vs) H := by
  obtain ⟨p, t, c, s, n, now, z, R, rfl, hz, hc, w, q⟩ := h
  have hsm := hz.small
  unfold t_law_deed
  wtm_at "g_go"
  rename_i k H1 k0 k1 w1
  refine if_d (fun hk => ?_) (fun hk => ?_)
  · wtm_at "g_go"
    refine w_ixL (v := .int now) (by wtm_at "g_sq") rfl ?_
    wtm_at "g_go"
    refine ⟨n, now, s, _, rfl, w1, fun H2 a f hf w2 => ?_⟩
    wtm_at "g_go"
    obtain ⟨dx, lo, x1, x2, x3, hlo⟩ := (w2.pick (P := StP K p t z) (by wtm_at "g_pk")).ent (.here tell_st_ln)
    refine w_fld hlo (cl_Line T) (na_Line_options T) lk_Line_options ?_
    wtm_at "g_go"
    refine ⟨a, lo, f, _, rfl, hf, w2.dup, fun H3 w3 => ?_⟩
    wtm_at "g_go"
    refine ⟨p, t, a, z, f, _, rfl, hz, hc, hf, Own.sel w3 (Sel.cons (by wtm_at "g_pk") (Sel.cons .here .rf)), fun H4 z' hz' hl w4 => ?_⟩
    exact q _ t now z' hz' hl (by wtm_at "g_own")
  wtm_at "g_go"
  refine if_d (fun hk2 => ?_) (fun hk2 => ?_)
  · wtm_at "g_go"
    refine w_ixL (v := .int now) (by wtm_at "g_sq") rfl ?_
    wtm_at "g_go"
    refine k_setL (z := 0) (xs := [.int now]) w1 (by exact .next (.next .here)) rfl fun H2 w2 => ?_
    rw [List.set_cons_zero] at w2
    wtm_at "g_go"
    refine w_ixL (v := .int (now + 1)) (by wtm_at "g_sq") rfl ?_
    wtm_at "g_go"
    refine ⟨p, t, now + 1, z, _, rfl, hz, hc, w2.pick (.next .here), fun H3 t' z' hz' hl w3 => ?_⟩
    exact q _ t' (now + 1) z' hz' (by omega) (by wtm_at "g_own")
  wtm_at "g_go"
  have w1' := w1.pick (P := StP K p t z) (by wtm_at "g_pk")
  clear w1
  obtain ⟨as, bs, w1⟩ := st_out w1'
  clear w1'
  have hla := (w1.pick (.next (.next .here))).bigLen
  have hlb := (w1.pick (.next (.next (.next .here)))).bigLen
  have hca : cnt (z.x.mp (atR as)).fs = cnt z.x.fs := cnt_mp
  have hcb : cnt (z.x.mp (atR bs)).fs = cnt z.x.fs := cnt_mp
  have hcl : (z.ln as).fly.length = z.fly.length := List.length_map ..
  have hflm : ∀ bs, (z.fly.map (fun r => (r.1, atR bs r.2))).length = z.fly.length := fun bs => List.length_map ..
  have hflb := hflm bs
  obtain ⟨qa, ba, fl, ts, w2⟩ := wo_out (w1.pick (.next .here))
  clear w1
  refine if_d (fun hk3 => ?_) (fun hk3 => ?_)
  · obtain ⟨po, pv⟩ := cut_ok hz
    wtm_at "g_go"
    rename_i H2 l2 ws w3
    have hfw : (allW (z.x.mp (atR bs)).fs).length = cnt z.x.fs := by rw [flat_len, hcb]
    refine lcSel (F := WtP K) (fun _ => true) (fun y => y.i) (by omega) w3 .here .here (fun i b y H5 X B0 B1 hb hy w5 h0 h1 => ?_) (fun D H3 w4 => ?_)
    · have w6 := (w5.pick (.next (.next .here))).bigAt hb hy
      wtm_at "g_go"
      refine ⟨wipe1, ?_⟩
      wtm_at "g_go"
      exact h1 rfl
    rw [filter_tt] at w4
    wtm_at "g_go"
    refine lcSel (F := DuP) (xs := z.fly.map (fun r => (r.1, atR bs r.2))) (ps := ts) (l := fl) (fun _ => true) (fun y => y.2) (by omega) w4 (by wtm_at "g_pk") (by wtm_at "g_pk") (fun i b y H5 X B0 B1 hb hy w5 h0 h1 => ?_) (fun D2 H4 w5 => ?_)
    · have w6 := (w5.pick (.next (.next .here))).bigAt hb hy
      unfold DuP at w6
      wtm_at "g_go"
      refine ⟨wipe1, ?_⟩
      wtm_at "g_go"
      exact h1 rfl
    rw [filter_tt] at w5
    wtm_at "g_go"
    refine k_cat w5 (l := D) (b := D2) (xs := (allW (z.x.mp (atR bs)).fs).map (fun y => y.i)) (zs := (z.fly.map (fun r => (r.1, atR bs r.2))).map (fun y => y.2)) (by wtm_at "g_got") (by wtm_at "g_got") (small16 (by rw [List.length_map, List.length_map]; omega)) fun D3 H5 w6 => ?_
    have ec : ∀ cs, (allW (z.x.mp (atR cs)).fs).map (fun y => y.i) ++ (z.fly.map (fun r => (r.1, atR cs r.2))).map (fun y => y.2) = ((allW z.x.fs).map (·.i) ++ z.fly.map (·.2)).map (atR cs) := fun cs => by
      show (allW (z.x.fs.map _)).map (fun y => y.i) ++ _ = _
      rw [allW_mp, out_mp, List.map_append]
      congr 1
      rw [List.map_map, List.map_map]
      rfl
    rw [ec bs] at w6
    obtain ⟨fs, hfs, hfl, rowk⟩ := row_of pv
    have hfl2 := flat_len (fs := z.x.fs)
    rw [List.length_append, List.length_map, List.length_map] at hfl
    have hfok : ∀ g ∈ fs, FOk g := fun g hg => hz.cs g (hfs g hg)
    obtain ⟨qs, eqs, w7⟩ := rowk K bs _ _ (w6.pick (P := big (FrP K) bs z.cs) (by wtm_at "g_pk"))
    rw [eqs] at w7
    wtm_at "g_go"
    have hcs : cnt (z.ln as).x.fs + (z.ln as).fly.length ≤ 100000 := by show cnt (z.x.mp (atR as)).fs + (z.ln as).fly.length ≤ _; omega
    refine ⟨p, z.ln as, _, rfl, hcs, w7.pick (by wtm_at "g_pk"), fun H6 l6 w8 => ?_⟩
    have ea : (allW (z.ln as).x.fs).map (fun y => y.i) ++ (z.ln as).fly.map (fun y => y.2) = _ := ec as
    rw [ea] at w8
    obtain ⟨qs2, eqs2, w9⟩ := rowk K as _ _ (w8.pick (P := big (FrP K) as z.cs) (by wtm_at "g_pk"))
    rw [eqs2] at w9
    have eln : ({ z.ln as with x := { (z.ln as).x with fs := [], gr := false }, fly := [], up := false } : Ln) = (cutA z).ln as := rfl
    rw [eln] at w9
    wtm_at "g_go"
    refine c_lrow (fs := fs) (qs := qs2) (l := l6) (c := false) (by omega) hfok w9 (by wtm_at "g_pk") (by wtm_at "g_pk") fun H7 g gs w10 => ?_
    wtm_at "g_go"
    have w11 := w10.pick (P := big (FrP K) qs fs) (by wtm_at "g_pk")
    refine c_lrow (fs := fs) (qs := qs) (l := D3) (c := false) (by omega) hfok w11 (by wtm_at "g_pk") (by exact .here) fun H8 e es w12 => ?_
    wtm_at "g_go"
    refine w_neS' (d := .list (fs.map Fr.d)) (rows_dp (c := false) (l := g) (ts := gs) (fs := fs) (H := H8) (L := R) (by wtm_at "g_own")) (rows_dp w12) (rows_shaped hfok) ?_
    wtm_at "g_go"
    rename_i l9 H9 w13 t2 H10 w14
    have w15 := Own.bigNil (f := DuP) w14
    have w16 := wo_in (z := cutA z) (as := bs) (t := t2) (qa := qa) (ba := ba) (fl := l9) (ts := []) (K := K) (H := H10) (L := LnP K p ((cutA z).ln as) :: big (FrP K) as z.cs :: big (FrP K) bs z.cs :: Drw s :: pt c (.lst [.int now]) :: R) (by
      show Own (ro t2 (.tup [.ref qa, .ref ba, .ref l9, .bl false]) :: QuP K qa ⟨z.x.lim, z.x.q, [], false⟩ :: BuP K ba z.b :: pt l9 (.lst []) :: big DuP [] [] :: _) H10
      wtm_at "g_own")
    refine q _ t2 now (cutA z) po (by show z.cs.length ≤ _; omega) (st_in (as := as) (bs := bs) ?_)
    show Own (_ :: _ :: big (FrP K) as z.cs :: big (FrP K) bs z.cs :: _) H10
    wtm_at "g_own"
  wtm_at "g_go"
  refine ⟨p, z.ln as, _, rfl, w2.pick (by wtm_at "g_pk"), fun H3 w3 => ?_⟩
  wtm_at "g_go"
  rename_i t2 H4 w4
  have po : AOk { z with up := true } := ⟨hz.o, hz.x, hz.lim, hz.b, hz.items, hz.cs, hz.small⟩
  refine q _ t2 now { z with up := true } po (by show z.cs.length ≤ _; omega) (st_in (as := as) (bs := bs) ?_)
  have w5 := wo_in (z := { z with up := true }) (as := bs) (t := t2) (qa := qa) (ba := ba) (fl := fl) (ts := ts) (K := K) (H := H4) (L := LnP K p { z.ln as with up := true } :: big (FrP K) as z.cs :: big (FrP K) bs z.cs :: Drw s :: pt c (.lst [.int now]) :: R) (by wtm_at "g_own")
  show Own (LnP K p { z.ln as with up := true } :: _ :: big (FrP K) as z.cs :: big (FrP K) bs z.cs :: _) H4
  wtm_at "g_own"
end
section
variable {K : PySem.W.Frag} {mg : Str → Option Value} {base : Heap}
/-- the fork beside, if there is one -/
def BeP (K : PySem.W.Frag) (N : Nat) (v1 v2 : V) (c : Addr) : HP := fun h => (v1 = .non ∧ v2 = .non ∧ (hex fun n : Int => pt c (.lst [.int n])) h) ∨ ∃ (p t : Addr) (z : Ab), v1 = .ref p ∧ v2 = .ref t ∧ AOk z ∧ z.cs.length ≤ N ∧ (hex fun n : Int => stars [StP K p t z, pt c (.lst [.int n])]) h
theorem be_n {L : List HP} {H : Hp} {N : Nat} {c : Addr} {n : Int} (w : Own (pt c (.lst [.int n]) :: L) H) : Own (BeP K N .non .non c :: L) H := w.head fun h p => .inl ⟨rfl, rfl, n, p⟩
theorem be_s {L : List HP} {H : Hp} {N : Nat} {p t c : Addr} {n : Int} {z : Ab} (hz : AOk z) (hl : z.cs.length ≤ N) (w : Own (StP K p t z :: pt c (.lst [.int n]) :: L) H) : Own (BeP K N (.ref p) (.ref t) c :: L) H := (Own.fold (L := [_, _]) w).head fun h q => .inr ⟨p, t, z, rfl, rfl, hz, hl, n, q⟩
theorem be_out {L : List HP} {H : Hp} {N : Nat} {v1 v2 : V} {c : Addr} (w : Own (BeP K N v1 v2 c :: L) H) : (v1 = .non ∧ v2 = .non ∧ ∃ n, Own (pt c (.lst [.int n]) :: L) H) ∨ ∃ p t z n, v1 = .ref p ∧ v2 = .ref t ∧ AOk z ∧ z.cs.length ≤ N ∧ Own (StP K p t z :: pt c (.lst [.int n]) :: L) H := by
  obtain ⟨h, e, h1, h2, d, s1, s2, q, s⟩ := w
  rcases q with ⟨e1, e2, n, q⟩ | ⟨p, t, z, e1, e2, hz, hl, n, q⟩
  · exact .inl ⟨e1, e2, n, h, e, h1, h2, d, s1, s2, q, s⟩
  · exact .inr ⟨p, t, z, n, e1, e2, hz, hl, Own.flat (L := [_, _]) ⟨h, e, h1, h2, d, s1, s2, q, s⟩⟩
theorem c_agrees {L R : List HP} {H : Hp} {Q : VK} {E : XK} {p t : Addr} {z : Ab} (hz : AOk z) (hc : z.cs.length ≤ 1000) (w : Own L H) (pk : Pick L (StP K p t z) R) (q : ∀ H', Own (StP K p t z :: R) H' → Q (.bl true) H') : sp_law_agrees K [.ref p, .ref t] H Q E := ⟨p, t, z, R, rfl, hz, hc, w.pick pk, q⟩
theorem pure_law (T : TX K mg base) (vs : List V) (H : Hp) (Q : VK) (E : XK) (h : sp_law K vs H Q E) : t_law K E { nx := fun _ H' => Q .non H', rt := Q } (start N_law vs) H := by
  obtain ⟨a, ns, rfl, hn, w, q⟩ := h
  unfold t_law
  wtm_at "g_go"
  rename_i n0 s H1 w1 d1 H2 d10 d11 w2 d2 H3 d20 d21 w3 d3 H4 d30 d31 w4 d4 H5 d40 d41 w5 d5 H6 d50 d51 w6 p6 dx6 H7 w7
  have hO : OkO (⟨1, 16 + d1, 1 + d4, 16 + d1 + 64 + d2, 16 + d1 + 64 + d2 + d3, 1 + d5⟩ : Lo) := ⟨by dsimp only; omega, by dsimp only; omega, by dsimp only; omega, by dsimp only; omega, by dsimp only; omega, by dsimp only; omega⟩
  refine ⟨p6, dx6, (⟨1, 16 + d1, 1 + d4, 16 + d1 + 64 + d2, 16 + d1 + 64 + d2 + d3, 1 + d5⟩ : Lo), _, rfl, hO, w7, fun H8 w8 => ?_⟩
  wtm_at "g_go"
  rename_i p9 dx9 H9 w9
  have w9 : Own (pt p9 (.ins (He.ga K "Line") dx9 []) :: LoP K p6 (⟨1, 16 + d1, 1 + d4, 16 + d1 + 64 + d2, 16 + d1 + 64 + d2 + d3, 1 + d5⟩ : Lo) :: LoP K p6 (⟨1, 16 + d1, 1 + d4, 16 + d1 + 64 + d2, 16 + d1 + 64 + d2 + d3, 1 + d5⟩ : Lo) :: ScP K a (ns.map V.int) :: []) H9 := by wtm_at "g_own"
  refine ⟨p9, dx9, p6, (⟨1, 16 + d1, 1 + d4, 16 + d1 + 64 + d2, 16 + d1 + 64 + d2 + d3, 1 + d5⟩ : Lo), _, rfl, hO, w9, fun H10 w10 => ?_⟩
  wtm_at "g_go"
  rename_i qa dq H11 w11
  refine ⟨qa, dq, 16 + d1 + 64 + d2 + d3, 16 + d1, _, rfl, w11, fun z => by omega, fun _ _ H12 w12 => ?_⟩
  wtm_at "g_go"
  rename_i ba db H13 w13
  refine ⟨ba, db, 1 + d4, 16 + d1 + 64 + d2, _, rfl, by omega, by omega, w13, fun H14 w14 => ?_⟩
  wtm_at "g_go"
  rename_i fl H15 w15 t0 H16 w16 c8 H17 w17 c11 H18 w18
  have hA : AOk ⟨(⟨1, 16 + d1, 1 + d4, 16 + d1 + 64 + d2, 16 + d1 + 64 + d2 + d3, 1 + d5⟩ : Lo), ⟨16 + d1 + 64 + d2 + d3, 16 + d1, [], false⟩, ⟨1 + d4, 16 + d1 + 64 + d2, 16 + d1 + 64 + d2⟩, [], true, []⟩ :=
    ⟨hO, ⟨by dsimp only; omega, by dsimp only; omega, fun f hf => by cases hf⟩, rfl, ⟨by dsimp only; omega, by dsimp only; omega⟩, ⟨(fun f hf => by cases hf), (fun r hr => by cases hr)⟩, (fun f hf => by cases hf), Nat.le_refl _⟩
  have w19 : Own (StP K p9 t0 ⟨(⟨1, 16 + d1, 1 + d4, 16 + d1 + 64 + d2, 16 + d1 + 64 + d2 + d3, 1 + d5⟩ : Lo), ⟨16 + d1 + 64 + d2 + d3, 16 + d1, [], false⟩, ⟨1 + d4, 16 + d1 + 64 + d2, 16 + d1 + 64 + d2⟩, [], true, []⟩ :: pt c8 (.lst [.int 0]) :: BeP K 0 .non .non c11 :: ScP K a (ns.map V.int) :: []) H18 := by
    have v1 := Own.bigNil (f := DuP) w18
    have v2 := Own.bigNil (f := FrP K) v1
    have v3 := wo_in (z := ⟨(⟨1, 16 + d1, 1 + d4, 16 + d1 + 64 + d2, 16 + d1 + 64 + d2 + d3, 1 + d5⟩ : Lo), ⟨16 + d1 + 64 + d2 + d3, 16 + d1, [], false⟩, ⟨1 + d4, 16 + d1 + 64 + d2, 16 + d1 + 64 + d2⟩, [], true, []⟩) (as := []) (t := t0) (qa := qa) (ba := ba) (fl := fl) (ts := []) (K := K) (H := H18) (L := big (FrP K) [] [] :: pt c11 (.lst [.int 0]) :: pt c8 (.lst [.int 0]) :: LnP K p9 ⟨(⟨1, 16 + d1, 1 + d4, 16 + d1 + 64 + d2, 16 + d1 + 64 + d2 + d3, 1 + d5⟩ : Lo), ⟨16 + d1 + 64 + d2 + d3, 16 + d1, [], false⟩, ⟨1 + d4, 16 + d1 + 64 + d2, 16 + d1 + 64 + d2⟩, [], true⟩ :: ScP K a (ns.map V.int) :: []) (by
        simp only [List.map_cons, List.map_nil] at v2
        show Own (ro t0 (.tup [.ref qa, .ref ba, .ref fl, .bl true]) :: QuP K qa ⟨16 + d1 + 64 + d2 + d3, 16 + d1, [], false⟩ :: BuP K ba ⟨1 + d4, 16 + d1 + 64 + d2, 16 + d1 + 64 + d2⟩ :: pt fl (.lst []) :: big DuP [] [] :: _) H18
        wtm_at "g_own")
    have v4 := be_n (K := K) (N := 0) (v3.pick (P := pt c11 (.lst [.int 0])) (by wtm_at "g_pk"))
    have v5 := st_in (z := ⟨(⟨1, 16 + d1, 1 + d4, 16 + d1 + 64 + d2, 16 + d1 + 64 + d2 + d3, 1 + d5⟩ : Lo), ⟨16 + d1 + 64 + d2 + d3, 16 + d1, [], false⟩, ⟨1 + d4, 16 + d1 + 64 + d2, 16 + d1 + 64 + d2⟩, [], true, []⟩) (as := []) (bs := []) (p := p9) (t := t0) (K := K) (H := H18) (L := pt c8 (.lst [.int 0]) :: BeP K 0 .non .non c11 :: ScP K a (ns.map V.int) :: []) (Own.sel v4 (Sel.cons (by exact .next (.next (.next (.next .here)))) (Sel.cons (by exact .next .here) (Sel.cons (by wtm_at "g_pk") (Sel.cons (by wtm_at "g_pk") (Sel.cons (by wtm_at "g_pk") (Sel.cons .here (Sel.cons (by wtm_at "g_pk") Sel.nil))))))))
    exact v5
  generalize hz0 : (⟨(⟨1, 16 + d1, 1 + d4, 16 + d1 + 64 + d2, 16 + d1 + 64 + d2 + d3, 1 + d5⟩ : Lo), ⟨16 + d1 + 64 + d2 + d3, 16 + d1, [], false⟩, ⟨1 + d4, 16 + d1 + 64 + d2, 16 + d1 + 64 + d2⟩, [], true, []⟩ : Ab) = z0 at w19 hA
  have hcs0 : z0.cs.length = 0 := by rw [← hz0]; rfl
  have hj : (if 1 + (ns.length : Int) < 80 then 1 + (ns.length : Int) else 80) = ((1 + ns.length : Nat) : Int) := by rw [if_pos (by omega)]; omega
  rw [hj]
  generalize 16 + d1 + 64 + d2 + d3 = lim at *
  generalize 16 + d1 + 64 + d2 = dep at *
  generalize 16 + d1 = siz at *
  clear w18 w17 w16 w15 w14 w13 w12 w11 w10 w9 w8 w7 hO hz0
  refine loop1 (n := 1 + ns.length) (fun k σ H' => ∃ (v1 v12 : Option V) (t c11 : Addr) (v9 v10 : V) (z : Ab) (now : Int), σ = [some (.ref a), v1, some (.int siz), some (.int dep), some (.int lim), some (.ref p6), some (.ref p9), some (.ref t), some (.ref c8), some v9, some v10, some (.ref c11), v12] ∧ AOk z ∧ z.cs.length ≤ k ∧ Own (StP K p9 t z :: pt c8 (.lst [.int now]) :: BeP K k v9 v10 c11 :: ScP K a (ns.map V.int) :: []) H') rfl (by omega) ⟨_, _, t0, c11, _, _, z0, 0, rfl, hA, by omega, w19⟩ ?_ ?_
  rotate_left
  · rintro σ H' ⟨v1, v12, t, c11, v9, v10, z, now, rfl, hz, hl, w'⟩
    wtm_at "g_go"
    exact q _
  rintro k σ H' hk ⟨v1, v12, t, c11, v9, v10, z, now, rfl, hz, hl, w'⟩
  wtm_at "g_go"
  rename_i cl s H1 w1
  refine ⟨p9, t, c8, s, (k : Int), now, z, _, rfl, hz, by omega, Own.sel w1 (Sel.cons (by wtm_at "g_pk") (Sel.cons .here (Sel.cons (by wtm_at "g_pk") .rf))), fun H2 t2 now2 z2 hz2 hl2 w2 => ?_⟩
  wtm_at "g_go"
  refine c_agrees hz2 (by omega) w2 .here fun H3 w3 => ?_
  wtm_at "g_go"
  refine if_d (fun hm => ?_) (fun hm => ?_)
  · have hsm := hz2.small
    obtain ⟨as, bs, w4⟩ := st_out w3
    have wfa : WF (z2.x.mp (atR as)) := wf_mp hz2.x
    have wfb : WF (z2.x.mp (atR bs)) := wf_mp hz2.x
    have hca : cnt (z2.x.mp (atR as)).fs = cnt z2.x.fs := cnt_mp
    have hcb : cnt (z2.x.mp (atR bs)).fs = cnt z2.x.fs := cnt_mp
    have hcl : (z2.ln as).fly.length = z2.fly.length := List.length_map ..
    have hfl2 : (z2.x.mp (atR bs)).fs.length ≤ cnt (z2.x.mp (atR bs)).fs := fs_cnt fun f hf => (wfb.fs f hf).ne
    have hb1 := hz2.b.1
    have hb2 := hz2.b.2
    obtain ⟨qa, ba, fl, ts, w5⟩ := wo_out (w4.pick (.next .here))
    clear w4 w3
    wtm_at "g_go"
    refine ⟨p9, z2.ln as, _, rfl, hz2.o, wfa, hb1, hb2, by show cnt (z2.x.mp (atR as)).fs + (z2.ln as).fly.length ≤ _; omega, w5.pick (by wtm_at "g_pk"), fun H6 p7 w6 => ?_⟩
    wtm_at "g_go"
    refine c_qfork (x := z2.x.mp (atR bs)) wfb.lim wfb.q (by omega) w6 (by wtm_at "g_pk") fun H7 q7 w7 => ?_
    wtm_at "g_go"
    rename_i H8 b8 w8 l9 H9 w9 t10 H10 w10
    refine w_ixL (v := .int now2) (by wtm_at "g_sq") rfl ?_
    wtm_at "g_go"
    rename_i c12 H11 w11
    have v1 := wo_in (z := z2) (as := bs) (t := t10) (qa := q7) (ba := b8) (fl := l9) (ts := ts) (K := K) (H := H11) (L := pt c12 (.lst [.int now2]) :: LnP K p7 (z2.ln as) :: big (FrP K) as z2.cs :: big (FrP K) bs z2.cs :: QuP K qa (z2.x.mp (atR bs)) :: ro t2 (.tup [.ref qa, .ref ba, .ref fl, .bl z2.up]) :: BuP K ba z2.b :: pt fl (.lst (ts.map V.ref)) :: big DuP ts (z2.fly.map (fun r => (r.1, atR bs r.2))) :: LnP K p9 (z2.ln as) :: pt c8 (.lst [.int now2]) :: ScP K a (ns.map V.int) :: []) (by
      simp only [List.map_cons, List.map_nil] at w11
      wtm_at "g_own")
    have v2 := wo_in (z := z2) (as := bs) (t := t2) (qa := qa) (ba := ba) (fl := fl) (ts := ts) (K := K) (H := H11) (L := WoP K t10 z2 bs :: pt c12 (.lst [.int now2]) :: LnP K p7 (z2.ln as) :: big (FrP K) as z2.cs :: big (FrP K) bs z2.cs :: LnP K p9 (z2.ln as) :: pt c8 (.lst [.int now2]) :: ScP K a (ns.map V.int) :: []) (by wtm_at "g_own")
    have v3 := st_in (z := z2) (as := as) (bs := bs) (p := p7) (t := t10) (K := K) (H := H11) (L := pt c12 (.lst [.int now2]) :: WoP K t2 z2 bs :: big (FrP K) as z2.cs :: big (FrP K) bs z2.cs :: LnP K p9 (z2.ln as) :: pt c8 (.lst [.int now2]) :: ScP K a (ns.map V.int) :: []) (by wtm_at "g_own")
    have v4 := be_s (N := k + 1) hz2 (by omega) v3
    have v5 := st_in (z := z2) (as := as) (bs := bs) (p := p9) (t := t2) (K := K) (H := H11) (L := pt c8 (.lst [.int now2]) :: BeP K (k + 1) (.ref p7) (.ref t10) c12 :: ScP K a (ns.map V.int) :: []) (by wtm_at "g_own")
    exact ⟨_, _, t2, c12, _, _, z2, now2, rfl, hz2, by omega, v5⟩
  · have w3' := w3.pick (P := BeP K k v9 v10 c11) (by wtm_at "g_pk")
    rcases be_out w3' with ⟨rfl, rfl, n3, w4⟩ | ⟨p3, t3, z3, n3, rfl, rfl, hz3, hl3, w4⟩
    · clear w3 w3'
      wtm_at "g_go"
      have v1 := be_n (K := K) (N := k + 1) w4
      exact ⟨_, _, t2, c11, _, _, z2, now2, rfl, hz2, by omega, by wtm_at "g_own"⟩
    · clear w3 w3'
      wtm_at "g_go"
      refine ⟨p3, t3, c11, s, 1000 + (k : Int), n3, z3, _, rfl, hz3, by omega, Own.sel w4 (Sel.cons .here (Sel.cons (by wtm_at "g_pk") (Sel.cons (by exact .here) .rf))), fun H5 t5 now5 z5 hz5 hl5 w5 => ?_⟩
      wtm_at "g_go"
      refine c_agrees hz5 (by omega) w5 .here fun H6 w6 => ?_
      wtm_at "g_go"
      have v1 := be_s (N := k + 1) hz5 (by omega) (Own.sel w6 (Sel.cons .here (Sel.cons (.next .here) .rf)))
      exact ⟨_, _, t2, c11, _, _, z2, now2, rfl, hz2, by omega, by wtm_at "g_own"⟩
end
end K89

namespace K89
open PySem PySem.Spec PyProof.Rows L2 G
section
variable {P : Program} {w : World} {K : PySem.W.Frag} {mg : Str → Option Value} {base : Heap}

theorem len_Bucket_init {K : PySem.W.Frag} : ∀ vs H Q E, sp_Bucket_init K vs H Q E → vs.length = (P_Bucket_init : List Str).length := by
  intro vs H Q E h
  repeat first | (obtain ⟨rfl, _⟩ := h; rfl) | obtain ⟨_, h⟩ := h
theorem has_Bucket_init (T : TX K mg base) : HasI P w K mg base 1 "Bucket" P_Bucket_init (sp_Bucket_init K) :=
  mk_hasI (T.glo 18) (T.mkr 19) (T.says.def_ 0) sc_Bucket_init (fun _ _ _ _ _ _ us hl => match us, hl with | [_, _, _], _ => rfl) len_Bucket_init
    fun cdv A outer s H vs Q E hr h => ⟨t_Bucket_init K E, d_Bucket_init T  hr, pure_Bucket_init T vs H Q E h⟩

theorem len_Bucket_tick {K : PySem.W.Frag} : ∀ vs H Q E, sp_Bucket_tick K vs H Q E → vs.length = (P_Bucket_tick : List Str).length := by
  intro vs H Q E h
  repeat first | (obtain ⟨rfl, _⟩ := h; rfl) | obtain ⟨_, h⟩ := h
theorem has_Bucket_tick (T : TX K mg base) : HasM P w K mg base 1 "Bucket" "tick" P_Bucket_tick (sp_Bucket_tick K) :=
  mk_hasM (T.cls 20) (T.meth 21) (T.says.def_ 1) sc_Bucket_tick (fun _ _ _ _ _ _ us hl => match us, hl with | [_], _ => rfl) len_Bucket_tick
    fun cdv A outer s H vs Q E hr h => ⟨t_Bucket_tick K E, d_Bucket_tick T  hr, pure_Bucket_tick T vs H Q E h⟩

theorem len_Bucket_take {K : PySem.W.Frag} : ∀ vs H Q E, sp_Bucket_take K vs H Q E → vs.length = (P_Bucket_take : List Str).length := by
  intro vs H Q E h
  repeat first | (obtain ⟨rfl, _⟩ := h; rfl) | obtain ⟨_, h⟩ := h
theorem has_Bucket_take (T : TX K mg base) : HasM P w K mg base 1 "Bucket" "take" P_Bucket_take (sp_Bucket_take K) :=
  mk_hasM (T.cls 20) (T.meth 22) (T.says.def_ 2) sc_Bucket_take (fun _ _ _ _ _ _ us hl => match us, hl with | [_, _], _ => rfl) len_Bucket_take
    fun cdv A outer s H vs Q E hr h => ⟨t_Bucket_take K E, d_Bucket_take T  hr, pure_Bucket_take T vs H Q E h⟩

theorem len_Bucket_fork {K : PySem.W.Frag} : ∀ vs H Q E, sp_Bucket_fork K vs H Q E → vs.length = (P_Bucket_fork : List Str).length := by
  intro vs H Q E h
  repeat first | (obtain ⟨rfl, _⟩ := h; rfl) | obtain ⟨_, h⟩ := h
theorem has_Bucket_fork (T : TX K mg base) : HasM P w K mg base 3 "Bucket" "fork" P_Bucket_fork (sp_Bucket_fork K) :=
  mk_hasM (T.cls 20) (T.meth 23) (T.says.def_ 3) sc_Bucket_fork (fun _ _ _ _ _ _ us hl => match us, hl with | [_], _ => rfl) len_Bucket_fork
    fun cdv A outer s H vs Q E hr h => ⟨t_Bucket_fork K E, d_Bucket_fork T (has_Bucket_init T) hr, pure_Bucket_fork T vs H Q E h⟩

theorem len_Waiting_init {K : PySem.W.Frag} : ∀ vs H Q E, sp_Waiting_init K vs H Q E → vs.length = (P_Waiting_init : List Str).length := by
  intro vs H Q E h
  repeat first | (obtain ⟨rfl, _⟩ := h; rfl) | obtain ⟨_, h⟩ := h
theorem has_Waiting_init (T : TX K mg base) : HasI P w K mg base 1 "Waiting" P_Waiting_init (sp_Waiting_init K) :=
  mk_hasI (T.glo 24) (T.mkr 25) (T.says.def_ 4) sc_Waiting_init (fun _ _ _ _ _ _ us hl => match us, hl with | [_, _, _, _], _ => rfl) len_Waiting_init
    fun cdv A outer s H vs Q E hr h => ⟨t_Waiting_init K E, d_Waiting_init T  hr, pure_Waiting_init T vs H Q E h⟩

theorem len_Flow_init {K : PySem.W.Frag} : ∀ vs H Q E, sp_Flow_init K vs H Q E → vs.length = (P_Flow_init : List Str).length := by
  intro vs H Q E h
  repeat first | (obtain ⟨rfl, _⟩ := h; rfl) | obtain ⟨_, h⟩ := h
theorem has_Flow_init (T : TX K mg base) : HasI P w K mg base 1 "Flow" P_Flow_init (sp_Flow_init K) :=
  mk_hasI (T.glo 27) (T.mkr 28) (T.says.def_ 5) sc_Flow_init (fun _ _ _ _ _ _ us hl => match us, hl with | [_, _], _ => rfl) len_Flow_init
    fun cdv A outer s H vs Q E hr h => ⟨t_Flow_init K E, d_Flow_init T  hr, pure_Flow_init T vs H Q E h⟩

theorem len_Flow_add {K : PySem.W.Frag} : ∀ vs H Q E, sp_Flow_add K vs H Q E → vs.length = (P_Flow_add : List Str).length := by
  intro vs H Q E h
  repeat first | (obtain ⟨rfl, _⟩ := h; rfl) | obtain ⟨_, h⟩ := h
theorem has_Flow_add (T : TX K mg base) : HasM P w K mg base 1 "Flow" "add" P_Flow_add (sp_Flow_add K) :=
  mk_hasM (T.cls 29) (T.meth 30) (T.says.def_ 6) sc_Flow_add (fun _ _ _ _ _ _ us hl => match us, hl with | [_, _], _ => rfl) len_Flow_add
    fun cdv A outer s H vs Q E hr h => ⟨t_Flow_add K E, d_Flow_add T  hr, pure_Flow_add T vs H Q E h⟩

theorem len_Flow_take {K : PySem.W.Frag} : ∀ vs H Q E, sp_Flow_take K vs H Q E → vs.length = (P_Flow_take : List Str).length := by
  intro vs H Q E h
  repeat first | (obtain ⟨rfl, _⟩ := h; rfl) | obtain ⟨_, h⟩ := h
theorem has_Flow_take (T : TX K mg base) : HasM P w K mg base 1 "Flow" "take" P_Flow_take (sp_Flow_take K) :=
  mk_hasM (T.cls 29) (T.meth 31) (T.says.def_ 7) sc_Flow_take (fun _ _ _ _ _ _ us hl => match us, hl with | [_, _], _ => rfl) len_Flow_take
    fun cdv A outer s H vs Q E hr h => ⟨t_Flow_take K E, d_Flow_take T  hr, pure_Flow_take T vs H Q E h⟩

theorem len_Flow_fork {K : PySem.W.Frag} : ∀ vs H Q E, sp_Flow_fork K vs H Q E → vs.length = (P_Flow_fork : List Str).length := by
  intro vs H Q E h
  repeat first | (obtain ⟨rfl, _⟩ := h; rfl) | obtain ⟨_, h⟩ := h
theorem has_Flow_fork (T : TX K mg base) : HasM P w K mg base 3 "Flow" "fork" P_Flow_fork (sp_Flow_fork K) :=
  mk_hasM (T.cls 29) (T.meth 32) (T.says.def_ 8) sc_Flow_fork (fun _ _ _ _ _ _ us hl => match us, hl with | [_], _ => rfl) len_Flow_fork
    fun cdv A outer s H vs Q E hr h => ⟨t_Flow_fork K E, d_Flow_fork T (has_Flow_init T) hr, pure_Flow_fork T vs H Q E h⟩

theorem len_FairQueue_init {K : PySem.W.Frag} : ∀ vs H Q E, sp_FairQueue_init K vs H Q E → vs.length = (P_FairQueue_init : List Str).length := by
  intro vs H Q E h
  repeat first | (obtain ⟨rfl, _⟩ := h; rfl) | obtain ⟨_, h⟩ := h
theorem has_FairQueue_init (T : TX K mg base) : HasI P w K mg base 1 "FairQueue" P_FairQueue_init (sp_FairQueue_init K) :=
  mk_hasI (T.glo 33) (T.mkr 34) (T.says.def_ 9) sc_FairQueue_init (fun _ _ _ _ _ _ us hl => match us, hl with | [_, _, _], _ => rfl) len_FairQueue_init
    fun cdv A outer s H vs Q E hr h => ⟨t_FairQueue_init K E, d_FairQueue_init T  hr, pure_FairQueue_init T vs H Q E h⟩

theorem len_FairQueue_count {K : PySem.W.Frag} : ∀ vs H Q E, sp_FairQueue_count K vs H Q E → vs.length = (P_FairQueue_count : List Str).length := by
  intro vs H Q E h
  repeat first | (obtain ⟨rfl, _⟩ := h; rfl) | obtain ⟨_, h⟩ := h
theorem has_FairQueue_count (T : TX K mg base) : HasM P w K mg base 1 "FairQueue" "count" P_FairQueue_count (sp_FairQueue_count K) :=
  mk_hasM (T.cls 35) (T.meth 36) (T.says.def_ 10) sc_FairQueue_count (fun _ _ _ _ _ _ us hl => match us, hl with | [_], _ => rfl) len_FairQueue_count
    fun cdv A outer s H vs Q E hr h => ⟨t_FairQueue_count K E, d_FairQueue_count T  hr, pure_FairQueue_count T vs H Q E h⟩

theorem len_FairQueue_octets {K : PySem.W.Frag} : ∀ vs H Q E, sp_FairQueue_octets K vs H Q E → vs.length = (P_FairQueue_octets : List Str).length := by
  intro vs H Q E h
  repeat first | (obtain ⟨rfl, _⟩ := h; rfl) | obtain ⟨_, h⟩ := h
theorem has_FairQueue_octets (T : TX K mg base) : HasM P w K mg base 1 "FairQueue" "octets" P_FairQueue_octets (sp_FairQueue_octets K) :=
  mk_hasM (T.cls 35) (T.meth 37) (T.says.def_ 11) sc_FairQueue_octets (fun _ _ _ _ _ _ us hl => match us, hl with | [_], _ => rfl) len_FairQueue_octets
    fun cdv A outer s H vs Q E hr h => ⟨t_FairQueue_octets K E, d_FairQueue_octets T  hr, pure_FairQueue_octets T vs H Q E h⟩

theorem len_FairQueue_flow_of {K : PySem.W.Frag} : ∀ vs H Q E, sp_FairQueue_flow_of K vs H Q E → vs.length = (P_FairQueue_flow_of : List Str).length := by
  intro vs H Q E h
  repeat first | (obtain ⟨rfl, _⟩ := h; rfl) | obtain ⟨_, h⟩ := h
theorem has_FairQueue_flow_of (T : TX K mg base) : HasM P w K mg base 1 "FairQueue" "flow_of" P_FairQueue_flow_of (sp_FairQueue_flow_of K) :=
  mk_hasM (T.cls 35) (T.meth 38) (T.says.def_ 12) sc_FairQueue_flow_of (fun _ _ _ _ _ _ us hl => match us, hl with | [_, _], _ => rfl) len_FairQueue_flow_of
    fun cdv A outer s H vs Q E hr h => ⟨t_FairQueue_flow_of K E, d_FairQueue_flow_of T  hr, pure_FairQueue_flow_of T vs H Q E h⟩

theorem len_FairQueue_remove_flow {K : PySem.W.Frag} : ∀ vs H Q E, sp_FairQueue_remove_flow K vs H Q E → vs.length = (P_FairQueue_remove_flow : List Str).length := by
  intro vs H Q E h
  repeat first | (obtain ⟨rfl, _⟩ := h; rfl) | obtain ⟨_, h⟩ := h
theorem has_FairQueue_remove_flow (T : TX K mg base) : HasM P w K mg base 1 "FairQueue" "remove_flow" P_FairQueue_remove_flow (sp_FairQueue_remove_flow K) :=
  mk_hasM (T.cls 35) (T.meth 39) (T.says.def_ 13) sc_FairQueue_remove_flow (fun _ _ _ _ _ _ us hl => match us, hl with | [_, _], _ => rfl) len_FairQueue_remove_flow
    fun cdv A outer s H vs Q E hr h => ⟨t_FairQueue_remove_flow K E, d_FairQueue_remove_flow T  hr, pure_FairQueue_remove_flow T vs H Q E h⟩

theorem len_FairQueue_drop {K : PySem.W.Frag} : ∀ vs H Q E, sp_FairQueue_drop K vs H Q E → vs.length = (P_FairQueue_drop : List Str).length := by
  intro vs H Q E h
  repeat first | (obtain ⟨rfl, _⟩ := h; rfl) | obtain ⟨_, h⟩ := h
theorem has_FairQueue_drop (T : TX K mg base) : HasM P w K mg base 2 "FairQueue" "drop" P_FairQueue_drop (sp_FairQueue_drop K) :=
  mk_hasM (T.cls 35) (T.meth 41) (T.says.def_ 15) sc_FairQueue_drop (fun _ _ _ _ _ _ us hl => match us, hl with | [_], _ => rfl) len_FairQueue_drop
    fun cdv A outer s H vs Q E hr h => ⟨t_FairQueue_drop K E, d_FairQueue_drop T (has_Flow_take T) (has_FairQueue_remove_flow T) hr, pure_FairQueue_drop T vs H Q E h⟩

theorem len_FairQueue_put {K : PySem.W.Frag} : ∀ vs H Q E, sp_FairQueue_put K vs H Q E → vs.length = (P_FairQueue_put : List Str).length := by
  intro vs H Q E h
  repeat first | (obtain ⟨rfl, _⟩ := h; rfl) | obtain ⟨_, h⟩ := h
theorem has_FairQueue_put (T : TX K mg base) : HasM P w K mg base 3 "FairQueue" "put" P_FairQueue_put (sp_FairQueue_put K) :=
  mk_hasM (T.cls 35) (T.meth 40) (T.says.def_ 14) sc_FairQueue_put (fun _ _ _ _ _ _ us hl => match us, hl with | [_, _, _, _], _ => rfl) len_FairQueue_put
    fun cdv A outer s H vs Q E hr h => ⟨t_FairQueue_put K E, d_FairQueue_put T (has_Waiting_init T) (has_FairQueue_flow_of T) (has_Flow_init T) (has_Flow_add T) (has_FairQueue_octets T) (has_FairQueue_drop T) hr, pure_FairQueue_put T vs H Q E h⟩

theorem len_FairQueue_turn {K : PySem.W.Frag} : ∀ vs H Q E, sp_FairQueue_turn K vs H Q E → vs.length = (P_FairQueue_turn : List Str).length := by
  intro vs H Q E h
  repeat first | (obtain ⟨rfl, _⟩ := h; rfl) | obtain ⟨_, h⟩ := h
theorem has_FairQueue_turn (T : TX K mg base) : HasM P w K mg base 1 "FairQueue" "turn" P_FairQueue_turn (sp_FairQueue_turn K) :=
  mk_hasM (T.cls 35) (T.meth 42) (T.says.def_ 16) sc_FairQueue_turn (fun _ _ _ _ _ _ us hl => match us, hl with | [_], _ => rfl) len_FairQueue_turn
    fun cdv A outer s H vs Q E hr h => ⟨t_FairQueue_turn K E, d_FairQueue_turn T  hr, pure_FairQueue_turn T vs H Q E h⟩

theorem len_FairQueue_next_up {K : PySem.W.Frag} : ∀ vs H Q E, sp_FairQueue_next_up K vs H Q E → vs.length = (P_FairQueue_next_up : List Str).length := by
  intro vs H Q E h
  repeat first | (obtain ⟨rfl, _⟩ := h; rfl) | obtain ⟨_, h⟩ := h
theorem has_FairQueue_next_up (T : TX K mg base) : HasM P w K mg base 2 "FairQueue" "next_up" P_FairQueue_next_up (sp_FairQueue_next_up K) :=
  mk_hasM (T.cls 35) (T.meth 43) (T.says.def_ 17) sc_FairQueue_next_up (fun _ _ _ _ _ _ us hl => match us, hl with | [_], _ => rfl) len_FairQueue_next_up
    fun cdv A outer s H vs Q E hr h => ⟨t_FairQueue_next_up K E, d_FairQueue_next_up T (has_FairQueue_turn T) hr, pure_FairQueue_next_up T vs H Q E h⟩

theorem len_FairQueue_take {K : PySem.W.Frag} : ∀ vs H Q E, sp_FairQueue_take K vs H Q E → vs.length = (P_FairQueue_take : List Str).length := by
  intro vs H Q E h
  repeat first | (obtain ⟨rfl, _⟩ := h; rfl) | obtain ⟨_, h⟩ := h
theorem has_FairQueue_take (T : TX K mg base) : HasM P w K mg base 3 "FairQueue" "take" P_FairQueue_take (sp_FairQueue_take K) :=
  mk_hasM (T.cls 35) (T.meth 44) (T.says.def_ 18) sc_FairQueue_take (fun _ _ _ _ _ _ us hl => match us, hl with | [_], _ => rfl) len_FairQueue_take
    fun cdv A outer s H vs Q E hr h => ⟨t_FairQueue_take K E, d_FairQueue_take T (has_FairQueue_next_up T) (has_Flow_take T) (has_FairQueue_remove_flow T) hr, pure_FairQueue_take T vs H Q E h⟩

theorem len_FairQueue_take_all {K : PySem.W.Frag} : ∀ vs H Q E, sp_FairQueue_take_all K vs H Q E → vs.length = (P_FairQueue_take_all : List Str).length := by
  intro vs H Q E h
  repeat first | (obtain ⟨rfl, _⟩ := h; rfl) | obtain ⟨_, h⟩ := h
theorem has_FairQueue_take_all (T : TX K mg base) : HasM P w K mg base 1 "FairQueue" "take_all" P_FairQueue_take_all (sp_FairQueue_take_all K) :=
  mk_hasM (T.cls 35) (T.meth 45) (T.says.def_ 19) sc_FairQueue_take_all (fun _ _ _ _ _ _ us hl => match us, hl with | [_], _ => rfl) len_FairQueue_take_all
    fun cdv A outer s H vs Q E hr h => ⟨t_FairQueue_take_all K E, d_FairQueue_take_all T  hr, pure_FairQueue_take_all T vs H Q E h⟩

theorem len_FairQueue_fork {K : PySem.W.Frag} : ∀ vs H Q E, sp_FairQueue_fork K vs H Q E → vs.length = (P_FairQueue_fork : List Str).length := by
  intro vs H Q E h
  repeat first | (obtain ⟨rfl, _⟩ := h; rfl) | obtain ⟨_, h⟩ := h
theorem has_FairQueue_fork (T : TX K mg base) : HasM P w K mg base 4 "FairQueue" "fork" P_FairQueue_fork (sp_FairQueue_fork K) :=
  mk_hasM (T.cls 35) (T.meth 46) (T.says.def_ 20) sc_FairQueue_fork (fun _ _ _ _ _ _ us hl => match us, hl with | [_], _ => rfl) len_FairQueue_fork
    fun cdv A outer s H vs Q E hr h => ⟨t_FairQueue_fork K E, d_FairQueue_fork T (has_FairQueue_init T) (has_Flow_fork T) hr, pure_FairQueue_fork T vs H Q E h⟩

theorem len_LinkOptions_init {K : PySem.W.Frag} : ∀ vs H Q E, sp_LinkOptions_init K vs H Q E → vs.length = (P_LinkOptions_init : List Str).length := by
  intro vs H Q E h
  repeat first | (obtain ⟨rfl, _⟩ := h; rfl) | obtain ⟨_, h⟩ := h
theorem fn_LinkOptions_init (T : TX K mg base) : ∃ fd, FunD K "__init__" "LinkOptions.__init__" (defArgs s_LinkOptions_init) (defBody s_LinkOptions_init) (defScope s_LinkOptions_init) (He.DefD.dvs K D_LinkOptions_init) (He.DefD.kws K D_LinkOptions_init) (He.ma K (He.ga K "LinkOptions") "__init__") fd ∧ FnOk P w K mg base (L2.CX P w) 1 (He.ma K (He.ga K "LinkOptions") "__init__") fd P_LinkOptions_init (sp_LinkOptions_init K) :=
  mk_fn (T.says.def_ 21) sc_LinkOptions_init len_LinkOptions_init fun cdv A outer s H vs Q E hr h => ⟨t_LinkOptions_init K E, d_LinkOptions_init T  hr, pure_LinkOptions_init T vs H Q E h⟩

theorem len_Line_init {K : PySem.W.Frag} : ∀ vs H Q E, sp_Line_init K vs H Q E → vs.length = (P_Line_init : List Str).length := by
  intro vs H Q E h
  repeat first | (obtain ⟨rfl, _⟩ := h; rfl) | obtain ⟨_, h⟩ := h
theorem has_Line_init (T : TX K mg base) : HasI P w K mg base 3 "Line" P_Line_init (sp_Line_init K) :=
  mk_hasI (T.glo 50) (T.mkr 51) (T.says.def_ 22) sc_Line_init (fun _ _ _ _ _ _ us hl => match us, hl with | [_, _], _ => rfl) len_Line_init
    fun cdv A outer s H vs Q E hr h => ⟨t_Line_init K E, d_Line_init T (has_FairQueue_init T) (has_Bucket_init T) hr, pure_Line_init T vs H Q E h⟩

theorem len_Line_count {K : PySem.W.Frag} : ∀ vs H Q E, sp_Line_count K vs H Q E → vs.length = (P_Line_count : List Str).length := by
  intro vs H Q E h
  repeat first | (obtain ⟨rfl, _⟩ := h; rfl) | obtain ⟨_, h⟩ := h
theorem has_Line_count (T : TX K mg base) : HasM P w K mg base 2 "Line" "count" P_Line_count (sp_Line_count K) :=
  mk_hasM (T.cls 52) (T.meth 53) (T.says.def_ 23) sc_Line_count (fun _ _ _ _ _ _ us hl => match us, hl with | [_], _ => rfl) len_Line_count
    fun cdv A outer s H vs Q E hr h => ⟨t_Line_count K E, d_Line_count T (has_FairQueue_count T) hr, pure_Line_count T vs H Q E h⟩

theorem len_Frame_init {K : PySem.W.Frag} : ∀ vs H Q E, sp_Frame_init K vs H Q E → vs.length = (P_Frame_init : List Str).length := by
  intro vs H Q E h
  repeat first | (obtain ⟨rfl, _⟩ := h; rfl) | obtain ⟨_, h⟩ := h
theorem fn_Frame_init (T : TX K mg base) : ∃ fd, FunD K "__init__" "Frame.__init__" (defArgs s_Frame_init) (defBody s_Frame_init) (defScope s_Frame_init) (He.DefD.dvs K D_Frame_init) (He.DefD.kws K D_Frame_init) (He.ma K (He.ga K "Frame") "__init__") fd ∧ FnOk P w K mg base (L2.CX P w) 1 (He.ma K (He.ga K "Frame") "__init__") fd P_Frame_init (sp_Frame_init K) :=
  mk_fn (T.says.def_ 29) sc_Frame_init len_Frame_init fun cdv A outer s H vs Q E hr h => ⟨t_Frame_init K E, d_Frame_init T  hr, pure_Frame_init T vs H Q E h⟩

theorem has_Frame_init_k0 (T : TX K mg base) : HasK P w K mg base 1 "Frame" 4 ["birth", "hops", "marked"] P_Frame_init gv_Frame_init_k0 (sp_Frame_init K) := by
  obtain ⟨fd, F, ok⟩ := fn_Frame_init (P := P) (w := w) T
  exact ⟨T.glo 14, T.mkr 59, fd, _, ok, kbn_all F 5 ["birth", "hops", "marked"] (fun us ws => us ++ ws) (fun r1 r2 => r1.append r2) (fun _ _ _ _ _ _ us ws l1 l2 => match us, ws, l1, l2 with | [_, _, _, _, _], [_, _, _], _, _ => rfl)⟩

theorem len_Frame_with_mark {K : PySem.W.Frag} : ∀ vs H Q E, sp_Frame_with_mark K vs H Q E → vs.length = (P_Frame_with_mark : List Str).length := by
  intro vs H Q E h
  repeat first | (obtain ⟨rfl, _⟩ := h; rfl) | obtain ⟨_, h⟩ := h
theorem has_Frame_with_mark (T : TX K mg base) : HasM P w K mg base 3 "Frame" "with_mark" P_Frame_with_mark (sp_Frame_with_mark K) :=
  mk_hasM (T.cls 60) (T.meth 65) (T.says.def_ 34) sc_Frame_with_mark (fun _ _ _ _ _ _ us hl => match us, hl with | [_], _ => rfl) len_Frame_with_mark
    fun cdv A outer s H vs Q E hr h => ⟨t_Frame_with_mark K E, d_Frame_with_mark T (has_Frame_init_k0 T) hr, pure_Frame_with_mark T vs H Q E h⟩

theorem len_Frame_weight {K : PySem.W.Frag} : ∀ vs H Q E, sp_Frame_weight K vs H Q E → vs.length = (P_Frame_weight : List Str).length := by
  intro vs H Q E h
  repeat first | (obtain ⟨rfl, _⟩ := h; rfl) | obtain ⟨_, h⟩ := h
theorem has_Frame_weight (T : TX K mg base) : HasM P w K mg base 1 "Frame" "weight" P_Frame_weight (sp_Frame_weight K) :=
  mk_hasM (T.cls 60) (T.meth 63) (T.says.def_ 32) sc_Frame_weight (fun _ _ _ _ _ _ us hl => match us, hl with | [_], _ => rfl) len_Frame_weight
    fun cdv A outer s H vs Q E hr h => ⟨t_Frame_weight K E, d_Frame_weight T  hr, pure_Frame_weight T vs H Q E h⟩

theorem len_Frame_flow_key {K : PySem.W.Frag} : ∀ vs H Q E, sp_Frame_flow_key K vs H Q E → vs.length = (P_Frame_flow_key : List Str).length := by
  intro vs H Q E h
  repeat first | (obtain ⟨rfl, _⟩ := h; rfl) | obtain ⟨_, h⟩ := h
theorem has_Frame_flow_key (T : TX K mg base) : HasM P w K mg base 1 "Frame" "flow_key" P_Frame_flow_key (sp_Frame_flow_key K) :=
  mk_hasM (T.cls 60) (T.meth 64) (T.says.def_ 33) sc_Frame_flow_key (fun _ _ _ _ _ _ us hl => match us, hl with | [_], _ => rfl) len_Frame_flow_key
    fun cdv A outer s H vs Q E hr h => ⟨t_Frame_flow_key K E, d_Frame_flow_key T  hr, pure_Frame_flow_key T vs H Q E h⟩

theorem len_Line_put {K : PySem.W.Frag} : ∀ vs H Q E, sp_Line_put K vs H Q E → vs.length = (P_Line_put : List Str).length := by
  intro vs H Q E h
  repeat first | (obtain ⟨rfl, _⟩ := h; rfl) | obtain ⟨_, h⟩ := h
theorem has_Line_put (T : TX K mg base) : HasM P w K mg base 4 "Line" "put" P_Line_put (sp_Line_put K) :=
  mk_hasM (T.cls 52) (T.meth 54) (T.says.def_ 24) sc_Line_put (fun _ _ _ _ _ _ us hl => match us, hl with | [_, _], _ => rfl) len_Line_put
    fun cdv A outer s H vs Q E hr h => ⟨t_Line_put K E, d_Line_put T (has_FairQueue_octets T) (has_Frame_with_mark T) (has_FairQueue_put T) (has_Frame_weight T) (has_Frame_flow_key T) hr, pure_Line_put T vs H Q E h⟩

theorem len_Line_tick {K : PySem.W.Frag} : ∀ vs H Q E, sp_Line_tick K vs H Q E → vs.length = (P_Line_tick : List Str).length := by
  intro vs H Q E h
  repeat first | (obtain ⟨rfl, _⟩ := h; rfl) | obtain ⟨_, h⟩ := h
theorem has_Line_tick (T : TX K mg base) : HasM P w K mg base 4 "Line" "tick" P_Line_tick (sp_Line_tick K) :=
  mk_hasM (T.cls 52) (T.meth 55) (T.says.def_ 25) sc_Line_tick (fun _ _ _ _ _ _ us hl => match us, hl with | [_, _], _ => rfl) len_Line_tick
    fun cdv A outer s H vs Q E hr h => ⟨t_Line_tick K E, d_Line_tick T (has_Bucket_tick T) (has_FairQueue_next_up T) (has_Bucket_take T) (has_FairQueue_take T) hr, pure_Line_tick T vs H Q E h⟩

theorem len_Line_cut {K : PySem.W.Frag} : ∀ vs H Q E, sp_Line_cut K vs H Q E → vs.length = (P_Line_cut : List Str).length := by
  intro vs H Q E h
  repeat first | (obtain ⟨rfl, _⟩ := h; rfl) | obtain ⟨_, h⟩ := h
theorem has_Line_cut (T : TX K mg base) : HasM P w K mg base 2 "Line" "cut" P_Line_cut (sp_Line_cut K) :=
  mk_hasM (T.cls 52) (T.meth 56) (T.says.def_ 26) sc_Line_cut (fun _ _ _ _ _ _ us hl => match us, hl with | [_], _ => rfl) len_Line_cut
    fun cdv A outer s H vs Q E hr h => ⟨t_Line_cut K E, d_Line_cut T (has_FairQueue_take_all T) hr, pure_Line_cut T vs H Q E h⟩

theorem len_Line_join {K : PySem.W.Frag} : ∀ vs H Q E, sp_Line_join K vs H Q E → vs.length = (P_Line_join : List Str).length := by
  intro vs H Q E h
  repeat first | (obtain ⟨rfl, _⟩ := h; rfl) | obtain ⟨_, h⟩ := h
theorem has_Line_join (T : TX K mg base) : HasM P w K mg base 1 "Line" "join" P_Line_join (sp_Line_join K) :=
  mk_hasM (T.cls 52) (T.meth 57) (T.says.def_ 27) sc_Line_join (fun _ _ _ _ _ _ us hl => match us, hl with | [_], _ => rfl) len_Line_join
    fun cdv A outer s H vs Q E hr h => ⟨t_Line_join K E, d_Line_join T  hr, pure_Line_join T vs H Q E h⟩

theorem len_Line_fork {K : PySem.W.Frag} : ∀ vs H Q E, sp_Line_fork K vs H Q E → vs.length = (P_Line_fork : List Str).length := by
  intro vs H Q E h
  repeat first | (obtain ⟨rfl, _⟩ := h; rfl) | obtain ⟨_, h⟩ := h
theorem has_Line_fork (T : TX K mg base) : HasM P w K mg base 5 "Line" "fork" P_Line_fork (sp_Line_fork K) :=
  mk_hasM (T.cls 52) (T.meth 58) (T.says.def_ 28) sc_Line_fork (fun _ _ _ _ _ _ us hl => match us, hl with | [_], _ => rfl) len_Line_fork
    fun cdv A outer s H vs Q E hr h => ⟨t_Line_fork K E, d_Line_fork T (has_Line_init T) (has_FairQueue_fork T) (has_Bucket_fork T) hr, pure_Line_fork T vs H Q E h⟩

theorem len_Frame__eq {K : PySem.W.Frag} : ∀ vs H Q E, sp_Frame__eq K vs H Q E → vs.length = (P_Frame__eq : List Str).length := by
  intro vs H Q E h
  repeat first | (obtain ⟨rfl, _⟩ := h; rfl) | obtain ⟨_, h⟩ := h
theorem has_Frame__eq (T : TX K mg base) : HasM P w K mg base 1 "Frame" "__eq__" P_Frame__eq (sp_Frame__eq K) :=
  mk_hasM (T.cls 60) (T.meth 61) (T.says.def_ 30) sc_Frame__eq (fun _ _ _ _ _ _ us hl => match us, hl with | [_, _], _ => rfl) len_Frame__eq
    fun cdv A outer s H vs Q E hr h => ⟨t_Frame__eq K E, d_Frame__eq T  hr, pure_Frame__eq T vs H Q E h⟩

theorem len_Frame_as_row {K : PySem.W.Frag} : ∀ vs H Q E, sp_Frame_as_row K vs H Q E → vs.length = (P_Frame_as_row : List Str).length := by
  intro vs H Q E h
  repeat first | (obtain ⟨rfl, _⟩ := h; rfl) | obtain ⟨_, h⟩ := h
theorem has_Frame_as_row (T : TX K mg base) : HasM P w K mg base 1 "Frame" "as_row" P_Frame_as_row (sp_Frame_as_row K) :=
  mk_hasM (T.cls 60) (T.meth 62) (T.says.def_ 31) sc_Frame_as_row (fun _ _ _ _ _ _ us hl => match us, hl with | [_], _ => rfl) len_Frame_as_row
    fun cdv A outer s H vs Q E hr h => ⟨t_Frame_as_row K E, d_Frame_as_row T  hr, pure_Frame_as_row T vs H Q E h⟩

theorem len_Frame_after_hop {K : PySem.W.Frag} : ∀ vs H Q E, sp_Frame_after_hop K vs H Q E → vs.length = (P_Frame_after_hop : List Str).length := by
  intro vs H Q E h
  repeat first | (obtain ⟨rfl, _⟩ := h; rfl) | obtain ⟨_, h⟩ := h
theorem has_Frame_after_hop (T : TX K mg base) : HasM P w K mg base 3 "Frame" "after_hop" P_Frame_after_hop (sp_Frame_after_hop K) :=
  mk_hasM (T.cls 60) (T.meth 66) (T.says.def_ 35) sc_Frame_after_hop (fun _ _ _ _ _ _ us hl => match us, hl with | [_, _], _ => rfl) len_Frame_after_hop
    fun cdv A outer s H vs Q E hr h => ⟨t_Frame_after_hop K E, d_Frame_after_hop T (has_Frame_init_k0 T) hr, pure_Frame_after_hop T vs H Q E h⟩

theorem len_law_cell {K : PySem.W.Frag} : ∀ vs H Q E, sp_law_cell K vs H Q E → vs.length = (P_law_cell : List Str).length := by
  intro vs H Q E h
  repeat first | (obtain ⟨rfl, _⟩ := h; rfl) | obtain ⟨_, h⟩ := h
theorem has_law_cell (T : TX K mg base) : Has P w K mg base 1 "_law_cell" P_law_cell (sp_law_cell K) :=
  mk_has (T.glo 67) (T.says.def_ 36) sc_law_cell (fun _ _ _ _ _ _ us hl => match us, hl with | [_, _], _ => rfl) len_law_cell
    fun cdv A outer s H vs Q E hr h => ⟨t_law_cell K E, d_law_cell T  hr, pure_law_cell T vs H Q E h⟩

theorem len_law_start {K : PySem.W.Frag} : ∀ vs H Q E, sp_law_start K vs H Q E → vs.length = (P_law_start : List Str).length := by
  intro vs H Q E h
  repeat first | (obtain ⟨rfl, _⟩ := h; rfl) | obtain ⟨_, h⟩ := h
theorem has_law_start (T : TX K mg base) : Has P w K mg base 1 "_law_start" P_law_start (sp_law_start K) :=
  mk_has (T.glo 68) (T.says.def_ 37) sc_law_start (fun _ _ _ _ _ _ us hl => match us, hl with | [_, _], _ => rfl) len_law_start
    fun cdv A outer s H vs Q E hr h => ⟨t_law_start K E, d_law_start T  hr, pure_law_start T vs H Q E h⟩

theorem len_law_digit {K : PySem.W.Frag} : ∀ vs H Q E, sp_law_digit K vs H Q E → vs.length = (P_law_digit : List Str).length := by
  intro vs H Q E h
  repeat first | (obtain ⟨rfl, _⟩ := h; rfl) | obtain ⟨_, h⟩ := h
theorem has_law_digit (T : TX K mg base) : Has P w K mg base 1 "_law_digit" P_law_digit (sp_law_digit K) :=
  mk_has (T.glo 69) (T.says.def_ 38) sc_law_digit (fun _ _ _ _ _ _ us hl => match us, hl with | [_, _], _ => rfl) len_law_digit
    fun cdv A outer s H vs Q E hr h => ⟨t_law_digit K E, d_law_digit T  hr, pure_law_digit T vs H Q E h⟩

theorem has_Frame_init_k1 (T : TX K mg base) : HasK P w K mg base 1 "Frame" 4 ["birth", "hops"] P_Frame_init gv_Frame_init_k1 (sp_Frame_init K) := by
  obtain ⟨fd, F, ok⟩ := fn_Frame_init (P := P) (w := w) T
  obtain ⟨mv, kb⟩ := F.kbinds0 (ps := P_Frame_init) 5 ["birth", "hops"] [("marked", .bl false)] (fun us mv ws => us ++ (ws ++ mv)) (by simp [He.DefD.kws]) (by simp [He.DefD.kws, He.Dv.v]) (fun r1 r2 r3 => r1.append (r3.append r2)) (fun D doc pm an cdv ct us mv ws l1 l2 l3 => match us, mv, ws, l1, l2, l3 with | [_, _, _, _, _], [_], [_, _], _, _, _ => ⟨_, _, _, _, _, _, rfl, rfl, rfl⟩)
  exact ⟨T.glo 14, T.mkr 59, fd, _, ok, kb⟩

theorem len_law_frame {K : PySem.W.Frag} : ∀ vs H Q E, sp_law_frame K vs H Q E → vs.length = (P_law_frame : List Str).length := by
  intro vs H Q E h
  repeat first | (obtain ⟨rfl, _⟩ := h; rfl) | obtain ⟨_, h⟩ := h
theorem has_law_frame (T : TX K mg base) : Has P w K mg base 3 "_law_frame" P_law_frame (sp_law_frame K) :=
  mk_has (T.glo 70) (T.says.def_ 39) sc_law_frame (fun _ _ _ _ _ _ us hl => match us, hl with | [_, _, _], _ => rfl) len_law_frame
    fun cdv A outer s H vs Q E hr h => ⟨t_law_frame K E, d_law_frame T (has_law_digit T) (has_Frame_init_k1 T) hr, pure_law_frame T vs H Q E h⟩

theorem len_law_values {K : PySem.W.Frag} : ∀ vs H Q E, sp_law_values K vs H Q E → vs.length = (P_law_values : List Str).length := by
  intro vs H Q E h
  repeat first | (obtain ⟨rfl, _⟩ := h; rfl) | obtain ⟨_, h⟩ := h
theorem has_law_values (T : TX K mg base) : Has P w K mg base 1 "_law_values" P_law_values (sp_law_values K) :=
  mk_has (T.glo 71) (T.says.def_ 40) sc_law_values (fun _ _ _ _ _ _ us hl => match us, hl with | [_], _ => rfl) len_law_values
    fun cdv A outer s H vs Q E hr h => ⟨t_law_values K E, d_law_values T  hr, pure_law_values T vs H Q E h⟩

theorem len_law_row {K : PySem.W.Frag} : ∀ vs H Q E, sp_law_row K vs H Q E → vs.length = (P_law_row : List Str).length := by
  intro vs H Q E h
  repeat first | (obtain ⟨rfl, _⟩ := h; rfl) | obtain ⟨_, h⟩ := h
theorem has_law_row (T : TX K mg base) : Has P w K mg base 2 "_law_row" P_law_row (sp_law_row K) :=
  mk_has (T.glo 72) (T.says.def_ 41) sc_law_row (fun _ _ _ _ _ _ us hl => match us, hl with | [_], _ => rfl) len_law_row
    fun cdv A outer s H vs Q E hr h => ⟨t_law_row K E, d_law_row T (has_law_values T) hr, pure_law_row T vs H Q E h⟩

theorem len_law_frames_are_so {K : PySem.W.Frag} : ∀ vs H Q E, sp_law_frames_are_so K vs H Q E → vs.length = (P_law_frames_are_so : List Str).length := by
  intro vs H Q E h
  repeat first | (obtain ⟨rfl, _⟩ := h; rfl) | obtain ⟨_, h⟩ := h
theorem has_law_frames_are_so (T : TX K mg base) : Has P w K mg base 4 "_law_frames_are_so" P_law_frames_are_so (sp_law_frames_are_so K) :=
  mk_has (T.glo 73) (T.says.def_ 42) sc_law_frames_are_so (fun _ _ _ _ _ _ us hl => match us, hl with | [_, _], _ => rfl) len_law_frames_are_so
    fun cdv A outer s H vs Q E hr h => ⟨t_law_frames_are_so K E, d_law_frames_are_so T (has_law_values T) (has_Frame_as_row T) (has_Frame_weight T) (has_Frame_flow_key T) (has_Frame_with_mark T) (has_Frame_after_hop T) (has_Frame__eq T) hr, pure_law_frames_are_so T vs H Q E h⟩

theorem len_law_put {K : PySem.W.Frag} : ∀ vs H Q E, sp_law_put K vs H Q E → vs.length = (P_law_put : List Str).length := by
  intro vs H Q E h
  repeat first | (obtain ⟨rfl, _⟩ := h; rfl) | obtain ⟨_, h⟩ := h
theorem has_law_put (T : TX K mg base) : Has P w K mg base 5 "_law_put" P_law_put (sp_law_put K) :=
  mk_has (T.glo 74) (T.says.def_ 43) sc_law_put (fun _ _ _ _ _ _ us hl => match us, hl with | [_, _, _], _ => rfl) len_law_put
    fun cdv A outer s H vs Q E hr h => ⟨t_law_put K E, d_law_put T (has_law_values T) (has_FairQueue_octets T) (has_Frame_with_mark T) (has_law_row T) (has_FairQueue_put T) (has_Frame_weight T) (has_Frame_flow_key T) (has_Line_put T) hr, pure_law_put T vs H Q E h⟩

theorem len_law_tick {K : PySem.W.Frag} : ∀ vs H Q E, sp_law_tick K vs H Q E → vs.length = (P_law_tick : List Str).length := by
  intro vs H Q E h
  repeat first | (obtain ⟨rfl, _⟩ := h; rfl) | obtain ⟨_, h⟩ := h
theorem has_law_tick (T : TX K mg base) : Has P w K mg base 5 "_law_tick" P_law_tick (sp_law_tick K) :=
  mk_has (T.glo 75) (T.says.def_ 44) sc_law_tick (fun _ _ _ _ _ _ us hl => match us, hl with | [_, _, _], _ => rfl) len_law_tick
    fun cdv A outer s H vs Q E hr h => ⟨t_law_tick K E, d_law_tick T (has_Bucket_tick T) (has_FairQueue_next_up T) (has_Bucket_take T) (has_FairQueue_take T) (has_law_row T) (has_Line_tick T) hr, pure_law_tick T vs H Q E h⟩

theorem len_law_deed {K : PySem.W.Frag} : ∀ vs H Q E, sp_law_deed K vs H Q E → vs.length = (P_law_deed : List Str).length := by
  intro vs H Q E h
  repeat first | (obtain ⟨rfl, _⟩ := h; rfl) | obtain ⟨_, h⟩ := h
theorem has_law_deed (T : TX K mg base) : Has P w K mg base 6 "_law_deed" P_law_deed (sp_law_deed K) :=
  mk_has (T.glo 76) (T.says.def_ 45) sc_law_deed (fun _ _ _ _ _ _ us hl => match us, hl with | [_, _, _, _, _], _ => rfl) len_law_deed
    fun cdv A outer s H vs Q E hr h => ⟨t_law_deed K E, d_law_deed T (has_law_digit T) (has_law_frame T) (has_law_frames_are_so T) (has_law_put T) (has_law_tick T) (has_FairQueue_take_all T) (has_law_row T) (has_Line_cut T) (has_Line_join T) hr, pure_law_deed T vs H Q E h⟩

theorem len_law_agrees {K : PySem.W.Frag} : ∀ vs H Q E, sp_law_agrees K vs H Q E → vs.length = (P_law_agrees : List Str).length := by
  intro vs H Q E h
  repeat first | (obtain ⟨rfl, _⟩ := h; rfl) | obtain ⟨_, h⟩ := h
theorem has_law_agrees (T : TX K mg base) : Has P w K mg base 3 "_law_agrees" P_law_agrees (sp_law_agrees K) :=
  mk_has (T.glo 77) (T.says.def_ 46) sc_law_agrees (fun _ _ _ _ _ _ us hl => match us, hl with | [_, _], _ => rfl) len_law_agrees
    fun cdv A outer s H vs Q E hr h => ⟨t_law_agrees K E, d_law_agrees T (has_Line_count T) (has_FairQueue_count T) hr, pure_law_agrees T vs H Q E h⟩

theorem has_LinkOptions_init_k2 (T : TX K mg base) : HasK P w K mg base 1 "LinkOptions" 0 ["cost", "size", "rate", "depth", "limit", "delay"] P_LinkOptions_init gv_LinkOptions_init_k2 (sp_LinkOptions_init K) := by
  obtain ⟨fd, F, ok⟩ := fn_LinkOptions_init (P := P) (w := w) T
  exact ⟨T.glo 47, T.mkr 48, fd, _, ok, kbn_all F 1 ["cost", "size", "rate", "depth", "limit", "delay"] (fun us ws => us ++ ws) (fun r1 r2 => r1.append r2) (fun _ _ _ _ _ _ us ws l1 l2 => match us, ws, l1, l2 with | [_], [_, _, _, _, _, _], _, _ => rfl)⟩

theorem len_law {K : PySem.W.Frag} : ∀ vs H Q E, sp_law K vs H Q E → vs.length = (P_law : List Str).length := by
  intro vs H Q E h
  repeat first | (obtain ⟨rfl, _⟩ := h; rfl) | obtain ⟨_, h⟩ := h
theorem has_law (T : TX K mg base) : Has P w K mg base 7 "law" P_law (sp_law K) :=
  mk_has (T.glo 78) (T.says.def_ 47) sc_law (fun _ _ _ _ _ _ us hl => match us, hl with | [_], _ => rfl) len_law
    fun cdv A outer s H vs Q E hr h => ⟨t_law K E, d_law T (has_law_start T) (has_law_cell T) (has_law_digit T) (has_LinkOptions_init_k2 T) (has_Line_init T) (has_Bucket_init T) (has_FairQueue_init T) (has_law_deed T) (has_law_agrees T) (has_Line_fork T) (has_Bucket_fork T) (has_FairQueue_fork T) hr, pure_law T vs H Q E h⟩

theorem ok_law (T : TX K mg base) {fd : FuncData} (F : FunD K "law" "law" (defArgs s_law) (defBody s_law) (defScope s_law) [] [] (He.ga K "law") fd) : FnOk P w K mg base (L2.CX P w) 7 (He.ga K "law") fd P_law (sp_law K) :=
  FunD.ok (CX := L2.CX P w) F sc_law len_law fun cdv A outer s H vs Q E hr h => ⟨t_law K E, d_law T (has_law_start T) (has_law_cell T) (has_law_digit T) (has_LinkOptions_init_k2 T) (has_Line_init T) (has_Bucket_init T) (has_FairQueue_init T) (has_law_deed T) (has_law_agrees T) (has_Line_fork T) (has_Bucket_fork T) (has_FairQueue_fork T) hr, pure_law T vs H Q E h⟩

end

end K89

open PySem PySem.W PySem.Calls PyProof.Rows
theorem PySem.Challenge.cw_throughway_k89_lines_keep_their_rules_holds : PySem.Challenge.rw_throughway_k89_lines_keep_their_rules.Holds := by
  w_on; o_law
  refine HandSHeadRun.head_any (r := OpenLaw.row PySem.Challenge.rw_throughway_k89_lines_keep_their_rules) (q := view (OpenLaw.row PySem.Challenge.rw_throughway_k89_lines_keep_their_rules).prog [35]) (H := K89.hk) (ob := K89.ob) (M := 4000) (loose := K89.names) (d := HandSHeadRun.topDef (OpenLaw.row PySem.Challenge.rw_throughway_k89_lines_keep_their_rules).prog 35) (kwd := []) K89.ob_eq
    (by kernel_rfl) (fun s => by kernel_rfl) K89.run (by kernel_rfl) (by kernel_rfl) (by kernel_rfl) (by rfl) (by first | assumption | decide +kernel) (by decide +kernel) ⟨rfl, rfl, rfl, rfl, rfl, by decide +kernel⟩ ?hw ?hc
  case hw => w_witness2
  case hc =>
    refine G.walk_ofEB (l := PySem.Challenge.rw_throughway_k89_lines_keep_their_rules) (n := 63) (k := 7) (x := "script") (CX := fun w => L2.CX (PySem.Challenge.rw_throughway_k89_lines_keep_their_rules).prog w) rfl (by decide) (by kernel_rfl) ⟨rfl, by decide, by decide⟩ ?F ?X
    case X =>
      intro w H s e s' z
      obtain ⟨_, _, _, _, _, _, _, _, _, _, _, _, z⟩ := z
      exact z.elim
    case F =>
      intro w mg fa h Y G hmg0
      obtain ⟨K, KX, c⟩ := Y
      have hmg : mg ("law" : PySem.Str) = some (.ref fa) := by
        have e : (HandSHeadRun.topDef (OpenLaw.row PySem.Challenge.rw_throughway_k89_lines_keep_their_rules).prog 35).name = ("law" : PySem.Str) := by kernel_rfl
        rw [← e]
        exact hmg0
      obtain ⟨fd, FD⟩ := He.SaysD.def_ c.d 47 (d := K89.D_law) rfl
      have b := L2.FunD.bindsA (ps := ["script"]) FD fun _ _ _ _ _ _ us hl => match us, hl with | [_], _ => rfl
      have eg : fa = He.ga K "law" := by
        have e := hmg.symm.trans (He.glo_ok KX G (He.SaysD.fact c.d 78 (f := .glo "law") rfl))
        cases e
        rfl
      subst eg
      exact ⟨K, fd, K89.sp_law K, KX, fun s v => b s [v] rfl, fun H a ns hl hb hO hS => K89.law_start hl hb hO hS, fun base kin hns => K89.ok_law ⟨⟨kin, hns, c.d⟩, c⟩ FD⟩
