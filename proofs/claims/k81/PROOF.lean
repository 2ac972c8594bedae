import PyProof.Rows.All
import Wide.All
import OpenK.AllK
import Wide.FinOn
import HandS.ForMost
import HandS.ForExc
import HandS.Wide
import HandS.Steps
import HandS.Evl
import HandS.Defaults
import HandS.IsInst
import HandS.Head0
import HandS.Head1
import HandS.Head2
import HandS.HeadEnd
import HandS.EndBits
import HandS.HeadHook1
import HandS.HeadHook2
import HandS.Property
import HandS.OwnEq
import HandS.ExcIs
import HandS.DeepEq
import HandS.HeadHook4
import HandS.TupLe
import HandS.Walk
import KE.KIndexOf
import HandS.Strs
import HandS.Dict
import HandS.MakeKwOnly
import PyProof.Rows.ChunkEnd
import HandS.Flow
import HandS.SortRule
import HandS.SortInts
import HandS.Deep
import KE.KSortTup
import PySem.Challenge.RW_throughway_k81_fair_queues_lose_nothing
set_option Elab.async false
set_option linter.all false
set_option maxRecDepth 100000
set_option maxHeartbeats 4000000
/-! My own words over the hand layer: a def of the module, a method, a class, by names (Has, HasM, HasI); their calls; readings step by step. -/
namespace G
open PySem PySem.Spec PyProof.Rows L2

/-! ### a call that may let an exception out, at the slots -/
section
variable {X : Cx} {k : Nat} {f C : Addr} {fd : FuncData} {ps : List Str} {sp : Sp} {E : L2.St → XK} {x m : Str} {p pos apos : Pos} {e o : Expr} {es : List Expr} {ta : TE} {t : TA}
abbrev XC (X : Cx) : CXT := L2.CX X.prog X.w
/-- nothing is let out -/
theorem passZ (σ : L2.St) : PassesAt (XC X) X σ E0 := fun _ _ _ _ _ _ c => by
  obtain ⟨_, _, _, _, _, _, _, _, _, _, _, _, z⟩ := c
  exact z.elim
theorem pe_callS0 (F : FnOk X.prog X.w X.K X.mg X.base (XC X) k f fd ps sp) (hr : Room k X.A) (hg : Gl X x) (hm : X.mg x = some (.ref f)) (hk : PySem.W.keepIn X.K (.ref f) = true) (hb : Binds X.K fd ps []) (hx : ∀ σ, PassesAt (XC X) X σ (E σ))
    (hdb : (x == ("__debug__" : Str)) = false := by decide) : PE X (.Call (.Name x p) [] [] pos) (tCallS sp E tNil) := by
  refine ⟨fun pz s σ H Q I h => ?_⟩
  refine wpAny_Call_Name_kw ?_
  refine ld_glob I hg hm ?_ hdb
  exact PySem.W.callWith_K0 I.kIn hk (run_fnS (us := []) F hr hb (hx σ) I .nil h)
/-- o.m(..) -/
def tMt (C : Addr) (m : Str) (sp : Sp) (E : L2.St → XK) (ta : TE) (t : TA) : TE := fun σ H Q => ta σ H fun x H1 => ∃ a dx fs, x = .ref a ∧ H1 a = some (.ins C dx fs) ∧ fs.lookup m = none ∧
  t σ H1 fun vs H2 => sp (x :: vs) H2 Q (E σ)
theorem pe_mt {pl : Sem Bool} (he : PE X o ta) (c : Cls X.K C) (hm : Meth X.K C m f) (F : FnOk X.prog X.w X.K X.mg X.base (XC X) k f fd ps sp) (hr : Room k X.A) (hb : Binds X.K fd ps []) (hx : ∀ σ, PassesAt (XC X) X σ (E σ)) (ha : PA X (e :: es) t)
    (hst : starEach (e :: es) X.env = (false, eval e X.env) :: starEach es X.env := by rfl) (hpl : (backTo pos (starEach es X.env)).any (·.1) = false := by rfl)
    (ht : eval (.Call (.Attribute o m apos) (e :: es) [] pos) X.env = (do
      let ov ← eval o X.env
      standAt apos.atName
      let (f, first) ← holding [ov] (getMethod ov m pl)
      callWith pos f first (backTo pos (starEach (e :: es) X.env)) (backToKw pos (keywordEach [] X.env))) := by rfl) :
    PE X (.Call (.Attribute o m apos) (e :: es) [] pos) (tMt C m sp E ta t) := by
  refine ⟨fun pz s σ H Q I h => ?_⟩
  refine PySem.W.methodCall_KW (pl := pl) (thn (he.run pz s σ H _ I h) fun u z1 ⟨x, H1, J1, rq, a, dx, fs, ex, ea, l, q⟩ => ?_) ht
  subst ex
  obtain rfl : u = Value.ref a := rq
  refine getmeth_ok J1 ea c hm l ?_
  refine PySem.W.callWith_K (first := [.ref a]) (h₀ := X.base) I.ok.mod.kin hm.kp (thn (ha.run pos pz z1 σ H1 _ J1 q) fun us s2 ⟨vs, H2, J2, r, qb⟩ => ⟨J2.kIn, ?_⟩) hst hpl
  exact run_fnS (us := .ref a :: us) (vs := .ref a :: vs) F hr hb (hx σ) J2 (.cons rfl r) qb
theorem pe_mt0 {pl : Sem Bool} (he : PE X o ta) (c : Cls X.K C) (hm : Meth X.K C m f) (F : FnOk X.prog X.w X.K X.mg X.base (XC X) k f fd ps sp) (hr : Room k X.A) (hb : Binds X.K fd ps []) (hx : ∀ σ, PassesAt (XC X) X σ (E σ))
    (ht : eval (.Call (.Attribute o m apos) [] [] pos) X.env = (do
      let ov ← eval o X.env
      standAt apos.atName
      let (f, first) ← holding [ov] (getMethod ov m pl)
      callWith pos f first (backTo pos (starEach [] X.env)) (backToKw pos (keywordEach [] X.env))) := by rfl) :
    PE X (.Call (.Attribute o m apos) [] [] pos) (tMt C m sp E ta tNil) := by
  refine ⟨fun pz s σ H Q I h => ?_⟩
  refine PySem.W.methodCall_KW (pl := pl) (thn (he.run pz s σ H _ I h) fun u z1 ⟨x, H1, J1, rq, a, dx, fs, ex, ea, l, q⟩ => ?_) ht
  subst ex
  obtain rfl : u = Value.ref a := rq
  refine getmeth_ok J1 ea c hm l ?_
  exact PySem.W.callWith_K0 (first := [.ref a]) J1.kIn hm.kp (run_fnS (us := [.ref a]) (vs := [.ref a]) F hr hb (hx σ) J1 (.cons rfl .nil) q)
/-- C(..) -/
def tMk (C : Addr) (sp : Sp) (E : L2.St → XK) (t : TA) : TE := fun σ H Q => t σ H fun vs H1 => ∀ x dx, H1 x = none → H1 dx = none → dx ≠ x →
  sp (.ref x :: vs) (upd (upd H1 dx (.own x)) x (.ins C dx [])) (fun v H2 => v = .non ∧ Q (.ref x) H2) (E σ)
theorem run_mk {pz : List (Addr × Obj)} {σ : L2.St} {H : Hp} {s : Shared} {Q : VK} {us : List Value} {vs : List V} (M : Mk X.K C f) (F : FnOk X.prog X.w X.K X.mg X.base (XC X) k f fd ps sp) (hr : Room (k + 1) X.A) (hb : Binds X.K fd ps [])
    (hx : PassesAt (XC X) X σ (E σ)) (I : Inv X pz σ H s) (r : Vals vs us)
    (h : ∀ x dx, H x = none → H dx = none → dx ≠ x → sp (.ref x :: vs) (upd (upd H dx (.own x)) x (.ins C dx [])) (fun v H2 => v = .non ∧ Q (.ref x) H2) (E σ)) :
    wpAny (model X.prog X.w) X.A (call (.ref C) us) (EP X pz σ Q) X.xe s := by
  have hqa := h (s.heap.objs.size + 1) s.heap.objs.size (I.hok.fresh (Nat.le_succ _)) (I.hok.fresh (Nat.le_refl _)) (Nat.ne_of_lt (Nat.lt_succ_self _))
  have J2 := Inv.made (C := C) I
  have rr2 : Vals (V.ref (s.heap.objs.size + 1) :: vs) (Value.ref (s.heap.objs.size + 1) :: us) := .cons rfl r
  have hl : (Value.ref (s.heap.objs.size + 1) :: us).length = ps.length := by
    have e := rr2.length
    rw [F.len _ _ _ _ hqa] at e
    exact e.symm
  have b := hb _ (Value.ref (s.heap.objs.size + 1) :: us) J2.kIn (by rw [List.append_nil]; exact hl)
  rw [List.append_nil] at b
  refine wpAny_call (make_map (f := f) I.kIn M.makes M.init (beq_iff_eq.mp M.fn) (codeAny_mono (F.run _ X.stack _ _ ⟨Value.ref (s.heap.objs.size + 1) :: us, []⟩ (Value.ref (s.heap.objs.size + 1) :: us) _ _ (E σ) (hr.make C us [])
    (J2.env0.make C us []) b rr2 hqa) fun r s' hqb => ?_))
  cases r with
  | error e => exact hx pz _ _ e s' J2 hqb
  | ok fl =>
    cases fl with
    | ret u =>
      obtain ⟨v, H', J3, rv, ev, qc⟩ := J2.after hqb
      subst ev
      exact ⟨rv, ⟨V.ref (s.heap.objs.size + 1), H', J3, rfl, qc⟩⟩
    | next => exact False.elim hqb
    | brk => exact False.elim hqb
    | cont => exact False.elim hqb
theorem pe_mk (M : Mk X.K C f) (F : FnOk X.prog X.w X.K X.mg X.base (XC X) k f fd ps sp) (hr : Room (k + 1) X.A) (hg : Gl X x) (hm : X.mg x = some (.ref C)) (hb : Binds X.K fd ps []) (hx : ∀ σ, PassesAt (XC X) X σ (E σ))
    (ha : PA X (e :: es) t) (hdb : (x == ("__debug__" : Str)) = false := by decide) (he : starEach (e :: es) X.env = (false, eval e X.env) :: starEach es X.env := by rfl) (hpl : (backTo pos (starEach es X.env)).any (·.1) = false := by rfl) :
    PE X (.Call (.Name x p) (e :: es) [] pos) (tMk C sp E t) := by
  refine ⟨fun pz s σ H Q I h => ?_⟩
  refine wpAny_Call_Name_kw ?_
  refine ld_glob I hg hm ?_ hdb
  refine PySem.W.callWith_K (h₀ := X.base) I.ok.mod.kin M.kp (thn (ha.run pos pz s σ H _ I h) fun us z1 ⟨vs, H1, J1, r, q⟩ => ⟨J1.kIn, ?_⟩) he hpl
  exact run_mk M F hr hb (hx σ) J1 r q
theorem pe_mk0 (M : Mk X.K C f) (F : FnOk X.prog X.w X.K X.mg X.base (XC X) k f fd ps sp) (hr : Room (k + 1) X.A) (hg : Gl X x) (hm : X.mg x = some (.ref C)) (hb : Binds X.K fd ps []) (hx : ∀ σ, PassesAt (XC X) X σ (E σ))
    (hdb : (x == ("__debug__" : Str)) = false := by decide) : PE X (.Call (.Name x p) [] [] pos) (tMk C sp E tNil) := by
  refine ⟨fun pz s σ H Q I h => ?_⟩
  refine wpAny_Call_Name_kw ?_
  refine ld_glob I hg hm ?_ hdb
  exact PySem.W.callWith_K0 I.kIn M.kp (run_mk (us := []) M F hr hb (hx σ) I .nil h)
end

/-! ### by names -/
section
variable (P : Program) (w : World) (K : PySem.W.Frag) (mg : Str → Option Value) (base : Heap)
/-- a def of the module -/
structure Has (k : Nat) (x : Str) (ps : List Str) (sp : Sp) : Prop where
  gl : mg x = some (.ref (He.ga K x))
  kp : PySem.W.keepIn K (.ref (He.ga K x)) = true
  ex : ∃ fd, FnOk P w K mg base (L2.CX P w) k (He.ga K x) fd ps sp ∧ Binds K fd ps []
/-- a method -/
structure HasM (k : Nat) (c m : Str) (ps : List Str) (sp : Sp) : Prop where
  cl : Cls K (He.ga K c)
  me : Meth K (He.ga K c) m (He.ma K (He.ga K c) m)
  ex : ∃ fd, FnOk P w K mg base (L2.CX P w) k (He.ma K (He.ga K c) m) fd ps sp ∧ Binds K fd ps []
/-- a class that is made by its __init__ -/
structure HasI (k : Nat) (c : Str) (ps : List Str) (sp : Sp) : Prop where
  gl : mg c = some (.ref (He.ga K c))
  mkr : Mk K (He.ga K c) (He.ma K (He.ga K c) "__init__")
  ex : ∃ fd, FnOk P w K mg base (L2.CX P w) k (He.ma K (He.ga K c) "__init__") fd ps sp ∧ Binds K fd ps []
end
section
variable {P : Program} {w : World} {K : PySem.W.Frag} {mg : Str → Option Value} {base : Heap}
theorem Has.mono {j k : Nat} {x : Str} {ps : List Str} {sp : Sp} (h : Has P w K mg base j x ps sp) (l : j ≤ k) : Has P w K mg base k x ps sp :=
  ⟨h.gl, h.kp, let ⟨fd, F, b⟩ := h.ex; ⟨fd, F.mono l, b⟩⟩
theorem HasM.mono {j k : Nat} {c m : Str} {ps : List Str} {sp : Sp} (h : HasM P w K mg base j c m ps sp) (l : j ≤ k) : HasM P w K mg base k c m ps sp :=
  ⟨h.cl, h.me, let ⟨fd, F, b⟩ := h.ex; ⟨fd, F.mono l, b⟩⟩
theorem HasI.mono {j k : Nat} {c : Str} {ps : List Str} {sp : Sp} (h : HasI P w K mg base j c ps sp) (l : j ≤ k) : HasI P w K mg base k c ps sp :=
  ⟨h.gl, h.mkr, let ⟨fd, F, b⟩ := h.ex; ⟨fd, F.mono l, b⟩⟩
end
section
variable {X : Cx} {k : Nat} {ps : List Str} {sp : Sp} {E : L2.St → XK} {x c m : Str} {p pos apos : Pos} {e o : Expr} {es : List Expr} {ta : TE} {t : TA}
theorem pe_h (h : Has X.prog X.w X.K X.mg X.base k x ps sp) (hr : Room k X.A) (hg : Gl X x) (hx : ∀ σ, PassesAt (XC X) X σ (E σ)) (ha : PA X (e :: es) t) (hdb : (x == ("__debug__" : Str)) = false := by decide)
    (he : starEach (e :: es) X.env = (false, eval e X.env) :: starEach es X.env := by rfl) (hpl : (backTo pos (starEach es X.env)).any (·.1) = false := by rfl) : PE X (.Call (.Name x p) (e :: es) [] pos) (tCallS sp E t) := by
  obtain ⟨fd, F, b⟩ := h.ex
  exact pe_callS F hr hg h.gl h.kp b hx ha hdb he hpl
theorem pe_h0 (h : Has X.prog X.w X.K X.mg X.base k x ps sp) (hr : Room k X.A) (hg : Gl X x) (hx : ∀ σ, PassesAt (XC X) X σ (E σ)) (hdb : (x == ("__debug__" : Str)) = false := by decide) : PE X (.Call (.Name x p) [] [] pos) (tCallS sp E tNil) := by
  obtain ⟨fd, F, b⟩ := h.ex
  exact pe_callS0 F hr hg h.gl h.kp b hx hdb
theorem pe_i (h : HasI X.prog X.w X.K X.mg X.base k c ps sp) (hr : Room (k + 1) X.A) (hg : Gl X c) (hx : ∀ σ, PassesAt (XC X) X σ (E σ)) (ha : PA X (e :: es) t) (hdb : (c == ("__debug__" : Str)) = false := by decide)
    (he : starEach (e :: es) X.env = (false, eval e X.env) :: starEach es X.env := by rfl) (hpl : (backTo pos (starEach es X.env)).any (·.1) = false := by rfl) : PE X (.Call (.Name c p) (e :: es) [] pos) (tMk (He.ga X.K c) sp E t) := by
  obtain ⟨fd, F, b⟩ := h.ex
  exact pe_mk h.mkr F hr hg h.gl b hx ha hdb he hpl
theorem pe_i0 (h : HasI X.prog X.w X.K X.mg X.base k c ps sp) (hr : Room (k + 1) X.A) (hg : Gl X c) (hx : ∀ σ, PassesAt (XC X) X σ (E σ)) (hdb : (c == ("__debug__" : Str)) = false := by decide) : PE X (.Call (.Name c p) [] [] pos) (tMk (He.ga X.K c) sp E tNil) := by
  obtain ⟨fd, F, b⟩ := h.ex
  exact pe_mk0 h.mkr F hr hg h.gl b hx hdb
theorem pe_m {pl : Sem Bool} (he : PE X o ta) (h : HasM X.prog X.w X.K X.mg X.base k c m ps sp) (hr : Room k X.A) (hx : ∀ σ, PassesAt (XC X) X σ (E σ)) (ha : PA X (e :: es) t)
    (hst : starEach (e :: es) X.env = (false, eval e X.env) :: starEach es X.env := by rfl) (hpl : (backTo pos (starEach es X.env)).any (·.1) = false := by rfl)
    (ht : eval (.Call (.Attribute o m apos) (e :: es) [] pos) X.env = (do
      let ov ← eval o X.env
      standAt apos.atName
      let (f, first) ← holding [ov] (getMethod ov m pl)
      callWith pos f first (backTo pos (starEach (e :: es) X.env)) (backToKw pos (keywordEach [] X.env))) := by rfl) :
    PE X (.Call (.Attribute o m apos) (e :: es) [] pos) (tMt (He.ga X.K c) m sp E ta t) := by
  obtain ⟨fd, F, b⟩ := h.ex
  exact pe_mt he h.cl h.me F hr b hx ha hst hpl ht
theorem pe_m0 {pl : Sem Bool} (he : PE X o ta) (h : HasM X.prog X.w X.K X.mg X.base k c m ps sp) (hr : Room k X.A) (hx : ∀ σ, PassesAt (XC X) X σ (E σ))
    (ht : eval (.Call (.Attribute o m apos) [] [] pos) X.env = (do
      let ov ← eval o X.env
      standAt apos.atName
      let (f, first) ← holding [ov] (getMethod ov m pl)
      callWith pos f first (backTo pos (starEach [] X.env)) (backToKw pos (keywordEach [] X.env))) := by rfl) :
    PE X (.Call (.Attribute o m apos) [] [] pos) (tMt (He.ga X.K c) m sp E ta tNil) := by
  obtain ⟨fd, F, b⟩ := h.ex
  exact pe_mt0 he h.cl h.me F hr b hx ht
/-- raise X('..'), X without an __init__ -/
def tRs (C : Addr) (W : WX) : TS := fun _ σ H => W (.ref C) none σ H
/-- what the class of an own exception must have -/
structure HasX (K : PySem.W.Frag) (mg : Str → Option Value) (c : Str) : Prop where
  gl : mg c = some (.ref (He.ga K c))
  ex : PySem.W.excIn K (He.ga K c) He.veBase "ValueError.__new__" = true
  kp : PySem.W.keepIn K (.ref (He.ga K c)) = true
  sb : PySem.W.subIn K (.ref (He.ga K c)) (.type "BaseException") = some true
  ty : PySem.W.typeIn K (.ref (He.ga K c)) = some (.type "type")
theorem ps_rs {W : WX} {msg : Str} {j : Nat} {p2 pos2 : Pos} (hc : X.calm = true) (tk : Takes X W) (h : HasX X.K X.mg c) (hg : Gl X c) (hdb : (c == ("__debug__" : Str)) = false := by decide) :
    PS X (.Raise (some (.Call (.Name c p) [.Constant (.str msg) j p2] [] pos)) none pos2) (tRs (He.ga X.K c) W) :=
  ps_raise hc tk (pmk_own PySem.F.excBase_ValueError h.ex h.gl h.kp (raises_own h.sb h.ty) hg hdb)
end

/-! ### a def of the text keeps its promise -/
section
variable {P : Program} {w : World} {K : PySem.W.Frag} {mg : Str → Option Value} {base : Heap}
/-- what the body's term and its reading are to give -/
abbrev Body (P : Program) (w : World) (K : PySem.W.Frag) (mg : Str → Option Value) (base : Heap) (k : Nat) (N : List Str) (qual : Str) (scope : Scope) (f : Addr) (body : List Stmt) (sp : Sp) : Prop :=
  ∀ (cdv : Value) (A : Around) (outer : List Env) (s : Shared) (H : Hp) (vs : List V) (Q : VK) (E : XK), Room k (A.deeper (envOfC qual scope s.heap.objs.size f cdv)) → sp vs H Q E →
      ∃ t, PSs (cxOf (L2.CX P w) P w K mg base N qual scope f cdv A outer s H E) body t ∧ t { nx := fun _ H' => Q .non H', rt := Q } (start N vs) H
theorem mk_has {k : Nat} {x qual : Str} {params : Arguments} {body : List Stmt} {scope : Scope} {N ps : List Str} {sp : Sp} (gl : mg x = some (.ref (He.ga K x)))
    (F : ∃ fd, FunD K x qual params body scope [] [] (He.fAd K (x, none)) fd) (S : FnScope N ps scope)
    (hb : ∀ (kV doc pm : Value) (an : Option Addr) (cdv ct : Value) (us : List Value), us.length = ps.length → bindArgs (PySem.W.fnOf x qual params body scope .none kV doc pm an cdv ct) ⟨us, []⟩ = pure (ps.zip us))
    (len : ∀ vs H Q E, sp vs H Q E → vs.length = ps.length) (hbody : Body P w K mg base k N qual scope (He.ga K x) body sp) : Has P w K mg base (k + 1) x ps sp := by
  obtain ⟨fd, F⟩ := F
  exact ⟨gl, F.kp, fd, FunD.ok (CX := L2.CX P w) F S len hbody, F.bindsN hb⟩
theorem mk_hasM {k : Nat} {c m qual : Str} {params : Arguments} {body : List Stmt} {scope : Scope} {N ps : List Str} {sp : Sp} (cl : Cls K (He.ga K c)) (me : Meth K (He.ga K c) m (He.ma K (He.ga K c) m))
    (F : ∃ fd, FunD K m qual params body scope [] [] (He.fAd K (c, some m)) fd) (S : FnScope N ps scope)
    (hb : ∀ (kV doc pm : Value) (an : Option Addr) (cdv ct : Value) (us : List Value), us.length = ps.length → bindArgs (PySem.W.fnOf m qual params body scope .none kV doc pm an cdv ct) ⟨us, []⟩ = pure (ps.zip us))
    (len : ∀ vs H Q E, sp vs H Q E → vs.length = ps.length) (hbody : Body P w K mg base k N qual scope (He.ma K (He.ga K c) m) body sp) : HasM P w K mg base (k + 1) c m ps sp := by
  obtain ⟨fd, F⟩ := F
  exact ⟨cl, me, fd, FunD.ok (CX := L2.CX P w) F S len hbody, F.bindsN hb⟩
theorem mk_hasI {k : Nat} {c qual : Str} {params : Arguments} {body : List Stmt} {scope : Scope} {N ps : List Str} {sp : Sp} (gl : mg c = some (.ref (He.ga K c))) (mk : Mk K (He.ga K c) (He.ma K (He.ga K c) "__init__"))
    (F : ∃ fd, FunD K "__init__" qual params body scope [] [] (He.fAd K (c, some "__init__")) fd) (S : FnScope N ps scope)
    (hb : ∀ (kV doc pm : Value) (an : Option Addr) (cdv ct : Value) (us : List Value), us.length = ps.length → bindArgs (PySem.W.fnOf "__init__" qual params body scope .none kV doc pm an cdv ct) ⟨us, []⟩ = pure (ps.zip us))
    (len : ∀ vs H Q E, sp vs H Q E → vs.length = ps.length) (hbody : Body P w K mg base k N qual scope (He.ma K (He.ga K c) "__init__") body sp) : HasI P w K mg base (k + 1) c ps sp := by
  obtain ⟨fd, F⟩ := F
  exact ⟨gl, mk, fd, FunD.ok (CX := L2.CX P w) F S len hbody, F.bindsN hb⟩
/-- the head's facts -/
structure Tx (fa : List He.Fa) (fn : List He.DefD) (K : PySem.W.Frag) (mg : Str → Option Value) (base : Heap) : Prop where
  kin : K.In base
  ns : base.Ns mainGlobals mg
  says : He.SaysD fa fn K
variable {fa : List He.Fa} {fn : List He.DefD}
theorem Tx.glo (T : Tx fa fn K mg base) {x : Str} (i : Nat) (h : fa[i]? = some (.glo x) := by rfl) : mg x = some (.ref (He.ga K x)) := He.glo_ok T.kin T.ns (T.says.fact i h)
theorem Tx.free (T : Tx fa fn K mg base) {x : Str} (i : Nat) (h : fa[i]? = some (.free x) := by rfl) : mg x = none := He.free_ok T.kin T.ns (T.says.fact i h)
theorem Tx.cls (T : Tx fa fn K mg base) {x : Str} (i : Nat) (h : fa[i]? = some (.cls x) := by rfl) : Cls K (He.ga K x) := He.cls_ok (T.says.fact i h)
theorem Tx.noat (T : Tx fa fn K mg base) {x f : Str} (i : Nat) (h : fa[i]? = some (.noat x f) := by rfl) : NoAttr K (He.ga K x) f := He.noat_ok (T.says.fact i h)
theorem Tx.meth (T : Tx fa fn K mg base) {x m : Str} (i : Nat) (h : fa[i]? = some (.meth x m) := by rfl) : Meth K (He.ga K x) m (He.ma K (He.ga K x) m) := He.meth_ok (T.says.fact i h)
theorem Tx.mkr (T : Tx fa fn K mg base) {x : Str} (i : Nat) (h : fa[i]? = some (.mkr x) := by rfl) : Mk K (He.ga K x) (He.ma K (He.ga K x) "__init__") := He.mkr_ok (T.says.fact i h)
theorem Tx.exm (T : Tx fa fn K mg base) {x y : Str} {b : Bool} (i : Nat) (h : fa[i]? = some (.exm x y b) := by rfl) : PySem.W.exmOne K (.ref (He.ga K x)) (.ref (He.ga K y)) = some b := He.exm_ok (T.says.fact i h)
theorem Tx.exc (T : Tx fa fn K mg base) {x : Str} (i j : Nat) (h : fa[i]? = some (.exc x) := by rfl) (h2 : fa[j]? = some (.glo x) := by rfl) : HasX K mg x :=
  let ⟨a, b, c, d⟩ := He.exc_ok (T.says.fact i h)
  ⟨T.glo j h2, a, b, c, d⟩
end

/-! ### the end, with the script's bits told -/
theorem walk_ofEB {l : PySem.W.OpenLaw} {n k : Nat} {q : Program} {loose : List Str} {XP : (Str → Option Value) → Heap → Prop} {YP : World → Heap → Prop} {d : DefRec} {CX : World → CXT} {x : Str}
    (hn : l.most = some n) (hn2 : n ≤ sizeLine) (hdf : d.params.defaults = []) (hr : Room k callerA)
    (F : ∀ (w : World) (mg : Str → Option Value) (fa : Addr) (h : Heap), YP w h → h.Ns mainGlobals mg → mg d.name = some (.ref fa) →
      ∃ (K : PySem.W.Frag) (fd : FuncData) (sp : Sp), K.In h ∧ (∀ (s : Shared) (u : Value), BindsTo s fd ⟨[u], []⟩ [(x, u)]) ∧
        (∀ (H : Hp) (a : Addr) (ns : List Int), ns.length ≤ n → (∀ z ∈ ns, Builtin.Int.intBits z ≤ 1048576) → Only H → SqL K H a (ns.map V.int) → sp [.ref a] H (fun v _ => v = .bl true) fun _ _ _ => False) ∧
        ∀ base : Heap, K.In base → base.Ns mainGlobals mg → FnOk l.prog w K mg base (CX w) k fa fd [x] sp)
    (hCX : ∀ (w : World) (H : Hp) (s : Shared) (e : Value) (s' : Shared), CX w [] H s (fun _ _ _ => False) e s' → False) :
    PySem.W.WalkO q loose XP YP l.row.toRowW d [] (fun f vs => PySem.call f vs) := by
  refine Att.attach_callB hn hdf fun w sA sB mg mb fa o pm cd doc a vs ns G Y ho hd hcd hmg hobj hints hlen hbits hg => ?_
  obtain ⟨K, fd, sp, kx, bd, sh, FF⟩ := F w mg fa _ Y G.T.g hmg
  exact law_call kx G.T.g G.T.b G.T.builtins G.T.nolimit hg hobj hints (Nat.le_trans hlen hn2) hr FF bd (fun H hO hS => sh H a ns hlen hbits hO hS) fun H e s' => hCX w H sB e s'
end G

/-! readings, step by step -/
namespace G
open PySem PySem.Spec PyProof.Rows L2
/-! ### names of the rules' relations -/
abbrev wB (E : XK) : WX := fun cls d _ H => E cls d H
abbrev gAdd : R2 := rI0 fun i j => .int (i + j)
abbrev gMinus : R2 := rI0 fun i j => .int (i - j)
abbrev gMul : R2 := rI CMul fun i j => .int (i * j)
abbrev gMulW : R2 := rI CMulW fun i j => .int (i * j)
abbrev gDiv : R2 := rI CDiv fun i j => .int (i / j)
abbrev gDivW : R2 := rI CDivW fun i j => .int (i / j)
abbrev gMod : R2 := rI (fun _ j => 0 < j) fun i j => .int (i % j)
abbrev gPow : R2 := rI CPow fun i j => .int (i ^ j.toNat)
abbrev gShl : R2 := rI CPow fun i j => .int (i * 2 ^ j.toNat)
abbrev gShr : R2 := rI (fun _ j => 0 ≤ j) fun i j => .int (i / 2 ^ j.toNat)
abbrev gAnd : R2 := rI0 fun i j => .int (Builtin.bitAnd i j)
abbrev gOr : R2 := rI0 fun i j => .int (Builtin.bitOr i j)
abbrev gXor : R2 := rI0 fun i j => .int (Builtin.bitXor i j)
abbrev gLt : R2 := rI0 fun i j => .bl (decide (i < j))
abbrev gLte : R2 := rI0 fun i j => .bl (decide (i ≤ j))
abbrev gGt : R2 := rI0 fun i j => .bl (decide (j < i))
abbrev gGte : R2 := rI0 fun i j => .bl (decide (j ≤ i))
abbrev gLe : R2 := gLte
abbrev gGe : R2 := gGte
abbrev gNeg : V → Hp → VK → Prop := rU fun i => .int (-i)
abbrev gCatS : R2 := fun x y H Q => ∃ i j, x = .str i ∧ y = .str j ∧ i.length + j.length ≤ sizeLine ∧ Q (.str (i ++ j)) H
abbrev gInS : R2 := rInS
abbrev gNotInS : R2 := rNotInS
abbrev gLen (K : PySem.W.Frag) : List V → Hp → VK → Prop := fun xs H Q => ∃ x n, xs = [x] ∧ LenV K x H n ∧ Q (.int (n : Nat)) H
abbrev gMin2 : List V → Hp → VK → Prop := fun xs H Q => ∃ i j, xs = [.int i, .int j] ∧ Q (.int (if j < i then j else i)) H
abbrev gMax2 : List V → Hp → VK → Prop := fun xs H Q => ∃ i j, xs = [.int i, .int j] ∧ Q (.int (if j > i then j else i)) H
abbrev gAbs : List V → Hp → VK → Prop := fun xs H Q => ∃ i, xs = [.int i] ∧ Q (.int (if i < 0 then -i else i)) H
abbrev gInt1 : List V → Hp → VK → Prop := fun xs H Q => (∃ i, xs = [.int i] ∧ Q (.int i) H) ∨ ∃ k, xs = [.bl k] ∧ Q (.int (if k then 1 else 0)) H
abbrev gBool1 : List V → Hp → VK → Prop := fun xs H Q => (∃ i, xs = [.int i] ∧ Q (.bl (i != 0)) H) ∨ ∃ k, xs = [.bl k] ∧ Q (.bl k) H
abbrev gStr1 : List V → Hp → VK → Prop := fun xs H Q => ∃ i, xs = [.int i] ∧ i.natAbs.log2 < 1920 ∧ Q (.str (toString i)) H
abbrev gListOf (K : PySem.W.Frag) : List V → Hp → VK → Prop := fun xs H Q => ∃ p ys, xs = [.ref p] ∧ (SqL K H p ys ∨ SqT K H p ys) ∧ ∀ l, H l = none → Q (.ref l) (upd H l (.lst ys))
abbrev gTupOf (K : PySem.W.Frag) : List V → Hp → VK → Prop := fun xs H Q => ∃ p ys, xs = [.ref p] ∧ ((SqL K H p ys ∧ ∀ l, H l = none → Q (.ref l) (upd H l (.tup ys))) ∨ (SqT K H p ys ∧ Q (.ref p) H))
section
variable {X : Cx} {x : Str} {pos : Pos}
theorem pe_gint {i : Int} (hg : Gl X x) (hm : ∃ t, X.mg x = some (.int i t)) (hd : (x == ("__debug__" : Str)) = false := by decide) : PE X (.Name x pos) (tC (.int i)) := by
  obtain ⟨t, hm⟩ := hm
  exact pe_glob hg hm ⟨t, rfl⟩ hd
theorem pe_gstr {z : Str} (hg : Gl X x) (hm : ∃ t, X.mg x = some (.str z t)) (hd : (x == ("__debug__" : Str)) = false := by decide) : PE X (.Name x pos) (tC (.str z)) := by
  obtain ⟨t, hm⟩ := hm
  exact pe_glob hg hm ⟨t, rfl⟩ hd
theorem pe_gref {a : Addr} (hg : Gl X x) (hm : X.mg x = some (.ref a)) (hd : (x == ("__debug__" : Str)) = false := by decide) : PE X (.Name x pos) (tC (.ref a)) := pe_glob hg hm rfl hd
end
section
variable {K : PySem.W.Frag} {mg : Str → Option Value} {base : Heap} {fa : List He.Fa} {fn : List He.DefD}
theorem Tx.int (T : Tx fa fn K mg base) {x : Str} {n : Int} (i : Nat) (h : fa[i]? = some (.int x n) := by rfl) : ∃ t, mg x = some (.int n t) := He.int_ok T.kin T.ns (T.says.fact i h)
theorem Tx.str (T : Tx fa fn K mg base) {x z : Str} (i : Nat) (h : fa[i]? = some (.str x z) := by rfl) : ∃ t, mg x = some (.str z t) := He.str_ok T.kin T.ns (T.says.fact i h)
end

/-! ### steps -/
section
variable {K : PySem.W.Frag} {σ : L2.St} {H : Hp} {Q : VK} {v x y : V} {i j : Int} {n : Nat} {ta tb tc te : TE} {r r' : R2} {g : Int → Int → V} {C : Int → Int → Prop} {tA : TA}
theorem w_var (h : σ[n]? = some (some v)) (q : Q v H) : tVar n σ H Q := ⟨v, h, q⟩
theorem w_c (q : Q v H) : tC v σ H Q := q
theorem w_op (h : ta σ H fun x H1 => tb σ H1 fun y H2 => r x y H2 Q) : tOp r ta tb σ H Q := h
theorem w_I0 (q : Q (g i j) H) : rI0 g (.int i) (.int j) H Q := ⟨i, j, rfl, rfl, q⟩
theorem w_I (c : C i j) (q : Q (g i j) H) : rI C g (.int i) (.int j) H Q := ⟨i, j, rfl, rfl, c, q⟩
theorem w_eqI (q : Q (.bl (decide (i = j))) H) : rEq (.int i) (.int j) H Q := ⟨rfl, by
  have e : decide (V.int i = V.int j) = decide (i = j) := by simp
  show Q (.bl (decide (V.int i = V.int j))) H
  rw [e]; exact q⟩
theorem w_neI (q : Q (.bl (!decide (i = j))) H) : rNe (.int i) (.int j) H Q := ⟨rfl, by
  have e : decide (V.int i = V.int j) = decide (i = j) := by simp
  show Q (.bl (!decide (V.int i = V.int j))) H
  rw [e]; exact q⟩
theorem w_eqB {a b : Bool} (q : Q (.bl (decide (a = b))) H) : rEq (.bl a) (.bl b) H Q := ⟨rfl, by
  have e : decide (V.bl a = V.bl b) = decide (a = b) := by simp
  show Q (.bl (decide (V.bl a = V.bl b))) H
  rw [e]; exact q⟩
theorem w_neB {a b : Bool} (q : Q (.bl (!decide (a = b))) H) : rNe (.bl a) (.bl b) H Q := ⟨rfl, by
  have e : decide (V.bl a = V.bl b) = decide (a = b) := by simp
  show Q (.bl (!decide (V.bl a = V.bl b))) H
  rw [e]; exact q⟩
theorem w_eqS {a b : Str} (q : Q (.bl (decide (a = b))) H) : rEq (.str a) (.str b) H Q := ⟨rfl, by
  have e : decide (V.str a = V.str b) = decide (a = b) := by simp
  show Q (.bl (decide (V.str a = V.str b))) H
  rw [e]; exact q⟩
theorem w_neS {a b : Str} (q : Q (.bl (!decide (a = b))) H) : rNe (.str a) (.str b) H Q := ⟨rfl, by
  have e : decide (V.str a = V.str b) = decide (a = b) := by simp
  show Q (.bl (!decide (V.str a = V.str b))) H
  rw [e]; exact q⟩
theorem w_isN (q : Q (.bl (decide (x = .non))) H) : rIsN x .non H Q := ⟨rfl, q⟩
theorem w_notN (q : Q (.bl (!decide (x = .non))) H) : rNotN x .non H Q := ⟨rfl, q⟩
theorem w_un {rr : V → Hp → VK → Prop} (h : ta σ H fun x H1 => rr x H1 Q) : tUn rr ta σ H Q := h
theorem w_U {f : Int → V} (q : Q (f i) H) : rU f (.int i) H Q := ⟨i, rfl, q⟩
theorem w_chain (h : ta σ H fun x H1 => tb σ H1 fun y H2 => r x y H2 fun z H3 => ∃ k, z = .bl k ∧ (if k = true then tc σ H3 fun w' H4 => r' y w' H4 Q else Q (.bl false) H3)) : tChain r r' ta tb tc σ H Q := h
theorem w_k {b : Bool} {P : Bool → Prop} (h : P b) : ∃ k, V.bl b = .bl k ∧ P k := ⟨b, rfl, h⟩
theorem w_test {Q : Bool → Hp → Prop} (h : te σ H fun x H' => ∃ k, x = .bl k ∧ Q k H') : tTest te σ H Q := h
theorem w_tB {Q : Bool → Hp → Prop} (h : te σ H fun x H' => ∃ k, x = .bl k ∧ Q k H') : tB te σ H Q := h
theorem w_tru {Q : Bool → Hp → Prop} (h : te σ H fun x H' => ∃ k, TruV K x H' k ∧ Q k H') : tTru K te σ H Q := h
theorem w_not {Q : Bool → Hp → Prop} {t : TT} (h : t σ H fun c H1 => Q (!c) H1) : tNot t σ H Q := h
theorem w_and {Q : Bool → Hp → Prop} {t u : TT} (h : t σ H fun c H1 => if c = true then u σ H1 Q else Q false H1) : tAnd t u σ H Q := h
theorem w_or {Q : Bool → Hp → Prop} {t u : TT} (h : t σ H fun c H1 => if c = true then Q true H1 else u σ H1 Q) : tOr t u σ H Q := h
theorem w_andV (h : ta σ H fun x H1 => ∃ c, x = .bl c ∧ if c = true then tb σ H1 Q else Q (.bl false) H1) : tAndV ta tb σ H Q := h
theorem w_orV (h : ta σ H fun x H1 => ∃ c, x = .bl c ∧ if c = true then Q (.bl true) H1 else tb σ H1 Q) : tOrV ta tb σ H Q := h
theorem w_notV (h : ta σ H fun x H1 => ∃ c, x = .bl c ∧ Q (.bl (!c)) H1) : tNotV ta σ H Q := h
theorem w_ife {t : TT} (h : t σ H fun c H1 => if c = true then ta σ H1 Q else tb σ H1 Q) : tIf t ta tb σ H Q := h
theorem w_nil {Q : List V → Hp → Prop} (q : Q [] H) : tNil σ H Q := q
theorem w_cons {Q : List V → Hp → Prop} (h : te σ H fun x H1 => tA σ H1 fun xs H2 => Q (x :: xs) H2) : tCons te tA σ H Q := h
theorem w_tup (h : tA σ H fun xs H1 => xs.length ≤ sizeLine ∧ ∀ p, H1 p = none → Q (.ref p) (upd H1 p (.tup xs))) : tTup tA σ H Q := h
theorem w_lst (h : tA σ H fun xs H1 => xs.length ≤ sizeLine ∧ ∀ p, H1 p = none → Q (.ref p) (upd H1 p (.lst xs))) : tLst tA σ H Q := h
theorem w_small {xs : List V} {P : Prop} (hl : Nat.ble xs.length 1000 = true) (h : P) : xs.length ≤ sizeLine ∧ P := ⟨Nat.le_trans (Nat.le_of_ble_eq_true hl) (by decide), h⟩
theorem w_call {sp : Sp} {E : L2.St → XK} (h : tA σ H fun vs H1 => sp vs H1 Q (E σ)) : tCallS sp E tA σ H Q := h
theorem w_mk {Cc : Addr} {sp : Sp} {E : L2.St → XK} (h : tA σ H fun vs H1 => ∀ x dx, H1 x = none → H1 dx = none → dx ≠ x → sp (.ref x :: vs) (upd (upd H1 dx (.own x)) x (.ins Cc dx [])) (fun v H2 => v = .non ∧ Q (.ref x) H2) (E σ)) : tMk Cc sp E tA σ H Q := h
theorem w_mt {Cc : Addr} {m : Str} {sp : Sp} {E : L2.St → XK} (h : ta σ H fun x H1 => ∃ a dx fs, x = .ref a ∧ H1 a = some (.ins Cc dx fs) ∧ fs.lookup m = none ∧ tA σ H1 fun vs H2 => sp (x :: vs) H2 Q (E σ)) : tMt Cc m sp E ta tA σ H Q := h
theorem w_cb {rr : List V → Hp → VK → Prop} (h : tA σ H fun vs H1 => rr vs H1 Q) : tCB rr tA σ H Q := h
theorem w_min2 (q : Q (.int (if j < i then j else i)) H) : gMin2 [.int i, .int j] H Q := ⟨i, j, rfl, q⟩
theorem w_max2 (q : Q (.int (if j > i then j else i)) H) : gMax2 [.int i, .int j] H Q := ⟨i, j, rfl, q⟩
theorem w_abs (q : Q (.int (if i < 0 then -i else i)) H) : gAbs [.int i] H Q := ⟨i, rfl, q⟩
theorem w_int (q : Q (.int i) H) : gInt1 [.int i] H Q := .inl ⟨i, rfl, q⟩
theorem w_lenL {p : Addr} {xs : List V} (h : SqL K H p xs) (q : Q (.int (xs.length : Int)) H) : gLen K [.ref p] H Q := ⟨_, xs.length, rfl, .inl ⟨xs, h, rfl⟩, q⟩
theorem w_lenT {p : Addr} {xs : List V} (h : SqT K H p xs) (q : Q (.int (xs.length : Int)) H) : gLen K [.ref p] H Q := ⟨_, xs.length, rfl, .inr ⟨xs, h, rfl⟩, q⟩
theorem w_lenS {z : Str} (h : z.length ≤ sizeLine) (q : Q (.int (z.length : Int)) H) : gLen K [.str z] H Q := ⟨_, z.length, rfl, ⟨h, rfl⟩, q⟩
theorem w_listL {p : Addr} {xs : List V} (h : SqL K H p xs) (q : ∀ l, H l = none → Q (.ref l) (upd H l (.lst xs))) : gListOf K [.ref p] H Q := ⟨p, xs, rfl, .inl h, q⟩
theorem w_listT {p : Addr} {xs : List V} (h : SqT K H p xs) (q : ∀ l, H l = none → Q (.ref l) (upd H l (.lst xs))) : gListOf K [.ref p] H Q := ⟨p, xs, rfl, .inr h, q⟩
theorem w_ixL {p : Addr} {xs : List V} (h : SqL K H p xs) (ha : atI xs i = some v) (q : Q v H) : rIxL K (.ref p) (.int i) H Q := ⟨p, xs, i, v, rfl, rfl, h, ha, q⟩
theorem w_ixT {p : Addr} {xs : List V} (h : SqT K H p xs) (ha : atI xs i = some v) (q : Q v H) : rIxT K (.ref p) (.int i) H Q := ⟨p, xs, i, v, rfl, rfl, h, ha, q⟩
theorem w_fld {f : Str} {a Cc dx : Addr} {fs : List (Str × V)} {P : Addr → Addr → Addr → List (Str × V) → V → Prop} (h : H a = some (.ins Cc dx fs)) (c : Cls K Cc) (na : NoAttr K Cc f) (l : fs.lookup f = some v) (q : P a Cc dx fs v) :
    ∃ a' C' dx' fs' v', V.ref a = .ref a' ∧ H a' = some (.ins C' dx' fs') ∧ Cls K C' ∧ NoAttr K C' f ∧ fs'.lookup f = some v' ∧ P a' C' dx' fs' v' := ⟨a, Cc, dx, fs, v, rfl, h, c, na, l, q⟩
theorem w_mt1 {m : Str} {a Cc dx : Addr} {fs : List (Str × V)} {P : Addr → Prop} (h : H a = some (.ins Cc dx fs)) (l : fs.lookup m = none) (q : P a) :
    ∃ a' dx' fs', V.ref a = .ref a' ∧ H a' = some (.ins Cc dx' fs') ∧ fs'.lookup m = none ∧ P a' := ⟨a, dx, fs, rfl, h, l, q⟩
theorem w_fld0 {f : Str} (h : ta σ H fun x H1 => ∃ a C dx fs v, x = .ref a ∧ H1 a = some (.ins C dx fs) ∧ Cls K C ∧ NoAttr K C f ∧ fs.lookup f = some v ∧ Q v H1) : tFld K ta f σ H Q := h
theorem w_bm {T : String} {rr : V → List V → Hp → VK → Prop} (h : ta σ H fun x H1 => tyV K T x H1 ∧ tA σ H1 fun xs H2 => rr x xs H2 Q) : tBM K T rr ta tA σ H Q := h
theorem w_bm0 {T : String} {rr : V → List V → Hp → VK → Prop} (h : ta σ H fun x H1 => tyV K T x H1 ∧ rr x [] H1 Q) : tBM0 K T rr ta σ H Q := h
theorem w_app {l : Addr} {xs : List V} (h : H l = some (.lst xs)) (hz : xs.length < sizeLine) (q : Q .non (upd H l (.lst (xs ++ [v])))) : rAppend (.ref l) [v] H Q := ⟨l, xs, v, rfl, rfl, h, hz, q⟩
theorem ty_list {l : Addr} {xs : List V} {P : Prop} (h : H l = some (.lst xs)) (q : P) : tyV K "list" (.ref l) H ∧ P := ⟨.inl ⟨rfl, xs, .inl (.inl h)⟩, q⟩
end
section
variable {K : PySem.W.Frag} {σ : L2.St} {H : Hp} {D : Ends} {v x y : V} {n : Nat} {ta tb te : TE} {t u : TS} {tt : TT}
theorem w_seq (h : t { D with nx := u D } σ H) : tSeq t u D σ H := h
theorem w_next (h : D.nx σ H) : tNext D σ H := h
theorem w_brk (h : D.bk σ H) : tBreak D σ H := h
theorem w_cont (h : D.ct σ H) : tCont D σ H := h
theorem w_drop (h : te σ H fun _ H1 => D.nx σ H1) : tDrop te D σ H := h
theorem w_ret (h : te σ H D.rt) : tRet te D σ H := h
theorem w_retN (h : D.rt .non H) : tRetN D σ H := h
theorem w_if (h : tt σ H fun b H1 => if b = true then t D σ H1 else u D σ H1) : tIfS tt t u D σ H := h
theorem w_asg {g : TG} (h : te σ H fun x H1 => g x σ H1 D.nx) : tAsg te g D σ H := h
theorem w_nm {Q : L2.St → Hp → Prop} (h : Q (σ.set n (some v)) H) : gName n v σ H Q := h
theorem w_sub {to ti : TE} {ts : TSet} {Q : L2.St → Hp → Prop} (h : to σ H fun o H1 => ti σ H1 fun i H2 => ts o i v H2 fun H3 => Q σ H3) : gSub to ti ts v σ H Q := h
theorem w_setL {l : Addr} {xs : List V} {k : Int} {j : Nat} {Q : Hp → Prop} (h : H l = some (.lst xs)) (hj : ixN xs.length k = some j) (q : Q (upd H l (.lst (xs.set j v)))) : rSetL (.ref l) (.int k) v H Q := ⟨l, xs, k, j, rfl, rfl, h, hj, q⟩
theorem w_sfld {f : Str} (h : tb σ H fun y H1 => ta σ H1 fun x H2 => ∃ a C dx fs, x = .ref a ∧ H2 a = some (.ins C dx fs) ∧ Cls K C ∧ NoAttr K C f ∧ fs.length < 1000 ∧ D.nx σ (upd H2 a (.ins C dx (putF f y fs)))) : sFld K ta tb f D σ H := h
theorem w_sput {f : Str} {a C dx : Addr} {fs fs' : List (Str × V)} (h : H a = some (.ins C dx fs)) (c : Cls K C) (na : NoAttr K C f) (e : putF f y fs = fs') (l : Nat.blt fs.length 1000 = true) (q : D.nx σ (upd H a (.ins C dx fs'))) :
    ∃ a' C' dx' fs0, V.ref a = .ref a' ∧ H a' = some (.ins C' dx' fs0) ∧ Cls K C' ∧ NoAttr K C' f ∧ fs0.length < 1000 ∧ D.nx σ (upd H a' (.ins C' dx' (putF f y fs0))) := ⟨a, C, dx, fs, rfl, h, c, na, Nat.le_of_ble_eq_true l, by rw [e]; exact q⟩
theorem w_sfa {f : Str} {rd : V → V → Hp → VK → Prop} (h : ta σ H fun x H1 => ∃ a C dx fs v, x = .ref a ∧ H1 a = some (.ins C dx fs) ∧ Cls K C ∧ NoAttr K C f ∧ fs.lookup f = some v ∧
  tb σ H1 fun y H2 => rd v y H2 fun z H3 => ∃ dx' fs', H3 a = some (.ins C dx' fs') ∧ fs'.length < 1000 ∧ D.nx σ (upd H3 a (.ins C dx' (putF f z fs')))) : sFldAug K ta tb rd f D σ H := h
theorem w_sput2 {f : Str} {a C dx : Addr} {fs fs' : List (Str × V)} (h : H a = some (.ins C dx fs)) (e : putF f y fs = fs') (l : Nat.blt fs.length 1000 = true) (q : D.nx σ (upd H a (.ins C dx fs'))) :
    ∃ dx' fs0, H a = some (.ins C dx' fs0) ∧ fs0.length < 1000 ∧ D.nx σ (upd H a (.ins C dx' (putF f y fs0))) := ⟨dx, fs, h, Nat.le_of_ble_eq_true l, by rw [e]; exact q⟩
theorem w_radd {i j : Int} {Q : VK} (q : Q (.int (i + j)) H) : L2.rAdd (.int i) (.int j) H Q := ⟨i, j, rfl, rfl, q⟩
theorem w_rsub {i j : Int} {Q : VK} (q : Q (.int (i - j)) H) : L2.rSub (.int i) (.int j) H Q := ⟨i, j, rfl, rfl, q⟩
theorem w_aug {te : TE} {ti : TIp} (hx : σ[n]? = some (some x)) (h : te σ H fun y H1 => ti x y H1 fun z H2 => D.nx (σ.set n (some z)) H2) : tAug n te ti D σ H := ⟨x, hx, h⟩
theorem w_ip {f : Int → Int → Int} {i j : Int} {Q : VK} (q : Q (.int (f i j)) H) : ipI f (.int i) (.int j) H Q := ⟨i, j, rfl, rfl, q⟩
theorem w_rs {C : Addr} {W : WX} (h : W (.ref C) none σ H) : tRs C W D σ H := h
theorem w_par {i j : Nat} {tA : TA} (h : tA σ H fun vs H1 => ∃ v w, vs = [v, w] ∧ D.nx ((σ.set i (some v)).set j (some w)) H1) : tPar i j tA D σ H := h
/-! ### ifs -/
theorem if_d {p : Prop} [Decidable p] {A B : Prop} (h1 : p → A) (h2 : ¬ p → B) : if decide p = true then A else B := by
  by_cases h : p
  · rw [decide_eq_true h]; exact h1 h
  · rw [decide_eq_false h]; exact h2 h
theorem if_nd {p : Prop} [Decidable p] {A B : Prop} (h1 : ¬ p → A) (h2 : p → B) : if (!decide p) = true then A else B := by
  by_cases h : p
  · rw [decide_eq_true h]; exact h2 h
  · rw [decide_eq_false h]; exact h1 h
theorem if_T {A B : Prop} (h : A) : if true = true then A else B := h
theorem if_F {A B : Prop} (h : B) : if false = true then A else B := h
theorem if_nT {A B : Prop} (h : B) : if (!true) = true then A else B := h
theorem if_nF {A B : Prop} (h : A) : if (!false) = true then A else B := h
theorem if_b {b : Bool} {A B : Prop} (h1 : b = true → A) (h2 : b = false → B) : if b = true then A else B := by
  cases b
  · exact h2 rfl
  · exact h1 rfl
end
/-! ### loops -/
section
variable {K : PySem.W.Frag} {g : TG} {tb : TS} {D : Ends} {σ : L2.St} {H : Hp} {tA : TA} {tl : TE}
def LoopL (K : PySem.W.Frag) (a : Addr) (g : TG) (tb : TS) (D : Ends) (σ : L2.St) (H : Hp) : Prop := (∃ xs, SqL K H a xs) ∧ ∃ W : Nat → Nat → L2.St → Hp → Prop, (∃ m, W 0 m σ H) ∧ ∀ i m σ H, W i m σ H →
  ((Itl K a).stop i H ∧ D.nx σ H) ∨ ((Itl K a).go i H ∧ ∃ N : L2.St → Hp → Prop, (∀ σ' H', N σ' H' → ∃ m', m' < m ∧ W (i + 1) m' σ' H') ∧ ∀ x H', (Itl K a).yld i H x H' → g x σ H' fun σ2 H2 => tb { D with nx := N, ct := N, bk := D.nx } σ2 H2)
def LoopT (K : PySem.W.Frag) (a : Addr) (g : TG) (tb : TS) (D : Ends) (σ : L2.St) (H : Hp) : Prop := (∃ xs, SqT K H a xs) ∧ ∃ W : Nat → Nat → L2.St → Hp → Prop, (∃ m, W 0 m σ H) ∧ ∀ i m σ H, W i m σ H →
  ((Itt K a).stop i H ∧ D.nx σ H) ∨ ((Itt K a).go i H ∧ ∃ N : L2.St → Hp → Prop, (∀ σ' H', N σ' H' → ∃ m', m' < m ∧ W (i + 1) m' σ' H') ∧ ∀ x H', (Itt K a).yld i H x H' → g x σ H' fun σ2 H2 => tb { D with nx := N, ct := N, bk := D.nx } σ2 H2)
/-- the same words by names -/
def rLoop1 (g : TG) (tb : TS) (D : Ends) (σ : L2.St) (vs : List V) (H1 : Hp) : Prop := ∃ j : Int, vs = [.int j] ∧ -(2 ^ 62) ≤ j ∧ j < 2 ^ 62 ∧ ∃ W : Nat → Nat → L2.St → Hp → Prop, (∃ m, W 0 m σ H1) ∧ ∀ i m σ H, W i m σ H →
  ((Itr 0 j.toNat).stop i H ∧ D.nx σ H) ∨ ((Itr 0 j.toNat).go i H ∧ ∃ N : L2.St → Hp → Prop, (∀ σ' H', N σ' H' → ∃ m', m' < m ∧ W (i + 1) m' σ' H') ∧ ∀ x H', (Itr 0 j.toNat).yld i H x H' → g x σ H' fun σ2 H2 => tb { D with nx := N, ct := N, bk := D.nx } σ2 H2)
def rLoop2 (g : TG) (tb : TS) (D : Ends) (σ : L2.St) (vs : List V) (H1 : Hp) : Prop := ∃ i j : Int, vs = [.int i, .int j] ∧ (-(2 ^ 62) ≤ i ∧ i < 2 ^ 62 ∧ -(2 ^ 62) ≤ j ∧ j < 2 ^ 62) ∧ ∃ W : Nat → Nat → L2.St → Hp → Prop, (∃ m, W 0 m σ H1) ∧ ∀ k m σ H, W k m σ H →
  ((Itr i (j - i).toNat).stop k H ∧ D.nx σ H) ∨ ((Itr i (j - i).toNat).go k H ∧ ∃ N : L2.St → Hp → Prop, (∀ σ' H', N σ' H' → ∃ m', m' < m ∧ W (k + 1) m' σ' H') ∧ ∀ x H', (Itr i (j - i).toNat).yld k H x H' → g x σ H' fun σ2 H2 => tb { D with nx := N, ct := N, bk := D.nx } σ2 H2)
def rLoopL (K : PySem.W.Frag) (g : TG) (tb : TS) (D : Ends) (σ : L2.St) (x : V) (H1 : Hp) : Prop := ∃ a, x = .ref a ∧ LoopL K a g tb D σ H1
def rLoopT (K : PySem.W.Frag) (g : TG) (tb : TS) (D : Ends) (σ : L2.St) (x : V) (H1 : Hp) : Prop := ∃ a, x = .ref a ∧ LoopT K a g tb D σ H1
theorem w_forR1 (h : tA σ H fun vs H1 => rLoop1 g tb D σ vs H1) : tFor (iRng1 tA) g tb D σ H := h
theorem w_forR2 (h : tA σ H fun vs H1 => rLoop2 g tb D σ vs H1) : tFor (iRng2 tA) g tb D σ H := h
theorem w_forL (h : tl σ H fun x H1 => rLoopL K g tb D σ x H1) : tFor (iList K tl) g tb D σ H := h
theorem w_forT (h : tl σ H fun x H1 => rLoopT K g tb D σ x H1) : tFor (iTup K tl) g tb D σ H := h
/-- for i in range(n), n a Nat -/
theorem loop1 {n : Nat} (Pv : Nat → L2.St → Hp → Prop) {j : Int} (hj : j = (n : Int)) (hn : n < 4000000000) (h0 : Pv 0 σ H)
    (hs : ∀ i σ H, i < n → Pv i σ H → g (.int (i : Int)) σ H fun σ2 H2 => tb { D with nx := Pv (i + 1), ct := Pv (i + 1), bk := D.nx } σ2 H2) (hd : ∀ σ H, Pv n σ H → D.nx σ H) : rLoop1 g tb D σ [.int j] H := by
  subst hj
  refine ⟨(n : Int), rfl, by omega, by omega, for_range (lo := 0) (n := (n : Int).toNat) Pv h0 (fun i σ H hi p => ?_) (fun σ H p => hd σ H ?_)⟩
  · have e : (0 : Int) + (i : Int) = (i : Int) := Int.zero_add _
    rw [e]
    exact hs i σ H (by omega) p
  · have e : (n : Int).toNat = n := Int.toNat_natCast n
    rw [e] at p
    exact p
theorem loop2 {lo hi : Int} (Pv : Nat → L2.St → Hp → Prop) (hn : -4000000000 < lo ∧ lo < 4000000000 ∧ -4000000000 < hi ∧ hi < 4000000000) (h0 : Pv 0 σ H)
    (hs : ∀ (i : Nat) σ H, lo + i < hi → Pv i σ H → g (.int (lo + i)) σ H fun σ2 H2 => tb { D with nx := Pv (i + 1), ct := Pv (i + 1), bk := D.nx } σ2 H2) (hd : ∀ σ H, Pv (hi - lo).toNat σ H → D.nx σ H) : rLoop2 g tb D σ [.int lo, .int hi] H := by
  refine ⟨lo, hi, rfl, ⟨by omega, by omega, by omega, by omega⟩, for_range (lo := lo) (n := (hi - lo).toNat) Pv h0 (fun i σ H hi' p => hs i σ H (by omega) p) (fun σ H p => hd σ H p)⟩
theorem loopL {a : Addr} {xs : List V} (Pv : Nat → L2.St → Hp → Prop) (hx : SqL K H a xs) (h0 : Pv 0 σ H) (hl : ∀ i σ H, i ≤ xs.length → Pv i σ H → SqL K H a xs)
    (hs : ∀ i x σ H, xs[i]? = some x → Pv i σ H → g x σ H fun σ2 H2 => tb { D with nx := Pv (i + 1), ct := Pv (i + 1), bk := D.nx } σ2 H2) (hd : ∀ σ H, Pv xs.length σ H → D.nx σ H) : rLoopL K g tb D σ (.ref a) H := ⟨a, rfl, ⟨_, hx⟩, for_list Pv h0 hl hs hd⟩
theorem loopT {a : Addr} {xs : List V} (Pv : Nat → L2.St → Hp → Prop) (hx : SqT K H a xs) (h0 : Pv 0 σ H) (hl : ∀ i σ H, i ≤ xs.length → Pv i σ H → SqT K H a xs)
    (hs : ∀ i x σ H, xs[i]? = some x → Pv i σ H → g x σ H fun σ2 H2 => tb { D with nx := Pv (i + 1), ct := Pv (i + 1), bk := D.nx } σ2 H2) (hd : ∀ σ H, Pv xs.length σ H → D.nx σ H) : rLoopT K g tb D σ (.ref a) H := ⟨a, rfl, ⟨_, hx⟩, for_tup Pv h0 hl hs hd⟩
end
/-! ### heaps -/
theorem up_k {H : Hp} {a b : Addr} {o u : HO} (h : H b = some u) (n : b ≠ a) : upd H a o b = some u := (upd_ne n).trans h
theorem up_n {H : Hp} {a b : Addr} {o u : HO} (h : H b = some u) (n : H a = none) : upd H a o b = some u := up_k h (ne_of_none h n)
theorem same_new {H : Hp} {a : Addr} {o : HO} (n : H a = none) : Same H (upd H a o) := fun _ _ e => up_n e n
theorem same_trans_new {H H1 : Hp} {a : Addr} {o : HO} (s : Same H H1) (n : H1 a = none) : Same H (upd H1 a o) := fun b u e => up_n (s b u e) n
theorem seqL_new {K : PySem.W.Frag} {H : Hp} {a b : Addr} {o : HO} {xs : List V} (h : SqL K H b xs) (n : H a = none) : SqL K (upd H a o) b xs := (same_new n).seq h
theorem seqL_put {K : PySem.W.Frag} {H : Hp} {a b : Addr} {o : HO} {xs : List V} (h : SqL K H b xs) (n : a ≠ b) : SqL K (upd H a o) b xs := by
  rcases h with (h | ⟨u, h⟩) | h
  · exact .inl (.inl (up_k h n.symm))
  · exact .inl (.inr ⟨u, up_k h n.symm⟩)
  · exact .inr h
end G
namespace G
open PySem PySem.Spec PyProof.Rows L2
/-! ### the script, which nobody writes -/
/-- a list that stands still: frozen, or of the written part -/
def Scr (K : PySem.W.Frag) (H : Hp) (a : Addr) (xs : List V) : Prop := (∃ o, H a = some (.frz o (.lst xs))) ∨
    ∃ (o : Obj) (its : Array Value) (n : Nat), K.lookup a = some o ∧ o.cls = .type "list" ∧ o.dict = none ∧ o.data = .seq its n ∧ its.size ≤ sizeLine ∧ Vals xs its.toList
section
variable {K : PySem.W.Frag} {H H' : Hp} {a q : Addr} {xs : List V} {o : HO}
theorem Scr.sq (h : Scr K H a xs) : SqL K H a xs := by
  rcases h with ⟨o, h⟩ | h
  · exact .inl (.inr ⟨o, h⟩)
  · exact .inr h
theorem Scr.same (h : Scr K H a xs) (s : Same H H') : Scr K H' a xs := by
  rcases h with ⟨o, h⟩ | h
  · exact .inl ⟨o, s _ _ h⟩
  · exact .inr h
theorem Scr.of (hO : Only H) (h : SqL K H a xs) : Scr K H a xs := by
  rcases h with (h | ⟨o, h⟩) | h
  · rcases hO a with e | ⟨o, ys, e⟩
    · rw [e] at h; cases h
    · rw [e] at h; cases h
  · exact .inl ⟨o, h⟩
  · exact .inr h
theorem Scr.new (h : Scr K H a xs) (n : H q = none) : Scr K (upd H q o) a xs := h.same (same_new n)
/-- not frozen -/
def Thw (H : Hp) (q : Addr) : Prop := ∀ o u, H q ≠ some (.frz o u)
theorem Thw.lst {xs : List V} (h : H q = some (.lst xs)) : Thw H q := fun _ _ e => by rw [h] at e; cases e
theorem Thw.ins {C dx : Addr} {fs : List (Str × V)} (h : H q = some (.ins C dx fs)) : Thw H q := fun _ _ e => by rw [h] at e; cases e
theorem Scr.put (h : Scr K H a xs) (n : Thw H q) : Scr K (upd H q o) a xs := by
  rcases h with ⟨u, h⟩ | h
  · refine .inl ⟨u, up_k h ?_⟩
    intro e
    subst e
    exact n _ _ h
  · exact .inr h
/-- written objects are not frozen: what was frozen stays so -/
def FrzIn (H H' : Hp) : Prop := ∀ b o u, H b = some (.frz o u) → H' b = some (.frz o u)
theorem Scr.frz (h : Scr K H a xs) (s : FrzIn H H') : Scr K H' a xs := by
  rcases h with ⟨o, h⟩ | h
  · exact .inl ⟨o, s _ _ _ h⟩
  · exact .inr h
end
theorem up_none {H : Hp} {a b : Addr} {o : HO} (h : upd H a o b = none) : b ≠ a ∧ H b = none := by
  by_cases e : b = a
  · subst e; rw [upd_same] at h; cases h
  · rw [upd_ne e] at h; exact ⟨e, h⟩
theorem none_up {H : Hp} {a b : Addr} {o : HO} (n : b ≠ a) (h : H b = none) : upd H a o b = none := (upd_ne n).trans h
theorem if_yes {p : Prop} [Decidable p] {A B : Prop} (h : p) (q : A) : if decide p = true then A else B := by rw [decide_eq_true h]; exact q
theorem if_no {p : Prop} [Decidable p] {A B : Prop} (h : ¬ p) (q : B) : if decide p = true then A else B := by rw [decide_eq_false h]; exact q
theorem if_nyes {p : Prop} [Decidable p] {A B : Prop} (h : ¬ p) (q : A) : if (!decide p) = true then A else B := by rw [decide_eq_false h]; exact q
theorem if_nno {p : Prop} [Decidable p] {A B : Prop} (h : p) (q : B) : if (!decide p) = true then A else B := by rw [decide_eq_true h]; exact q
end G

namespace G
open PySem PySem.Spec PyProof.Rows L2
theorem w_cut {t u : TS} {D : Ends} {σ : L2.St} {H : Hp} (Mid : L2.St → Hp → Prop) (h : t { D with nx := Mid } σ H) (k : ∀ σ' H', Mid σ' H' → u D σ' H') : Evl.tCut t u D σ H := ⟨Mid, h, k⟩
theorem ixN_of {n j : Nat} {k : Int} (e : k = (j : Int)) (h : j < n) : ixN n k = some j := by
  subst e
  unfold ixN
  rw [if_pos (by omega), if_pos (by omega)]; simp
end G

namespace G
open PySem PySem.Spec PyProof.Rows L2
/-! the same, the cheap question first -/
section
variable {K : PySem.W.Frag} {H : Hp} {a b q : Addr} {o u : HO} {xs : List V}
theorem up_k' (n : b ≠ a) (h : H b = some u) : upd H a o b = some u := up_k h n
theorem scr_new' (n : H q = none) (h : Scr K H a xs) : Scr K (upd H q o) a xs := h.new n
theorem scr_put' (n : Thw H q) (h : Scr K H a xs) : Scr K (upd H q o) a xs := h.put n
theorem sq_new' (n : H a = none) (h : SqL K H b xs) : SqL K (upd H a o) b xs := seqL_new h n
theorem sq_put' (n : a ≠ b) (h : SqL K H b xs) : SqL K (upd H a o) b xs := seqL_put h n
end
end G

namespace G
open PySem PySem.Spec PyProof.Rows L2
section
variable {H : Hp} {Q : VK} {i : Int} {a : Addr} {b : Bool} {z : Str}
theorem w_isN0 (q : Q (.bl true) H) : rIsN .non .non H Q := ⟨rfl, q⟩
theorem w_isNi (q : Q (.bl false) H) : rIsN (.int i) .non H Q := ⟨rfl, q⟩
theorem w_isNr (q : Q (.bl false) H) : rIsN (.ref a) .non H Q := ⟨rfl, q⟩
theorem w_isNb (q : Q (.bl false) H) : rIsN (.bl b) .non H Q := ⟨rfl, q⟩
theorem w_isNs (q : Q (.bl false) H) : rIsN (.str z) .non H Q := ⟨rfl, q⟩
theorem w_notN0 (q : Q (.bl false) H) : rNotN .non .non H Q := ⟨rfl, q⟩
theorem w_notNi (q : Q (.bl true) H) : rNotN (.int i) .non H Q := ⟨rfl, q⟩
theorem w_notNr (q : Q (.bl true) H) : rNotN (.ref a) .non H Q := ⟨rfl, q⟩
theorem w_notNb (q : Q (.bl true) H) : rNotN (.bl b) .non H Q := ⟨rfl, q⟩
theorem w_notNs (q : Q (.bl true) H) : rNotN (.str z) .non H Q := ⟨rfl, q⟩
end
end G

/-! properties, own ==, isinstance, further facts of the head -/
namespace G
open PySem PySem.Spec PyProof.Rows L2

/-! ### the Hook with getters and any Bool facts -/
/-- where a property's getter stands -/
def prA (K : PySem.W.Frag) (C f : Str) : Addr := match PySem.W.recIn K (He.ma K (He.ga K C) f) "property" with
  | some (.ref g :: _) => g
  | _ => 0
structure Pr where
  cls : Str
  fld : Str
  d : He.DefD
def fnWA (K : PySem.W.Frag) (a : Addr) : He.FnW := match K.lookup a with
  | some ⟨_, _, .func fd, _⟩ => some (fd.name, fd.qualname, fd.params, fd.body, fd.scope, fd.globals, fd.closure, fd.builtins)
  | _ => none
def okA (K : PySem.W.Frag) (a : Addr) (d : He.DefD) : Bool := PySem.W.keepIn K (.ref a) && (match K.lookup a with
  | some ⟨_, _, .func fd, _⟩ => PySem.W.codeIn K fd.code d.qual && (He.dflB K fd.defaults (d.dvs K) && He.kwdB K fd.kwdefaults (d.kws K))
  | _ => false)
theorem funD_A {K : PySem.W.Frag} {d : He.DefD} {a : Addr} (e : fnWA K a = d.val) (c : okA K a d = true) : ∃ fd, FunD K d.name d.qual d.params d.body d.scope (d.dvs K) (d.kws K) a fd := by
  obtain ⟨kp, c2⟩ := He.ba c
  unfold fnWA at e
  cases q : K.lookup a with
  | none =>
    rw [q] at c2
    cases c2
  | some o =>
    obtain ⟨oc, od, dt, osl⟩ := o
    rw [q] at c2 e
    cases dt with
    | func fd =>
      obtain ⟨n1, n2, n3, n4, n5, n6, n7, n8, n9, n10, n11, n12, n13, n14, n15⟩ := fd
      have e2 : (some (n1, n2, n3, n4, n5, n6, n7, n15) : He.FnW) = some (d.name, d.qual, d.params, .stmts d.body, d.scope, mainGlobals, [], builtinsNs) := e
      simp only [Option.some.injEq, Prod.mk.injEq] at e2
      obtain ⟨h1, h2, h3, h4, h5, h6, h7, h8⟩ := e2
      subst h1 h2 h3 h4 h5 h6 h7 h8
      have c3 : (PySem.W.codeIn K n13 d.qual && (He.dflB K n8 (d.dvs K) && He.kwdB K n9 (d.kws K))) = true := c2
      obtain ⟨k1, k2⟩ := He.ba c3
      obtain ⟨k3, k4⟩ := He.ba k2
      exact ⟨_, ⟨oc, od, n8, n9, n10, n11, n12, n13, n14, osl, rfl, q, k1, He.dflB_ok k3, He.kwdB_ok k4⟩, kp⟩
    | _ => cases c2
def Pr.ok (K : PySem.W.Frag) (p : Pr) : Bool :=
  He.eqO (PySem.W.findIn K (.ref (He.ga K p.cls)) p.fld) (some (some (.ref (He.ma K (He.ga K p.cls) p.fld)))) &&
  (He.eqO (PySem.W.specialIn K (.ref (He.ma K (He.ga K p.cls) p.fld)) "__get__") (some (some (.builtin "property.__get__"))) &&
  (decide (PySem.W.takesIn K (.ref (He.ma K (He.ga K p.cls) p.fld)) = some true) &&
  ((match PySem.W.recIn K (He.ma K (He.ga K p.cls) p.fld) "property" with
    | some (.ref _ :: _) => true
    | _ => false) && okA K (prA K p.cls p.fld) p.d)))
theorem Pr.prop {K : PySem.W.Frag} {p : Pr} (h : p.ok K = true) : PropOf K (He.ga K p.cls) p.fld (He.ma K (He.ga K p.cls) p.fld) (prA K p.cls p.fld) ∧ okA K (prA K p.cls p.fld) p.d = true := by
  obtain ⟨h1, h⟩ := He.ba h
  obtain ⟨h2, h⟩ := He.ba h
  obtain ⟨h3, h⟩ := He.ba h
  obtain ⟨h4, h5⟩ := He.ba h
  refine ⟨⟨He.eqO_ok h1, He.eqO_ok h2, of_decide_eq_true h3, ?_⟩, h5⟩
  unfold prA
  split at h4
  · rename_i g rest q
    rw [q]
    exact ⟨rest, rfl⟩
  · cases h4

abbrev AlB : Type := (He.AlD × List He.FnW) × Bool
abbrev Ex : Type := PySem.W.Frag → Bool
def obsB (fa : List He.Fa) (fn : List He.DefD) (pr : List Pr) (ex : List Ex) (K : PySem.W.Frag) : AlB := ((He.obsD fa fn K, pr.map fun p => fnWA K (prA K p.cls p.fld)), (pr.all fun p => p.ok K) && ex.all fun f => f K)
def valB (fn : List He.DefD) (pr : List Pr) : AlB := ((He.valD fn, pr.map fun p => p.d.val), true)
def SaysB (fa : List He.Fa) (fn : List He.DefD) (pr : List Pr) (ex : List Ex) (K : PySem.W.Frag) : Prop := obsB fa fn pr ex K = valB fn pr
def obsBG (n : Nat) (fa : List He.Fa) (fn : List He.DefD) (pr : List Pr) (ex : List Ex) (g : Addr → Option Obj) : AlB := obsB fa fn pr ex (He.frG g (He.asD g n))
def hookB (n : Nat) (fa : List He.Fa) (fn : List He.DefD) (pr : List Pr) (ex : List Ex) : PySem.W.Hook where
  α := AlB
  obs := fun s => obsBG n fa fn pr ex s.heap.get?
  val := fun _ => valB fn pr
  says := fun _ h => ∃ K : PySem.W.Frag, K.In h ∧ SaysB fa fn pr ex K
  of := fun _ _ e => ⟨_, He.frG_in, e⟩
  keeps := fun _ _ _ ⟨K, hK, c⟩ k => ⟨K, PySem.W.Frag.In.keeps hK k, c⟩
theorem obsBG_eq {n : Nat} {fa : List He.Fa} {fn : List He.DefD} {pr : List Pr} {ex : List Ex} {g : Addr → Option Obj} {s : Shared} (h : ∀ a, g a = s.heap.get? a) : obsBG n fa fn pr ex g = (hookB n fa fn pr ex).obs s := by
  have e : g = s.heap.get? := funext h
  rw [e] <;> rfl
section
variable {fa : List He.Fa} {fn : List He.DefD} {pr : List Pr} {ex : List Ex} {K : PySem.W.Frag}
theorem SaysB.d (c : SaysB fa fn pr ex K) : He.SaysD fa fn K := congrArg (fun z : AlB => z.1.1) c
theorem SaysB.ex_ (c : SaysB fa fn pr ex K) (i : Nat) {f : Ex} (h : ex[i]? = some f := by rfl) : f K = true := by
  have c1 := (He.ba (show ((pr.all fun p => p.ok K) && ex.all fun f => f K) = true from congrArg (fun z : AlB => z.2) c)).2
  exact List.all_eq_true.mp c1 f (List.mem_of_getElem? h)
theorem SaysB.pr_ (c : SaysB fa fn pr ex K) (i : Nat) {p : Pr} (h : pr[i]? = some p := by rfl) :
    PropOf K (He.ga K p.cls) p.fld (He.ma K (He.ga K p.cls) p.fld) (prA K p.cls p.fld) ∧ ∃ fd, FunD K p.d.name p.d.qual p.d.params p.d.body p.d.scope (p.d.dvs K) (p.d.kws K) (prA K p.cls p.fld) fd := by
  have c1 := (He.ba (show ((pr.all fun p => p.ok K) && ex.all fun f => f K) = true from congrArg (fun z : AlB => z.2) c)).1
  obtain ⟨a, b⟩ := Pr.prop (List.all_eq_true.mp c1 p (List.mem_of_getElem? h))
  have e : pr.map (fun p => fnWA K (prA K p.cls p.fld)) = pr.map fun p => p.d.val := congrArg (fun z : AlB => z.1.2) c
  have e2 : (pr.map fun p => fnWA K (prA K p.cls p.fld))[i]? = (pr.map fun p => p.d.val)[i]? := by rw [e]
  rw [List.getElem?_map, List.getElem?_map, h] at e2
  exact ⟨a, funD_A (Option.some.inj e2) b⟩
end
/-- the head's facts, with getters and Bools -/
structure TxB (fa : List He.Fa) (fn : List He.DefD) (pr : List Pr) (ex : List Ex) (K : PySem.W.Frag) (mg : Str → Option Value) (base : Heap) : Prop extends Tx fa fn K mg base where
  b : SaysB fa fn pr ex K

/-! ### properties -/
section
variable (P : Program) (w : World) (K : PySem.W.Frag) (mg : Str → Option Value) (base : Heap)
structure HasP (k : Nat) (c f : Str) (ps : List Str) (sp : Sp) : Prop where
  cl : Cls K (He.ga K c)
  pr : PropOf K (He.ga K c) f (He.ma K (He.ga K c) f) (prA K c f)
  ex : ∃ fd, FnOk P w K mg base (L2.CX P w) k (prA K c f) fd ps sp ∧ Binds K fd ps []
end
theorem HasP.mono {P : Program} {w : World} {K : PySem.W.Frag} {mg : Str → Option Value} {base : Heap} {j k : Nat} {c f : Str} {ps : List Str} {sp : Sp} (h : HasP P w K mg base j c f ps sp) (l : j ≤ k) : HasP P w K mg base k c f ps sp :=
  ⟨h.cl, h.pr, let ⟨fd, F, b⟩ := h.ex; ⟨fd, F.mono l, b⟩⟩
/-- e.f -/
def tPr (C : Addr) (sp : Sp) (ta : TE) : TE := fun σ H Q => ta σ H fun x H1 => ∃ a dx fs, x = .ref a ∧ H1 a = some (.ins C dx fs) ∧ sp [.ref a] H1 Q E0
section
variable {X : Cx} {k : Nat} {C p g a dx : Addr} {fs : List (Str × V)} {c f : Str} {fd : FuncData} {ps : List Str} {sp : Sp} {E : L2.St → XK} {e : Expr} {pos : Pos} {ta : TE}
theorem getprop_okS {pins : List (Addr × Obj)} {σ : L2.St} {H : Hp} {s : Shared} {Q : VK} {b : Bool} (I : Inv X pins σ H s) (ea : H a = some (.ins C dx fs)) (c : Cls X.K C) (hp : PropOf X.K C f p g)
    (F : FnOk X.prog X.w X.K X.mg X.base (XC X) k g fd ps sp) (hr : Room (k + 1) X.A) (hb : Binds X.K fd ps []) (h : sp [.ref a] H Q E0) :
    wpAny (model X.prog X.w) X.A (getAttr (.ref a) f b) (EP X pins σ Q) X.xe s := by
  obtain ⟨mA, O, _, _, _, _⟩ := ins_get I.hok ea
  obtain ⟨od, J, _⟩ := O.look
  obtain ⟨rest, hrec⟩ := hp.rec_
  have I1 := I.tok (s.toks + 1)
  have hl : ([Value.ref a] ++ ([] : List Value)).length = ps.length := by
    rw [← F.len _ _ _ _ h]
    rfl
  have hc : (PySem.W.clsIn X.K C).isSome = true := by
    obtain ⟨cd, hc, _⟩ := PySem.W.any_some c.hd
    rw [hc]
    rfl
  refine PySem.W.get_bind I.kIn J (PySem.W.plainGet_of (c.get f)).1 (PySem.W.findObj_data hc hp.at_ hp.get hp.tak) (PySem.W.plainGet_of (c.get f)).2 (wpAny_call (PySem.W.prop_get (s := { s with toks := s.toks + 1 }) I.kIn hrec ?_))
  refine codeAny_mono (F.run X.A.in1 X.stack { s with toks := s.toks + 1 } H ⟨[.ref a], []⟩ [.ref a] [.ref a] Q E0 hr.in1 I1.env0.in1 (hb _ [.ref a] I1.kIn hl) (.cons rfl .nil) h) fun r s' hq => ?_
  cases r with
  | error er =>
    obtain ⟨_, _, _, _, _, _, _, _, _, _, _, _, z⟩ := hq
    exact z.elim
  | ok fl =>
    cases fl with
    | ret u =>
      obtain ⟨v, H', I3, rv, q3⟩ := I1.after hq
      show wpAny _ _ (handedOut u) _ _ _
      rw [PySem.W.handedOut_of (handed_of rv)]
      exact wpAny_pure ⟨v, H', I3, rv, q3⟩
    | next => exact False.elim hq
    | brk => exact False.elim hq
    | cont => exact False.elim hq
theorem pe_pr (he : PE X e ta) (h : HasP X.prog X.w X.K X.mg X.base k c f ps sp) (hr : Room (k + 1) X.A)
    (hab : attributeBase e f X.env (eval e X.env) = eval e X.env := by rfl) : PE X (.Attribute e f pos) (tPr (He.ga X.K c) sp ta) := by
  obtain ⟨fd, F, b⟩ := h.ex
  refine ⟨fun pins s σ H Q I hh => ?_⟩
  refine attr_of hab (thn (he.run pins s σ H _ I hh) fun u s1 ⟨x, H1, I1, rx, a, dx, fs, ex, ea, q⟩ => ?_)
  subst ex
  obtain rfl : u = Value.ref a := rx
  exact getprop_okS I1 ea h.cl h.pr F hr b q
end
theorem mk_hasP {P : Program} {w : World} {K : PySem.W.Frag} {mg : Str → Option Value} {base : Heap} {k : Nat} {c m name qual : Str} {params : Arguments} {body : List Stmt} {scope : Scope} {N ps : List Str} {sp : Sp} (cl : Cls K (He.ga K c))
    (F : PropOf K (He.ga K c) m (He.ma K (He.ga K c) m) (prA K c m) ∧ ∃ fd, FunD K name qual params body scope [] [] (prA K c m) fd) (S : FnScope N ps scope)
    (hb : ∀ (kV doc pm : Value) (an : Option Addr) (cdv ct : Value) (us : List Value), us.length = ps.length → bindArgs (PySem.W.fnOf name qual params body scope .none kV doc pm an cdv ct) ⟨us, []⟩ = pure (ps.zip us))
    (len : ∀ vs H Q E, sp vs H Q E → vs.length = ps.length) (hbody : Body P w K mg base k N qual scope (prA K c m) body sp) : HasP P w K mg base (k + 1) c m ps sp := by
  obtain ⟨pr, fd, F⟩ := F
  exact ⟨cl, pr, fd, FunD.ok (CX := L2.CX P w) F S len hbody, F.bindsN hb⟩
section
variable {K : PySem.W.Frag} {σ : L2.St} {H : Hp} {Q : VK} {ta : TE}
theorem w_pr {C : Addr} {sp : Sp} (h : ta σ H fun x H1 => ∃ a dx fs, x = .ref a ∧ H1 a = some (.ins C dx fs) ∧ sp [.ref a] H1 Q E0) : tPr C sp ta σ H Q := h
theorem w_pr1 {a C dx : Addr} {fs : List (Str × V)} {P : Addr → Prop} (h : H a = some (.ins C dx fs)) (q : P a) : ∃ a' dx' fs', V.ref a = .ref a' ∧ H a' = some (.ins C dx' fs') ∧ P a' := ⟨a, dx, fs, rfl, h, q⟩
end

/-! ### own == -/
/-- what the right side of == may be: its type -/
def tyR (K : PySem.W.Frag) (H : Hp) (y : V) (t : Value) : Prop := (∃ C dx fs b, y = .ref b ∧ H b = some (.ins C dx fs) ∧ t = .ref C) ∨ ((∃ i, y = .int i) ∧ t = .type "int") ∨ (y = .non ∧ t = .type "NoneType") ∨ ((∃ x, y = .str x) ∧ t = .type "str") ∨
  ((∃ b, y = .bl b) ∧ t = .type "bool") ∨ (∃ a xs, y = .ref a ∧ H a = some (.lst xs) ∧ t = .type "list") ∨ (∃ a xs, y = .ref a ∧ H a = some (.tup xs) ∧ t = .type "tuple")
def rOwn (K : PySem.W.Frag) (C : Addr) (sp : Sp) : R2 := fun x y H Q => ∃ a dx fs t, x = .ref a ∧ H a = some (.ins C dx fs) ∧ tyR K H y t ∧ PySem.W.notFirst K C t = true ∧ sp [.ref a, y] H (fun v H' => ∃ b, v = .bl b ∧ Q (.bl b) H') E0
section
variable {X : Cx} {k : Nat} {c : Str} {ps : List Str} {sp : Sp}
theorem op_own (h : HasM X.prog X.w X.K X.mg X.base k c "__eq__" ps sp) (hr : Room k X.A) : OpR X (compareOp .Eq) (rOwn X.K (He.ga X.K c) sp) := by
  intro pins s σ H x y v u Q I rx ry hq
  obtain ⟨fd, F, hb⟩ := h.ex
  obtain ⟨a, dx, fs, t, ex, ea, ty, nf, q⟩ := hq
  subst ex
  obtain rfl : v = Value.ref a := rx
  obtain ⟨mA, J, _⟩ := ins_get I.hok ea
  obtain ⟨od, J, _⟩ := J.look
  obtain ⟨m, hF⟩ := I.fr
  have L : PySem.W.Looks (model X.prog X.w) s.heap (typeOf u) t := by
    rcases ty with ⟨C', dy, gs, b, rfl, eb, rfl⟩ | ⟨⟨i, rfl⟩, rfl⟩ | ⟨rfl, rfl⟩ | ⟨⟨i, rfl⟩, rfl⟩ | ⟨⟨i, rfl⟩, rfl⟩ | ⟨b, xs, rfl, eb, rfl⟩ | ⟨b, xs, rfl, eb, rfl⟩
    · obtain rfl : u = Value.ref b := ry
      obtain ⟨mB, J', _⟩ := ins_get I.hok eb
      obtain ⟨od', J', _⟩ := J'.look
      exact J'.type
    · obtain ⟨t, rfl⟩ := (show ∃ t, u = Value.int i t from ry)
      exact .now
    · obtain rfl := (show u = Value.none from ry)
      exact .now
    · obtain ⟨t, rfl⟩ := (show ∃ t, u = Value.str i t from ry)
      exact .now
    · obtain rfl := (show u = Value.bool i from ry)
      exact .now
    · obtain rfl : u = Value.ref b := ry
      obtain ⟨_, _, n, _, h1⟩ := (show ObjOk X.prog X.w H s.heap b (.lst xs) from I.hok b _ eb)
      exact (PySem.W.Looks.ld (part := none) h1).andThen .now
    · obtain rfl : u = Value.ref b := ry
      obtain ⟨_, _, _, o, h1, h2, _⟩ := (show ObjOk X.prog X.w H s.heap b (.tup xs) from I.hok b _ eb)
      refine (PySem.W.Looks.ld (part := none) h1).andThen ?_
      rw [h2]
      exact .now
  show wpAny (model X.prog X.w) X.A (richCompare .Eq (.ref a) u) (EP X pins σ Q) X.xe s
  refine PySem.W.cmp_K (op := .Eq) hr.units0 hF I.ok.mod.kin J L nf h.me.at_ h.me.fn ?_
  have hl := F.len _ _ _ _ q
  have r2 : Vals [V.ref a, y] [Value.ref a, u] := .cons rfl (.cons ry .nil)
  refine wpAny_call (codeAny_mono (F.run X.A X.stack s H ⟨[.ref a, u], []⟩ [.ref a, u] [.ref a, y] _ E0 hr I.env0 (by
    have := hb s [.ref a, u] I.kIn (by simpa using hl)
    simpa using this) r2 q) fun r s' hq => ?_)
  cases r with
  | error e => exact passZ σ pins H s e s' I hq
  | ok fl =>
    cases fl with
    | ret w =>
      obtain ⟨z, H', I', rz, b, ez, ex⟩ := I.after hq
      subst ez
      obtain rfl : w = Value.bool b := rz
      exact ⟨.bl b, H', I', rfl, ex⟩
    | next => exact False.elim hq
    | brk => exact False.elim hq
    | cont => exact False.elim hq
end
section
variable {K : PySem.W.Frag} {H : Hp} {Q : VK} {y : V} {sp : Sp}
theorem w_own {C a dx : Addr} {fs : List (Str × V)} {t : Value} (h : H a = some (.ins C dx fs)) (ty : tyR K H y t) (nf : PySem.W.notFirst K C t = true) (q : sp [.ref a, y] H (fun v H' => ∃ b, v = .bl b ∧ Q (.bl b) H') E0) : rOwn K C sp (.ref a) y H Q :=
  ⟨a, dx, fs, t, rfl, h, ty, nf, q⟩
theorem tyR_ins {b C dx : Addr} {fs : List (Str × V)} (h : H b = some (.ins C dx fs)) : tyR K H (.ref b) (.ref C) := .inl ⟨C, dx, fs, b, rfl, h, rfl⟩
theorem tyR_lst {b : Addr} {xs : List V} (h : H b = some (.lst xs)) : tyR K H (.ref b) (.type "list") := .inr (.inr (.inr (.inr (.inr (.inl ⟨b, xs, rfl, h, rfl⟩)))))
theorem tyR_tup {b : Addr} {xs : List V} (h : H b = some (.tup xs)) : tyR K H (.ref b) (.type "tuple") := .inr (.inr (.inr (.inr (.inr (.inr ⟨b, xs, rfl, h, rfl⟩)))))
theorem nf_same {C : Addr} : PySem.W.notFirst K C (.ref C) = true := by
  unfold PySem.W.notFirst
  have e : ((Value.ref C) == (Value.ref C)) = true := beq_self_eq_true _
  rw [e]
  rfl
end

/-! ### isinstance -/
/-- what an own class has for isinstance of its instances -/
structure InsC (K : PySem.W.Frag) (C : Addr) : Prop where
  cl : Cls K C
  ha : PySem.W.findIn K (.ref C) "__class__" = some (some (.builtin "object.__class__"))
  hn : PySem.W.specialIn K (.builtin "object.__class__") "__get__" = some (some (.builtin "getset_descriptor.__get__"))
  ht : PySem.W.takesIn K (.builtin "object.__class__") = some true
  hm : PySem.W.mroIn K C (.type "object") = some true
def insB (c : Str) : Ex := fun K => He.Fa.ok K (.cls c) && (He.eqO (PySem.W.findIn K (.ref (He.ga K c)) "__class__") (some (some (.builtin "object.__class__"))) &&
  (He.eqO (PySem.W.specialIn K (.builtin "object.__class__") "__get__") (some (some (.builtin "getset_descriptor.__get__"))) &&
  (decide (PySem.W.takesIn K (.builtin "object.__class__") = some true) && decide (PySem.W.mroIn K (He.ga K c) (.type "object") = some true))))
theorem insB_ok {K : PySem.W.Frag} {c : Str} (h : insB c K = true) : InsC K (He.ga K c) := by
  obtain ⟨h0, h⟩ := He.ba h
  obtain ⟨h1, h⟩ := He.ba h
  obtain ⟨h2, h⟩ := He.ba h
  obtain ⟨h3, h4⟩ := He.ba h
  exact ⟨He.cls_ok h0, He.eqO_ok h1, He.eqO_ok h2, of_decide_eq_true h3, of_decide_eq_true h4⟩
/-- isinstance of a built-in type's values and an own class; of an own class's instances and a class -/
def kitTB (t : String) (c : Str) (b : Bool) : Ex := fun K => decide (PySem.W.kitOne K (.type t) (.ref (He.ga K c)) = some b)
def kitOB (c d : Str) (b : Bool) : Ex := fun K => decide (PySem.W.kitOne K (.ref (He.ga K c)) (.ref (He.ga K d)) = some b)
def kitUB (c : Str) (t : String) (b : Bool) : Ex := fun K => decide (PySem.W.kitOne K (.ref (He.ga K c)) (.type t) = some b)
def nfB (c : Str) (t : String) : Ex := fun K => PySem.W.notFirst K (He.ga K c) (.type t)
def nfOB (c d : Str) : Ex := fun K => PySem.W.notFirst K (He.ga K c) (.ref (He.ga K d))
def tupX (x : Str) (vs : List He.Dv) : Ex := fun K => He.tupB K x vs
def lstX (x : Str) (vs : List He.Dv) : Ex := fun K => He.lstB K x vs
def excCB (c : Str) : Ex := fun K => He.eqO (PySem.W.findIn K (.ref (He.ga K c)) "__getattribute__") (some (some (.builtin "BaseException.__getattribute__"))) &&
  (He.eqO (PySem.W.findIn K (.ref (He.ga K c)) "__getattr__") (some none) && (decide (PySem.W.subIn K (.ref (He.ga K c)) (.type "BaseException") = some true) && (PySem.W.hasDictIn K (He.ga K c) &&
  (He.eqO (PySem.W.findIn K (.ref (He.ga K c)) "__class__") (some (some (.builtin "object.__class__"))) && (He.eqO (PySem.W.specialIn K (.builtin "object.__class__") "__get__") (some (some (.builtin "getset_descriptor.__get__"))) &&
  (decide (PySem.W.takesIn K (.builtin "object.__class__") = some true) && decide (PySem.W.mroIn K (He.ga K c) (.type "object") = some true)))))))
theorem excCB_ok {K : PySem.W.Frag} {c : Str} (h : excCB c K = true) : ExcC K (He.ga K c) := by
  obtain ⟨h1, h⟩ := He.ba h
  obtain ⟨h2, h⟩ := He.ba h
  obtain ⟨h3, h⟩ := He.ba h
  obtain ⟨h4, h⟩ := He.ba h
  obtain ⟨h5, h⟩ := He.ba h
  obtain ⟨h6, h⟩ := He.ba h
  obtain ⟨h7, h8⟩ := He.ba h
  exact ⟨He.eqO_ok h1, He.eqO_ok h2, of_decide_eq_true h3, h4, He.eqO_ok h5, He.eqO_ok h6, of_decide_eq_true h7, of_decide_eq_true h8⟩
/-- isinstance(e, c) in a suite -/
def rIsX (K : PySem.W.Frag) (a : Addr) (clX : Value) (dX : Option Addr) : List V → Hp → VK → Prop := fun xs H Q => ∃ (D : Addr) (c : V) (cv : Value) (b : Bool), clX = .ref D ∧ dX = none ∧ ExcC K D ∧ xs = [.ref a, c] ∧ ClsV c cv ∧ PySem.W.kitOne K (.ref D) cv = some b ∧ Q (.bl b) H
theorem call_isX {X : Cx} {a : Addr} {clX : Value} {dX : Option Addr} {oe : Obj} {pn : List (Addr × Obj)} (hz : Zc clX dX oe) (hf : ∃ vs, oe.data = .fields vs) : CallR (X.suite a ((a, oe) :: pn)) (.builtin "isinstance") (rIsX X.K a clX dX) := by
  intro pins s σ H xs us Q I r h
  obtain ⟨D, c, cv, b, e1, e2, C, ex, hc, k, q⟩ := h
  subst e1 e2
  exact call_isE C hz hf pins s σ H xs us Q I r ⟨c, cv, b, ex, fun u ru => hc.eq ru, k, q⟩
section
variable {K : PySem.W.Frag} {σ : L2.St} {H : Hp} {Q : VK}
theorem w_isX {a D : Addr} {c : V} {cv : Value} {b : Bool} (C : ExcC K D) (hc : ClsV c cv) (k : PySem.W.kitOne K (.ref D) cv = some b) (q : Q (.bl b) H) : rIsX K a (.ref D) none [.ref a, c] H Q := ⟨D, c, cv, b, rfl, rfl, C, rfl, hc, k, q⟩
theorem w_isi {x c : V} {t u : Value} {b : Bool} (k : ClsV c u) (ty : TyX K H x t) (e : PySem.W.kitOne K t u = some b) (q : Q (.bl b) H) : rIsi K [x, c] H Q := ⟨x, c, t, u, b, rfl, k, ty, e, q⟩
theorem w_isi_ii {i : Int} (q : Q (.bl true) H) : rIsi K [.int i, .ty "int"] H Q := w_isi (.ty _) (.base (.int _)) (kit_ty (by decide +kernel)) q
theorem w_isi_ib {i : Int} (q : Q (.bl false) H) : rIsi K [.int i, .ty "bool"] H Q := w_isi (.ty _) (.base (.int _)) (kit_ty (by decide +kernel)) q
theorem w_isi_is {i : Int} (q : Q (.bl false) H) : rIsi K [.int i, .ty "str"] H Q := w_isi (.ty _) (.base (.int _)) (kit_ty (by decide +kernel)) q
theorem w_isi_il {i : Int} (q : Q (.bl false) H) : rIsi K [.int i, .ty "list"] H Q := w_isi (.ty _) (.base (.int _)) (kit_ty (by decide +kernel)) q
theorem w_isi_it {i : Int} (q : Q (.bl false) H) : rIsi K [.int i, .ty "tuple"] H Q := w_isi (.ty _) (.base (.int _)) (kit_ty (by decide +kernel)) q
theorem w_isi_bi {i : Bool} (q : Q (.bl true) H) : rIsi K [.bl i, .ty "int"] H Q := w_isi (.ty _) (.base (.bl _)) (kit_ty (by decide +kernel)) q
theorem w_isi_bb {i : Bool} (q : Q (.bl true) H) : rIsi K [.bl i, .ty "bool"] H Q := w_isi (.ty _) (.base (.bl _)) (kit_ty (by decide +kernel)) q
theorem w_isi_ss {i : Str} (q : Q (.bl true) H) : rIsi K [.str i, .ty "str"] H Q := w_isi (.ty _) (.base (.str _)) (kit_ty (by decide +kernel)) q
theorem w_isi_sl {i : Str} (q : Q (.bl false) H) : rIsi K [.str i, .ty "list"] H Q := w_isi (.ty _) (.base (.str _)) (kit_ty (by decide +kernel)) q
theorem w_isi_st {i : Str} (q : Q (.bl false) H) : rIsi K [.str i, .ty "tuple"] H Q := w_isi (.ty _) (.base (.str _)) (kit_ty (by decide +kernel)) q
theorem w_isi_nl (q : Q (.bl false) H) : rIsi K [.non, .ty "list"] H Q := w_isi (.ty _) (.base .non) (kit_ty (by decide +kernel)) q
theorem w_isi_nt (q : Q (.bl false) H) : rIsi K [.non, .ty "tuple"] H Q := w_isi (.ty _) (.base .non) (kit_ty (by decide +kernel)) q
theorem w_isi_ll {a : Addr} {xs : List V} (h : H a = some (.lst xs)) (q : Q (.bl true) H) : rIsi K [.ref a, .ty "list"] H Q := w_isi (.ty _) (.base (.lst h)) (kit_ty (by decide +kernel)) q
theorem w_isi_lt {a : Addr} {xs : List V} (h : H a = some (.lst xs)) (q : Q (.bl false) H) : rIsi K [.ref a, .ty "tuple"] H Q := w_isi (.ty _) (.base (.lst h)) (kit_ty (by decide +kernel)) q
theorem w_isi_li {a : Addr} {xs : List V} (h : H a = some (.lst xs)) (q : Q (.bl false) H) : rIsi K [.ref a, .ty "int"] H Q := w_isi (.ty _) (.base (.lst h)) (kit_ty (by decide +kernel)) q
theorem w_isi_tt {a : Addr} {xs : List V} (h : H a = some (.tup xs)) (q : Q (.bl true) H) : rIsi K [.ref a, .ty "tuple"] H Q := w_isi (.ty _) (.base (.tup h)) (kit_ty (by decide +kernel)) q
theorem w_isi_tl {a : Addr} {xs : List V} (h : H a = some (.tup xs)) (q : Q (.bl false) H) : rIsi K [.ref a, .ty "list"] H Q := w_isi (.ty _) (.base (.tup h)) (kit_ty (by decide +kernel)) q
theorem w_isi_own {a C dx : Addr} {fs : List (Str × V)} {c : V} {u : Value} {b : Bool} (h : H a = some (.ins C dx fs)) (i : InsC K C) (k : ClsV c u) (e : PySem.W.kitOne K (.ref C) u = some b) (q : Q (.bl b) H) : rIsi K [.ref a, c] H Q :=
  w_isi k (.base (.ins h i.cl i.ha i.hn i.ht i.hm)) e q
end
end G

/-! == of lists and tuples, by data -/
namespace G
open PySem PySem.Spec PyProof.Rows L2
abbrev rIsB : R2 := fun x y H Q => ∃ a b, x = .bl a ∧ y = .bl b ∧ Q (.bl (decide (a = b))) H
abbrev rNotB : R2 := fun x y H Q => ∃ a b, x = .bl a ∧ y = .bl b ∧ Q (.bl (!decide (a = b))) H
section
variable {K : PySem.W.Frag} {H : Hp} {Q : VK} {x y : V} {d e : PyData} {xs ys : List Int} {a b : Addr}
theorem w_isB {p q : Bool} (h : Q (.bl (decide (p = q))) H) : rIsB (.bl p) (.bl q) H Q := ⟨p, q, rfl, rfl, h⟩
theorem w_notB {p q : Bool} (h : Q (.bl (!decide (p = q))) H) : rNotB (.bl p) (.bl q) H Q := ⟨p, q, rfl, rfl, h⟩
theorem dp_ints : ∀ xs : List Int, DpAll K H (xs.map V.int) (xs.map PyData.int)
  | [] => .nil
  | x :: xs => .cons (.int x) (dp_ints xs)
theorem eqv_ints : ∀ xs ys : List Int, PyData.eqvAll (xs.map PyData.int) (ys.map PyData.int) = decide (xs = ys)
  | [], [] => by simp [PyData.eqvAll]
  | [], y :: ys => by simp [PyData.eqvAll]
  | x :: xs, [] => by simp [PyData.eqvAll]
  | x :: xs, y :: ys => by
    have h := eqv_ints xs ys
    show (PyData.eqv (.int x) (.int y) && PyData.eqvAll (xs.map PyData.int) (ys.map PyData.int)) = _
    rw [h]
    unfold PyData.eqv
    by_cases h1 : x = y <;> by_cases h2 : xs = ys <;> simp [h1, h2]
theorem lay_ints : ∀ xs : List Int, PyData.canLayAll0 (xs.map PyData.int) = true
  | [] => rfl
  | x :: xs => by
    show (PyData.canLay0 (.int x) && PyData.canLayAll0 (xs.map PyData.int)) = true
    rw [lay_ints xs]
    rfl
theorem depth_ints : ∀ xs : List Int, PyData.depthAll (xs.map PyData.int) = 0
  | [] => by simp [PyData.depthAll]
  | x :: xs => by
    have h := depth_ints xs
    simp only [List.map_cons, PyData.depthAll, PyData.depth, h]
    rfl
theorem shaped_li : SeqAt.shaped (.list (xs.map PyData.int)) = true := by
  unfold SeqAt.shaped
  have h := lay_ints xs
  have h2 := depth_ints xs
  simp [PyData.canLay0, PyData.depth, h, h2]
theorem shaped_ti : SeqAt.shaped (.tuple (xs.map PyData.int)) = true := by
  unfold SeqAt.shaped
  have h := lay_ints xs
  have h2 := depth_ints xs
  simp [PyData.canLay0, PyData.depth, h, h2]
theorem w_eqLI (h1 : SqL K H a (xs.map V.int)) (h2 : SqL K H b (ys.map V.int)) (q : Q (.bl (decide (xs = ys))) H) : rEqD K (.ref a) (.ref b) H Q :=
  ⟨_, _, .lst h1 (dp_ints xs), .lst h2 (dp_ints ys), shaped_li, shaped_li, by
    show Q (.bl (PyData.eqvAll _ _)) H
    rw [eqv_ints]; exact q⟩
theorem w_neLI (h1 : SqL K H a (xs.map V.int)) (h2 : SqL K H b (ys.map V.int)) (q : Q (.bl (!decide (xs = ys))) H) : rNeD K (.ref a) (.ref b) H Q :=
  ⟨_, _, .lst h1 (dp_ints xs), .lst h2 (dp_ints ys), shaped_li, shaped_li, by
    show Q (.bl (!PyData.eqvAll _ _)) H
    rw [eqv_ints]; exact q⟩
theorem w_eqTI (h1 : SqT K H a (xs.map V.int)) (h2 : SqT K H b (ys.map V.int)) (q : Q (.bl (decide (xs = ys))) H) : rEqD K (.ref a) (.ref b) H Q :=
  ⟨_, _, .tup h1 (dp_ints xs), .tup h2 (dp_ints ys), shaped_ti, shaped_ti, by
    show Q (.bl (PyData.eqvAll _ _)) H
    rw [eqv_ints]; exact q⟩
theorem w_neTI (h1 : SqT K H a (xs.map V.int)) (h2 : SqT K H b (ys.map V.int)) (q : Q (.bl (!decide (xs = ys))) H) : rNeD K (.ref a) (.ref b) H Q :=
  ⟨_, _, .tup h1 (dp_ints xs), .tup h2 (dp_ints ys), shaped_ti, shaped_ti, by
    show Q (.bl (!PyData.eqvAll _ _)) H
    rw [eqv_ints]; exact q⟩
theorem w_eqL' {vs ws : List V} (xs ys : List Int) (h1 : SqL K H a vs) (h2 : SqL K H b ws) (q : Q (.bl (decide (xs = ys))) H) (e1 : vs = xs.map V.int := by rfl) (e2 : ws = ys.map V.int := by rfl) : rEqD K (.ref a) (.ref b) H Q := by
  subst e1 e2
  exact w_eqLI h1 h2 q
theorem w_neL' {vs ws : List V} (xs ys : List Int) (h1 : SqL K H a vs) (h2 : SqL K H b ws) (q : Q (.bl (!decide (xs = ys))) H) (e1 : vs = xs.map V.int := by rfl) (e2 : ws = ys.map V.int := by rfl) : rNeD K (.ref a) (.ref b) H Q := by
  subst e1 e2
  exact w_neLI h1 h2 q
theorem w_eqT' {vs ws : List V} (xs ys : List Int) (h1 : SqT K H a vs) (h2 : SqT K H b ws) (q : Q (.bl (decide (xs = ys))) H) (e1 : vs = xs.map V.int := by rfl) (e2 : ws = ys.map V.int := by rfl) : rEqD K (.ref a) (.ref b) H Q := by
  subst e1 e2
  exact w_eqTI h1 h2 q
theorem w_neT' {vs ws : List V} (xs ys : List Int) (h1 : SqT K H a vs) (h2 : SqT K H b ws) (q : Q (.bl (!decide (xs = ys))) H) (e1 : vs = xs.map V.int := by rfl) (e2 : ws = ys.map V.int := by rfl) : rNeD K (.ref a) (.ref b) H Q := by
  subst e1 e2
  exact w_neTI h1 h2 q
/-! by data -/
theorem w_eqD (h1 : Dp K H x d) (h2 : Dp K H y e) (s1 : SeqAt.shaped d = true) (s2 : SeqAt.shaped e = true) (q : Q (.bl (PyData.eqv d e)) H) : rEqD K x y H Q := ⟨d, e, h1, h2, s1, s2, q⟩
theorem w_neD (h1 : Dp K H x d) (h2 : Dp K H y e) (s1 : SeqAt.shaped d = true) (s2 : SeqAt.shaped e = true) (q : Q (.bl (!PyData.eqv d e)) H) : rNeD K x y H Q := ⟨d, e, h1, h2, s1, s2, q⟩
mutual
theorem eqv_refl : ∀ d : PyData, d.canLay0 = true → PyData.eqv d d = true
  | .none, _ => by simp [PyData.eqv]
  | .bool b, _ => by simp [PyData.eqv]
  | .int i, _ => by simp [PyData.eqv]
  | .str s, _ => by simp [PyData.eqv]
  | .list xs, h => by
    have := eqvAll_refl xs (by simpa [PyData.canLay0] using h)
    simpa [PyData.eqv] using this
  | .tuple xs, h => by
    have := eqvAll_refl xs (by simpa [PyData.canLay0] using h)
    simpa [PyData.eqv] using this
  | .dict _, h => by simp [PyData.canLay0] at h
theorem eqvAll_refl : ∀ ds : List PyData, PyData.canLayAll0 ds = true → PyData.eqvAll ds ds = true
  | [], _ => by simp [PyData.eqvAll]
  | d :: ds, h => by
    have h1 : PyData.canLay0 d = true ∧ PyData.canLayAll0 ds = true := by simpa [PyData.canLayAll0] using h
    have := eqv_refl d h1.1
    have := eqvAll_refl ds h1.2
    simp [PyData.eqvAll, *]
end
theorem eqv_self {d : PyData} (h : SeqAt.shaped d = true) : PyData.eqv d d = true := eqv_refl d (SeqAt.canLay_of_shaped h)
end
end G

/-! heaps that grow; the drawn cells, as any numbers -/
namespace G
open PySem PySem.Spec PyProof.Rows L2
/-- grown, but for p -/
def ExtP (p : Addr) (H H' : Hp) : Prop := ∀ a o, a ≠ p → H a = some o → H' a = some o
section
variable {K : PySem.W.Frag} {H H1 H' : Hp} {a b p q : Addr} {o u o' : HO} {xs : List V}
theorem ext_get (e : Ext H H') (h : H b = some u) : H' b = some u := e _ _ h
theorem extp_get (e : ExtP p H H') (n : b ≠ p) (h : H b = some u) : H' b = some u := e _ _ n h
theorem ext_toP (e : Ext H H') : ExtP p H H' := fun a o _ h => e a o h
theorem ExtP.rfl' : ExtP p H H := fun _ _ _ h => h
theorem ExtP.trans (e : ExtP p H H1) (f : ExtP p H1 H') : ExtP p H H' := fun a o n h => f a o n (e a o n h)
theorem ext_via (f : Ext H1 H') (e : Ext H H1) : Ext H H' := e.trans f
theorem extp_via (f : ExtP p H1 H') (e : ExtP p H H1) : ExtP p H H' := e.trans f
theorem extp_viae (f : Ext H1 H') (e : ExtP p H H1) : ExtP p H H' := e.trans (ext_toP f)
theorem ext_up (n : H1 a = none) (e : Ext H H1) : Ext H (upd H1 a o) := fun b u h => up_n (e b u h) n
theorem extp_up (n : H1 a = none) (e : ExtP p H H1) : ExtP p H (upd H1 a o) := fun b u hb h => up_n (e b u hb h) n
theorem extp_put (e : ExtP p H H1) : ExtP p H (upd H1 p o) := fun b u hb h => up_k (e b u hb h) hb
/-- an object that was made since is written -/
theorem ext_put (n : H a = none) (e : Ext H H1) : Ext H (upd H1 a o) := fun b u h => up_k (e b u h) (ne_of_none h n)
theorem extp_putn (n : H a = none) (e : ExtP p H H1) : ExtP p H (upd H1 a o) := fun b u hb h => up_k (e b u hb h) (ne_of_none h n)
theorem ext_of_extp (n : H p = none) (e : ExtP p H H') : Ext H H' := fun a o h => e a o (ne_of_none h n) h
theorem extp_of_extp (n : H q = none) (e : ExtP q H H') : ExtP p H H' := ext_toP (ext_of_extp n e)
theorem ext_thr (n : H p = none) (f : ExtP p H1 H') (e : Ext H H1) : Ext H H' := fun a o h => f a o (ne_of_none h n) (e a o h)
theorem extp_thr (n : H q = none) (f : ExtP q H1 H') (e : ExtP p H H1) : ExtP p H H' := fun a o hp h => f a o (ne_of_none h n) (e a o hp h)
theorem Scr.ext (h : Scr K H a xs) (e : Ext H H') : Scr K H' a xs := h.same e
theorem scr_ext (e : Ext H H') (h : Scr K H a xs) : Scr K H' a xs := h.same e
theorem scr_extp (e : ExtP p H H') (n : Thw H p) (h : Scr K H a xs) : Scr K H' a xs := h.frz fun b o u hb => e b _ (fun z => by subst z; exact n o u hb) hb
theorem scr_extn (e : ExtP p H H') (n : H p = none) (h : Scr K H a xs) : Scr K H' a xs := h.frz fun b o u hb => e b _ (ne_of_none hb n) hb
theorem sq_ext (e : Ext H H') (h : SqL K H a xs) : SqL K H' a xs := h.ext e
theorem sqt_ext (e : Ext H H') (h : SqT K H a xs) : SqT K H' a xs := h.ext e
theorem SqT.of' (h : H a = some (.tup xs)) : SqT K H a xs := .inl (.inl h)
theorem ne_of' (h1 : H a = some o) (h2 : H b = some u) (n : o ≠ u) : a ≠ b := fun e => by
  subst e
  rw [h1] at h2
  cases h2
  exact n rfl
theorem up_nn (n : H a = none) (h : H b = some u) : upd H a o b = some u := up_n h n
theorem none_dn (h : upd H a o b = none) : H b = none := (up_none h).2
theorem up_ko (h : H b = some u) (h2 : H a = some o') (n : u ≠ o') : upd H a o b = some u := up_k h (ne_of' h h2 n)
end
/-! ### promises -/
def gsCell (K : PySem.W.Frag) : Sp := fun vs H Q _ => ∃ (a : Addr) (ns : List Int) (k : Int), vs = [.ref a, .int k] ∧ SqL K H a (ns.map V.int) ∧ 0 ≤ k ∧ ∀ n, Q (.int n) H
def gsStart (K : PySem.W.Frag) : Sp := fun vs H Q _ => ∃ (c k : Int), vs = [.int c, .int k] ∧ ∀ n p, H p = none → Q (.ref p) (upd H p (.lst [.int n]))
def gsDigit (K : PySem.W.Frag) : Sp := fun vs H Q _ => ∃ (p : Addr) (n m : Int), vs = [.ref p, .int m] ∧ H p = some (.lst [.int n]) ∧ 0 < m ∧ m < 1099511627776 ∧
  ∀ d n', 0 ≤ d → d < m → Q (.int d) (upd H p (.lst [.int n']))
/-- a bool or not, by isinstance: an integer -/
def gsIsInt (K : PySem.W.Frag) : Sp := fun vs H Q _ => ∃ (x : V), vs = [x] ∧ ((∃ i, x = .int i ∧ Q (.bl true) H) ∨ (∃ b, x = .bl b ∧ Q (.bl false) H))
section
variable {K : PySem.W.Frag} {H : Hp} {Q : VK} {E : XK} {a p : Addr} {k m n c : Int} {ns : List Int}
theorem c_cell (hS : SqL K H a (ns.map V.int)) (h0 : 0 ≤ k) (q : ∀ n, Q (.int n) H) : gsCell K [.ref a, .int k] H Q E := ⟨a, ns, k, rfl, hS, h0, q⟩
theorem c_start (q : ∀ n p, H p = none → Q (.ref p) (upd H p (.lst [.int n]))) : gsStart K [.int c, .int k] H Q E := ⟨c, k, rfl, q⟩
theorem c_digit (h : H p = some (.lst [.int n])) (h0 : 0 < m) (h1 : m < 1099511627776) (q : ∀ d n', 0 ≤ d → d < m → Q (.int d) (upd H p (.lst [.int n']))) : gsDigit K [.ref p, .int m] H Q E := ⟨p, n, m, rfl, h, h0, h1, q⟩
theorem c_isint (q : Q (.bl true) H) : gsIsInt K [.int n] H Q E := ⟨_, rfl, .inl ⟨n, rfl, q⟩⟩
end
theorem pr_pow (i : Nat) (h : i < 4) : (618970019642690137449562111 : Int) ^ i < 618970019642690137449562111 ^ 3 + 1 ∧ (0 : Int) < 618970019642690137449562111 ^ i := by
  have : i = 0 ∨ i = 1 ∨ i = 2 ∨ i = 3 := by omega
  rcases this with rfl | rfl | rfl | rfl <;> decide +kernel
theorem num_step {n m q : Int} (h0 : 0 ≤ n) (h1 : n < q) (h2 : 0 ≤ m) (h3 : m < 618970019642690137449562111) : 0 ≤ n * 618970019642690137449562111 + m ∧ n * 618970019642690137449562111 + m < q * 618970019642690137449562111 := by omega
theorem small_w {x : Int} (h0 : 0 ≤ x) (h : x < 618970019642690137449562111 ^ 3 + 1) : x.natAbs < 2 ^ 300 := by
  have e : (618970019642690137449562111 : Int) ^ 3 + 1 < ((2 ^ 300 : Nat) : Int) := by decide +kernel
  have e2 : x < ((2 ^ 300 : Nat) : Int) := Int.lt_trans h e
  omega
theorem ints_at {gs : List Int} {j : Nat} {z : Int} (h : gs[j]? = some z) {k : Int} (e : k = (j : Int)) : atI (gs.map V.int) k = some (V.int z) := at_of e (by rw [List.getElem?_map, h]; rfl)
theorem digit_div {m : Int} (h0 : 0 < m) (h1 : m < 1099511627776) : ∀ i : Int, CDivW i m := fun i => wide_div (b := 40) h0 (by omega) (by decide) (by decide)
/-! ### slices of lists of integers -/
theorem sum_app (xs ys : List Int) : (xs ++ ys).sum = xs.sum + ys.sum := by
  induction xs with
  | nil => simp
  | cons a r ih => rw [List.cons_append, List.sum_cons, List.sum_cons, ih]; omega
end G

/-! comprehensions whose turns only make objects; slices; indexing -/
namespace G
open PySem PySem.Spec PyProof.Rows L2
section
variable {K : PySem.W.Frag} {σ : L2.St} {H : Hp} {Q : VK} {g : TG} {tt : TT} {te : TE} {vs : List Nat} {tA : TA} {tl : TE}
def rLc (J : It) (g : TG) (tt : TT) (te : TE) (vs : List Nat) (σ : L2.St) (H1 : Hp) (Q : VK) : Prop := ∀ D, H1 D = none → ∃ W : Nat → Nat → Hp → Prop, (∃ m, W 0 m (upd H1 D (.lst []))) ∧ ∀ i m H, W i m H →
  (J.stop i H ∧ Q (.ref D) H) ∨ (J.go i H ∧ ∃ Nx : Hp → Prop, (∀ H', Nx H' → ∃ m', m' < m ∧ W (i + 1) m' H') ∧ ∀ x H', J.yld i H x H' → g x (wipe σ vs) H' fun σ2 H2 => wipe σ2 vs = wipe σ vs ∧ tt σ2 H2 fun b H3 =>
    if b = true then te σ2 H3 fun y H4 => ∃ acc, H4 D = some (.lst acc) ∧ acc.length < sizeLine ∧ Nx (upd H4 D (.lst (acc ++ [y]))) else Nx H3)
def rLcR1 (g : TG) (tt : TT) (te : TE) (ws : List Nat) (σ : L2.St) (Q : VK) (vs : List V) (H1 : Hp) : Prop := ∃ j : Int, vs = [.int j] ∧ -(2 ^ 62) ≤ j ∧ j < 2 ^ 62 ∧ rLc (Itr 0 j.toNat) g tt te ws σ H1 Q
def rLcR2 (g : TG) (tt : TT) (te : TE) (ws : List Nat) (σ : L2.St) (Q : VK) (vs : List V) (H1 : Hp) : Prop := ∃ i j : Int, vs = [.int i, .int j] ∧ (-(2 ^ 62) ≤ i ∧ i < 2 ^ 62 ∧ -(2 ^ 62) ≤ j ∧ j < 2 ^ 62) ∧ rLc (Itr i (j - i).toNat) g tt te ws σ H1 Q
def rLcL (K : PySem.W.Frag) (g : TG) (tt : TT) (te : TE) (ws : List Nat) (σ : L2.St) (Q : VK) (x : V) (H1 : Hp) : Prop := ∃ a, x = .ref a ∧ (∃ xs, SqL K H1 a xs) ∧ rLc (Itl K a) g tt te ws σ H1 Q
def rLcT (K : PySem.W.Frag) (g : TG) (tt : TT) (te : TE) (ws : List Nat) (σ : L2.St) (Q : VK) (x : V) (H1 : Hp) : Prop := ∃ a, x = .ref a ∧ (∃ xs, SqT K H1 a xs) ∧ rLc (Itt K a) g tt te ws σ H1 Q
theorem w_lcR1 (h : tA σ H fun ws H1 => rLcR1 g tt te vs σ Q ws H1) : tLc (iRng1 tA) g tt te vs σ H Q := h
theorem w_lcR2 (h : tA σ H fun ws H1 => rLcR2 g tt te vs σ Q ws H1) : tLc (iRng2 tA) g tt te vs σ H Q := h
theorem w_lcL (h : tl σ H fun x H1 => rLcL K g tt te vs σ Q x H1) : tLc (iList K tl) g tt te vs σ H Q := h
theorem w_lcT (h : tl σ H fun x H1 => rLcT K g tt te vs σ Q x H1) : tLc (iTup K tl) g tt te vs σ H Q := h
theorem wipe1 {v : Nat} {x : Option V} : wipe ((wipe σ [v]).set v x) [v] = wipe σ [v] := by
  show ((σ.set v none).set v x).set v none = σ.set v none
  rw [List.set_set, List.set_set]
def LcAdd (D : Addr) (Pv : Nat → Hp → Prop) (i : Nat) (y : V) (H4 : Hp) : Prop := ∃ acc, H4 D = some (.lst acc) ∧ acc.length < sizeLine ∧ Pv (i + 1) (upd H4 D (.lst (acc ++ [y])))
/-- grown only, the list so far at D -/
def PvE (H : Hp) (D : Addr) (A : Nat → List V) (i : Nat) (H' : Hp) : Prop := Ext H H' ∧ H' D = some (.lst (A i))
theorem lc_add {D : Addr} {A : Nat → List V} {i : Nat} {y : V} {H4 : Hp} (h : H4 D = some (.lst (A i))) (e : Ext H H4) (n : H D = none) (ha : A (i + 1) = A i ++ [y]) (hl : (A i).length < sizeLine) : LcAdd D (PvE H D A) i y H4 :=
  ⟨A i, h, hl, ext_put n e, by rw [upd_same, ha]⟩
theorem lc_skip {D : Addr} {A : Nat → List V} {i : Nat} {H3 : Hp} (h : H3 D = some (.lst (A i))) (e : Ext H H3) (ha : A (i + 1) = A i) : PvE H D A (i + 1) H3 := ⟨e, by rw [ha]; exact h⟩
/-- over any walk, growth only: A i the list so far -/
theorem lcE {J : It} {n : Nat} {G : Hp → Prop} {Y : Nat → Hp → V → Hp → Prop} (w : Walk J n G Y) (A : Nat → List V) (h0 : A 0 = []) (hG : ∀ H', Ext H H' → G H')
    (hs : ∀ i x D H1 H2, i < n → H D = none → Ext H H1 → H1 D = some (.lst (A i)) → Y i H1 x H2 → g x (wipe σ vs) H2 fun σ2 H2 => wipe σ2 vs = wipe σ vs ∧ tt σ2 H2 fun b H3 =>
      if b = true then te σ2 H3 fun y H4 => LcAdd D (PvE H D A) i y H4 else PvE H D A (i + 1) H3)
    (hd : ∀ D H1, H D = none → Ext H H1 → H1 D = some (.lst (A n)) → Q (.ref D) H1) : rLc J g tt te vs σ H Q := fun D hD =>
  lc_it w (PvE H D A) ⟨ext_up hD Ext.rfl', by rw [upd_same, h0]⟩ (fun i H' _ h => hG H' h.1) (fun i x H1 H2 hi h y => hs i x D H1 H2 hi hD h.1 h.2 y) fun H1 h => hd D H1 hD h.1 h.2
abbrev accM (fV : Nat → V) : Nat → List V := fun i => (List.range i).map fV
abbrev accF (p : Nat → Bool) (fV : Nat → V) : Nat → List V := fun i => ((List.range i).filter p).map fV
theorem accM_succ {fV : Nat → V} {i : Nat} : accM fV (i + 1) = accM fV i ++ [fV i] := by
  unfold accM
  rw [List.range_succ, List.map_append]
  rfl
theorem accM_len {fV : Nat → V} {i : Nat} : (accM fV i).length = i := by unfold accM; simp
theorem accF_yes {p : Nat → Bool} {fV : Nat → V} {i : Nat} (h : p i = true) : accF p fV (i + 1) = accF p fV i ++ [fV i] := by
  unfold accF
  rw [List.range_succ, List.filter_append, List.map_append]
  simp [h]
theorem accF_no {p : Nat → Bool} {fV : Nat → V} {i : Nat} (h : p i = false) : accF p fV (i + 1) = accF p fV i := by
  unfold accF
  rw [List.range_succ, List.filter_append, List.map_append]
  simp [h]
theorem accF_len {p : Nat → Bool} {fV : Nat → V} {i : Nat} : (accF p fV i).length ≤ i := by
  unfold accF
  rw [List.length_map]
  exact Nat.le_trans (List.length_filter_le _ _) (by simp)
theorem lc_one {D : Addr} {fV : Nat → V} {i : Nat} {y : V} {H4 : Hp} (h : H4 D = some (.lst (accM fV i))) (e : Ext H H4) (n : H D = none) (hi : i < 16000000) (ha : y = fV i) : LcAdd D (PvE H D (accM fV)) i y H4 :=
  lc_add h e n (by rw [accM_succ, ha]) (by rw [accM_len]; exact Nat.lt_trans hi (by decide))
theorem lc_onef {D : Addr} {p : Nat → Bool} {fV : Nat → V} {i : Nat} {y : V} {H4 : Hp} (h : H4 D = some (.lst (accF p fV i))) (e : Ext H H4) (n : H D = none) (hi : i < 16000000) (hp : p i = true) (ha : y = fV i) : LcAdd D (PvE H D (accF p fV)) i y H4 :=
  lc_add h e n (by rw [accF_yes hp, ha]) (Nat.lt_of_le_of_lt accF_len (Nat.lt_trans hi (by decide)))
theorem lc_nonef {D : Addr} {p : Nat → Bool} {fV : Nat → V} {i : Nat} {H3 : Hp} (h : H3 D = some (.lst (accF p fV i))) (e : Ext H H3) (hp : p i = false) : PvE H D (accF p fV) (i + 1) H3 :=
  lc_skip h e (accF_no hp)
/-! the usual ones: one name -/
variable {v : Nat} {j lo hi : Int}
theorem lcR1 {n : Nat} (fV : Nat → V) (hj : j = (n : Int)) (hn : n < 16000000) (hs : ∀ (i : Nat) D H1, i < n → H D = none → Ext H H1 → H1 D = some (.lst (accM fV i)) → te ((σ.set v none).set v (some (.int (i : Int)))) H1 fun y H4 => LcAdd D (PvE H D (accM fV)) i y H4)
    (hd : ∀ D H1, H D = none → Ext H H1 → H1 D = some (.lst (accM fV n)) → Q (.ref D) H1) : rLcR1 (gName v) tYes te [v] σ Q [.int j] H := by
  subst hj
  refine ⟨(n : Int), rfl, by omega, by omega, lcE walk_range (accM fV) rfl (fun _ _ => trivial) ?_ (by rw [Int.toNat_natCast]; exact hd)⟩
  rintro i x D H1 H2 hi hD e hA ⟨rfl, rfl⟩
  refine ⟨wipe1, ?_⟩
  show te ((σ.set v none).set v (some (.int (0 + (i : Int))))) H2 _
  rw [Int.zero_add]
  exact hs i D H2 (by omega) hD e hA
theorem lcR2 (fV : Nat → V) (hn : -4000000000 < lo ∧ lo < 4000000000 ∧ -4000000000 < hi ∧ hi < 4000000000) (hn2 : hi - lo < 16000000) (hs : ∀ (i : Nat) D H1, lo + i < hi → H D = none → Ext H H1 → H1 D = some (.lst (accM fV i)) → te ((σ.set v none).set v (some (.int (lo + (i : Int))))) H1 fun y H4 => LcAdd D (PvE H D (accM fV)) i y H4)
    (hd : ∀ D H1, H D = none → Ext H H1 → H1 D = some (.lst (accM fV (hi - lo).toNat)) → Q (.ref D) H1) : rLcR2 (gName v) tYes te [v] σ Q [.int lo, .int hi] H := by
  refine ⟨lo, hi, rfl, ⟨by omega, by omega, by omega, by omega⟩, lcE walk_range (accM fV) rfl (fun _ _ => trivial) ?_ hd⟩
  rintro i x D H1 H2 hi hD e hA ⟨rfl, rfl⟩
  exact ⟨wipe1, hs i D H2 (by omega) hD e hA⟩
theorem lcL {a : Addr} {xs : List V} (fV : Nat → V) (hx : SqL K H a xs) (hn : xs.length < 16000000) (hs : ∀ (i : Nat) x D H1, xs[i]? = some x → H D = none → Ext H H1 → H1 D = some (.lst (accM fV i)) → te ((σ.set v none).set v (some x)) H1 fun y H4 => LcAdd D (PvE H D (accM fV)) i y H4)
    (hd : ∀ D H1, H D = none → Ext H H1 → H1 D = some (.lst (accM fV xs.length)) → Q (.ref D) H1) : rLcL K (gName v) tYes te [v] σ Q (.ref a) H := by
  refine ⟨a, rfl, ⟨_, hx⟩, lcE walk_list (accM fV) rfl (fun _ e => hx.ext e) ?_ hd⟩
  rintro i x D H1 H2 hi hD e hA ⟨rfl, hxi⟩
  exact ⟨wipe1, hs i x D H2 hxi hD e hA⟩
theorem lcLF {a : Addr} {xs : List V} (p : Nat → Bool) (fV : Nat → V) (hx : SqL K H a xs) (hn : xs.length < 16000000) (hs : ∀ (i : Nat) x D H1, xs[i]? = some x → H D = none → Ext H H1 → H1 D = some (.lst (accF p fV i)) →
      tt ((σ.set v none).set v (some x)) H1 fun b H3 => if b = true then te ((σ.set v none).set v (some x)) H3 fun y H4 => LcAdd D (PvE H D (accF p fV)) i y H4 else PvE H D (accF p fV) (i + 1) H3)
    (hd : ∀ D H1, H D = none → Ext H H1 → H1 D = some (.lst (accF p fV xs.length)) → Q (.ref D) H1) : rLcL K (gName v) tt te [v] σ Q (.ref a) H := by
  refine ⟨a, rfl, ⟨_, hx⟩, lcE walk_list (accF p fV) rfl (fun _ e => hx.ext e) ?_ hd⟩
  rintro i x D H1 H2 hi hD e hA ⟨rfl, hxi⟩
  exact ⟨wipe1, hs i x D H2 hxi hD e hA⟩
theorem lcT {a : Addr} {xs : List V} (fV : Nat → V) (hx : SqT K H a xs) (hn : xs.length < 16000000) (hs : ∀ (i : Nat) x D H1, xs[i]? = some x → H D = none → Ext H H1 → H1 D = some (.lst (accM fV i)) → te ((σ.set v none).set v (some x)) H1 fun y H4 => LcAdd D (PvE H D (accM fV)) i y H4)
    (hd : ∀ D H1, H D = none → Ext H H1 → H1 D = some (.lst (accM fV xs.length)) → Q (.ref D) H1) : rLcT K (gName v) tYes te [v] σ Q (.ref a) H := by
  refine ⟨a, rfl, ⟨_, hx⟩, lcE walk_tup (accM fV) rfl (fun _ e => hx.ext e) ?_ hd⟩
  rintro i x D H1 H2 hi hD e hA ⟨rfl, hxi⟩
  exact ⟨wipe1, hs i x D H2 hxi hD e hA⟩
end
/-! ### slices -/
section
variable {K : PySem.W.Frag} {σ : L2.St} {H : Hp} {Q : VK} {te : TE} {tl th : TO} {r : V → Option Int → Option Int → Hp → VK → Prop} {a : Addr} {xs : List V} {l h : Option Int} {i j : Int} {Qo : Option Int → Hp → Prop} {t : TE}
theorem w_sl (h : te σ H fun x H1 => tl σ H1 fun l H2 => th σ H2 fun u H3 => r x l u H3 Q) : tSl r te tl th σ H Q := h
theorem w_nopart (q : Qo none H) : tNoPart σ H Qo := q
theorem w_part (q : t σ H fun x H1 => ∃ i, x = .int i ∧ Qo (some i) H1) : tPart t σ H Qo := q
theorem w_pint {P : Int → Prop} (q : P i) : ∃ k, V.int i = .int k ∧ P k := ⟨i, rfl, q⟩
theorem w_slL (hx : SqL K H a xs) (q : ∀ p, H p = none → Q (.ref p) (upd H p (.lst (cutV xs l h)))) : rSlL K (.ref a) l h H Q := ⟨a, xs, rfl, hx, q⟩
theorem cut_from {xs : List V} (h0 : 0 ≤ i) : cutV xs (some i) none = xs.drop i.toNat := by
  obtain ⟨n, rfl⟩ := Int.eq_ofNat_of_zero_le h0
  unfold cutV
  rw [HT.sIx_nat, HT.sIx_none, Int.toNat_natCast]
  by_cases hn : n ≤ xs.length
  · rw [Nat.min_eq_left hn, List.take_of_length_le]
    rw [List.length_drop]
    omega
  · rw [Nat.min_eq_right (by omega), List.drop_eq_nil_of_le (Nat.le_refl _), List.drop_eq_nil_of_le (by omega)]
    simp
theorem cut_to {xs : List V} (h0 : 0 ≤ i) : cutV xs none (some i) = xs.take i.toNat := by
  obtain ⟨n, rfl⟩ := Int.eq_ofNat_of_zero_le h0
  unfold cutV
  rw [HT.sIx_nat, HT.sIx_none, Int.toNat_natCast, List.drop_zero, Nat.sub_zero]
  by_cases hn : n ≤ xs.length
  · rw [Nat.min_eq_left hn]
  · rw [Nat.min_eq_right (by omega), List.take_of_length_le (Nat.le_refl _), List.take_of_length_le (by omega)]
theorem cut_mid {xs : List V} (h0 : 0 ≤ i) (h1 : i ≤ j) : cutV xs (some i) (some j) = (xs.drop i.toNat).take (j - i).toNat := by
  obtain ⟨n, rfl⟩ := Int.eq_ofNat_of_zero_le h0
  obtain ⟨m, rfl⟩ := Int.eq_ofNat_of_zero_le (Int.le_trans h0 h1)
  unfold cutV
  rw [HT.sIx_nat, HT.sIx_nat, Int.toNat_natCast]
  have e : ((m : Int) - (n : Int)).toNat = m - n := by omega
  rw [e]
  by_cases hn : n ≤ xs.length
  · rw [Nat.min_eq_left hn]
    by_cases hm : m ≤ xs.length
    · rw [Nat.min_eq_left hm]
    · rw [Nat.min_eq_right (by omega), List.take_of_length_le (by rw [List.length_drop]; omega), List.take_of_length_le (by rw [List.length_drop]; omega)]
  · rw [Nat.min_eq_right (by omega : xs.length ≤ n), List.drop_eq_nil_of_le (Nat.le_refl _), List.drop_eq_nil_of_le (by omega)]
    simp
theorem w_slLfrom (hx : SqL K H a xs) (h0 : 0 ≤ i) (q : ∀ p, H p = none → Q (.ref p) (upd H p (.lst (xs.drop i.toNat)))) : rSlL K (.ref a) (some i) none H Q := w_slL hx fun p hp => by rw [cut_from h0]; exact q p hp
theorem w_slLto (hx : SqL K H a xs) (h0 : 0 ≤ i) (q : ∀ p, H p = none → Q (.ref p) (upd H p (.lst (xs.take i.toNat)))) : rSlL K (.ref a) none (some i) H Q := w_slL hx fun p hp => by rw [cut_to h0]; exact q p hp
theorem w_slLmid (hx : SqL K H a xs) (h0 : 0 ≤ i) (h1 : i ≤ j) (q : ∀ p, H p = none → Q (.ref p) (upd H p (.lst ((xs.drop i.toNat).take (j - i).toNat)))) : rSlL K (.ref a) (some i) (some j) H Q := w_slL hx fun p hp => by rw [cut_mid h0 h1]; exact q p hp
/-! ### more of lists -/
theorem small_le {n : Nat} (h : Nat.ble n 1000 = true) : n ≤ sizeLine := Nat.le_trans (Nat.le_of_ble_eq_true h) (by decide)
theorem w_cat {l b : Addr} {xs zs : List V} (h1 : H l = some (.lst xs)) (h2 : H b = some (.lst zs)) (hz : xs.length + zs.length ≤ sizeLine) (q : ∀ p, H p = none → Q (.ref p) (upd H p (.lst (xs ++ zs)))) : rCat (.ref l) (.ref b) H Q := ⟨l, b, xs, zs, rfl, rfl, h1, h2, hz, q⟩
end
end G

/-! grown, but for some -/
namespace G
open PySem PySem.Spec PyProof.Rows L2
structure ExtS (S : List Addr) (H H' : Hp) : Prop where
  get : ∀ a o, a ∉ S → H a = some o → H' a = some o
  dom : ∀ a, H' a = none → H a = none
/-- each of S' is one of S, or not there in H -/
def SubN (S' S : List Addr) (H : Hp) : Prop := ∀ x ∈ S', x ∈ S ∨ H x = none
section
variable {K : PySem.W.Frag} {H H1 H' : Hp} {a b p q x y : Addr} {o u o' : HO} {xs : List V} {S S' : List Addr}
theorem ext_none (e : Ext H H') (h : H' x = none) : H x = none := by
  cases hx : H x with
  | none => rfl
  | some u => rw [e x u hx] at h; cases h
theorem upd_none (h : upd H a o x = none) : H x = none := (up_none h).2
theorem ExtS.rfl' : ExtS S H H := ⟨fun _ _ _ h => h, fun _ h => h⟩
theorem exts_ext (e : Ext H H') : ExtS S H H' := ⟨fun a o _ h => e a o h, fun a h => ext_none e h⟩
theorem exts_of_p (e : ExtP p H H') (d : H' p = some o) : ExtS [p] H H' := ⟨fun a o n h => e a o (fun z => n (by rw [z]; exact List.mem_singleton.mpr rfl)) h, fun a h => by
  cases hx : H a with
  | none => rfl
  | some u =>
    by_cases z : a = p
    · subst z; rw [d] at h; cases h
    · rw [e a u z hx] at h; cases h⟩
theorem exts_nil (e : ExtS [] H H') : Ext H H' := fun a o h => e.get a o (fun z => nomatch z) h
theorem extp_of_s (e : ExtS [p] H H') : ExtP p H H' := fun a o n h => e.get a o (fun z => n (List.mem_singleton.mp z)) h
theorem exts_mono {S2 : List Addr} (e : ExtS S H H') (h : ∀ x ∈ S, x ∈ S2) : ExtS S2 H H' := ⟨fun a o n => e.get a o fun z => n (h a z), e.dom⟩
theorem SubN.nil : SubN [] S H := fun _ z => nomatch z
theorem SubN.inn (h : x ∈ S) (s : SubN S' S H) : SubN (x :: S') S H := fun y hy => by
  rcases List.mem_cons.mp hy with rfl | hy
  · exact .inl h
  · exact s y hy
theorem SubN.new (h : H x = none) (s : SubN S' S H) : SubN (x :: S') S H := fun y hy => by
  rcases List.mem_cons.mp hy with rfl | hy
  · exact .inr h
  · exact s y hy
theorem SubN.all (h : ∀ x ∈ S', H x = none) : SubN S' S H := fun y hy => .inr (h y hy)
theorem SubN.app {S1 S2 : List Addr} (h : SubN S1 S H) (h2 : SubN S2 S H) : SubN (S1 ++ S2) S H := fun y hy => (List.mem_append.mp hy).elim (h y) (h2 y)
theorem exts_thr (f : ExtS S' H1 H') (n : SubN S' S H) (e : ExtS S H H1) : ExtS S H H' := ⟨fun a o ha h => f.get a o (fun z => (n a z).elim ha (fun z => by rw [z] at h; cases h)) (e.get a o ha h), fun a h => e.dom a (f.dom a h)⟩
theorem exts_thrE (f : Ext H1 H') (e : ExtS S H H1) : ExtS S H H' := ⟨fun a o ha h => f a o (e.get a o ha h), fun a h => e.dom a (ext_none f h)⟩
theorem exts_thrP (f : ExtP p H1 H') (d : H' p = some o) (n : SubN [p] S H) (e : ExtS S H H1) : ExtS S H H' := exts_thr (exts_of_p f d) n e
theorem exts_up (n : H1 a = none) (e : ExtS S H H1) : ExtS S H (upd H1 a o) := ⟨fun b u hb h => up_n (e.get b u hb h) n, fun b h => e.dom b (upd_none h)⟩
theorem exts_put (n : SubN [a] S H) (e : ExtS S H H1) : ExtS S H (upd H1 a o) := ⟨fun b u hb h => up_k (e.get b u hb h) (fun z => (n b (by rw [z]; exact List.mem_singleton.mpr rfl)).elim hb (fun z => by rw [z] at h; cases h)), fun b h => e.dom b (upd_none h)⟩
theorem ni_nil : x ∉ ([] : List Addr) := fun z => nomatch z
theorem ni_cons (n : x ≠ y) (m : x ∉ S) : x ∉ y :: S := fun z => (List.mem_cons.mp z).elim n m
theorem ni_app {S2 : List Addr} (n : x ∉ S) (m : x ∉ S2) : x ∉ S ++ S2 := fun z => (List.mem_append.mp z).elim n m
theorem ni_new (h : H x = some u) (n : ∀ y ∈ S, H y = none) : x ∉ S := fun z => by
  rw [n x z] at h
  cases h
theorem exts_get (e : ExtS S H H') (n : x ∉ S) (h : H x = some u) : H' x = some u := e.get _ _ n h
theorem exts_none (e : ExtS S H H') (h : H' x = none) : H x = none := e.dom x h
theorem mem_hd : x ∈ x :: S := List.mem_cons_self
theorem mem_tl (h : x ∈ S) : x ∈ y :: S := List.mem_cons_of_mem _ h
theorem scr_exts (e : ExtS S H H') (n : ∀ y ∈ S, Thw H y) (h : Scr K H a xs) : Scr K H' a xs := h.frz fun b o u hb => e.get b _ (fun z => n b z o u hb) hb
theorem all_nil {P : Addr → Prop} : ∀ y ∈ ([] : List Addr), P y := fun _ z => nomatch z
theorem all_cons {P : Addr → Prop} (h : P x) (t : ∀ y ∈ S, P y) : ∀ y ∈ x :: S, P y := fun y hy => by
  rcases List.mem_cons.mp hy with rfl | hy
  · exact h
  · exact t y hy
theorem thw_none (h : H x = none) : Thw H x := fun o u z => by rw [h] at z; cases z
theorem sq_exts (e : ExtS S H H') (n : a ∉ S) (h : H a = some (.lst xs)) : SqL K H' a xs := SqL.of (e.get _ _ n h)
end
end G

/-! rows of lists of integers; more steps -/
namespace G
open PySem PySem.Spec PyProof.Rows L2
/-- the lists at these addresses -/
def Rows (H : Hp) (as : List Addr) (ms : List (List Int)) : Prop := as.length = ms.length ∧ ∀ (i : Nat) (a : Addr) (m : List Int), as[i]? = some a → ms[i]? = some m → H a = some (.lst (m.map V.int))
section
variable {K : PySem.W.Frag} {H H1 H' : Hp} {a b p q x y : Addr} {o u o' : HO} {xs zs : List V} {S S' as bs : List Addr} {ms : List (List Int)} {m : List Int} {Q : VK} {σ : L2.St} {i j k : Int}
theorem Rows.nil : Rows H [] [] := ⟨rfl, fun i a m h => by simp at h⟩
theorem Rows.at (h : Rows H as ms) {i : Nat} (hi : i < ms.length) : ∃ (a : Addr) (m : List Int), as[i]? = some a ∧ ms[i]? = some m ∧ H a = some (.lst (m.map V.int)) := by
  have h2 : i < as.length := by rw [h.1]; exact hi
  exact ⟨as[i], ms[i], List.getElem?_eq_getElem h2, List.getElem?_eq_getElem hi, h.2 i _ _ (List.getElem?_eq_getElem h2) (List.getElem?_eq_getElem hi)⟩
theorem Rows.mem (h : Rows H as ms) (ha : a ∈ as) : ∃ m : List Int, H a = some (.lst (m.map V.int)) := by
  obtain ⟨i, hi, e⟩ := List.mem_iff_getElem.mp ha
  obtain ⟨a', m, h1, h2, h3⟩ := h.at (i := i) (by rw [← h.1]; exact hi)
  rw [List.getElem?_eq_getElem hi, e] at h1
  cases h1
  exact ⟨m, h3⟩
theorem Rows.ext (h : Rows H as ms) (e : Ext H H') : Rows H' as ms := ⟨h.1, fun i a m h1 h2 => e _ _ (h.2 i a m h1 h2)⟩
theorem Rows.exts (h : Rows H as ms) (e : ExtS S H H') (n : ∀ a ∈ as, a ∉ S) : Rows H' as ms := ⟨h.1, fun i a m h1 h2 => e.get _ _ (n a (List.mem_of_getElem? h1)) (h.2 i a m h1 h2)⟩
theorem Rows.snoc (h : Rows H as ms) (h1 : H a = Option.some (.lst (m.map V.int))) : Rows H (as ++ [a]) (ms ++ [m]) := by
  refine ⟨by rw [List.length_append, List.length_append, h.1]; rfl, fun i b m' hb hm => ?_⟩
  by_cases hi : i < as.length
  · rw [List.getElem?_append_left hi] at hb
    rw [List.getElem?_append_left (by rw [← h.1]; exact hi)] at hm
    exact h.2 i b m' hb hm
  · rw [List.getElem?_append_right (by omega)] at hb
    rw [List.getElem?_append_right (by rw [← h.1]; omega), ← h.1] at hm
    have e : i - as.length = 0 := by
      have := (List.getElem?_eq_some_iff.mp hb).1
      simp at this
      omega
    rw [e] at hb hm
    cases hb
    cases hm
    exact h1
theorem Rows.new (h : Rows H as ms) (n : H x = none) : Rows (upd H x o) as ms := h.ext (ext_up n Ext.rfl')
theorem Rows.put (h : Rows H as ms) (n : x ∉ as) : Rows (upd H x o) as ms := ⟨h.1, fun i a m h1 h2 => up_k (h.2 i a m h1 h2) fun z => n (by rw [← z]; exact List.mem_of_getElem? h1)⟩
theorem Rows.no (h : Rows H as ms) (n : H x = none) : x ∉ as := fun z => by
  obtain ⟨m, e⟩ := h.mem z
  rw [n] at e
  cases e
theorem Rows.noi (h : Rows H as ms) {C dx : Addr} {fs : List (Str × V)} (n : H x = some (.ins C dx fs)) : x ∉ as := fun z => by
  obtain ⟨m, e⟩ := h.mem z
  rw [n] at e
  cases e
theorem nodup_snoc (h : as.Nodup) (n : x ∉ as) : (as ++ [x]).Nodup := List.nodup_append.mpr ⟨h, by simp, fun a ha b hb => by
  rw [List.mem_singleton.mp hb]
  intro z
  rw [z] at ha
  exact n ha⟩
theorem mem_snoc {P : Addr → Prop} (h : ∀ a ∈ as, P a) (n : P x) : ∀ a ∈ as ++ [x], P a := fun a ha => (List.mem_append.mp ha).elim (h a) fun z => by
  rw [List.mem_singleton.mp z]
  exact n
theorem ni_snoc (h : y ∉ as) (n : y ≠ x) : y ∉ as ++ [x] := fun z => (List.mem_append.mp z).elim h fun z => n (List.mem_singleton.mp z)
theorem Rows.take (h : Rows H as ms) (n : Nat) : Rows H (as.take n) (ms.take n) := ⟨by rw [List.length_take, List.length_take, h.1], fun i a m h1 h2 => by
  rw [List.getElem?_take] at h1 h2
  by_cases hi : i < n
  · rw [if_pos hi] at h1 h2
    exact h.2 i a m h1 h2
  · rw [if_neg hi] at h1
    cases h1⟩
theorem Rows.drop (h : Rows H as ms) (n : Nat) : Rows H (as.drop n) (ms.drop n) := ⟨by rw [List.length_drop, List.length_drop, h.1], fun i a m h1 h2 => by
  rw [List.getElem?_drop] at h1 h2
  exact h.2 _ a m h1 h2⟩
theorem w_sum {ns : List Int} {a : Addr} (h : SqL K H a (ns.map V.int)) (q : Q (.int ns.sum) H) : rSum K [.ref a] H Q := ⟨a, ns, rfl, h, q⟩
theorem w_extend {l b : Addr} (h1 : H l = some (.lst xs)) (h2 : H b = some (.lst zs)) (hz : xs.length + zs.length ≤ sizeLine) (q : Q .non (upd H l (.lst (xs ++ zs)))) : rExtend (.ref l) [.ref b] H Q := ⟨l, b, xs, zs, rfl, rfl, h1, h2, hz, q⟩
theorem w_rep {l : Addr} (h1 : H l = some (.lst xs)) (h0 : 0 ≤ k) (hk : k < 4611686018427387904) (hz : xs.length * k.toNat ≤ sizeLine) (q : ∀ p, H p = none → Q (.ref p) (upd H p (.lst (List.replicate k.toNat xs).flatten))) : rRep (.ref l) (.int k) H Q :=
  ⟨l, k, xs, rfl, rfl, h1, by omega, by omega, hz, q⟩
theorem w_intb {c : Bool} (q : Q (.int (if c then 1 else 0)) H) : gInt1 [.bl c] H Q := .inr ⟨c, rfl, q⟩
theorem w_tryas {tb : WX → TS} {c : Value} {n : Nat} {ts : Addr → Value → Option Addr → TS} {Wout : WX} {D : Ends} (h : tb (wAs K c n ts Wout D) D σ H) : (fun D σ H => (fun W1 : WX => tb W1) (wAs K c n ts Wout D) D σ H) D σ H := h
/-- while, the test's reading told by a fact of monotony -/
theorem w_while {c : TT} {tb : TS} {D : Ends} (Pv : L2.St → Hp → Prop) (μ : L2.St → Hp → Nat) (h0 : Pv σ H)
    (hs : ∀ σ H, Pv σ H → c σ H fun b H1 => if b = true then tb { D with nx := fun σ' H' => Pv σ' H' ∧ μ σ' H' < μ σ H, ct := fun σ' H' => Pv σ' H' ∧ μ σ' H' < μ σ H, bk := D.nx } σ H1 else D.nx σ H1)
    (mono : ∀ σ H Q Q', (∀ b H1, Q b H1 → Q' b H1) → c σ H Q → c σ H Q') : tWhile c tb D σ H := while_by Pv μ h0 hs mono
end
theorem small16 {n : Nat} (h : n ≤ 16000000) : n ≤ sizeLine := Nat.le_trans h (by decide)
theorem small16l {n : Nat} (h : n < 16000000) : n < sizeLine := Nat.lt_of_lt_of_le h (by decide)
theorem map_inj_int {xs ys : List Int} (h : xs.map V.int = ys.map V.int) : xs = ys := by
  induction xs generalizing ys with
  | nil => cases ys with
    | nil => rfl
    | cons y ys => simp at h
  | cons x xs ih => cases ys with
    | nil => simp at h
    | cons y ys =>
      simp only [List.map_cons, List.cons.injEq, V.int.injEq] at h
      rw [h.1, ih h.2]
theorem atI_int {L : List Int} {a : Nat} (h : a < L.length) {k : Int} (e : k = (a : Int)) : atI (L.map V.int) k = some (V.int (L.getD a 0)) := at_of e (by
  rw [List.getElem?_map, List.getElem?_eq_getElem h, List.getD_eq_getElem?_getD, List.getElem?_eq_getElem h]
  rfl)
theorem atI_ref {L : List Addr} {a : Nat} {r : Addr} (h : L[a]? = some r) {k : Int} (e : k = (a : Int)) : atI (L.map V.ref) k = some (V.ref r) := at_of e (by rw [List.getElem?_map, h]; rfl)
end G

/-! tuples of texts, dict displays, comprehensions with any word -/
namespace G
open PySem PySem.Spec PyProof.Rows L2
/-- t.index(x), t of texts, x there -/
def rTIdxS (K : PySem.W.Frag) : V → List V → Hp → VK → Prop := fun x xs H Q => ∃ (a : Addr) (ys : List Str) (k : Str), x = .ref a ∧ xs = [.str k] ∧ SqT K H a (ys.map V.str) ∧ k ∈ ys ∧ Q (.int (ys.idxOf k : Nat)) H
theorem mt_tindexS {X : Cx} : MtR X "tuple.index" (rTIdxS X.K) := by
  intro pins s σ H x xs v us Q I rx rxs h
  obtain ⟨a, ys, k, rfl, rfl, hs, hk, q⟩ := h
  cases rx
  cases rxs with
  | cons ry rt =>
    cases rt
    obtain ⟨t, rfl⟩ := ry
    obtain ⟨its, rv, e, z⟩ := I.tuple hs
    exact SeqAt.tuple_index_strs e (strsAre_of rv) hk ⟨.int (ys.idxOf k : Nat), H, I.tok _, ⟨_, rfl⟩, q⟩
def tyTB (x : Str) : Ex := fun K => match K.lookup (He.ga K x) with
  | some o => (match o.cls with | .type n => decide (n = "tuple") | _ => false) && o.dict.isNone
  | none => false
theorem tyTB_ok {K : PySem.W.Frag} {x : Str} (h : tyTB x K = true) (H : Hp) : tyV K "tuple" (.ref (He.ga K x)) H := by
  unfold tyTB at h
  cases q : K.lookup (He.ga K x) with
  | none => rw [q] at h; cases h
  | some o =>
    rw [q] at h
    obtain ⟨oc, od, dt, sl⟩ := o
    obtain ⟨h1, h2⟩ := He.ba h
    refine .inr (.inl ⟨rfl, _, q, ?_, ?_⟩)
    · cases oc with
      | type n => exact congrArg Value.type (of_decide_eq_true h1)
      | _ => cases h1
    · cases od with
      | none => rfl
      | some d => cases h2
section
variable {K : PySem.W.Frag} {σ : L2.St} {H : Hp} {Q : VK} {x y v : V} {a : Addr} {k : Str} {ys : List Str} {kvs : List (Key × V)}
theorem ty_tupX {x : Str} {P : Prop} (h : tyTB x K = true) (q : P) : tyV K "tuple" (.ref (He.ga K x)) H ∧ P := ⟨tyTB_ok h H, q⟩
theorem w_tidxS (h : SqT K H a (ys.map V.str)) (hk : k ∈ ys) (q : Q (.int (ys.idxOf k : Nat)) H) : rTIdxS K (.ref a) [.str k] H Q := ⟨a, ys, k, rfl, rfl, h, hk, q⟩
/-! dicts -/
abbrev gDGet := tDGet
theorem w_dget {td ty : TE} (h : td σ H fun x H1 => ty σ H1 fun y H2 => ∃ a v, x = .ref a ∧ DGet H2 a y (some v) ∧ Q v H2) : tDGet td ty σ H Q := h
theorem w_dgetS (h : H a = some (.dK kvs)) (e : valV kvs (.inr k : Key) = some v) (q : Q v H) : ∃ a' v', V.ref a = .ref a' ∧ DGet H a' (.str k) (some v') ∧ Q v' H := ⟨a, v, rfl, e ▸ DGet.k (k := .inr k) h, q⟩
theorem w_dgetI {i : Int} (h : H a = some (.dK kvs)) (e : valV kvs (.inl i : Key) = some v) (q : Q v H) : ∃ a' v', V.ref a = .ref a' ∧ DGet H a' (.int i) (some v') ∧ Q v' H := ⟨a, v, rfl, e ▸ DGet.k (k := .inl i) h, q⟩
theorem w_disp {trs : List (TE × TE)} (h : ∀ p, H p = none → tPairs trs σ (upd H p (.dK [])) fun ps H2 => H2 p = some (.dK []) ∧ ∃ kvs : List (Key × V), ps = kvs.map (fun kv => (kV kv.1, kv.2)) ∧ kvs.length ≤ 15 ∧ Q (.ref p) (upd H2 p (.dK (mergeK [] kvs)))) : tDisp trs σ H Q := h
theorem w_prs {tk tv : TE} {r : List (TE × TE)} {Q : List (V × V) → Hp → Prop} (h : tk σ H fun x H1 => tv σ H1 fun y H2 => tPairs r σ H2 fun ps H3 => Q ((x, y) :: ps) H3) : tPairs ((tk, tv) :: r) σ H Q := h
theorem w_prn {Q : List (V × V) → Hp → Prop} (h : Q [] H) : tPairs [] σ H Q := h
/-! in -/
theorem w_inT {xs : List V} (h : SqT K H a xs) (fx : flatV x = true) (fs : xs.all flatV = true) (q : Q (.bl (inV x xs)) H) : rIn K false x (.ref a) H Q := ⟨a, xs, rfl, .inr h, fx, fs, q⟩
theorem w_inL {xs : List V} (h : SqL K H a xs) (fx : flatV x = true) (fs : xs.all flatV = true) (q : Q (.bl (inV x xs)) H) : rIn K false x (.ref a) H Q := ⟨a, xs, rfl, .inl h, fx, fs, q⟩
theorem w_ninT {xs : List V} (h : SqT K H a xs) (fx : flatV x = true) (fs : xs.all flatV = true) (q : Q (.bl (!inV x xs)) H) : rIn K true x (.ref a) H Q := ⟨a, xs, rfl, .inr h, fx, fs, q⟩
theorem w_ninL {xs : List V} (h : SqL K H a xs) (fx : flatV x = true) (fs : xs.all flatV = true) (q : Q (.bl (!inV x xs)) H) : rIn K true x (.ref a) H Q := ⟨a, xs, rfl, .inl h, fx, fs, q⟩
/-! tuple(list), list of a tuple -/
theorem w_tupL {xs : List V} (h : SqL K H a xs) (q : ∀ l, H l = none → Q (.ref l) (upd H l (.tup xs))) : gTupOf K [.ref a] H Q := ⟨a, xs, rfl, .inl ⟨h, q⟩⟩
end
/-! ### comprehensions, any word -/
section
variable {K : PySem.W.Frag} {σ : L2.St} {H : Hp} {Q : VK} {g : TG} {tt : TT} {te : TE} {vs : List Nat} {tA : TA} {tl : TE} {v : Nat} {j lo hi : Int}
theorem w_yes {Q : Bool → Hp → Prop} (h : Q true H) : tYes σ H Q := h
theorem lc_addG {D : Addr} {Pv : Addr → Nat → Hp → Prop} {i : Nat} {y : V} {H4 : Hp} {A : List V} (h : H4 D = some (.lst A)) (hl : A.length < sizeLine) (q : Pv D (i + 1) (upd H4 D (.lst (A ++ [y])))) : LcAdd D (Pv D) i y H4 := ⟨A, h, hl, q⟩
theorem lcG {J : It} {n : Nat} {G : Hp → Prop} {Y : Nat → Hp → V → Hp → Prop} (w : Walk J n G Y) (Pv : Addr → Nat → Hp → Prop) (h0 : ∀ D, H D = none → Pv D 0 (upd H D (.lst []))) (hG : ∀ D i H', Pv D i H' → G H')
    (hs : ∀ i x D H1 H2, i < n → H D = none → Pv D i H1 → Y i H1 x H2 → g x (wipe σ vs) H2 fun σ2 H2 => wipe σ2 vs = wipe σ vs ∧ tt σ2 H2 fun b H3 =>
      if b = true then te σ2 H3 fun y H4 => LcAdd D (Pv D) i y H4 else Pv D (i + 1) H3)
    (hd : ∀ D H1, H D = none → Pv D n H1 → Q (.ref D) H1) : rLc J g tt te vs σ H Q := fun D hD =>
  lc_it w (Pv D) (h0 D hD) (fun i H' _ h => hG D i H' h) (fun i x H1 H2 hi h y => hs i x D H1 H2 hi hD h y) fun H1 h => hd D H1 hD h
theorem lcR1G {n : Nat} (Pv : Addr → Nat → Hp → Prop) (hj : j = (n : Int)) (hn : n < 16000000) (h0 : ∀ D, H D = none → Pv D 0 (upd H D (.lst [])))
    (hs : ∀ (i : Nat) D H1, i < n → H D = none → Pv D i H1 → te ((σ.set v none).set v (some (.int (i : Int)))) H1 fun y H4 => LcAdd D (Pv D) i y H4)
    (hd : ∀ D H1, H D = none → Pv D n H1 → Q (.ref D) H1) : rLcR1 (gName v) tYes te [v] σ Q [.int j] H := by
  subst hj
  refine ⟨(n : Int), rfl, by omega, by omega, lcG walk_range Pv h0 (fun _ _ _ _ => trivial) ?_ (by rw [Int.toNat_natCast]; exact hd)⟩
  rintro i x D H1 H2 hi hD hP ⟨rfl, rfl⟩
  refine ⟨wipe1, ?_⟩
  show te ((σ.set v none).set v (some (.int (0 + (i : Int))))) H2 _
  rw [Int.zero_add]
  exact hs i D H2 (by omega) hD hP
/-- drawn numbers: [digit(state, m) for k in range(n)] -/
theorem lcDraw {s : Addr} {n0 m : Int} {n : Nat} (hj : j = (n : Int)) (hn : n < 16000000) (hs : H s = some (.lst [.int n0])) (h0 : 0 < m)
    (hb : ∀ (i : Nat) D H1 n1, i < n → H D = none → ExtP s H H1 → H1 s = some (.lst [.int n1]) → s ≠ D → te ((σ.set v none).set v (some (.int (i : Int)))) H1 fun y H4 => ∃ d n2, y = .int d ∧ 0 ≤ d ∧ d < m ∧ H4 = upd H1 s (.lst [.int n2]))
    (mono : ∀ (σ : L2.St) H (Q Q' : VK), (∀ y H1, Q y H1 → Q' y H1) → te σ H Q → te σ H Q')
    (hd : ∀ D H1 (ds : List Int) n1, H D = none → ExtP s H H1 → H1 s = some (.lst [.int n1]) → ds.length = n → (∀ d ∈ ds, 0 ≤ d ∧ d < m) → H1 D = some (.lst (ds.map V.int)) → Q (.ref D) H1) : rLcR1 (gName v) tYes te [v] σ Q [.int j] H := by
  refine lcR1G (fun D i H' => ExtP s H H' ∧ (∃ n1, H' s = some (.lst [.int n1])) ∧ ∃ ds : List Int, ds.length = i ∧ (∀ d ∈ ds, 0 ≤ d ∧ d < m) ∧ H' D = some (.lst (ds.map V.int))) hj hn (fun D hD => ⟨extp_up hD ExtP.rfl', ⟨n0, up_n hs hD⟩, [], rfl, (fun d hd => by cases hd), upd_same⟩) ?_ ?_
  · rintro i D H1 hi hD ⟨e, ⟨n1, hs1⟩, ds, hl, hds, hA⟩
    have nsD : s ≠ D := ne_of_none hs hD
    refine mono _ _ _ _ ?_ (hb i D H1 n1 hi hD e hs1 nsD)
    rintro y H4 ⟨d, n2, rfl, d0, d1, rfl⟩
    refine lc_addG (Pv := fun D i H' => ExtP s H H' ∧ (∃ n1, H' s = some (.lst [.int n1])) ∧ ∃ ds : List Int, ds.length = i ∧ (∀ d ∈ ds, 0 ≤ d ∧ d < m) ∧ H' D = some (.lst (ds.map V.int))) (A := ds.map V.int) (up_k hA nsD.symm) (by rw [List.length_map]; exact small16l (by omega)) ⟨extp_putn hD (extp_put e), ⟨n2, up_k upd_same nsD⟩, ds ++ [d], by rw [List.length_append, hl]; rfl, ?_, by rw [upd_same, List.map_append]; rfl⟩
    intro z hz
    rcases List.mem_append.mp hz with hz | hz
    · exact hds z hz
    · rw [List.mem_singleton.mp hz]
      exact ⟨d0, d1⟩
  · rintro D H1 hD ⟨e, ⟨n1, hs1⟩, ds, hl, hds, hA⟩
    exact hd D H1 ds n1 hD e hs1 hl hds hA
end
end G

/-! classes made with keywords -/
namespace G
open PySem PySem.Spec PyProof.Rows L2
section
variable (P : Program) (w : World) (K : PySem.W.Frag) (mg : Str → Option Value) (base : Heap)
/-- a class made with n positional values and the keywords ks; gV: in the parameters' order -/
structure HasK (k : Nat) (c : Str) (n : Nat) (ks ps : List Str) (gV : List V → List V → List V) (sp : Sp) : Prop where
  gl : mg c = some (.ref (He.ga K c))
  mkr : Mk K (He.ga K c) (He.ma K (He.ga K c) "__init__")
  ex : ∃ (fd : FuncData) (g : List Value → List Value → List Value), FnOk P w K mg base (L2.CX P w) k (He.ma K (He.ga K c) "__init__") fd ps sp ∧ KBn K fd ps (n + 1) ks g gV
end
theorem HasK.mono {P : Program} {w : World} {K : PySem.W.Frag} {mg : Str → Option Value} {base : Heap} {j k n : Nat} {c : Str} {ks ps : List Str} {gV : List V → List V → List V} {sp : Sp} (h : HasK P w K mg base j c n ks ps gV sp) (l : j ≤ k) : HasK P w K mg base k c n ks ps gV sp :=
  ⟨h.gl, h.mkr, let ⟨fd, g, F, b⟩ := h.ex; ⟨fd, g, F.mono l, b⟩⟩
/-- C(.., k = v, ..) -/
def tMkK (C : Addr) (n m : Nat) (sp : Sp) (gV : List V → List V → List V) (E : L2.St → XK) (t tk : TA) : TE := fun σ H Q => t σ H fun vs H1 => tk σ H1 fun zs H2 => vs.length = n ∧ zs.length = m ∧ ∀ x dx, H2 x = none → H2 dx = none → dx ≠ x →
  sp (gV (.ref x :: vs) zs) (upd (upd H2 dx (.own x)) x (.ins C dx [])) (fun v H3 => v = .non ∧ Q (.ref x) H3) (E σ)
section
variable {X : Cx} {k n : Nat} {f C : Addr} {fd : FuncData} {ps ks : List Str} {sp : Sp} {E : L2.St → XK} {x c : Str} {p pos : Pos} {e : Expr} {es : List Expr} {kws : List Keyword} {t tk : TA} {g : List Value → List Value → List Value} {gV : List V → List V → List V}
theorem run_mkK {pins : List (Addr × Obj)} {σ : L2.St} {H : Hp} {s : Shared} {Q : VK} {us ws : List Value} {vs zs : List V} (M : Mk X.K C f) (F : FnOk X.prog X.w X.K X.mg X.base (XC X) k f fd ps sp) (hr : Room (k + 1) X.A) (hb : KBn X.K fd ps (n + 1) ks g gV) (hx : PassesAt (XC X) X σ (E σ))
    (I : Inv X pins σ H s) (r : Vals vs us) (rz : Vals zs ws) (l1 : vs.length = n) (l2 : zs.length = ks.length)
    (h : ∀ x dx, H x = none → H dx = none → dx ≠ x → sp (gV (.ref x :: vs) zs) (upd (upd H dx (.own x)) x (.ins C dx [])) (fun v H2 => v = .non ∧ Q (.ref x) H2) (E σ)) :
    wpAny (model X.prog X.w) X.A (call (.ref C) us (ks.zip ws)) (EP X pins σ Q) X.xe s := by
  have hq := h (s.heap.objs.size + 1) s.heap.objs.size (I.hok.fresh (Nat.le_succ _)) (I.hok.fresh (Nat.le_refl _)) (Nat.ne_of_lt (Nat.lt_succ_self _))
  have I2 := Inv.made (C := C) I
  have r1 : Vals (V.ref (s.heap.objs.size + 1) :: vs) (Value.ref (s.heap.objs.size + 1) :: us) := .cons rfl r
  have r2 := hb.rel r1 rz
  have n1 : (Value.ref (s.heap.objs.size + 1) :: us).length = n + 1 := by
    rw [List.length_cons, ← r.length, l1]
  refine wpAny_call (make_map (f := f) I.kIn M.makes M.init (beq_iff_eq.mp M.fn) (codeAny_mono (F.run _ X.stack _ _ ⟨Value.ref (s.heap.objs.size + 1) :: us, ks.zip ws⟩ (g (Value.ref (s.heap.objs.size + 1) :: us) ws) _ _ (E σ) (hr.make C us (ks.zip ws))
    (I2.env0.make C us (ks.zip ws)) (hb.to _ (Value.ref (s.heap.objs.size + 1) :: us) ws I2.kIn n1 (rz.length.symm.trans l2)) r2 hq) fun r s' hq' => ?_))
  cases r with
  | error e => exact hx pins _ _ e s' I2 hq'
  | ok fl =>
    cases fl with
    | ret u =>
      obtain ⟨v, H', I3, rv, ev, q3⟩ := I2.after hq'
      subst ev
      exact ⟨rv, ⟨V.ref (s.heap.objs.size + 1), H', I3, rfl, q3⟩⟩
    | next => exact False.elim hq'
    | brk => exact False.elim hq'
    | cont => exact False.elim hq'
theorem pe_mkK0 (h : HasK X.prog X.w X.K X.mg X.base k c 0 ks ps gV sp) (hr : Room (k + 1) X.A) (hg : Gl X c) (hx : ∀ σ, PassesAt (XC X) X σ (E σ)) (hkw : PK X kws tk)
    (hall : (backToKw pos (keywordEach kws X.env)).all (·.1.isSome) = true := by rfl) (hks : (backToKw pos (keywordEach kws X.env)).filterMap (·.1) = ks := by rfl) (hdb : (c == ("__debug__" : Str)) = false := by decide)
    (hpl : ((backTo pos (starEach [] X.env)).any (·.1) || (backToKw pos (keywordEach kws X.env)).any (·.1.isNone)) = false := by rfl) :
    PE X (.Call (.Name c p) [] kws pos) (tMkK (He.ga X.K c) 0 ks.length sp gV E tNil tk) := by
  obtain ⟨fd, g, F, hb⟩ := h.ex
  refine ⟨fun pins s σ H Q I hh => ?_⟩
  refine wpAny_Call_Name_kw (ld_glob I hg h.gl ?_ hdb)
  refine PySem.W.callWith_KW0 (h₀ := X.base) I.ok.mod.kin h.mkr.kp hall ?_ hpl
  refine thn (hkw.run pos pins s σ H _ I hh) fun ws s2 ⟨zs, H2, I2, rz, l1, l2, q2⟩ => ⟨I2.kIn, ?_⟩
  rw [hks]
  exact run_mkK (us := []) (vs := []) h.mkr F hr hb (hx σ) I2 .nil rz rfl l2 q2
theorem pe_mkK (h : HasK X.prog X.w X.K X.mg X.base k c n ks ps gV sp) (hr : Room (k + 1) X.A) (hg : Gl X c) (hx : ∀ σ, PassesAt (XC X) X σ (E σ)) (ha : PA X (e :: es) t) (hkw : PK X kws tk)
    (hall : (backToKw pos (keywordEach kws X.env)).all (·.1.isSome) = true := by rfl) (hks : (backToKw pos (keywordEach kws X.env)).filterMap (·.1) = ks := by rfl) (hdb : (c == ("__debug__" : Str)) = false := by decide)
    (he : starEach (e :: es) X.env = (false, eval e X.env) :: starEach es X.env := by rfl) (hpl : ((backTo pos (starEach (e :: es) X.env)).any (·.1) || (backToKw pos (keywordEach kws X.env)).any (·.1.isNone)) = false := by rfl) :
    PE X (.Call (.Name c p) (e :: es) kws pos) (tMkK (He.ga X.K c) n ks.length sp gV E t tk) := by
  obtain ⟨fd, g, F, hb⟩ := h.ex
  refine ⟨fun pins s σ H Q I hh => ?_⟩
  refine wpAny_Call_Name_kw (ld_glob I hg h.gl ?_ hdb)
  refine PySem.W.callWith_KW (h₀ := X.base) I.ok.mod.kin h.mkr.kp hall (thn (ha.run pos pins s σ H _ I hh) fun us s1 ⟨vs, H1, I1, r, q⟩ => ?_) hpl he
  refine thn (hkw.run pos pins s1 σ H1 _ I1 q) fun ws s2 ⟨zs, H2, I2, rz, l1, l2, q2⟩ => ⟨I2.kIn, ?_⟩
  rw [hks]
  exact run_mkK h.mkr F hr hb (hx σ) I2 r rz l1 l2 q2
end
/-- every keyword-only parameter is written -/
theorem kbn_all {K : PySem.W.Frag} {x qual : Str} {params : Arguments} {body : List Stmt} {scope : Scope} {kws : List (Str × V)} {f : Addr} {fd : FuncData} {ps : List Str} (F : FunD K x qual params body scope [] kws f fd) (n : Nat) (ks : List Str)
    (g : {α : Type} → List α → List α → List α) (hrel : ∀ {vs zs : List V} {us ws : List Value}, Vals vs us → Vals zs ws → Vals (g vs zs) (g us ws))
    (h : ∀ (kV doc pm : Value) (an : Option Addr) (cdv ct : Value) (us ws : List Value), us.length = n → ws.length = ks.length → bindArgs (PySem.W.fnOf x qual params body scope .none kV doc pm an cdv ct) ⟨us, ks.zip ws⟩ = pure (ps.zip (g us ws))) :
    KBn K fd ps n ks (fun us ws => g us ws) (fun vs zs => g vs zs) := by
  obtain ⟨oc, od, dV, kV, doc, pm, an, cdv, ct, osl, rfl, lk, hcd, hD, hK⟩ := F.ex
  rcases hD with ⟨_, rfl⟩ | ⟨e, _⟩
  · exact ⟨fun s us ws X l1 l2 => .of_eq (h kV doc pm an cdv ct us ws l1 l2), fun r1 r2 => hrel r1 r2⟩
  · exact absurd rfl e
/-- what a def with keyword-only parameters promises, before it is called -/
theorem mk_fn {P : Program} {w : World} {K : PySem.W.Frag} {mg : Str → Option Value} {base : Heap} {k : Nat} {x qual : Str} {params : Arguments} {body : List Stmt} {scope : Scope} {N ps : List Str} {sp : Sp} {dvs : List V} {kws : List (Str × V)} {f : Addr}
    (F : ∃ fd, FunD K x qual params body scope dvs kws f fd) (S : FnScope N ps scope) (len : ∀ vs H Q E, sp vs H Q E → vs.length = ps.length) (hbody : Body P w K mg base k N qual scope f body sp) :
    ∃ fd, FunD K x qual params body scope dvs kws f fd ∧ FnOk P w K mg base (L2.CX P w) (k + 1) f fd ps sp := by
  obtain ⟨fd, F⟩ := F
  exact ⟨fd, F, FunD.ok (CX := L2.CX P w) F S len hbody⟩
section
variable {K : PySem.W.Frag} {σ : L2.St} {H : Hp} {Q : VK}
theorem w_mkK {C : Addr} {n m : Nat} {sp : Sp} {gV : List V → List V → List V} {E : L2.St → XK} {t tk : TA} (h : t σ H fun vs H1 => tk σ H1 fun zs H2 => vs.length = n ∧ zs.length = m ∧ ∀ x dx, H2 x = none → H2 dx = none → dx ≠ x →
  sp (gV (.ref x :: vs) zs) (upd (upd H2 dx (.own x)) x (.ins C dx [])) (fun v H3 => v = .non ∧ Q (.ref x) H3) (E σ)) : tMkK C n m sp gV E t tk σ H Q := h
theorem w_ll {a b c d : Nat} {P : Prop} (h1 : a = b) (h2 : c = d) (p : P) : a = b ∧ c = d ∧ P := ⟨h1, h2, p⟩
end
end G

/-! data at values, through a heap that grows -/
namespace G
open PySem PySem.Spec PyProof.Rows L2
section
variable {K : PySem.W.Frag} {H H' : Hp}
mutual
theorem dp_ext (e : Ext H H') : ∀ {v : V} {d : PyData}, Dp K H v d → Dp K H' v d
  | _, _, .non => .non
  | _, _, .bl b => .bl b
  | _, _, .int i => .int i
  | _, _, .str x => .str x
  | _, _, .lst h a => .lst (h.ext e) (dpAll_ext e a)
  | _, _, .tup h a => .tup (h.ext e) (dpAll_ext e a)
theorem dpAll_ext (e : Ext H H') : ∀ {vs : List V} {ds : List PyData}, DpAll K H vs ds → DpAll K H' vs ds
  | _, _, .nil => .nil
  | _, _, .cons h a => .cons (dp_ext e h) (dpAll_ext e a)
end
theorem dpAll_snoc {v : V} {d : PyData} : ∀ {vs : List V} {ds : List PyData}, DpAll K H vs ds → Dp K H v d → DpAll K H (vs ++ [v]) (ds ++ [d])
  | _, _, .nil, h => .cons h .nil
  | _, _, .cons h1 a, h => .cons h1 (dpAll_snoc a h)
end
theorem lay_map {α : Type} {f : α → PyData} : ∀ {xs : List α}, (∀ x ∈ xs, (f x).canLay0 = true) → PyData.canLayAll0 (xs.map f) = true
  | [], _ => rfl
  | x :: xs, h => by
    show (PyData.canLay0 (f x) && PyData.canLayAll0 (xs.map f)) = true
    rw [h x List.mem_cons_self, lay_map fun y hy => h y (List.mem_cons_of_mem _ hy)]
    rfl
theorem depth_map {α : Type} {f : α → PyData} {n : Nat} : ∀ {xs : List α}, (∀ x ∈ xs, (f x).depth ≤ n) → PyData.depthAll (xs.map f) ≤ n
  | [], _ => by simp [PyData.depthAll]
  | x :: xs, h => by
    have h1 := h x List.mem_cons_self
    have h2 := depth_map (xs := xs) fun y hy => h y (List.mem_cons_of_mem _ hy)
    simp only [List.map_cons, PyData.depthAll]
    omega
theorem shaped_of {d : PyData} (h1 : d.canLay0 = true) (h2 : d.depth ≤ 64) : SeqAt.shaped d = true := by
  unfold SeqAt.shaped
  rw [h1, decide_eq_true h2]
  rfl
theorem shaped_lm {α : Type} {f : α → PyData} {xs : List α} (h1 : ∀ x ∈ xs, (f x).canLay0 = true) (h2 : ∀ x ∈ xs, (f x).depth ≤ 63) : SeqAt.shaped (.list (xs.map f)) = true := by
  refine shaped_of ?_ ?_
  · show PyData.canLayAll0 (xs.map f) = true
    exact lay_map h1
  · have := depth_map h2
    simp only [PyData.depth]
    omega
/-- two data that are the same -/
theorem w_eqS' {K : PySem.W.Frag} {H : Hp} {Q : VK} {x y : V} {d : PyData} (h1 : Dp K H x d) (h2 : Dp K H y d) (s : SeqAt.shaped d = true) (q : Q (.bl true) H) : rEqD K x y H Q := w_eqD h1 h2 s s (by rw [eqv_self s]; exact q)
theorem w_neS' {K : PySem.W.Frag} {H : Hp} {Q : VK} {x y : V} {d : PyData} (h1 : Dp K H x d) (h2 : Dp K H y d) (s : SeqAt.shaped d = true) (q : Q (.bl false) H) : rNeD K x y H Q := w_neD h1 h2 s s (by rw [eqv_self s]; exact q)
/-! range with a step -/
theorem w_forR3 {g : TG} {tb : TS} {D : Ends} {σ : L2.St} {H : Hp} {tA : TA} (h : tA σ H fun vs H1 => ∃ (i j c : Int) (n : Nat), vs = [.int i, .int j, .int c] ∧ RgC i j c n ∧ ∃ W : Nat → Nat → L2.St → Hp → Prop, (∃ m, W 0 m σ H1) ∧ ∀ k m σ H, W k m σ H →
  ((Itc i c n).stop k H ∧ D.nx σ H) ∨ ((Itc i c n).go k H ∧ ∃ N : L2.St → Hp → Prop, (∀ σ' H', N σ' H' → ∃ m', m' < m ∧ W (k + 1) m' σ' H') ∧ ∀ x H', (Itc i c n).yld k H x H' → g x σ H' fun σ2 H2 => tb { D with nx := N, ct := N, bk := D.nx } σ2 H2)) : tFor (iRng3 tA) g tb D σ H := h
theorem rgC_pos {n c : Int} (h0 : 0 ≤ n) (h1 : n < 10000000) (c0 : 1 ≤ c) (c1 : c < 1073741824) : RgC 0 n c ((n + c - 1) / c).toNat := by
  have e := rangeSize_pos (len := n) c0 h0
  have q0 : 0 ≤ (n + c - 1) / c := Int.ediv_nonneg (by omega) (by omega)
  have q1 : (n + c - 1) / c ≤ n + c - 1 := Int.ediv_le_self _ (by omega)
  refine ⟨by omega, by omega, ?_, ?_⟩
  · unfold Builtin.Range.small
    rw [e]
    simp only [Builtin.Range.rangeFitsLong, Bool.and_eq_true, Bool.or_eq_true, decide_eq_true_eq, beq_iff_eq]
    rw [if_pos (by omega)]
    simp only [Bool.and_eq_true, decide_eq_true_eq]
    generalize (n + c - 1) / c = z at *
    omega
  · rw [e]
    omega
def rLoop3 (g : TG) (tb : TS) (D : Ends) (σ : L2.St) (vs : List V) (H1 : Hp) : Prop := ∃ (i j c : Int) (n : Nat), vs = [.int i, .int j, .int c] ∧ RgC i j c n ∧ ∃ W : Nat → Nat → L2.St → Hp → Prop, (∃ m, W 0 m σ H1) ∧ ∀ k m σ H, W k m σ H →
  ((Itc i c n).stop k H ∧ D.nx σ H) ∨ ((Itc i c n).go k H ∧ ∃ N : L2.St → Hp → Prop, (∀ σ' H', N σ' H' → ∃ m', m' < m ∧ W (k + 1) m' σ' H') ∧ ∀ x H', (Itc i c n).yld k H x H' → g x σ H' fun σ2 H2 => tb { D with nx := N, ct := N, bk := D.nx } σ2 H2)
theorem w_for3 {g : TG} {tb : TS} {D : Ends} {σ : L2.St} {H : Hp} {tA : TA} (h : tA σ H fun vs H1 => rLoop3 g tb D σ vs H1) : tFor (iRng3 tA) g tb D σ H := h
/-- for x in range(0, n, c) -/
theorem loop3 {g : TG} {tb : TS} {D : Ends} {σ : L2.St} {H : Hp} {n c : Int} (Pv : Nat → L2.St → Hp → Prop) (h0 : 0 ≤ n) (h1 : n < 10000000) (c0 : 1 ≤ c) (c1 : c < 1073741824) (hb : Pv 0 σ H)
    (hs : ∀ (i : Nat) σ H, (i : Int) * c < n → Pv i σ H → g (.int ((i : Int) * c)) σ H fun σ2 H2 => tb { D with nx := Pv (i + 1), ct := Pv (i + 1), bk := D.nx } σ2 H2) (hd : ∀ (N : Nat) σ H, n ≤ (N : Int) * c → (N : Int) * c < n + c → Pv N σ H → D.nx σ H) : rLoop3 g tb D σ [.int 0, .int n, .int c] H := by
  have q0 : 0 ≤ (n + c - 1) / c := Int.ediv_nonneg (by omega) (by omega)
  have e1 := Int.emod_add_mul_ediv (n + c - 1) c
  have e2 := Int.emod_nonneg (n + c - 1) (b := c) (by omega)
  have e3 := Int.emod_lt_of_pos (n + c - 1) (b := c) (by omega)
  have em : c * ((n + c - 1) / c) = ((n + c - 1) / c) * c := Int.mul_comm _ _
  have ez : ((((n + c - 1) / c).toNat : Nat) : Int) = (n + c - 1) / c := by omega
  refine ⟨0, n, c, _, rfl, rgC_pos h0 h1 c0 c1, for_rangeC (lo := 0) (c := c) (n := ((n + c - 1) / c).toNat) Pv hb (fun i σ H hi p => ?_) (fun σ H p => hd _ σ H ?_ ?_ p)⟩
  · have e : (0 : Int) + (i : Nat) * c = (i : Int) * c := Int.zero_add _
    rw [e]
    refine hs i σ H ?_ p
    have hi2 : (i : Int) + 1 ≤ (n + c - 1) / c := by omega
    have hm := Int.mul_le_mul_of_nonneg_right hi2 (show 0 ≤ c by omega)
    rw [Int.add_mul, Int.one_mul] at hm
    omega
  · rw [ez]; omega
  · rw [ez]; omega
theorem upd_thru {H : Hp} {p m : Addr} {x y z : HO} (n : m ≠ p) : upd (upd (upd H p x) m y) p z = upd (upd H m y) p z := by
  funext a
  by_cases h : a = p
  · subst h
    rw [upd_same, upd_same]
  · rw [upd_ne h, upd_ne h]
    by_cases h2 : a = m
    · subst h2
      rw [upd_same, upd_same]
    · rw [upd_ne h2, upd_ne h2, upd_ne h]
end G

/-! what a run owns: a list of claims on disjoint parts of the heap; a marked cell is only read, and may be claimed often -/
namespace G
open PySem PySem.Spec PyProof.Rows L2
abbrev LH : Type := Addr → Option (HO × Bool)
abbrev HP : Type := LH → Prop
def LHle (h : LH) (H : Hp) : Prop := ∀ a o b, h a = some (o, b) → H a = some o
def Dis (h k : LH) : Prop := ∀ a x y, h a = some x → k a = some y → x.2 = true
def LSub (h k : LH) : Prop := ∀ a x, h a = some x → k a = some x
def LHor (h k : LH) : LH := fun a => match h a with
  | some x => some x
  | none => k a
def LHupd (h : LH) (a : Addr) (x : HO × Bool) : LH := fun b => if b = a then some x else h b
def LHnone : LH := fun _ => none
def AllRo (h : LH) : Prop := ∀ a x, h a = some x → x.2 = true
def stars : List HP → HP
  | [] => fun _ => True
  | P :: L => fun h => ∃ h1 h2, Dis h1 h2 ∧ LSub h1 h ∧ LSub h2 h ∧ P h1 ∧ stars L h2
def Own (L : List HP) (H : Hp) : Prop := ∃ h, LHle h H ∧ stars L h
def cell (b : Bool) (a : Addr) (o : HO) : HP := fun h => h a = some (o, b)
abbrev pt (a : Addr) (o : HO) : HP := cell false a o
abbrev ro (a : Addr) (o : HO) : HP := cell true a o
def hex {α : Sort _} (f : α → HP) : HP := fun h => ∃ x, f x h
def hpu (p : Prop) : HP := fun _ => p
section
variable {h k h1 h2 h3 g : LH} {a b : Addr} {x y : HO × Bool} {L M R : List HP} {P Q : HP} {H H' : Hp} {o u : HO}
theorem LSub.rfl' : LSub h h := fun _ _ e => e
theorem LSub.trans (s : LSub h k) (t : LSub k g) : LSub h g := fun a x e => t a x (s a x e)
theorem lor_l : LSub h (LHor h k) := fun a x e => by unfold LHor; rw [e]
theorem lor_sub (s : LSub h g) (t : LSub k g) : LSub (LHor h k) g := fun a x e => by
  unfold LHor at e
  cases q : h a with
  | some z => rw [q] at e; cases e; exact s a _ q
  | none => rw [q] at e; exact t a x e
theorem lor_r (s : LSub h g) (t : LSub k g) : LSub k (LHor h k) := fun a x e => by
  unfold LHor
  cases q : h a with
  | some z =>
    have e1 := s a z q
    rw [t a x e] at e1
    cases e1
    rfl
  | none => exact e
theorem lor_of (e : LHor h k a = some x) : h a = some x ∨ k a = some x := by
  unfold LHor at e
  split at e
  · rename_i z q
    cases e
    exact .inl q
  · exact .inr e
theorem Dis.symm (d : Dis h k) (s : LSub h g) (t : LSub k g) : Dis k h := fun a x y e f => by
  have e1 := t a x e
  rw [s a y f] at e1
  cases e1
  exact d a _ _ f e
theorem dis_or (d : Dis h k) (e : Dis h g) : Dis h (LHor k g) := fun a x y p q => (lor_of q).elim (d a x y p) (e a x y p)
theorem or_dis (d : Dis h g) (e : Dis k g) : Dis (LHor h k) g := fun a x y p q => (lor_of p).elim (fun p => d a x y p q) fun p => e a x y p q
theorem Dis.sub_l (d : Dis h k) (s : LSub g h) : Dis g k := fun a x y p q => d a x y (s a x p) q
theorem Dis.sub_r (d : Dis h k) (s : LSub g k) : Dis h g := fun a x y p q => d a x y p (s a y q)
theorem dis_none : Dis LHnone h := fun a x y e _ => nomatch e
theorem dis_none_r : Dis h LHnone := fun a x y _ e => nomatch e
theorem sub_none : LSub LHnone h := fun a x e => nomatch e
theorem stars_mono : ∀ {L : List HP} {h k : LH}, stars L h → LSub h k → stars L k
  | [], _, _, _, _ => trivial
  | _ :: _, _, _, ⟨h1, h2, d, s1, s2, p, q⟩, s => ⟨h1, h2, d, s1.trans s, s2.trans s, p, q⟩
theorem stars_swap (s : stars (P :: Q :: L) h) : stars (Q :: P :: L) h := by
  obtain ⟨h1, h2, d, s1, s2, p, h3, h4, d2, s3, s4, q, t⟩ := s
  refine ⟨h3, LHor h1 h4, dis_or ((d.sub_r s3).symm s1 (s3.trans s2)) d2, s3.trans s2, lor_sub s1 (s4.trans s2), q, h1, h4, d.sub_r s4, lor_l, lor_r s1 (s4.trans s2), p, t⟩
theorem stars_cons (t : ∀ h, stars L h → stars M h) (s : stars (P :: L) h) : stars (P :: M) h := by
  obtain ⟨h1, h2, d, s1, s2, p, q⟩ := s
  exact ⟨h1, h2, d, s1, s2, p, t _ q⟩
theorem stars_head (t : ∀ h, P h → Q h) (s : stars (P :: L) h) : stars (Q :: L) h := by
  obtain ⟨h1, h2, d, s1, s2, p, q⟩ := s
  exact ⟨h1, h2, d, s1, s2, t _ p, q⟩
theorem stars_perm (p : L.Perm M) : ∀ {h}, stars L h → stars M h := by
  induction p with
  | nil => exact fun s => s
  | cons x _ ih => exact fun s => stars_cons (fun h => ih) s
  | swap x y l => exact fun s => stars_swap s
  | trans _ _ i1 i2 => exact fun s => i2 (i1 s)
theorem stars_app : ∀ {L M : List HP} {h : LH}, stars (L ++ M) h ↔ ∃ h1 h2, Dis h1 h2 ∧ LSub h1 h ∧ LSub h2 h ∧ stars L h1 ∧ stars M h2
  | [], M, h => ⟨fun s => ⟨LHnone, h, dis_none, sub_none, LSub.rfl', trivial, s⟩, fun ⟨_, _, _, _, s, _, q⟩ => stars_mono q s⟩
  | P :: L, M, h => by
    constructor
    · rintro ⟨hp, h', d, s1, s2, p, q⟩
      obtain ⟨h1, h2, d2, s3, s4, q1, q2⟩ := stars_app.mp q
      exact ⟨LHor hp h1, h2, or_dis (d.sub_r s4) d2, lor_sub s1 (s3.trans s2), s4.trans s2, ⟨hp, h1, d.sub_r s3, lor_l, lor_r s1 (s3.trans s2), p, q1⟩, q2⟩
    · rintro ⟨h1, h2, d, s1, s2, ⟨hp, h3, d2, s3, s4, p, q1⟩, q2⟩
      exact ⟨hp, LHor h3 h2, dis_or d2 (d.sub_l s3), s3.trans s1, lor_sub (s4.trans s1) s2, p, stars_app.mpr ⟨h3, h2, d.sub_l s4, lor_l, lor_r (s4.trans s1) s2, q1, q2⟩⟩
theorem stars_flat : stars (stars L :: M) h ↔ stars (L ++ M) h := by
  rw [stars_app]
  rfl
/-! ### claims -/
theorem Own.nil : Own [] H := ⟨LHnone, (fun _ _ _ e => nomatch e), trivial⟩
theorem Own.map (t : ∀ h, stars L h → stars M h) (o : Own L H) : Own M H := let ⟨h, e, s⟩ := o; ⟨h, e, t h s⟩
theorem Own.perm (o : Own L H) (p : L.Perm M) : Own M H := o.map fun _ => stars_perm p
theorem Own.swap (o : Own (P :: Q :: L) H) : Own (Q :: P :: L) H := o.map fun _ => stars_swap
theorem Own.tail (o : Own (P :: L) H) : Own L H := o.map fun h s => by
  obtain ⟨_, _, _, _, s2, _, q⟩ := s
  exact stars_mono q s2
theorem Own.flat (o : Own (stars L :: M) H) : Own (L ++ M) H := o.map fun _ => stars_flat.mp
theorem Own.fold (o : Own (L ++ M) H) : Own (stars L :: M) H := o.map fun _ => stars_flat.mpr
theorem Own.head (t : ∀ h, P h → Q h) (o : Own (P :: L) H) : Own (Q :: L) H := o.map fun _ => stars_head t
theorem Own.rest (t : ∀ h, stars L h → stars M h) (o : Own (P :: L) H) : Own (P :: M) H := o.map fun _ => stars_cons t
theorem Own.ex {α : Sort _} {f : α → HP} (o : Own (hex f :: L) H) : ∃ x, Own (f x :: L) H := by
  obtain ⟨h, e, h1, h2, d, s1, s2, ⟨x, p⟩, q⟩ := o
  exact ⟨x, h, e, h1, h2, d, s1, s2, p, q⟩
theorem Own.exi {α : Sort _} {f : α → HP} (x : α) (o : Own (f x :: L) H) : Own (hex f :: L) H := o.head fun _ p => ⟨x, p⟩
theorem Own.pu {p : Prop} (o : Own (hpu p :: L) H) : p ∧ Own L H := by
  obtain ⟨h, e, h1, h2, d, s1, s2, z, q⟩ := o
  exact ⟨z, h, e, stars_mono q s2⟩
theorem Own.pui {p : Prop} (z : p) (o : Own L H) : Own (hpu p :: L) H := o.map fun h s => ⟨LHnone, h, dis_none, sub_none, LSub.rfl', z, s⟩
/-- a claim that needs no cell -/
theorem Own.free (z : P LHnone) (o : Own L H) : Own (P :: L) H := o.map fun h s => ⟨LHnone, h, dis_none, sub_none, LSub.rfl', z, s⟩
/-! ### what a claim tells -/
def Ent (L : List HP) (φ : Hp → Prop) : Prop := ∀ h, stars L h → ∀ H, LHle h H → φ H
def Tell (P : HP) (φ : Hp → Prop) : Prop := ∀ h, P h → ∀ H, LHle h H → φ H
theorem LHle.sub (e : LHle k H) (s : LSub h k) : LHle h H := fun a o b z => e a o b (s a _ z)
theorem Ent.here {φ : Hp → Prop} (t : Tell P φ) : Ent (P :: L) φ := fun _ ⟨_, _, _, s1, _, p, _⟩ _ e => t _ p _ (e.sub s1)
theorem Ent.next {φ : Hp → Prop} (t : Ent L φ) : Ent (P :: L) φ := fun _ ⟨_, _, _, _, s2, _, q⟩ _ e => t _ q _ (e.sub s2)
theorem Own.ent {φ : Hp → Prop} (o : Own L H) (t : Ent L φ) : φ H := let ⟨_, e, s⟩ := o; t _ s _ e
theorem tell_cell {c : Bool} : Tell (cell c a o) (fun H => H a = some o) := fun _ p _ e => e _ _ _ p
/-- the cell at a holds o -/
abbrev Got (L : List HP) (a : Addr) (o : HO) : Prop := Ent L fun H => H a = some o
theorem Got.here {c : Bool} : Got (cell c a o :: L) a o := Ent.here tell_cell
theorem Got.next (t : Got L a o) : Got (P :: L) a o := Ent.next t
theorem Own.get (w : Own L H) (t : Got L a o) : H a = some o := w.ent t
theorem Own.get' {c : Bool} (w : Own (cell c a o :: L) H) : H a = some o := w.get Got.here
/-! ### taking a claim out -/
def Pick (L : List HP) (P : HP) (R : List HP) : Prop := ∀ h, stars L h → stars (P :: R) h
class Ro (P : HP) : Prop where
  ro : ∀ h, P h → ∃ g, LSub g h ∧ AllRo g ∧ P g
theorem stars_dup (c : Ro P) (s : stars (P :: L) h) : stars (P :: P :: L) h := by
  obtain ⟨h1, h2, d, s1, s2, p, q⟩ := s
  obtain ⟨g, t, r, p'⟩ := c.ro _ p
  exact ⟨g, h, fun a x y e f => r a x e, t.trans s1, LSub.rfl', p', h1, h2, d, s1, s2, p, q⟩
theorem Pick.here : Pick (P :: R) P R := fun _ s => s
theorem Pick.keep [c : Ro P] : Pick (P :: R) P (P :: R) := fun _ s => stars_dup c s
theorem Pick.next (p : Pick L P R) : Pick (Q :: L) P (Q :: R) := fun _ s => stars_swap (stars_cons p s)
theorem Own.pick (o : Own L H) (p : Pick L P R) : Own (P :: R) H := o.map p
theorem Own.dup [c : Ro P] (o : Own (P :: L) H) : Own (P :: P :: L) H := o.map fun _ s => stars_dup c s
theorem lup_none {z : HO × Bool} (e : LHupd LHnone a z b = some x) : b = a ∧ x = z := by
  unfold LHupd at e
  split at e
  · rename_i q
    cases e
    exact ⟨q, rfl⟩
  · cases e
instance : Ro (cell true a o) := ⟨fun h p => ⟨LHupd LHnone a (o, true), (fun b x e => by
    obtain ⟨rfl, rfl⟩ := lup_none e
    exact p), (fun b x e => by
    obtain ⟨rfl, rfl⟩ := lup_none e
    rfl), if_pos rfl⟩⟩
instance {α : Sort _} {f : α → HP} [c : ∀ x, Ro (f x)] : Ro (hex f) := ⟨fun h ⟨x, p⟩ => let ⟨g, s, r, q⟩ := (c x).ro h p; ⟨g, s, r, x, q⟩⟩
instance {p : Prop} : Ro (hpu p) := ⟨fun h z => ⟨LHnone, sub_none, (fun _ _ e => nomatch e), z⟩⟩
theorem allRo_or (p : AllRo h) (q : AllRo k) : AllRo (LHor h k) := fun a x e => (lor_of e).elim (p a x) (q a x)
instance : Ro (stars []) := ⟨fun h _ => ⟨LHnone, sub_none, (fun _ _ e => nomatch e), trivial⟩⟩
instance [c : Ro P] [d : Ro (stars L)] : Ro (stars (P :: L)) := ⟨fun h ⟨h1, h2, _, s1, s2, p, q⟩ => by
  obtain ⟨g1, t1, r1, p'⟩ := c.ro _ p
  obtain ⟨g2, t2, r2, q'⟩ := d.ro _ q
  exact ⟨LHor g1 g2, lor_sub (t1.trans s1) (t2.trans s2), allRo_or r1 r2, g1, g2, fun a x y e f => r1 a x e, lor_l, lor_r (t1.trans s1) (t2.trans s2), p', q'⟩⟩
/-! ### writing -/
theorem lup_same : LHupd h a x a = some x := if_pos rfl
theorem lup_ne (n : b ≠ a) : LHupd h a x b = h b := if_neg n
theorem le_lup (e : LHle h H) {c : Bool} : LHle (LHupd h a (o, c)) (upd H a o) := fun b u d z => by
  by_cases n : b = a
  · subst n
    rw [lup_same] at z
    cases z
    exact upd_same
  · rw [lup_ne n] at z
    rw [upd_ne n]
    exact e b u d z
def Put (L : List HP) (a : Addr) (u o : HO) (M : List HP) : Prop := ∀ h, stars L h → h a = some (u, false) ∧ stars M (LHupd h a (o, false))
theorem Put.here : Put (pt a u :: L) a u o (pt a o :: L) := by
  rintro h ⟨h1, h2, d, s1, s2, p, q⟩
  have n2 : h2 a = none := by
    cases z : h2 a with
    | none => rfl
    | some y => exact absurd (d a _ _ p z) Bool.false_ne_true
  refine ⟨s1 _ _ p, LHupd LHnone a (o, false), h2, ?_, ?_, ?_, lup_same, q⟩
  · intro b x y e f
    by_cases n : b = a
    · subst n
      rw [n2] at f
      cases f
    · rw [lup_ne n] at e
      cases e
  · intro b x e
    by_cases n : b = a
    · subst n
      rw [lup_same] at e ⊢
      exact e
    · rw [lup_ne n] at e
      cases e
  · intro b x e
    have n : b ≠ a := fun z => by
      subst z
      rw [n2] at e
      cases e
    rw [lup_ne n]
    exact s2 b x e
theorem Put.next (t : Put L a u o M) : Put (P :: L) a u o (P :: M) := by
  rintro h ⟨h1, h2, d, s1, s2, p, q⟩
  obtain ⟨e2, q2⟩ := t _ q
  have n1 : h1 a = none := by
    cases z : h1 a with
    | none => rfl
    | some y =>
      have e1 := s1 _ _ z
      rw [s2 _ _ e2] at e1
      cases e1
      exact absurd (d a _ _ z e2) Bool.false_ne_true
  refine ⟨s2 _ _ e2, h1, LHupd h2 a (o, false), ?_, ?_, ?_, p, q2⟩
  · intro b x y e f
    have n : b ≠ a := fun z => by
      subst z
      rw [n1] at e
      cases e
    rw [lup_ne n] at f
    exact d b x y e f
  · intro b x e
    have n : b ≠ a := fun z => by
      subst z
      rw [n1] at e
      cases e
    rw [lup_ne n]
    exact s1 b x e
  · intro b x e
    by_cases n : b = a
    · subst n
      rw [lup_same] at e ⊢
      exact e
    · rw [lup_ne n] at e ⊢
      exact s2 b x e
theorem Own.put (w : Own L H) (t : Put L a u o M) : Own M (upd H a o) := by
  obtain ⟨h, e, s⟩ := w
  exact ⟨_, le_lup e, (t h s).2⟩
theorem Own.putGet (w : Own L H) (t : Put L a u o M) : H a = some u := by
  obtain ⟨h, e, s⟩ := w
  exact e _ _ _ (t h s).1
theorem Own.newC (c : Bool) (n : H a = none) (w : Own L H) : Own (cell c a o :: L) (upd H a o) := by
  obtain ⟨h, e, s⟩ := w
  have n2 : h a = none := by
    cases z : h a with
    | none => rfl
    | some y =>
      obtain ⟨y1, y2⟩ := y
      rw [e a y1 y2 z] at n
      cases n
  refine ⟨LHupd h a (o, c), le_lup e, LHupd LHnone a (o, c), h, ?_, ?_, ?_, lup_same, s⟩
  · intro b x y e f
    by_cases n : b = a
    · subst n
      rw [n2] at f
      cases f
    · rw [lup_ne n] at e
      cases e
  · intro b x e
    by_cases n : b = a
    · subst n
      rw [lup_same] at e ⊢
      exact e
    · rw [lup_ne n] at e
      cases e
  · intro b x e
    have n : b ≠ a := fun z => by
      subst z
      rw [n2] at e
      cases e
    rw [lup_ne n]
    exact e
theorem Own.new (n : H a = none) (w : Own L H) : Own (pt a o :: L) (upd H a o) := w.newC false n
theorem Own.newT {xs : List V} (n : H a = none) (w : Own L H) : Own (ro a (.tup xs) :: L) (upd H a (.tup xs)) := w.newC true n
/-- an object and its dict -/
theorem Own.made {C dx : Addr} (n : H a = none) (m : H dx = none) (ne : dx ≠ a) (w : Own L H) : Own (pt a (.ins C dx []) :: L) (upd (upd H dx (.own a)) a (.ins C dx [])) :=
  (w.new m).tail.new (none_up ne.symm n)
/-- a claim that does not look at the marks is only read from now on -/
def Mk0 (P : HP) : Prop := ∀ h k : LH, (∀ a o b, h a = some (o, b) → ∃ c, k a = some (o, c)) → P h → P k
theorem AllRo.or_ro (q : AllRo h) : Dis h k := fun a x y e _ => q a x e
def mark (h : LH) : LH := fun a => match h a with
  | some (o, _) => some (o, true)
  | none => none
/-- h, with the cells of h1 marked -/
def over (h1 h : LH) : LH := fun a => match h1 a with
  | some (o, _) => some (o, true)
  | none => h a
theorem mark_of (e : mark h a = some x) : ∃ b, h a = some (x.1, b) ∧ x.2 = true := by
  unfold mark at e
  split at e
  · rename_i o b q
    cases e
    exact ⟨b, q, rfl⟩
  · cases e
theorem mark_to {c : Bool} (e : h a = some (o, c)) : mark h a = some (o, true) := by
  unfold mark
  rw [e]
theorem Own.freeze (m : ∀ h, P h → P (mark h)) (w : Own (P :: L) H) : Own (P :: L) H ∧ ∃ h1, AllRo h1 ∧ P h1 ∧ LHle h1 H ∧ ∃ h, LHle h H ∧ LSub h1 h ∧ ∃ h2, LSub h2 h ∧ stars L h2 := by
  refine ⟨w, ?_⟩
  obtain ⟨h, e, h1, h2, d, s1, s2, p, q⟩ := w
  have o1 : ∀ a o c, h1 a = some (o, c) → over h1 h a = some (o, true) := fun a o c z => by
    unfold over
    rw [z]
  have o2 : ∀ a, h1 a = none → over h1 h a = h a := fun a z => by
    unfold over
    rw [z]
  refine ⟨mark h1, fun a x e => (mark_of e).elim fun b z => z.2, m _ p, ?_, over h1 h, ?_, ?_, h2, ?_, q⟩
  · intro a o b z
    obtain ⟨c, z1, _⟩ := mark_of z
    exact e a o c (s1 _ _ z1)
  · intro a o b z
    cases z1 : h1 a with
    | none =>
      rw [o2 a z1] at z
      exact e a o b z
    | some y =>
      obtain ⟨y1, y2⟩ := y
      rw [o1 a y1 y2 z1] at z
      cases z
      exact e a _ _ (s1 _ _ z1)
  · intro a x z
    obtain ⟨c, z1, z2⟩ := mark_of z
    rw [o1 a _ c z1]
    obtain ⟨x1, x2⟩ := x
    cases z2
    rfl
  · intro a x z
    cases z1 : h1 a with
    | none =>
      rw [o2 a z1]
      exact s2 a x z
    | some y =>
      obtain ⟨y1, y2⟩ := y
      have t := d a _ _ z1 z
      have e1 := s1 _ _ z1
      rw [s2 _ _ z] at e1
      cases e1
      rw [o1 a _ _ z1]
      cases t
      rfl
/-- only read from now on -/
def Rd (P : HP) : HP := fun h => ∃ g, LSub g h ∧ AllRo g ∧ P g
instance : Ro (Rd P) := ⟨fun h ⟨g, s, r, p⟩ => ⟨g, s, r, g, LSub.rfl', r, p⟩⟩
theorem Own.toRd (m : ∀ h, P h → P (mark h)) (w : Own (P :: L) H) : Own (Rd P :: L) H := by
  obtain ⟨_, h1, r, p, _, h, e, s1, h2, s2, q⟩ := w.freeze m
  exact ⟨h, e, h1, h2, fun a x y z _ => r a x z, s1, s2, ⟨h1, LSub.rfl', r, p⟩, q⟩
theorem tell_rd {φ : Hp → Prop} (t : Tell P φ) : Tell (Rd P) φ := fun h ⟨g, s, _, p⟩ H e => t g p H (e.sub s)
theorem Own.toRo (w : Own (pt a o :: L) H) : Own (ro a o :: L) H := by
  obtain ⟨h, e, h1, h2, d, s1, s2, p, q⟩ := w
  have n2 : h2 a = none := by
    cases z : h2 a with
    | none => rfl
    | some y => exact absurd (d a _ _ p z) Bool.false_ne_true
  refine ⟨LHupd h a (o, true), ?_, LHupd LHnone a (o, true), h2, ?_, ?_, ?_, lup_same, q⟩
  · intro b u c z
    by_cases n : b = a
    · subst n
      rw [lup_same] at z
      cases z
      exact e _ _ _ (s1 _ _ p)
    · rw [lup_ne n] at z
      exact e b u c z
  · intro b x y e f
    by_cases n : b = a
    · subst n
      rw [n2] at f
      cases f
    · rw [lup_ne n] at e
      cases e
  · intro b x e
    by_cases n : b = a
    · subst n
      rw [lup_same] at e ⊢
      exact e
    · rw [lup_ne n] at e
      cases e
  · intro b x e
    have n : b ≠ a := fun z => by
      subst z
      rw [n2] at e
      cases e
    rw [lup_ne n]
    exact s2 b x e
end
end G

/-! claims: data, rows of claims, the script, drawn numbers; the steps that write -/
namespace G
open PySem PySem.Spec PyProof.Rows L2
section
variable {K : PySem.W.Frag} {h k h1 h2 : LH} {a b : Addr} {L M R : List HP} {P P' Q : HP} {H H' : Hp} {o u : HO} {v : V} {vs : List V} {d : PyData} {ds : List PyData} {c : Bool} {xs : List Int}
/-! ### data -/
def DT (K : PySem.W.Frag) (v : V) (d : PyData) : HP := fun h => ∀ H, LHle h H → Dp K H v d
def DTs (K : PySem.W.Frag) (vs : List V) (ds : List PyData) : HP := fun h => ∀ H, LHle h H → DpAll K H vs ds
theorem tell_DT : Tell (DT K v d) (fun H => Dp K H v d) := fun h p H e => p H e
theorem tell_DTs : Tell (DTs K vs ds) (fun H => DpAll K H vs ds) := fun h p H e => p H e
theorem mark_le (e : LHle (mark h) H) : LHle h H := fun a o b z => e a o true (mark_to z)
theorem le_mark (e : LHle h H) : LHle (mark h) H := fun a o b z => let ⟨c, z1, _⟩ := mark_of z; e a o c z1
theorem DT.mark (p : DT K v d h) : DT K v d (mark h) := fun H e => p H (mark_le e)
theorem DTs.mark (p : DTs K vs ds h) : DTs K vs ds (G.mark h) := fun H e => p H (mark_le e)
theorem lor_le (e : LHle k H) (s : LSub h1 k) (t : LSub h2 k) : LHle (LHor h1 h2) H := e.sub (lor_sub s t)
/-- two claims, told at once -/
theorem Own.join (t : ∀ h1 h2 h, LSub h1 h → LSub h2 h → P h1 → Q h2 → P' h) (w : Own (P :: Q :: L) H) : Own (P' :: L) H := w.map fun h s => by
  obtain ⟨h1, h2, d, s1, s2, p, h3, h4, d2, s3, s4, q, z⟩ := s
  exact ⟨LHor h1 h3, h4, or_dis (d.sub_r s4) d2, lor_sub s1 (s3.trans s2), s4.trans s2, t _ _ _ lor_l (lor_r s1 (s3.trans s2)) p q, z⟩
theorem Own.dtScalar (z : ∀ H, Dp K H v d) (w : Own L H) : Own (DT K v d :: L) H := w.free fun H _ => z H
theorem Own.dtNil (w : Own L H) : Own (DTs K [] [] :: L) H := w.free fun H _ => .nil
theorem Own.dtCons (w : Own (DT K v d :: DTs K vs ds :: L) H) : Own (DTs K (v :: vs) (d :: ds) :: L) H := w.join fun h1 h2 h s t p q H e => .cons (p H (e.sub s)) (q H (e.sub t))
theorem Own.dtSnoc (w : Own (DTs K vs ds :: DT K v d :: L) H) : Own (DTs K (vs ++ [v]) (ds ++ [d]) :: L) H := w.join fun h1 h2 h s t p q H e => dpAll_snoc (p H (e.sub s)) (q H (e.sub t))
theorem Own.dtLst (w : Own (cell c a (.lst vs) :: DTs K vs ds :: L) H) : Own (DT K (.ref a) (.list ds) :: L) H := w.join fun h1 h2 h s t p q H e => .lst (SqL.of (e _ _ _ (s _ _ p))) (q H (e.sub t))
theorem Own.dtTup (w : Own (cell c a (.tup vs) :: DTs K vs ds :: L) H) : Own (DT K (.ref a) (.tuple ds) :: L) H := w.join fun h1 h2 h s t p q H e => .tup (SqT.of' (e _ _ _ (s _ _ p))) (q H (e.sub t))
theorem Own.dtInts (w : Own (cell c a (.lst (xs.map V.int)) :: L) H) : Own (DT K (.ref a) (.list (xs.map PyData.int)) :: L) H := w.head fun h p H e => .lst (SqL.of (e _ _ _ p)) (dp_ints xs)
theorem Own.dtRd (w : Own (DT K v d :: L) H) : Own (Rd (DT K v d) :: L) H := w.toRd fun _ => DT.mark
theorem Own.dp (w : Own (DT K v d :: L) H) : Dp K H v d := w.ent (Ent.here tell_DT)
abbrev GotD (K : PySem.W.Frag) (L : List HP) (v : V) (d : PyData) : Prop := Ent L fun H => Dp K H v d
theorem Own.dpG (w : Own L H) (t : GotD K L v d) : Dp K H v d := w.ent t
theorem GotD.here : GotD K (DT K v d :: L) v d := Ent.here tell_DT
theorem GotD.hereR : GotD K (Rd (DT K v d) :: L) v d := Ent.here (tell_rd tell_DT)
theorem GotD.ints : GotD K (cell c a (.lst (xs.map V.int)) :: L) (.ref a) (.list (xs.map PyData.int)) := Ent.here fun h p H e => .lst (SqL.of (e _ _ _ p)) (dp_ints xs)
theorem GotD.next (t : GotD K L v d) : GotD K (P :: L) v d := Ent.next t
/-! ### lists that are read -/
abbrev GotL (K : PySem.W.Frag) (L : List HP) (a : Addr) (vs : List V) : Prop := Ent L fun H => SqL K H a vs
/-- a list that stands still -/
def ScP (K : PySem.W.Frag) (a : Addr) (vs : List V) : HP := fun h => (∃ o, h a = some (.frz o (.lst vs), true)) ∨
    ∃ (o : Obj) (its : Array Value) (n : Nat), K.lookup a = some o ∧ o.cls = .type "list" ∧ o.dict = none ∧ o.data = .seq its n ∧ its.size ≤ sizeLine ∧ Vals vs its.toList
theorem tell_scr : Tell (ScP K a vs) (fun H => Scr K H a vs) := fun h p H e => p.elim (fun ⟨o, z⟩ => .inl ⟨o, e _ _ _ z⟩) .inr
instance : Ro (ScP K a vs) := ⟨fun h p => p.elim (fun ⟨o, z⟩ => ⟨LHupd LHnone a (.frz o (.lst vs), true), (fun b x e => by
    obtain ⟨rfl, rfl⟩ := lup_none e
    exact z), (fun b x e => by
    obtain ⟨rfl, rfl⟩ := lup_none e
    rfl), .inl ⟨o, if_pos rfl⟩⟩) fun z => ⟨LHnone, sub_none, (fun _ _ e => nomatch e), .inr z⟩⟩
theorem Own.ofScr (s : Scr K H a vs) : Own [ScP K a vs] H := by
  rcases s with ⟨o, z⟩ | z
  · refine ⟨LHupd LHnone a (.frz o (.lst vs), true), fun b x c e => ?_, LHupd LHnone a (.frz o (.lst vs), true), LHnone, dis_none_r, LSub.rfl', sub_none, .inl ⟨o, if_pos rfl⟩, trivial⟩
    obtain ⟨rfl, e2⟩ := lup_none e
    cases e2
    exact z
  · exact ⟨LHnone, (fun _ _ _ e => nomatch e), LHnone, LHnone, dis_none, sub_none, sub_none, .inr z, trivial⟩
theorem GotL.here : GotL K (cell c a (.lst vs) :: L) a vs := Ent.here fun h p H e => SqL.of (e _ _ _ p)
theorem GotL.hereS : GotL K (ScP K a vs :: L) a vs := Ent.here fun h p H e => (tell_scr h p H e).sq
theorem GotL.next (t : GotL K L a vs) : GotL K (P :: L) a vs := Ent.next t
theorem Own.sql (w : Own L H) (t : GotL K L a vs) : SqL K H a vs := w.ent t
/-! ### drawn numbers -/
def Drw (s : Addr) : HP := hex fun n : Int => pt s (.lst [.int n])
theorem Own.drw {n : Int} (w : Own (pt a (.lst [.int n]) :: L) H) : Own (Drw a :: L) H := w.exi n
/-! ### rows of claims -/
def big {α β : Type} (f : α → β → HP) : List α → List β → HP
  | [], [] => fun _ => True
  | a :: as, b :: bs => stars [f a b, big f as bs]
  | _, _ => fun _ => False
section
variable {α β : Type} {f : α → β → HP} {as as' : List α} {bs bs' : List β} {x : α} {y : β}
theorem big_len_h : ∀ {as : List α} {bs : List β} {h : LH}, big f as bs h → as.length = bs.length
  | [], [], _, _ => rfl
  | _ :: _, _ :: _, _, ⟨_, _, _, _, _, _, _, _, _, _, _, q, _⟩ => congrArg (· + 1) (big_len_h q)
  | [], _ :: _, _, p => p.elim
  | _ :: _, [], _, p => p.elim
theorem Own.bigLen (w : Own (big f as bs :: L) H) : as.length = bs.length := w.ent (Ent.here fun _ p _ _ => big_len_h p)
theorem Own.bigNil (w : Own L H) : Own (big f [] [] :: L) H := w.free trivial
theorem Own.bigCons (w : Own (f x y :: big f as bs :: L) H) : Own (big f (x :: as) (y :: bs) :: L) H := Own.fold (L := [_, _]) w
theorem Own.bigUncons (w : Own (big f (x :: as) (y :: bs) :: L) H) : Own (f x y :: big f as bs :: L) H := Own.flat (L := [_, _]) w
theorem Own.unFalse (z : ∀ h, P h → False) (w : Own (P :: L) H) : False := w.ent (φ := fun _ => False) (Ent.here fun h p _ _ => z h p)
theorem big_mono : ∀ {as : List α} {bs : List β} {h k : LH}, big f as bs h → LSub h k → big f as bs k
  | [], [], _, _, _, _ => trivial
  | _ :: _, _ :: _, _, _, p, s => stars_mono (L := [_, _]) p s
  | [], _ :: _, _, _, p, _ => p.elim
  | _ :: _, [], _, _, p, _ => p.elim
theorem big_app_h : ∀ {as : List α} {bs : List β} {h1 h2 h : LH}, big f as bs h1 → big f as' bs' h2 → Dis h1 h2 → LSub h1 h → LSub h2 h → big f (as ++ as') (bs ++ bs') h
  | [], [], _, _, _, _, q, _, _, t => big_mono q t
  | _ :: _, _ :: _, h1, h2, h, ⟨g1, g2, d, s1, s2, p, g3, g4, d2, s3, s4, r, _⟩, q, e, s, t => by
    refine ⟨g1, LHor g3 h2, dis_or (d.sub_r s3) (e.sub_l s1), s1.trans s, lor_sub (s3.trans (s2.trans s)) t, p, LHor g3 h2, LHnone, dis_none_r, LSub.rfl', sub_none, ?_, trivial⟩
    exact big_app_h r q (e.sub_l (s3.trans s2)) lor_l (lor_r (s3.trans (s2.trans s)) t)
  | [], _ :: _, _, _, _, p, _, _, _, _ => p.elim
  | _ :: _, [], _, _, _, p, _, _, _, _ => p.elim
theorem Own.bigApp (w : Own (big f as bs :: big f as' bs' :: L) H) : Own (big f (as ++ as') (bs ++ bs') :: L) H := w.map fun h s => by
  obtain ⟨h1, h2, d, s1, s2, p, h3, h4, d2, s3, s4, q, z⟩ := s
  exact ⟨LHor h1 h3, h4, or_dis (d.sub_r s4) d2, lor_sub s1 (s3.trans s2), s4.trans s2, big_app_h p q (d.sub_r s3) lor_l (lor_r s1 (s3.trans s2)), z⟩
theorem Own.bigSnoc (w : Own (big f as bs :: f x y :: L) H) : Own (big f (as ++ [x]) (bs ++ [y]) :: L) H :=
  Own.bigApp (Own.swap (Own.bigCons (Own.swap (Own.bigNil (Own.swap w)))).swap.swap)
theorem Own.big1 (w : Own (f x y :: L) H) : Own (big f [x] [y] :: L) H := Own.bigCons (Own.swap (Own.bigNil w))
theorem Own.bigSplit : ∀ {as : List α} {bs : List β} {as' : List α} {bs' : List β} {L : List HP}, as.length = bs.length → Own (big f (as ++ as') (bs ++ bs') :: L) H → Own (big f as bs :: big f as' bs' :: L) H
  | [], [], _, _, _, _, w => w.bigNil
  | _ :: as, _ :: bs, as', bs', L, e, w => by
    have w1 : Own (big f (as ++ as') (bs ++ bs') :: f _ _ :: L) H := w.bigUncons.swap
    have w2 := Own.bigSplit (Nat.succ.inj e) w1
    have w3 : Own (f _ _ :: big f as bs :: big f as' bs' :: L) H := w2.perm (((List.Perm.swap _ _ _).cons _).trans (List.Perm.swap _ _ _))
    exact w3.bigCons
  | [], _ :: _, _, _, _, e, _ => nomatch e
  | _ :: _, [], _, _, _, e, _ => nomatch e
/-- one of the row -/
theorem Own.bigOut {i : Nat} (w : Own (big f as bs :: L) H) (h1 : as[i]? = some x) (h2 : bs[i]? = some y) : Own (f x y :: big f (as.take i) (bs.take i) :: big f (as.drop (i + 1)) (bs.drop (i + 1)) :: L) H := by
  have e1 : as = as.take i ++ x :: as.drop (i + 1) := by
    obtain ⟨q, rfl⟩ := List.getElem?_eq_some_iff.mp h1
    rw [List.getElem_cons_drop, List.take_append_drop]
  have e2 : bs = bs.take i ++ y :: bs.drop (i + 1) := by
    obtain ⟨q, rfl⟩ := List.getElem?_eq_some_iff.mp h2
    rw [List.getElem_cons_drop, List.take_append_drop]
  have l := w.bigLen
  rw [e1, e2] at w
  have w2 := w.bigSplit (by rw [List.length_take, List.length_take, l])
  exact (w2.swap.bigUncons).perm (List.Perm.cons _ (List.Perm.swap _ _ _))
theorem Own.bigIn {i : Nat} (w : Own (f x y :: big f (as.take i) (bs.take i) :: big f (as.drop (i + 1)) (bs.drop (i + 1)) :: L) H) (l : i < as.length) (l2 : i < bs.length) : Own (big f (as.set i x) (bs.set i y) :: L) H := by
  rw [List.set_eq_take_append_cons_drop, List.set_eq_take_append_cons_drop, if_pos l, if_pos l2]
  refine Own.bigApp (Own.swap (Own.bigCons ?_))
  exact w.perm (List.Perm.cons _ (List.Perm.swap _ _ _))
/-- one of the row is changed in place -/
theorem Own.bigBack {i : Nat} (w : Own (f x y :: big f (as.take i) (bs.take i) :: big f (as.drop (i + 1)) (bs.drop (i + 1)) :: L) H) (h1 : as[i]? = some x) (l2 : i < bs.length) : Own (big f as (bs.set i y) :: L) H := by
  have l := (List.getElem?_eq_some_iff.mp h1).1
  have e : as.set i x = as := by
    have := (List.getElem?_eq_some_iff.mp h1).2
    rw [← this]
    exact List.set_getElem_self l
  have w2 := w.bigIn l l2
  rw [e] at w2
  exact w2
/-- one of the row is taken out -/
theorem Own.bigErase {i : Nat} (w : Own (big f as bs :: L) H) (h1 : as[i]? = some x) (h2 : bs[i]? = some y) : Own (f x y :: big f (as.eraseIdx i) (bs.eraseIdx i) :: L) H := by
  rw [List.eraseIdx_eq_take_drop_succ, List.eraseIdx_eq_take_drop_succ]
  have w2 := w.bigOut h1 h2
  exact (Own.bigApp (w2.perm ((List.Perm.swap _ _ _).trans (List.Perm.cons _ (List.Perm.swap _ _ _))))).swap
theorem ro_big (c : ∀ x y, Ro (f x y)) : ∀ (as : List α) (bs : List β), Ro (big f as bs)
  | [], [] => ⟨fun h _ => ⟨LHnone, sub_none, (fun _ _ e => nomatch e), trivial⟩⟩
  | a :: as, b :: bs => by
    have := c a b
    have := ro_big c as bs
    show Ro (stars [f a b, big f as bs])
    infer_instance
  | [], _ :: _ => ⟨fun h p => p.elim⟩
  | _ :: _, [] => ⟨fun h p => p.elim⟩
instance [c : ∀ x y, Ro (f x y)] : Ro (big f as bs) := ro_big c as bs
/-- one of a row that is only read -/
theorem big_at_h : ∀ {as : List α} {bs : List β} {h : LH} {i : Nat}, big f as bs h → as[i]? = some x → bs[i]? = some y → ∃ g, LSub g h ∧ f x y g
  | _ :: _, _ :: _, _, 0, ⟨g1, _, _, s1, _, p, _⟩, e, e2 => by
    cases e
    cases e2
    exact ⟨g1, s1, p⟩
  | _ :: _, _ :: _, _, i + 1, ⟨_, _, _, _, s2, _, g3, _, _, s3, _, q, _⟩, e, e2 => by
    obtain ⟨g, s, p⟩ := big_at_h (i := i) q e e2
    exact ⟨g, s.trans (s3.trans s2), p⟩
  | [], [], _, _, _, e, _ => nomatch e
  | [], _ :: _, _, _, p, _, _ => p.elim
  | _ :: _, [], _, _, p, _, _ => p.elim
/-- what one of the row tells -/
theorem Own.bigTell {φ : Hp → Prop} {i : Nat} (w : Own (big f as bs :: L) H) (h1 : as[i]? = some x) (h2 : bs[i]? = some y) (t : Tell (f x y) φ) : φ H := w.ent (Ent.here fun h p H e => by
  obtain ⟨g, s, z⟩ := big_at_h p h1 h2
  exact t g z H (e.sub s))
theorem Own.bigAt [c : ∀ x y, Ro (f x y)] {i : Nat} (w : Own (big f as bs :: L) H) (h1 : as[i]? = some x) (h2 : bs[i]? = some y) : Own (f x y :: big f as bs :: L) H := w.map fun h s => by
  obtain ⟨g1, g2, d, s1, s2, p, q⟩ := s
  obtain ⟨g, t, z⟩ := big_at_h p h1 h2
  obtain ⟨g', t', r, z'⟩ := (c x y).ro g z
  exact ⟨g', h, fun a x y e _ => r a x e, t'.trans (t.trans s1), LSub.rfl', z', g1, g2, d, s1, s2, p, q⟩
theorem Own.bigAt' (c : ∀ x y, Ro (f x y)) {i : Nat} (w : Own (big f as bs :: L) H) (h1 : as[i]? = some x) (h2 : bs[i]? = some y) : Own (f x y :: big f as bs :: L) H := w.bigAt h1 h2
theorem Own.bigHead {g : α → β → HP} (t : ∀ x y h, f x y h → g x y h) (w : Own (big f as bs :: L) H) : Own (big g as bs :: L) H := w.head fun h p => by
  have : ∀ {as : List α} {bs : List β} {h : LH}, big f as bs h → big g as bs h := by
    intro as
    induction as with
    | nil => intro bs h p; cases bs with
      | nil => trivial
      | cons b bs => exact p.elim
    | cons a as ih => intro bs h p; cases bs with
      | nil => exact p.elim
      | cons b bs =>
        obtain ⟨g1, g2, d, s1, s2, p, g3, g4, d2, s3, s4, q, z⟩ := p
        exact ⟨g1, g2, d, s1, s2, t _ _ _ p, g3, g4, d2, s3, s4, ih q, z⟩
  exact this p
end
end
end G

/-! the steps that write, by claims -/
namespace G
open PySem PySem.Spec PyProof.Rows L2
section
variable {K : PySem.W.Frag} {a b l s : Addr} {L M R : List HP} {P P' : HP} {H H' : Hp} {o u : HO} {v x y : V} {vs xs zs : List V} {c : Bool} {Q : VK} {E : L2.St → XK} {EX : XK} {σ : L2.St} {D : Ends} {tA tB : TA} {ta tb : TE} {sp : Sp} {n m : Nat} {i j k : Int}
/-! new tuples, lists -/
def kTup (Q : VK) : List V → Hp → Prop := fun xs H1 => xs.length ≤ sizeLine ∧ ∀ p, H1 p = none → Q (.ref p) (upd H1 p (.tup xs))
def kLst (Q : VK) : List V → Hp → Prop := fun xs H1 => xs.length ≤ sizeLine ∧ ∀ p, H1 p = none → Q (.ref p) (upd H1 p (.lst xs))
theorem w_tupK (h : tA σ H (kTup Q)) : tTup tA σ H Q := h
theorem w_lstK (h : tA σ H (kLst Q)) : tLst tA σ H Q := h
theorem k_tup (hl : Nat.ble xs.length 1000 = true) (w : Own L H) (q : ∀ p H', Own (ro p (.tup xs) :: L) H' → Q (.ref p) H') : kTup Q xs H := ⟨small_le hl, fun p hp => q p _ (w.newT hp)⟩
theorem k_lst (hl : Nat.ble xs.length 1000 = true) (w : Own L H) (q : ∀ p H', Own (pt p (.lst xs) :: L) H' → Q (.ref p) H') : kLst Q xs H := ⟨small_le hl, fun p hp => q p _ (w.new hp)⟩
/-! objects -/
def kMk (Cc : Addr) (sp : Sp) (E : L2.St → XK) (σ : L2.St) (Q : VK) : List V → Hp → Prop := fun vs H1 => ∀ x dx, H1 x = none → H1 dx = none → dx ≠ x → sp (.ref x :: vs) (upd (upd H1 dx (.own x)) x (.ins Cc dx [])) (fun v H2 => v = .non ∧ Q (.ref x) H2) (E σ)
theorem w_mkQ {Cc : Addr} (h : tA σ H (kMk Cc sp E σ Q)) : tMk Cc sp E tA σ H Q := h
/-- what is wanted of an __init__ -/
def kIni (Q : VK) (x : Addr) : VK := fun v H2 => v = .non ∧ Q (.ref x) H2
theorem k_mk {Cc : Addr} (w : Own L H) (q : ∀ x dx H', Own (pt x (.ins Cc dx []) :: L) H' → sp (.ref x :: vs) H' (kIni Q x) (E σ)) : kMk Cc sp E σ Q vs H := fun x dx hx hd ne => q x dx _ (w.made hx hd ne)
def kMkK (Cc : Addr) (n m : Nat) (sp : Sp) (gV : List V → List V → List V) (E : L2.St → XK) (σ : L2.St) (Q : VK) (vs zs : List V) (H2 : Hp) : Prop := vs.length = n ∧ zs.length = m ∧ ∀ x dx, H2 x = none → H2 dx = none → dx ≠ x →
  sp (gV (.ref x :: vs) zs) (upd (upd H2 dx (.own x)) x (.ins Cc dx [])) (fun v H3 => v = .non ∧ Q (.ref x) H3) (E σ)
theorem w_mkKQ {Cc : Addr} {gV : List V → List V → List V} (h : tA σ H fun vs H1 => tB σ H1 fun zs H2 => kMkK Cc n m sp gV E σ Q vs zs H2) : tMkK Cc n m sp gV E tA tB σ H Q := h
theorem k_mkK {Cc : Addr} {gV : List V → List V → List V} (h1 : vs.length = n) (h2 : zs.length = m) (w : Own L H) (q : ∀ x dx H', Own (pt x (.ins Cc dx []) :: L) H' → sp (gV (.ref x :: vs) zs) H' (kIni Q x) (E σ)) : kMkK Cc n m sp gV E σ Q vs zs H :=
  ⟨h1, h2, fun x dx hx hd ne => q x dx _ (w.made hx hd ne)⟩
theorem k_mkK' {Cc : Addr} {gV : List V → List V → List V} {as : List V} (e : ∀ x : Addr, gV (.ref x :: vs) zs = .ref x :: as) (h1 : vs.length = n) (h2 : zs.length = m) (w : Own L H) (q : ∀ x dx H', Own (pt x (.ins Cc dx []) :: L) H' → sp (.ref x :: as) H' (kIni Q x) (E σ)) : kMkK Cc n m sp gV E σ Q vs zs H :=
  k_mkK h1 h2 w fun x dx H' w' => by rw [e]; exact q x dx H' w'
theorem w_mtE {C : Addr} {m : Str} {P : Addr → Prop} (h : ∃ dx fs, H a = some (.ins C dx fs) ∧ fs.lookup m = none) (q : P a) : ∃ a' dx' fs', V.ref a = .ref a' ∧ H a' = some (.ins C dx' fs') ∧ fs'.lookup m = none ∧ P a' :=
  let ⟨dx, fs, h1, h2⟩ := h
  ⟨a, dx, fs, rfl, h1, h2, q⟩
theorem w_fldE {C : Addr} {f : Str} {v : V} {P : Addr → Addr → Addr → List (Str × V) → V → Prop} (h : ∃ dx fs, H a = some (.ins C dx fs) ∧ fs.lookup f = some v) (c : Cls K C) (na : NoAttr K C f) (q : ∀ dx fs, P a C dx fs v) : ∃ a' C' dx' fs' v', V.ref a = .ref a' ∧ H a' = some (.ins C' dx' fs') ∧ Cls K C' ∧ NoAttr K C' f ∧ fs'.lookup f = some v' ∧ P a' C' dx' fs' v' :=
  let ⟨dx, fs, h1, h2⟩ := h
  ⟨a, C, dx, fs, v, rfl, h1, c, na, h2, q dx fs⟩
/-- a claim tells an attribute; that there is a method -/
abbrev TFld (X : HP) (a C : Addr) (f : Str) (v : V) : Prop := Tell X fun H => ∃ dx fs, H a = some (.ins C dx fs) ∧ fs.lookup f = some v
abbrev TMt (X : HP) (a C : Addr) (m : Str) : Prop := Tell X fun H => ∃ dx fs, H a = some (.ins C dx fs) ∧ fs.lookup m = none
/-- an attribute that a claim tells -/
theorem w_fldT {C : Addr} {f : Str} {v : V} {P : Addr → Addr → Addr → List (Str × V) → V → Prop} {X : HP} (t : Tell X (fun H => ∃ dx fs, H a = some (.ins C dx fs) ∧ fs.lookup f = some v)) (w : Own L H) (pk : Pick L X R) (c : Cls K C) (na : NoAttr K C f) (q : ∀ dx fs, P a C dx fs v) : ∃ a' C' dx' fs' v', V.ref a = .ref a' ∧ H a' = some (.ins C' dx' fs') ∧ Cls K C' ∧ NoAttr K C' f ∧ fs'.lookup f = some v' ∧ P a' C' dx' fs' v' :=
  w_fldE ((w.pick pk).ent (.here t)) c na q
/-- a method of an object that a claim tells -/
theorem w_mtT {C : Addr} {m : Str} {P : Addr → Prop} {X : HP} (t : Tell X (fun H => ∃ dx fs, H a = some (.ins C dx fs) ∧ fs.lookup m = none)) (w : Own L H) (pk : Pick L X R) (q : P a) : ∃ a' dx' fs', V.ref a = .ref a' ∧ H a' = some (.ins C dx' fs') ∧ fs'.lookup m = none ∧ P a' :=
  w_mtE ((w.pick pk).ent (.here t)) q
theorem k_ini (q : Q (.ref a) H) : kIni Q a .non H := ⟨rfl, q⟩
/-- some of the claims -/
def Sel (L M : List HP) : Prop := ∀ h, stars L h → stars M h
theorem Sel.rf : Sel L L := fun _ s => s
theorem Sel.nil : Sel L [] := fun _ _ => trivial
theorem Sel.cons (p : Pick L P R) (s : Sel R M) : Sel L (P :: M) := fun h z => stars_cons s (p h z)
theorem Sel.drop (s : Sel L M) : Sel (P :: L) M := fun h z => s h (by
  obtain ⟨_, _, _, _, s2, _, q⟩ := z
  exact stars_mono q s2)
theorem Own.sel (w : Own L H) (s : Sel L M) : Own M H := w.map s
theorem Own.restS (w : Own (P :: L) H) (s : Sel L M) : Own (P :: M) H := w.rest s
theorem Own.take2 {P1 P2 : HP} {L1 : List HP} (w : Own L H) (p1 : Pick L P1 L1) (p2 : Pick L1 P2 R) : Own (P1 :: P2 :: R) H := (w.pick p1).rest p2
theorem Own.take3 {P1 P2 P3 : HP} {L1 L2 : List HP} (w : Own L H) (p1 : Pick L P1 L1) (p2 : Pick L1 P2 L2) (p3 : Pick L2 P3 R) : Own (P1 :: P2 :: P3 :: R) H := (w.pick p1).rest (Sel.cons p2 p3)
theorem Own.take4 {P1 P2 P3 P4 : HP} {L1 L2 L3 : List HP} (w : Own L H) (p1 : Pick L P1 L1) (p2 : Pick L1 P2 L2) (p3 : Pick L2 P3 L3) (p4 : Pick L3 P4 R) : Own (P1 :: P2 :: P3 :: P4 :: R) H := (w.pick p1).rest (Sel.cons p2 (Sel.cons p3 p4))
theorem Pick.st (p : Pick L P R) : ∀ h, stars L h → stars (P :: R) h := p
theorem Own.pick2 (w : Own (P' :: L) H) (p : Pick L P R) : Own (P' :: P :: R) H := w.rest p
theorem Own.cellRo (w : Own (cell c a o :: L) H) : Own (ro a o :: L) H := by
  cases c
  · exact w.toRo
  · exact w
/-! attributes -/
def kFld (K : PySem.W.Frag) (f : Str) (D : Ends) (σ : L2.St) (y x : V) (H2 : Hp) : Prop := ∃ a C dx fs, x = .ref a ∧ H2 a = some (.ins C dx fs) ∧ Cls K C ∧ NoAttr K C f ∧ fs.length < 1000 ∧ D.nx σ (upd H2 a (.ins C dx (putF f y fs)))
theorem w_sfldQ {f : Str} (h : tb σ H fun y H1 => ta σ H1 fun x H2 => kFld K f D σ y x H2) : sFld K ta tb f D σ H := h
theorem k_fld {f : Str} {C dx : Addr} {fs fs' : List (Str × V)} (w : Own L H) (p : Put L a (.ins C dx fs) (.ins C dx fs') M) (c : Cls K C) (na : NoAttr K C f) (e : putF f y fs = fs') (l : Nat.blt fs.length 1000 = true) (q : ∀ H', Own M H' → D.nx σ H') : kFld K f D σ y (.ref a) H :=
  ⟨a, C, dx, fs, rfl, w.putGet p, c, na, Nat.le_of_ble_eq_true l, by rw [e]; exact q _ (w.put p)⟩
def kFA (a C : Addr) (f : Str) (D : Ends) (σ : L2.St) (z : V) (H3 : Hp) : Prop := ∃ dx' fs', H3 a = some (.ins C dx' fs') ∧ fs'.length < 1000 ∧ D.nx σ (upd H3 a (.ins C dx' (putF f z fs')))
theorem w_sfaQ {f : Str} {rd : V → V → Hp → VK → Prop} (h : ta σ H fun x H1 => ∃ a C dx fs v, x = .ref a ∧ H1 a = some (.ins C dx fs) ∧ Cls K C ∧ NoAttr K C f ∧ fs.lookup f = some v ∧
  tb σ H1 fun y H2 => rd v y H2 fun z H3 => kFA a C f D σ z H3) : sFldAug K ta tb rd f D σ H := h
theorem k_fa {f : Str} {C dx : Addr} {fs fs' : List (Str × V)} (w : Own L H) (p : Put L a (.ins C dx fs) (.ins C dx fs') M) (e : putF f y fs = fs') (l : Nat.blt fs.length 1000 = true) (q : ∀ H', Own M H' → D.nx σ H') : kFA a C f D σ y H :=
  ⟨dx, fs, w.putGet p, Nat.le_of_ble_eq_true l, by rw [e]; exact q _ (w.put p)⟩
/-! lists -/
theorem k_app (w : Own L H) (p : Put L l (.lst xs) (.lst (xs ++ [v])) M) (hz : xs.length < sizeLine) (q : ∀ H', Own M H' → Q .non H') : rAppend (.ref l) [v] H Q := w_app (w.putGet p) hz (q _ (w.put p))
theorem k_setL {Qo : Hp → Prop} {z : Nat} (w : Own L H) (p : Put L l (.lst xs) (.lst (xs.set z v)) M) (hj : ixN xs.length k = some z) (q : ∀ H', Own M H' → Qo H') : rSetL (.ref l) (.int k) v H Qo := w_setL (w.putGet p) hj (q _ (w.put p))
theorem k_extend (w : Own L H) (p : Put L l (.lst xs) (.lst (xs ++ zs)) M) (g : Got L b (.lst zs)) (hz : xs.length + zs.length ≤ sizeLine) (q : ∀ H', Own M H' → Q .non H') : rExtend (.ref l) [.ref b] H Q := w_extend (w.putGet p) (w.get g) hz (q _ (w.put p))
theorem k_cat (w : Own L H) (g1 : Got L l (.lst xs)) (g2 : Got L b (.lst zs)) (hz : xs.length + zs.length ≤ sizeLine) (q : ∀ p H', Own (pt p (.lst (xs ++ zs)) :: L) H' → Q (.ref p) H') : rCat (.ref l) (.ref b) H Q := w_cat (w.get g1) (w.get g2) hz fun p hp => q p _ (w.new hp)
theorem k_rep (w : Own L H) (g1 : Got L l (.lst xs)) (h0 : 0 ≤ k) (hk : k < 4611686018427387904) (hz : xs.length * k.toNat ≤ sizeLine) (q : ∀ p H', Own (pt p (.lst (List.replicate k.toNat xs).flatten) :: L) H' → Q (.ref p) H') : rRep (.ref l) (.int k) H Q := w_rep (w.get g1) h0 hk hz fun p hp => q p _ (w.new hp)
theorem k_listL (w : Own L H) (g : SqL K H a xs) (q : ∀ p H', Own (pt p (.lst xs) :: L) H' → Q (.ref p) H') : gListOf K [.ref a] H Q := w_listL g fun p hp => q p _ (w.new hp)
theorem k_listT (w : Own L H) (g : SqT K H a xs) (q : ∀ p H', Own (pt p (.lst xs) :: L) H' → Q (.ref p) H') : gListOf K [.ref a] H Q := w_listT g fun p hp => q p _ (w.new hp)
theorem k_tupL (w : Own L H) (g : SqL K H a xs) (q : ∀ p H', Own (ro p (.tup xs) :: L) H' → Q (.ref p) H') : gTupOf K [.ref a] H Q := w_tupL g fun p hp => q p _ (w.newT hp)
theorem k_slfrom (w : Own L H) (g : SqL K H a xs) (h0 : 0 ≤ i) (q : ∀ p H', Own (pt p (.lst (xs.drop i.toNat)) :: L) H' → Q (.ref p) H') : rSlL K (.ref a) (some i) none H Q := w_slLfrom g h0 fun p hp => q p _ (w.new hp)
theorem k_slto (w : Own L H) (g : SqL K H a xs) (h0 : 0 ≤ i) (q : ∀ p H', Own (pt p (.lst (xs.take i.toNat)) :: L) H' → Q (.ref p) H') : rSlL K (.ref a) none (some i) H Q := w_slLto g h0 fun p hp => q p _ (w.new hp)
theorem k_slmid (w : Own L H) (g : SqL K H a xs) (h0 : 0 ≤ i) (h1 : i ≤ j) (q : ∀ p H', Own (pt p (.lst ((xs.drop i.toNat).take (j - i).toNat)) :: L) H' → Q (.ref p) H') : rSlL K (.ref a) (some i) (some j) H Q := w_slLmid g h0 h1 fun p hp => q p _ (w.new hp)
variable {ns ms : List Int} {ps : List Addr} {r : Addr}
theorem eraseIdx_map' {α β : Type} (f : α → β) : ∀ (l : List α) (i : Nat), (l.eraseIdx i).map f = (l.map f).eraseIdx i
  | [], i => by simp
  | a :: l, 0 => rfl
  | a :: l, i + 1 => by simp [eraseIdx_map' f l i]
theorem k_slfromI (w : Own L H) (g : SqL K H a (ns.map V.int)) (h0 : 0 ≤ i) (q : ∀ p H', Own (pt p (.lst ((ns.drop i.toNat).map V.int)) :: L) H' → Q (.ref p) H') : rSlL K (.ref a) (some i) none H Q := k_slfrom w g h0 (by rw [← List.map_drop]; exact q)
theorem k_sltoI (w : Own L H) (g : SqL K H a (ns.map V.int)) (h0 : 0 ≤ i) (q : ∀ p H', Own (pt p (.lst ((ns.take i.toNat).map V.int)) :: L) H' → Q (.ref p) H') : rSlL K (.ref a) none (some i) H Q := k_slto w g h0 (by rw [← List.map_take]; exact q)
theorem k_slmidI (w : Own L H) (g : SqL K H a (ns.map V.int)) (h0 : 0 ≤ i) (h1 : i ≤ j) (q : ∀ p H', Own (pt p (.lst (((ns.drop i.toNat).take (j - i).toNat).map V.int)) :: L) H' → Q (.ref p) H') : rSlL K (.ref a) (some i) (some j) H Q := k_slmid w g h0 h1 (by rw [← List.map_drop, ← List.map_take]; exact q)
theorem k_catI (w : Own L H) (g1 : Got L l (.lst (ns.map V.int))) (g2 : Got L b (.lst (ms.map V.int))) (hz : ns.length + ms.length ≤ sizeLine) (q : ∀ p H', Own (pt p (.lst ((ns ++ ms).map V.int)) :: L) H' → Q (.ref p) H') : rCat (.ref l) (.ref b) H Q := k_cat w g1 g2 (by rw [List.length_map, List.length_map]; exact hz) (by rw [← List.map_append]; exact q)
theorem k_catR {qs : List Addr} (w : Own L H) (g1 : Got L l (.lst (ps.map V.ref))) (g2 : Got L b (.lst (qs.map V.ref))) (hz : ps.length + qs.length ≤ sizeLine) (q : ∀ p H', Own (pt p (.lst ((ps ++ qs).map V.ref)) :: L) H' → Q (.ref p) H') : rCat (.ref l) (.ref b) H Q := k_cat w g1 g2 (by rw [List.length_map, List.length_map]; exact hz) (by rw [← List.map_append]; exact q)
theorem k_slfromR (w : Own L H) (g : SqL K H a (ps.map V.ref)) (h0 : 0 ≤ i) (q : ∀ p H', Own (pt p (.lst ((ps.drop i.toNat).map V.ref)) :: L) H' → Q (.ref p) H') : rSlL K (.ref a) (some i) none H Q := k_slfrom w g h0 (by rw [← List.map_drop]; exact q)
theorem k_sltoR (w : Own L H) (g : SqL K H a (ps.map V.ref)) (h0 : 0 ≤ i) (q : ∀ p H', Own (pt p (.lst ((ps.take i.toNat).map V.ref)) :: L) H' → Q (.ref p) H') : rSlL K (.ref a) none (some i) H Q := k_slto w g h0 (by rw [← List.map_take]; exact q)
theorem k_slfromRs {j : Nat} (w : Own L H) (g : SqL K H a (ps.map V.ref)) (q : ∀ p H', Own (pt p (.lst ((ps.drop (j + 1)).map V.ref)) :: L) H' → Q (.ref p) H') : rSlL K (.ref a) (some ((j : Int) + 1)) none H Q := k_slfromR w g (by omega) (by rw [show ((j : Int) + 1).toNat = j + 1 by omega]; exact q)
theorem k_slfromRn {j : Nat} (w : Own L H) (g : SqL K H a (ps.map V.ref)) (q : ∀ p H', Own (pt p (.lst ((ps.drop j).map V.ref)) :: L) H' → Q (.ref p) H') : rSlL K (.ref a) (some (j : Int)) none H Q := k_slfromR w g (by omega) q
theorem k_slfromR1 (w : Own L H) (g : SqL K H a (ps.map V.ref)) (q : ∀ p H', Own (pt p (.lst ((ps.drop 1).map V.ref)) :: L) H' → Q (.ref p) H') : rSlL K (.ref a) (some 1) none H Q := k_slfromR w g (by decide) q
theorem k_sltoRn {j : Nat} (w : Own L H) (g : SqL K H a (ps.map V.ref)) (q : ∀ p H', Own (pt p (.lst ((ps.take j).map V.ref)) :: L) H' → Q (.ref p) H') : rSlL K (.ref a) none (some (j : Int)) H Q := k_sltoR w g (by omega) q
theorem k_sltoR1 (w : Own L H) (g : SqL K H a (ps.map V.ref)) (q : ∀ p H', Own (pt p (.lst ((ps.take 1).map V.ref)) :: L) H' → Q (.ref p) H') : rSlL K (.ref a) none (some 1) H Q := k_sltoR w g (by decide) q
theorem k_slfromIs {j : Nat} (w : Own L H) (g : SqL K H a (ns.map V.int)) (q : ∀ p H', Own (pt p (.lst ((ns.drop (j + 1)).map V.int)) :: L) H' → Q (.ref p) H') : rSlL K (.ref a) (some ((j : Int) + 1)) none H Q := k_slfromI w g (by omega) (by rw [show ((j : Int) + 1).toNat = j + 1 by omega]; exact q)
theorem k_slfromIn {j : Nat} (w : Own L H) (g : SqL K H a (ns.map V.int)) (q : ∀ p H', Own (pt p (.lst ((ns.drop j).map V.int)) :: L) H' → Q (.ref p) H') : rSlL K (.ref a) (some (j : Int)) none H Q := k_slfromI w g (by omega) q
theorem k_slfromI1 (w : Own L H) (g : SqL K H a (ns.map V.int)) (q : ∀ p H', Own (pt p (.lst ((ns.drop 1).map V.int)) :: L) H' → Q (.ref p) H') : rSlL K (.ref a) (some 1) none H Q := k_slfromI w g (by decide) q
theorem k_sltoIn {j : Nat} (w : Own L H) (g : SqL K H a (ns.map V.int)) (q : ∀ p H', Own (pt p (.lst ((ns.take j).map V.int)) :: L) H' → Q (.ref p) H') : rSlL K (.ref a) none (some (j : Int)) H Q := k_sltoI w g (by omega) q
theorem k_sltoI1 (w : Own L H) (g : SqL K H a (ns.map V.int)) (q : ∀ p H', Own (pt p (.lst ((ns.take 1).map V.int)) :: L) H' → Q (.ref p) H') : rSlL K (.ref a) none (some 1) H Q := k_sltoI w g (by decide) q
theorem k_appI (w : Own L H) (p : Put L l (.lst (ns.map V.int)) (.lst ((ns ++ [i]).map V.int)) M) (hz : ns.length < sizeLine) (q : ∀ H', Own M H' → Q .non H') : rAppend (.ref l) [.int i] H Q := k_app w (by rw [List.map_append] at p; exact p) (by rw [List.length_map]; exact hz) q
theorem k_appR (w : Own L H) (p : Put L l (.lst (ps.map V.ref)) (.lst ((ps ++ [r]).map V.ref)) M) (hz : ps.length < sizeLine) (q : ∀ H', Own M H' → Q .non H') : rAppend (.ref l) [.ref r] H Q := k_app w (by rw [List.map_append] at p; exact p) (by rw [List.length_map]; exact hz) q
theorem k_extendI (w : Own L H) (p : Put L l (.lst (ns.map V.int)) (.lst ((ns ++ ms).map V.int)) M) (g : Got L b (.lst (ms.map V.int))) (hz : ns.length + ms.length ≤ sizeLine) (q : ∀ H', Own M H' → Q .non H') : rExtend (.ref l) [.ref b] H Q := k_extend w (by rw [List.map_append] at p; exact p) g (by rw [List.length_map, List.length_map]; exact hz) q
theorem k_pop (w : Own L H) (p : Put L l (.lst xs) (.lst xs.dropLast) M) (h : xs[xs.length - 1]? = some y) (q : ∀ H', Own M H' → Q y H') : rPop (.ref l) [] H Q := ⟨l, xs, y, rfl, rfl, w.putGet p, h, q _ (w.put p)⟩
theorem k_popAt {z : Nat} (w : Own L H) (p : Put L l (.lst xs) (.lst (xs.eraseIdx z)) M) (h0 : -(2 ^ 63) ≤ i) (h1 : i < 2 ^ 63) (hz : seqIndex? i xs.length = some z) (h : xs[z]? = some y) (q : ∀ H', Own M H' → Q y H') : rPopAt (.ref l) [.int i] H Q := ⟨l, xs, i, z, y, rfl, rfl, w.putGet p, h0, h1, hz, h, q _ (w.put p)⟩
theorem k_pop0 (w : Own L H) (p : Put L l (.lst (y :: xs)) (.lst xs) M) (q : ∀ H', Own M H' → Q y H') : rPopAt (.ref l) [.int 0] H Q :=
  k_popAt (z := 0) (xs := y :: xs) w p (by decide) (by decide) (by simp [seqIndex?]) rfl q
def kDelL (D : Ends) (σ : L2.St) (x y : V) (H2 : Hp) : Prop := ∃ (l : Addr) (xs : List V) (i : Int) (k : Nat), x = .ref l ∧ y = .int i ∧ H2 l = some (.lst xs) ∧ -(2 ^ 63) ≤ i ∧ i < 2 ^ 63 ∧ seqIndex? i xs.length = some k ∧ D.nx σ (upd H2 l (.lst (xs.eraseIdx k)))
theorem w_delQ (h : ta σ H fun x H1 => tb σ H1 fun y H2 => kDelL D σ x y H2) : tDelL ta tb D σ H := h
theorem seqIx {i : Int} {n : Nat} (h0 : 0 ≤ i) (h1 : i < (n : Int)) : seqIndex? i n = some i.toNat := by
  unfold seqIndex?
  simp only [decide_eq_true_eq]
  repeat' split <;> first | rfl | omega | (simp at *; omega)
/-- del xs[i], the i-th of addresses -/
theorem k_delR {i : Int} {j : Nat} (w : Own L H) (e : i = (j : Int)) (h1 : j < ps.length) (h2 : ps.length ≤ 16000000) (p : Put L l (.lst (ps.map V.ref)) (.lst ((ps.eraseIdx j).map V.ref)) M) (q : ∀ H', Own M H' → D.nx σ H') : kDelL D σ (.ref l) (.int i) H :=
  ⟨l, ps.map V.ref, i, j, rfl, rfl, w.putGet p, by omega, by omega, by rw [seqIx (by omega) (by rw [List.length_map]; omega)]; subst e; rfl, by rw [← eraseIdx_map']; exact q _ (w.put p)⟩
theorem k_popAtR {i : Int} {j : Nat} {y : Addr} (w : Own L H) (e : i = (j : Int)) (h2 : ps.length ≤ 16000000) (hy : ps[j]? = some y) (p : Put L l (.lst (ps.map V.ref)) (.lst ((ps.eraseIdx j).map V.ref)) M) (q : ∀ H', Own M H' → Q (.ref y) H') : rPopAt (.ref l) [.int i] H Q := by
  have h1 := (List.getElem?_eq_some_iff.mp hy).1
  exact k_popAt (z := j) w (by rw [eraseIdx_map'] at p; exact p) (by omega) (by omega) (by rw [seqIx (by omega) (by rw [List.length_map]; omega)]; subst e; rfl) (by rw [List.getElem?_map, hy]; rfl) q
theorem k_clear (w : Own L H) (p : Put L l (.lst xs) (.lst []) M) (q : ∀ H', Own M H' → Q .non H') : rClear (.ref l) [] H Q := ⟨l, xs, rfl, rfl, w.putGet p, q _ (w.put p)⟩
theorem k_reverse (w : Own L H) (p : Put L l (.lst xs) (.lst xs.reverse) M) (q : ∀ H', Own M H' → Q .non H') : rReverse (.ref l) [] H Q := ⟨l, xs, rfl, rfl, w.putGet p, q _ (w.put p)⟩
theorem w_ixR {j : Nat} (g : SqL K H a (ps.map V.ref)) (h : ps[j]? = some r) (q : Q (.ref r) H) : rIxL K (.ref a) (.int (j : Int)) H Q := w_ixL g (atI_ref h rfl) q
theorem w_ixR0 (g : SqL K H a (ps.map V.ref)) (h : ps[0]? = some r) (q : Q (.ref r) H) : rIxL K (.ref a) (.int 0) H Q := w_ixL g (atI_ref (a := 0) h rfl) q
theorem w_ixRc (g : SqL K H a ((r :: ps).map V.ref)) (q : Q (.ref r) H) : rIxL K (.ref a) (.int 0) H Q := w_ixL g (atI_ref (a := 0) rfl rfl) q
theorem ix_neg1 {α : Type} {xs : List α} {y : α} (h : xs.getLast? = some y) : atI xs (-1) = some y := by
  have hl : 0 < xs.length := by
    cases xs with
    | nil => cases h
    | cons _ _ => exact Nat.succ_pos _
  unfold atI ixN
  rw [if_neg (by omega)]
  rw [List.getLast?_eq_getElem?] at h
  split
  · show xs[_]? = _
    rw [← h]
    congr 1
    omega
  · omega
theorem w_ixLastR (g : SqL K H a (ps.map V.ref)) (h : ps.getLast? = some r) (q : Q (.ref r) H) : rIxL K (.ref a) (.int (-1)) H Q := w_ixL g (ix_neg1 (by rw [List.getLast?_map, h]; rfl)) q
theorem cut_init {xs : List V} : cutV xs none (some (-1)) = xs.dropLast := by
  have e : HT.sIx xs.length xs.length (some (-1)) = xs.length - 1 := by
    show (if (-1 : Int) < 0 then ((-1 : Int) + (xs.length : Int)).toNat else min (-1 : Int).toNat xs.length) = _
    rw [if_pos (by decide)]
    omega
  unfold cutV
  rw [HT.sIx_none, e, List.drop_zero, Nat.sub_zero, List.dropLast_eq_take]
theorem k_slinitR (w : Own L H) (g : SqL K H a (ps.map V.ref)) (q : ∀ p H', Own (pt p (.lst (ps.dropLast.map V.ref)) :: L) H' → Q (.ref p) H') : rSlL K (.ref a) none (some (-1)) H Q := w_slL g fun p hp => by
  rw [cut_init, ← List.map_dropLast]
  exact q p _ (w.new hp)
theorem k_lst1R (w : Own L H) (q : ∀ p H', Own (pt p (.lst ([r].map V.ref)) :: L) H' → Q (.ref p) H') : kLst Q [.ref r] H := k_lst rfl w q
theorem k_lst1I (w : Own L H) (q : ∀ p H', Own (pt p (.lst ([i].map V.int)) :: L) H' → Q (.ref p) H') : kLst Q [.int i] H := k_lst rfl w q
theorem w_gTup {nn : Nat} {t : TGs} {Qs : L2.St → Hp → Prop} (g : SqT K H a xs) (h : xs.length = nn) (q : t xs σ H Qs) : gTup K nn t (.ref a) σ H Qs := ⟨a, xs, rfl, g, h, q⟩
theorem w_gCons {t : TG} {u : TGs} {Qs : L2.St → Hp → Prop} (q : t v σ H fun σ' H' => u xs σ' H' Qs) : gCons t u (v :: xs) σ H Qs := ⟨v, xs, rfl, q⟩
theorem w_gNil {Qs : L2.St → Hp → Prop} (q : Qs σ H) : gNil [] σ H Qs := ⟨rfl, q⟩
theorem w_lenLI (g : SqL K H a (ns.map V.int)) (q : Q (.int (ns.length : Int)) H) : gLen K [.ref a] H Q := w_lenL g (by rw [List.length_map]; exact q)
theorem w_lenLR (g : SqL K H a (ps.map V.ref)) (q : Q (.int (ps.length : Int)) H) : gLen K [.ref a] H Q := w_lenL g (by rw [List.length_map]; exact q)
theorem w_ixI (g : SqL K H a (ns.map V.int)) (h0 : 0 ≤ i) (h1 : i < (ns.length : Int)) (q : Q (.int (ns.getD i.toNat 0)) H) : rIxL K (.ref a) (.int i) H Q := w_ixL g (atI_int (a := i.toNat) (by omega) (by omega)) q
theorem emp_len {α : Type} (xs : List α) : (!xs.isEmpty) = decide (0 < xs.length) := by cases xs <;> simp
theorem k_truR {P : Bool → Prop} (g : SqL K H a (ps.map V.ref)) (q : P (decide (0 < ps.length))) : ∃ k, TruV K (.ref a) H k ∧ P k := ⟨_, .inl ⟨_, g, rfl⟩, by rw [emp_len, List.length_map]; exact q⟩
theorem k_truI {P : Bool → Prop} (g : SqL K H a (ns.map V.int)) (q : P (decide (0 < ns.length))) : ∃ k, TruV K (.ref a) H k ∧ P k := ⟨_, .inl ⟨_, g, rfl⟩, by rw [emp_len, List.length_map]; exact q⟩
theorem k_truL {P : Bool → Prop} (g : SqL K H a xs) (q : P (decide (0 < xs.length))) : ∃ k, TruV K (.ref a) H k ∧ P k := ⟨_, .inl ⟨_, g, rfl⟩, by rw [emp_len]; exact q⟩
/-! while -/
def NV (Pv : Nat → L2.St → Hp → Prop) (m : Nat) : L2.St → Hp → Prop := fun σ' H' => ∃ m', m' < m ∧ Pv m' σ' H'
def kWhT (Pv : Nat → L2.St → Hp → Prop) (tb : TS) (D : Ends) (m : Nat) (σ : L2.St) (H1 : Hp) : Prop := ∃ N : L2.St → Hp → Prop, (∀ σ' H', N σ' H' → ∃ m', m' < m ∧ Pv m' σ' H') ∧ tb { D with nx := N, ct := N, bk := D.nx } σ H1
theorem w_whileO {c : TT} {tb : TS} {m0 : Nat} (Pv : Nat → L2.St → Hp → Prop) (h0 : Pv m0 σ H) (hs : ∀ m σ H, Pv m σ H → c σ H fun b H1 => if b = true then kWhT Pv tb D m σ H1 else D.nx σ H1) : tWhile c tb D σ H := ⟨Pv, ⟨m0, h0⟩, hs⟩
theorem k_whT {Pv : Nat → L2.St → Hp → Prop} {tb : TS} {m : Nat} (h : tb { D with nx := NV Pv m, ct := NV Pv m, bk := D.nx } σ H) : kWhT Pv tb D m σ H := ⟨NV Pv m, fun _ _ h => h, h⟩
/-! the laws' helpers -/
theorem o_start {n c : Int} (w : Own L H) (q : ∀ p H', Own (Drw p :: L) H' → Q (.ref p) H') : gsStart K [.int c, .int n] H Q EX := c_start fun n p hp => q p _ (w.new hp).drw
theorem o_digit {m : Int} (w : Own L H) (p : Pick L (Drw s) R) (h0 : 0 < m) (h1 : m < 1099511627776) (q : ∀ d H', 0 ≤ d → d < m → Own (Drw s :: R) H' → Q (.int d) H') : gsDigit K [.ref s, .int m] H Q EX := by
  obtain ⟨n, w1⟩ := (w.pick p).ex
  exact c_digit w1.get' h0 h1 fun d n' d0 d1 => q d _ d0 d1 (w1.put .here).drw
/-! comprehensions -/
def PvO (Pv : Nat → List V → List HP → Prop) (D : Addr) (i : Nat) (H' : Hp) : Prop := ∃ A L, Pv i A L ∧ Own (pt D (.lst A) :: L) H'
theorem lc_addO {Pv : Nat → List V → List HP → Prop} {Da : Addr} {i : Nat} {A : List V} (w : Own L H) (p : Pick L (pt Da (.lst A)) R) (hl : A.length < sizeLine) (q : Pv (i + 1) (A ++ [y]) R) : LcAdd Da (PvO Pv Da) i y H := by
  have w1 := w.pick p
  exact ⟨A, w1.get', hl, _, R, q, w1.put .here⟩
theorem lc_skipO {Pv : Nat → List V → List HP → Prop} {Da : Addr} {i : Nat} {A : List V} (w : Own L H) (p : Pick L (pt Da (.lst A)) R) (q : Pv (i + 1) A R) : PvO Pv Da (i + 1) H := ⟨A, R, q, w.pick p⟩
variable {g : TG} {tt : TT} {te : TE} {ws : List Nat} {w₀ : Nat}
/-- over any walk -/
theorem lcO {J : It} {n : Nat} {G : Hp → Prop} {Y : Nat → Hp → V → Hp → Prop} (wk : Walk J n G Y) (Pv : Nat → List V → List HP → Prop) (w : Own L H) (h0 : Pv 0 [] L) (hG : ∀ i A L D H', Pv i A L → Own (pt D (.lst A) :: L) H' → G H')
    (hs : ∀ i x D A L H1 H2, i < n → Pv i A L → Own (pt D (.lst A) :: L) H1 → Y i H1 x H2 → g x (wipe σ ws) H2 fun σ2 H2 => wipe σ2 ws = wipe σ ws ∧ tt σ2 H2 fun b H3 =>
      if b = true then te σ2 H3 fun y H4 => LcAdd D (PvO Pv D) i y H4 else PvO Pv D (i + 1) H3)
    (hd : ∀ D A L H1, Pv n A L → Own (pt D (.lst A) :: L) H1 → Q (.ref D) H1) : rLc J g tt te ws σ H Q :=
  lcG wk (PvO Pv) (fun D hD => ⟨[], L, h0, w.new hD⟩) (fun D i H' ⟨A, L, p, w⟩ => hG i A L D H' p w) (fun i x D H1 H2 hi _ ⟨A, L, p, w⟩ y => hs i x D A L H1 H2 hi p w y) fun D H1 _ ⟨A, L, p, w⟩ => hd D A L H1 p w
theorem lcR1O {n : Nat} (Pv : Nat → List V → List HP → Prop) (w : Own L H) (h0 : Pv 0 [] L) (hj : j = (n : Int)) (hn : n < 16000000)
    (hs : ∀ (i : Nat) D A L H1, i < n → Pv i A L → Own (pt D (.lst A) :: L) H1 → te ((σ.set w₀ none).set w₀ (some (.int (i : Int)))) H1 fun y H4 => LcAdd D (PvO Pv D) i y H4)
    (hd : ∀ D A L H1, Pv n A L → Own (pt D (.lst A) :: L) H1 → Q (.ref D) H1) : rLcR1 (gName w₀) tYes te [w₀] σ Q [.int j] H := by
  subst hj
  refine ⟨(n : Int), rfl, by omega, by omega, lcO walk_range Pv w h0 (fun _ _ _ _ _ _ _ => trivial) ?_ (by rw [Int.toNat_natCast]; exact hd)⟩
  rintro i x D A L H1 H2 hi hP ho ⟨rfl, rfl⟩
  refine ⟨wipe1, ?_⟩
  show te ((σ.set w₀ none).set w₀ (some (.int (0 + (i : Int))))) H2 _
  rw [Int.zero_add]
  exact hs i D A L H2 (by omega) hP ho
theorem lcR1FO {n : Nat} (Pv : Nat → List V → List HP → Prop) (w : Own L H) (h0 : Pv 0 [] L) (hj : j = (n : Int)) (hn : n < 16000000)
    (hs : ∀ (i : Nat) D A L H1, i < n → Pv i A L → Own (pt D (.lst A) :: L) H1 → tt ((σ.set w₀ none).set w₀ (some (.int (i : Int)))) H1 fun b H3 => if b = true then te ((σ.set w₀ none).set w₀ (some (.int (i : Int)))) H3 fun y H4 => LcAdd D (PvO Pv D) i y H4 else PvO Pv D (i + 1) H3)
    (hd : ∀ D A L H1, Pv n A L → Own (pt D (.lst A) :: L) H1 → Q (.ref D) H1) : rLcR1 (gName w₀) tt te [w₀] σ Q [.int j] H := by
  subst hj
  refine ⟨(n : Int), rfl, by omega, by omega, lcO walk_range Pv w h0 (fun _ _ _ _ _ _ _ => trivial) ?_ (by rw [Int.toNat_natCast]; exact hd)⟩
  rintro i x D A L H1 H2 hi hP ho ⟨rfl, rfl⟩
  refine ⟨wipe1, ?_⟩
  have e : (0 : Int) + (i : Int) = (i : Int) := Int.zero_add _
  show tt ((σ.set w₀ none).set w₀ (some (.int (0 + (i : Int))))) H2 (fun b H3 => if b = true then te ((σ.set w₀ none).set w₀ (some (.int (0 + (i : Int))))) H3 fun y H4 => LcAdd D (PvO Pv D) i y H4 else PvO Pv D (i + 1) H3)
  rw [e]
  exact hs i D A L H2 (by omega) hP ho
theorem lcR2O {lo hi : Int} (Pv : Nat → List V → List HP → Prop) (w : Own L H) (h0 : Pv 0 [] L) (hn : -4000000000 < lo ∧ lo < 4000000000 ∧ -4000000000 < hi ∧ hi < 4000000000) (hn2 : hi - lo < 16000000)
    (hs : ∀ (i : Nat) D A L H1, lo + i < hi → Pv i A L → Own (pt D (.lst A) :: L) H1 → te ((σ.set w₀ none).set w₀ (some (.int (lo + (i : Int))))) H1 fun y H4 => LcAdd D (PvO Pv D) i y H4)
    (hd : ∀ D A L H1, Pv (hi - lo).toNat A L → Own (pt D (.lst A) :: L) H1 → Q (.ref D) H1) : rLcR2 (gName w₀) tYes te [w₀] σ Q [.int lo, .int hi] H := by
  refine ⟨lo, hi, rfl, ⟨by omega, by omega, by omega, by omega⟩, lcO walk_range Pv w h0 (fun _ _ _ _ _ _ _ => trivial) ?_ hd⟩
  rintro i x D A L H1 H2 hi hP ho ⟨rfl, rfl⟩
  exact ⟨wipe1, hs i D A L H2 (by omega) hP ho⟩
theorem lcLO {vs : List V} (Pv : Nat → List V → List HP → Prop) (w : Own L H) (h0 : Pv 0 [] L) (hx : ∀ i A L D H', Pv i A L → Own (pt D (.lst A) :: L) H' → SqL K H' a vs)
    (hx0 : SqL K H a vs) (hs : ∀ (i : Nat) x D A L H1, vs[i]? = some x → Pv i A L → Own (pt D (.lst A) :: L) H1 → te ((σ.set w₀ none).set w₀ (some x)) H1 fun y H4 => LcAdd D (PvO Pv D) i y H4)
    (hd : ∀ D A L H1, Pv vs.length A L → Own (pt D (.lst A) :: L) H1 → Q (.ref D) H1) : rLcL K (gName w₀) tYes te [w₀] σ Q (.ref a) H := by
  refine ⟨a, rfl, ⟨_, hx0⟩, lcO walk_list Pv w h0 hx ?_ hd⟩
  rintro i x D A L H1 H2 hi hP ho ⟨rfl, hxi⟩
  exact ⟨wipe1, hs i x D A L H2 hxi hP ho⟩
theorem lcLFO {vs : List V} (Pv : Nat → List V → List HP → Prop) (w : Own L H) (h0 : Pv 0 [] L) (hx : ∀ i A L D H', Pv i A L → Own (pt D (.lst A) :: L) H' → SqL K H' a vs)
    (hx0 : SqL K H a vs) (hs : ∀ (i : Nat) x D A L H1, vs[i]? = some x → Pv i A L → Own (pt D (.lst A) :: L) H1 → tt ((σ.set w₀ none).set w₀ (some x)) H1 fun b H3 =>
      if b = true then te ((σ.set w₀ none).set w₀ (some x)) H3 fun y H4 => LcAdd D (PvO Pv D) i y H4 else PvO Pv D (i + 1) H3)
    (hd : ∀ D A L H1, Pv vs.length A L → Own (pt D (.lst A) :: L) H1 → Q (.ref D) H1) : rLcL K (gName w₀) tt te [w₀] σ Q (.ref a) H := by
  refine ⟨a, rfl, ⟨_, hx0⟩, lcO walk_list Pv w h0 hx ?_ hd⟩
  rintro i x D A L H1 H2 hi hP ho ⟨rfl, hxi⟩
  exact ⟨wipe1, hs i x D A L H2 hxi hP ho⟩
theorem lcTO {vs : List V} (Pv : Nat → List V → List HP → Prop) (w : Own L H) (h0 : Pv 0 [] L) (hx : ∀ i A L D H', Pv i A L → Own (pt D (.lst A) :: L) H' → SqT K H' a vs)
    (hx0 : SqT K H a vs) (hs : ∀ (i : Nat) x D A L H1, vs[i]? = some x → Pv i A L → Own (pt D (.lst A) :: L) H1 → te ((σ.set w₀ none).set w₀ (some x)) H1 fun y H4 => LcAdd D (PvO Pv D) i y H4)
    (hd : ∀ D A L H1, Pv vs.length A L → Own (pt D (.lst A) :: L) H1 → Q (.ref D) H1) : rLcT K (gName w₀) tYes te [w₀] σ Q (.ref a) H := by
  refine ⟨a, rfl, ⟨_, hx0⟩, lcO walk_tup Pv w h0 hx ?_ hd⟩
  rintro i x D A L H1 H2 hi hP ho ⟨rfl, hxi⟩
  exact ⟨wipe1, hs i x D A L H2 hxi hP ho⟩
/-- drawn numbers: [digit(state, m) for k in range(n)] -/
theorem lcDrawO {m : Int} {n : Nat} (w : Own L H) (p : Pick L (Drw s) R) (hj : j = (n : Int)) (hn : n < 16000000) (h0 : 0 < m) 
    (hb : ∀ (i : Nat) H1 n1, H1 s = some (.lst [.int n1]) → te ((σ.set w₀ none).set w₀ (some (.int (i : Int)))) H1 fun y H4 => ∃ d n2, y = .int d ∧ 0 ≤ d ∧ d < m ∧ H4 = upd H1 s (.lst [.int n2]))
    (mono : ∀ (σ : L2.St) H (Q Q' : VK), (∀ y H1, Q y H1 → Q' y H1) → te σ H Q → te σ H Q')
    (hd : ∀ D (ds : List Int) H1, ds.length = n → (∀ d ∈ ds, 0 ≤ d ∧ d < m) → Own (pt D (.lst (ds.map V.int)) :: Drw s :: R) H1 → Q (.ref D) H1) : rLcR1 (gName w₀) tYes te [w₀] σ Q [.int j] H := by
  refine lcR1O (fun i A L => L = Drw s :: R ∧ ∃ ds : List Int, ds.length = i ∧ (∀ d ∈ ds, 0 ≤ d ∧ d < m) ∧ A = ds.map V.int) (w.pick p) ⟨rfl, [], rfl, (fun d hd => by cases hd), rfl⟩ hj hn ?_ ?_
  · rintro i D A L H1 hi ⟨rfl, ds, hl, hds, rfl⟩ ho
    obtain ⟨n1, w1⟩ := ho.swap.ex
    refine mono _ _ _ _ ?_ (hb i H1 n1 w1.get')
    rintro y H4 ⟨d, n2, rfl, d0, d1, rfl⟩
    refine lc_addO ((w1.put .here).drw.swap) .here (by rw [List.length_map]; exact small16l (by omega)) ⟨rfl, ds ++ [d], by rw [List.length_append, hl]; rfl, ?_, by rw [List.map_append]; rfl⟩
    intro z hz
    rcases List.mem_append.mp hz with hz | hz
    · exact hds z hz
    · rw [List.mem_singleton.mp hz]
      exact ⟨d0, d1⟩
  · rintro D A L H1 ⟨rfl, ds, hl, hds, rfl⟩ ho
    exact hd D ds H1 hl hds ho
theorem mono_digit {t1 t2 : TE} {K : PySem.W.Frag} (m1 : ∀ (σ : L2.St) H (Q Q' : VK), (∀ y H1, Q y H1 → Q' y H1) → t1 σ H Q → t1 σ H Q') (m2 : ∀ (σ : L2.St) H (Q Q' : VK), (∀ y H1, Q y H1 → Q' y H1) → t2 σ H Q → t2 σ H Q') :
    ∀ (σ : L2.St) H (Q Q' : VK), (∀ y H1, Q y H1 → Q' y H1) → tCallS (gsDigit K) E (tCons t1 (tCons t2 tNil)) σ H Q → tCallS (gsDigit K) E (tCons t1 (tCons t2 tNil)) σ H Q' := fun σ H Q Q' hq h =>
  m1 σ H _ _ (fun y H1 h => m2 σ H1 _ _ (fun z H2 h => by
    obtain ⟨p, n, m, e, h1, h2, h3, h4⟩ := h
    exact ⟨p, n, m, e, h1, h2, h3, fun d n' a b => hq _ _ (h4 d n' a b)⟩) h) h
theorem mono_var {n : Nat} : ∀ (σ : L2.St) H (Q Q' : VK), (∀ y H1, Q y H1 → Q' y H1) → tVar n σ H Q → tVar n σ H Q' := fun _ _ _ _ hq ⟨v, e, q⟩ => ⟨v, e, hq _ _ q⟩
theorem mono_c {v : V} : ∀ (σ : L2.St) H (Q Q' : VK), (∀ y H1, Q y H1 → Q' y H1) → tC v σ H Q → tC v σ H Q' := fun _ _ _ _ hq q => hq _ _ q
end
end G

/-! the laws' own helpers, once for all laws -/
namespace G
open PySem PySem.Spec PyProof.Rows L2
abbrev GN_law_cell : List Str := ["script", "k"]
abbrev GN_law_start : List Str := ["cell", "k", "prime", "mixed", "number", "turn"]
abbrev GN_law_digit : List Str := ["state", "many", "digit"]
abbrev GN_law_is_integer : List Str := ["told"]
def gt_law_cell (K : PySem.W.Frag) (E : XK) : TS :=
  (tSeq (tIfS (tTest (tOp gLt (tVar 1) (tCB (gLen K) (tCons (tVar 0) tNil))))
  (tRet (tOp (rIxL K) (tVar 0) (tVar 1)))
  tNext)
  (tRet (tC (.int 0))))
def gt_law_start (K : PySem.W.Frag) (E : XK) : TS :=
  (tSeq (tAsg (tC (.int 618970019642690137449562111)) (gName 2))
  (tSeq (tIfS (tTest (tChain gLt gLt (tUn gNeg (tC (.int 1000000000000000000))) (tVar 0) (tC (.int 1000000000000000000))))
  (tSeq (tAsg (tOp gMod (tCB gInt1 (tCons (tOp gAdd (tOp gMul (tVar 0) (tC (.int 2654435761))) (tOp gMul (tOp gAdd (tVar 1) (tC (.int 1))) (tC (.int 6700417)))) tNil)) (tVar 2)) (gName 3))
  (tSeq (tAsg (tC (.int 0)) (gName 4))
  (tSeq (tFor (iRng1 (tCons (tC (.int 4)) tNil)) (gName 5)
  (tSeq (tAsg (tOp gMod (tCB gInt1 (tCons (tOp gAdd (tOp gAdd (tOp gAdd (tOp gMulW (tVar 3) (tVar 3)) (tOp gMul (tC (.int 7)) (tVar 3))) (tVar 1)) (tVar 5)) tNil)) (tVar 2)) (gName 3))
  (tAsg (tOp gAdd (tOp gMulW (tVar 4) (tVar 2)) (tVar 3)) (gName 4))))
  (tRet (tLst (tCons (tVar 4) tNil))))))
  tNext)
  (tRet (tLst (tCons (tVar 0) tNil)))))
def gt_law_digit (K : PySem.W.Frag) (E : XK) : TS :=
  (tSeq (tAsg (tOp gMod (tCB gInt1 (tCons (tOp (rIxL K) (tVar 0) (tC (.int 0))) tNil)) (tVar 1)) (gName 2))
  (tSeq (tAsg (tOp gDivW (tOp (rIxL K) (tVar 0) (tC (.int 0))) (tVar 1)) (gSub (tVar 0) (tC (.int 0)) rSetL))
  (tRet (tVar 2))))
def gt_law_is_integer (K : PySem.W.Frag) (E : XK) : TS :=
  (tRet (tAndV (tCB (rIsi K) (tCons (tVar 0) (tCons (tC (.ty "int")) tNil))) (tNotV (tCB (rIsi K) (tCons (tVar 0) (tCons (tC (.ty "bool")) tNil))))))
section
local macro_rules | `(tactic| wtm_at "g_get") => `(tactic| first | fail)
local macro_rules | `(tactic| wtm_at "g_set") => `(tactic| first | fail)
local macro_rules | `(tactic| wtm_at "g_set2") => `(tactic| first | fail)
local macro_rules | `(tactic| wtm_at "g_mt") => `(tactic| first | fail)
local macro_rules | `(tactic| wtm_at "g_call") => `(tactic| first | fail)
local macro_rules | `(tactic| wtm_at "g_eq") => `(tactic| first | fail)
local macro_rules | `(tactic| wtm_at "g_ne") => `(tactic| first
  | (with_reducible assumption) | (with_reducible exact Ne.symm (by assumption)) | (with_reducible exact ne_of_none (by assumption) (by assumption)) | (with_reducible exact (ne_of_none (by assumption) (by assumption)).symm)
  | fail)
local macro_rules | `(tactic| wtm_at "g_hp") => `(tactic| first
  | (with_reducible assumption) | (with_reducible exact upd_same) | ((with_reducible refine' up_nn ?k1 ?k2); (case k1 => with_reducible assumption); (case k2 => wtm_at "g_hp")) | ((with_reducible refine' up_k' ?k1 ?k2); (case k1 => wtm_at "g_ne"); (case k2 => wtm_at "g_hp"))
  | ((with_reducible refine' up_ko ?k1 ?k2 ?k3); (case k1 => wtm_at "g_hp"); (case k2 => wtm_at "g_hp"); (case k3 => (intro z; cases z)))
  | ((with_reducible refine' ext_get ?k1 ?k2); (case k1 => assumption); (case k2 => wtm_at "g_hp"))
  | ((with_reducible refine' extp_get ?k1 ?k2 ?k3); (case k1 => assumption); (case k2 => wtm_at "g_ne"); (case k3 => wtm_at "g_hp"))
  | ((with_reducible refine' exts_get ?k1 ?k2 ?k3); (case k1 => assumption); (case k2 => wtm_at "g_ni"); (case k3 => wtm_at "g_hp"))
  | fail)
local macro_rules | `(tactic| wtm_at "g_ni") => `(tactic| first
  | (with_reducible assumption) | (with_reducible exact ni_nil)
  | ((with_reducible refine' ni_cons ?k1 ?k2); (case k1 => wtm_at "g_ne"); (case k2 => wtm_at "g_ni"))
  | fail)
local macro_rules | `(tactic| wtm_at "g_mem") => `(tactic| first
  | (with_reducible assumption) | (with_reducible exact mem_hd)
  | ((with_reducible refine' mem_tl ?k1); (case k1 => wtm_at "g_mem"))
  | fail)
local macro_rules | `(tactic| wtm_at "g_sub") => `(tactic| first
  | (with_reducible assumption) | (with_reducible exact SubN.nil)
  | ((with_reducible refine' SubN.inn ?k1 ?k2); (case k1 => wtm_at "g_mem"); (case k2 => wtm_at "g_sub"))
  | ((with_reducible refine' SubN.new ?k1 ?k2); (case k1 => wtm_at "g_nn"); (case k2 => wtm_at "g_sub"))
  | fail)
local macro_rules | `(tactic| wtm_at "g_nn") => `(tactic| first
  | (with_reducible assumption) | ((with_reducible refine' none_up ?k1 ?k2); (case k1 => wtm_at "g_ne"); (case k2 => wtm_at "g_nn")) | ((with_reducible refine' none_dn ?k1); (case k1 => with_reducible assumption))
  | ((with_reducible refine' exts_none ?k1 ?k2); (case k1 => assumption); (case k2 => with_reducible assumption)) | ((with_reducible refine' ext_none ?k1 ?k2); (case k1 => assumption); (case k2 => with_reducible assumption))
  | fail)
local macro_rules | `(tactic| wtm_at "g_ex") => `(tactic| first
  | (with_reducible assumption) | (with_reducible exact Ext.rfl') | (with_reducible exact ExtP.rfl')
  | ((with_reducible refine' ext_up ?k1 ?k2); (case k1 => wtm_at "g_nn"); (case k2 => wtm_at "g_ex"))
  | ((with_reducible refine' ext_put ?k1 ?k2); (case k1 => wtm_at "g_nn"); (case k2 => wtm_at "g_ex"))
  | ((with_reducible refine' ext_via ?k1 ?k2); (case k1 => assumption); (case k2 => wtm_at "g_ex"))
  | ((with_reducible refine' ext_thr ?k1 ?k2 ?k3); (case k2 => assumption); (case k1 => wtm_at "g_nn"); (case k3 => wtm_at "g_ex"))
  | ((with_reducible refine' extp_put ?k1); (case k1 => wtm_at "g_ex"))
  | ((with_reducible refine' extp_up ?k1 ?k2); (case k1 => wtm_at "g_nn"); (case k2 => wtm_at "g_ex"))
  | ((with_reducible refine' extp_putn ?k1 ?k2); (case k1 => wtm_at "g_nn"); (case k2 => wtm_at "g_ex"))
  | ((with_reducible refine' extp_via ?k1 ?k2); (case k1 => assumption); (case k2 => wtm_at "g_ex"))
  | ((with_reducible refine' extp_viae ?k1 ?k2); (case k1 => assumption); (case k2 => wtm_at "g_ex"))
  | ((with_reducible refine' extp_thr ?k1 ?k2 ?k3); (case k2 => assumption); (case k1 => wtm_at "g_nn"); (case k3 => wtm_at "g_ex"))
  | (with_reducible exact ExtS.rfl')
  | ((with_reducible refine' exts_up ?k1 ?k2); (case k1 => wtm_at "g_nn"); (case k2 => wtm_at "g_ex"))
  | ((with_reducible refine' exts_put ?k1 ?k2); (case k1 => wtm_at "g_sub"); (case k2 => wtm_at "g_ex"))
  | ((with_reducible refine' exts_thrE ?k1 ?k2); (case k1 => assumption); (case k2 => wtm_at "g_ex"))
  | ((with_reducible refine' exts_thrP ?k1 ?k2 ?k3 ?k4); (case k1 => assumption); (case k2 => assumption); (case k3 => wtm_at "g_sub"); (case k4 => wtm_at "g_ex"))
  | ((with_reducible refine' exts_thr ?k1 ?k2 ?k3); (case k1 => assumption); (case k2 => wtm_at "g_sub"); (case k3 => wtm_at "g_ex"))
  | fail)
local macro_rules | `(tactic| wtm_at "g_thw") => `(tactic| first
  | (with_reducible assumption) | ((with_reducible refine' Thw.lst ?k1); (case k1 => wtm_at "g_hp")) | ((with_reducible refine' Thw.ins ?k1); (case k1 => wtm_at "g_hp"))
  | fail)
local macro_rules | `(tactic| wtm_at "g_sc") => `(tactic| first
  | (with_reducible assumption) | ((with_reducible refine' scr_new' ?k1 ?k2); (case k1 => wtm_at "g_nn"); (case k2 => wtm_at "g_sc")) | ((with_reducible refine' scr_put' ?k1 ?k2); (case k1 => wtm_at "g_thw"); (case k2 => wtm_at "g_sc"))
  | ((with_reducible refine' scr_ext ?k1 ?k2); (case k1 => assumption); (case k2 => wtm_at "g_sc")) | ((with_reducible refine' scr_extp ?k1 ?k2 ?k3); (case k1 => assumption); (case k2 => wtm_at "g_thw"); (case k3 => wtm_at "g_sc")) | ((with_reducible refine' scr_extn ?k1 ?k2 ?k3); (case k1 => assumption); (case k2 => wtm_at "g_nn"); (case k3 => wtm_at "g_sc"))
  | fail)
local macro_rules | `(tactic| wtm_at "g_sq") => `(tactic| first
  | (with_reducible assumption) | ((with_reducible refine' SqL.of ?k1); (case k1 => wtm_at "g_hp")) | ((with_reducible refine' Scr.sq ?k1); (case k1 => wtm_at "g_sc")) | ((with_reducible refine' sq_new' ?k1 ?k2); (case k1 => wtm_at "g_nn"); (case k2 => wtm_at "g_sq")) | ((with_reducible refine' sq_put' ?k1 ?k2); (case k1 => wtm_at "g_ne"); (case k2 => wtm_at "g_sq"))
  | ((with_reducible refine' sq_ext ?k1 ?k2); (case k1 => assumption); (case k2 => wtm_at "g_sq"))
  | fail)
local macro_rules | `(tactic| wtm_at "g_sqt") => `(tactic| first
  | (with_reducible assumption) | ((with_reducible refine' SqT.of' ?k1); (case k1 => wtm_at "g_hp")) | ((with_reducible refine' sqt_ext ?k1 ?k2); (case k1 => assumption); (case k2 => wtm_at "g_sqt"))
  | fail)
local macro_rules | `(tactic| wtm_at "g_st") => `(tactic| first
  | (with_reducible first
      | refine w_seq ?_ | refine w_asg ?_ | refine w_nm ?_ | refine w_next ?_ | refine w_if ?_ | refine w_ret ?_ | refine w_retN ?_ | refine w_drop ?_
      | refine w_var rfl ?_ | refine w_c ?_ | refine w_op ?_ | refine w_I0 ?_
      | refine w_eqI ?_ | refine w_neI ?_ | refine w_eqB ?_ | refine w_neB ?_ | refine w_eqS ?_ | refine w_neS ?_ | refine w_isN0 ?_ | refine w_isNi ?_ | refine w_isNr ?_ | refine w_isNb ?_ | refine w_isNs ?_ | refine w_notN0 ?_ | refine w_notNi ?_ | refine w_notNr ?_ | refine w_notNb ?_ | refine w_notNs ?_ | refine w_isN ?_ | refine w_notN ?_ | refine w_isB ?_ | refine w_notB ?_
      | refine w_un ?_ | refine w_U ?_ | refine w_chain ?_ | refine w_k ?_ | refine w_test ?_ | refine w_tB ?_ | refine w_tru ?_ | refine w_not ?_ | refine w_and ?_ | refine w_or ?_
      | refine w_andV ?_ | refine w_orV ?_ | refine w_notV ?_ | refine w_ife ?_ | refine w_nil ?_ | refine w_cons ?_ | refine w_tup ?_ | refine w_lst ?_ | refine w_small rfl ?_
      | refine w_call ?_ | refine w_mk ?_ | refine w_mt ?_ | refine w_cb ?_ | refine w_min2 ?_ | refine w_max2 ?_ | refine w_abs ?_ | refine w_int ?_
      | refine w_fld0 ?_ | refine w_bm ?_ | refine w_bm0 ?_ | refine w_sub ?_ | refine w_sfld ?_ | refine w_sfa ?_ | refine w_radd ?_ | refine w_rsub ?_ | refine w_ip ?_ | refine w_rs ?_ | refine w_pr ?_
      | refine w_lcR1 ?_ | refine w_lcR2 ?_ | refine w_lcL ?_ | refine w_lcT ?_ | refine w_yes ?_ | refine w_disp ?_ | refine w_prs ?_ | refine w_prn ?_ | refine w_dget ?_ | refine w_sl ?_ | refine w_nopart ?_ | refine w_part ?_ | refine w_pint ?_
      | refine w_for3 ?_ | refine w_mkK ?_ | refine w_forR1 ?_ | refine w_forR2 ?_ | refine w_forL ?_ | refine w_forT ?_ | refine w_aug rfl ?_ | refine w_par ?_ | refine w_brk ?_ | refine w_cont ?_
      | refine w_isi_ii ?_ | refine w_isi_ib ?_ | refine w_isi_bi ?_ | refine w_isi_bb ?_ | refine w_isi_ss ?_ | refine w_isi_is ?_ | refine w_isi_il ?_ | refine w_isi_it ?_ | refine w_isi_sl ?_ | refine w_isi_st ?_ | refine w_isi_nl ?_ | refine w_isi_nt ?_
      | refine if_T ?_ | refine if_F ?_ | refine if_nT ?_ | refine if_nF ?_)
  | ((with_reducible refine' w_lenL ?k1 ?_); (case k1 => wtm_at "g_sq"))
  | ((with_reducible refine' w_lenT ?k1 ?_); (case k1 => wtm_at "g_sqt"))
  | ((with_reducible refine' w_isi_ll ?k1 ?_); (case k1 => wtm_at "g_hp"))
  | ((with_reducible refine' w_isi_tt ?k1 ?_); (case k1 => wtm_at "g_hp"))
  | ((with_reducible refine' w_isi_lt ?k1 ?_); (case k1 => wtm_at "g_hp"))
  | ((with_reducible refine' w_isi_tl ?k1 ?_); (case k1 => wtm_at "g_hp"))
  | ((with_reducible refine' w_ll ?k1 ?k2 ?_); (case k1 => rfl); (case k2 => rfl))
  | wtm_at "g_get"
  | wtm_at "g_mt"
  | wtm_at "g_set"
  | wtm_at "g_set2"
  | wtm_at "g_call"
  | fail)
local macro_rules | `(tactic| wtm_at "g_go") => `(tactic| repeat wtm_at "g_st")
local macro_rules | `(tactic| wtm_at "g_ifo") => `(tactic| first
  | (refine if_nno rfl ?_) | (refine if_yes rfl ?_)
  | (refine if_no (by omega) ?_)
  | (refine if_yes (by omega) ?_)
  | (refine if_nno (by omega) ?_)
  | (refine if_nyes (by omega) ?_)
  | (refine if_nno (decide_eq_false (by omega)).symm ?_)
  | (refine if_nno (decide_eq_true (by omega)).symm ?_)
  | fail)
local macro_rules | `(tactic| wtm_at "g_goo") => `(tactic| repeat (first | wtm_at "g_st" | wtm_at "g_ifo"))
section
variable {K : PySem.W.Frag} {mg : Str → Option Value} {base : Heap}
theorem g_law_cell (vs : List V) (H : Hp) (Q : VK) (E : XK) (h : gsCell K vs H Q E) : gt_law_cell K E { nx := fun _ H' => Q .non H', rt := Q } (start GN_law_cell vs) H := by
  obtain ⟨a, ns, k, rfl, hS, h0, q⟩ := h
  unfold gt_law_cell
  wtm_at "g_go"
  rw [List.length_map]
  refine if_d (fun hk => ?_) (fun hk => ?_)
  · wtm_at "g_go"
    obtain ⟨z, hz⟩ : ∃ z, ns[k.toNat]? = some z := ⟨ns[k.toNat], List.getElem?_eq_getElem (by omega)⟩
    refine w_ixL hS (at_of (j := k.toNat) (v := V.int z) (by omega) (by rw [List.getElem?_map, hz]; rfl)) (q z)
  · wtm_at "g_go"
    exact q 0
theorem g_law_digit (vs : List V) (H : Hp) (Q : VK) (E : XK) (h : gsDigit K vs H Q E) : gt_law_digit K E { nx := fun _ H' => Q .non H', rt := Q } (start GN_law_digit vs) H := by
  obtain ⟨p, n, m, rfl, hp, h0, h1, q⟩ := h
  unfold gt_law_digit
  wtm_at "g_go"
  refine w_ixL (SqL.of hp) (v := .int n) rfl ?_
  wtm_at "g_go"
  refine w_I h0 ?_
  wtm_at "g_go"
  refine w_ixL (SqL.of hp) (v := .int n) rfl ?_
  wtm_at "g_go"
  refine w_I (digit_div h0 h1 _) ?_
  wtm_at "g_go"
  refine w_setL hp (j := 0) rfl ?_
  wtm_at "g_go"
  exact q _ _ (Int.emod_nonneg _ (by omega)) (Int.emod_lt_of_pos _ h0)
theorem g_law_start (vs : List V) (H : Hp) (Q : VK) (E : XK) (h : gsStart K vs H Q E) : gt_law_start K E { nx := fun _ H' => Q .non H', rt := Q } (start GN_law_start vs) H := by
  obtain ⟨c, k, rfl, q⟩ := h
  unfold gt_law_start
  wtm_at "g_go"
  refine if_d (fun h1 => ?_) (fun h1 => ?_)
  · wtm_at "g_go"
    refine if_d (fun h2 => ?_) (fun h2 => ?_)
    · wtm_at "g_go"
      refine w_I (.inr (by decide)) ?_
      wtm_at "g_go"
      refine w_I (.inr (by decide)) ?_
      wtm_at "g_go"
      refine w_I (by decide) ?_
      wtm_at "g_go"
      refine loop1 (n := 4) (fun i σ H' => H' = H ∧ ∃ (m n : Int) (v : Option V), σ = [some (.int c), some (.int k), some (.int 618970019642690137449562111), some (.int m), some (.int n), v] ∧ 0 ≤ m ∧ m < 618970019642690137449562111 ∧ 0 ≤ n ∧ n < (618970019642690137449562111 : Int) ^ i) rfl (by decide)
        ⟨rfl, _, _, _, rfl, Int.emod_nonneg _ (by decide), Int.emod_lt_of_pos _ (by decide), by decide, by decide⟩ ?_ ?_
      · rintro i σ H' hi ⟨rfl, m, n, v, rfl, m0, m1, n0, n1⟩
        obtain ⟨b1, b2⟩ := pr_pow i hi
        have e3 : (618970019642690137449562111 : Int) < 618970019642690137449562111 ^ 3 + 1 := by decide +kernel
        wtm_at "g_go"
        refine w_I (wide_mul (a := 300) (b := 300) (small_w m0 (Int.lt_trans m1 e3)) (small_w m0 (Int.lt_trans m1 e3)) (by decide) (by decide) (by decide)) ?_
        wtm_at "g_go"
        refine w_I (.inl (by decide)) ?_
        wtm_at "g_go"
        refine w_I (by decide) ?_
        wtm_at "g_go"
        refine w_I (wide_mul (a := 300) (b := 300) (small_w n0 (Int.lt_trans n1 b1)) (small_w (by decide) e3) (by decide) (by decide) (by decide)) ?_
        wtm_at "g_go"
        refine ⟨rfl, _, _, _, rfl, Int.emod_nonneg _ (by decide), Int.emod_lt_of_pos _ (by decide), ?_⟩
        rw [Int.pow_succ]
        exact num_step n0 n1 (Int.emod_nonneg _ (by decide)) (Int.emod_lt_of_pos _ (by decide))
      · rintro σ H' ⟨rfl, m, n, v, rfl, m0, m1, n0, n1⟩
        wtm_at "g_go"
        exact q n
    · wtm_at "g_go"
      exact q c
  · wtm_at "g_go"
    exact q c
end
section
variable {K : PySem.W.Frag} {mg : Str → Option Value} {base : Heap}
theorem g_law_is_integer (vs : List V) (H : Hp) (Q : VK) (E : XK) (h : gsIsInt K vs H Q E) : gt_law_is_integer K E { nx := fun _ H' => Q .non H', rt := Q } (start GN_law_is_integer vs) H := by
  obtain ⟨x, rfl, ⟨i, rfl, q⟩ | ⟨i, rfl, q⟩⟩ := h
  · unfold gt_law_is_integer
    wtm_at "g_go"
    exact q
  · unfold gt_law_is_integer
    wtm_at "g_go"
    exact q
end
end
end G

/-! sorted: tuples that their first items, ints, tell apart -/
namespace SrtO
open PySem PySem.Spec PyProof.Rows Srt
section
variable {prog : Program} {w : World} {A : Around} {E : Value → Shared → Prop} {s : Shared}
theorem eqBool_self {v : Value} {Q : Bool → Shared → Prop} (h : Q true s) : wpAny (model prog w) A (eqBool v v) Q E s := by
  unfold eqBool
  refine wpAny_holding ?_
  refine wpAny_ite_split (fun _ => ?_) (fun e => absurd (beq_self_eq_true v) e)
  exact wpAny_bind (wpAny_rule (wpAny_pure h))
theorem kat_same {b fin : Bool} {Q : Bool → Shared → Prop} (h : Q fin s) : ∀ (l : List Value) (i : Nat), PySem.W.KatLex prog w A b fin Q (l.zip l) i s
  | [], _ => PySem.W.kat_nil h
  | v :: l, i => PySem.W.kat_cons (eqBool_self (PySem.W.kat_yes (kat_same h l (i + 1))))
def IsKey (h : Heap) (v : Value) (x : Int) : Prop := ∃ a o t xs tl n, v = .ref a ∧ h.get? a = some o ∧ o.cls = .type "tuple" ∧ o.data = .seq xs n ∧ xs.toList = .int x t :: tl
theorem IsKey.keeps {h h' : Heap} {v : Value} {x : Int} (p : IsKey h v x) (k : ∀ b o, h.get? b = some o → o.cls = .type "tuple" → h'.get? b = some o) : IsKey h' v x := by
  obtain ⟨a, o, t, xs, tl, n, e, ho, hc, hd⟩ := p
  exact ⟨a, o, t, xs, tl, n, e, k _ _ ho hc, hc, hd⟩
theorem swo_key (k : Value → Int) : Swo fun v u => decide (k v < k u) := by
  refine ⟨fun x y h => ?_, fun x y z h1 h2 => ?_⟩
  · have a := of_decide_eq_true h
    exact decide_eq_false (by omega)
  · have a := of_decide_eq_false h1
    have b := of_decide_eq_false h2
    exact decide_eq_false (by omega)
theorem key_cmp {vs : List Value} {k : Value → Int} (hp : ∀ v ∈ vs, IsKey s.heap v (k v)) (inj : ∀ v ∈ vs, ∀ u ∈ vs, k v = k u → v = u) : Cmp prog w A s (tuples' true) (fun p => p.1 ∈ vs) (lt2 fun v u => decide (k v < k u)) := by
  intro p q hm hm'
  show wpAny (model prog w) A (keyLt' (tuples' true) p.1 q.1) (fun r s' => s' = s ∧ r = decide (k p.1 < k q.1)) (fun _ _ => False) s
  by_cases e : k p.1 = k q.1
  · have ev := inj _ hm _ hm' e
    obtain ⟨a, o, t, xs, tl, n, e1, ho, hc, hd, hx⟩ := hp _ hm
    rw [← ev, e1]
    refine PySem.W.kat_lt ho hd ho hd ?_
    refine kat_same ?_ _ _
    exact ⟨rfl, by rw [decide_eq_false (Nat.lt_irrefl _), decide_eq_false (Int.lt_irrefl _)]⟩
  · obtain ⟨a, o, t, xs, tl, n, e1, ho, hc, hd, hx⟩ := hp _ hm
    obtain ⟨a', o', t', xs', tl', n', e1', ho', hc', hd', hx'⟩ := hp _ hm'
    generalize k p.1 = i at *
    generalize k q.1 = j at *
    rw [e1, e1']
    refine PySem.W.kat_lt ho hd ho' hd' ?_
    rw [hx, hx']
    show PySem.W.KatLex prog w A true _ _ ((Value.int i t, Value.int j t') :: tl.zip tl') 0 s
    refine PySem.W.kat_cons (SeqAt.EqAt.int_int i t j t' prog w _ _ ?_)
    refine PySem.W.kat_go (fun e1 => absurd (show i = j by simpa using e1) e) (fun e1 => ?_)
    exact PySem.W.kat_no (oneLt_int ⟨rfl, rfl⟩)
theorem keyfirsts_of {h : Heap} {k : Value → Int} : ∀ {vs : List Value}, (∀ v ∈ vs, IsKey h v (k v)) → ∃ fs : List Value, PySem.W.KatTups h vs fs ∧ fs.length = vs.length ∧ ∀ f ∈ fs, ∃ x t, f = Value.int x t
  | [], _ => ⟨[], PySem.W.KatTups.nil, rfl, fun _ hm => by simp at hm⟩
  | v :: vs, hp => by
    obtain ⟨fs, h1, h2, h3⟩ := keyfirsts_of (vs := vs) fun v' hm => hp v' (List.mem_cons_of_mem _ hm)
    obtain ⟨a, o, t, xs, tl, n, e, ho, hc, hd, hx⟩ := hp v (List.mem_cons_self ..)
    rw [e]
    refine ⟨.int (k v) t :: fs, PySem.W.KatTups.cons ho hc hd ?_ h1, by rw [List.length_cons, List.length_cons, h2], fun f hm => ?_⟩
    · have z := congrArg (fun l : List Value => l[0]?) hx
      simpa using z
    · rcases List.mem_cons.mp hm with rfl | hm
      · exact ⟨_, t, rfl⟩
      · exact h3 f hm
theorem key_sortableO {a : Addr} {vs : List Value} {k : Value → Int} (h0 : 0 < vs.length) (hp : ∀ v ∈ vs, IsKey s.heap v (k v)) (inj : ∀ v ∈ vs, ∀ u ∈ vs, k v = k u → v = u) (ha : ∀ o, s.heap.get? a = some o → o.cls ≠ .type "tuple") : SortableO prog w A s a vs fun v u => decide (k v < k u) := by
  intro h' keep
  have hp' : ∀ v ∈ vs, IsKey h' v (k v) := fun v hm => (hp v hm).keeps fun b o e c => keep b o (fun z => by subst z; exact ha o e c) e
  obtain ⟨fs, h1, h2, h3⟩ := keyfirsts_of hp'
  refine ⟨tuples' true, fun Q E hq => ?_, key_cmp hp' inj⟩
  refine PySem.W.kat_kind (T := .type "int") h1 (by omega) (fun f hm => ?_) (by rfl) ?_
  · obtain ⟨x, t, rfl⟩ := h3 f hm
    exact PySem.W.Looks.now
  · have e : (Value.type "int" != Value.type "tuple") = true := by first | decide +kernel | rfl | decide
    rw [e]
    exact hq
theorem sorted_keyO {l : Addr} {vs : List Value} {k : Value → Int} {Q : Value → Shared → Prop} (hl : s.heap.IsList l vs.toArray) (hz : vs.length ≤ sizeLine) (hp : ∀ v ∈ vs, IsKey s.heap v (k v)) (inj : ∀ v ∈ vs, ∀ u ∈ vs, k v = k u → v = u)
    (h : ∀ (h' : Heap) (d : Addr) (out : List Value), Srtd (fun v u => decide (k v < k u)) out → Stb (fun v u => decide (k v < k u)) out vs → (∀ b o, s.heap.get? b = some o → h'.get? b = some o) → s.heap.objs.size ≤ d → (∃ n, h'.get? d = some (seqObj "list" out.toArray n)) → Q (.ref d) { s with heap := h' }) :
    wpAny (model prog w) A (call (.builtin "sorted") [.ref l]) Q E s := by
  refine sorted_ord (swo_key k) hl hz (fun h2 h₁ a ha kk => ?_) fun out hs hb => ?_
  · refine key_sortableO (s := { s with heap := h₁ }) (by omega) (fun v hm => (hp v hm).keeps fun b o e _ => (kk b o e).2) inj fun o e => ?_
    have e' : some o = some (seqObj "list" vs.toArray 0) := e.symm.trans ha
    cases e'
    intro c
    exact absurd (Value.type.inj c) (by decide)
  · exact h _ _ out hs hb (fun b o e => sortedAll_old e) (Nat.le_succ _) (sortedAll_at s.heap vs out.toArray)
end
end SrtO
namespace G
open PySem PySem.Spec PyProof.Rows L2
theorem units65 {k : Nat} {A : Around} (r : Room k A) : A.units + 65 < cLine := by
  have := r.un
  omega
/-- sorted(xs): xs are tuples that their first items, ints, tell apart -/
def rSortedD (K : PySem.W.Frag) : List V → Hp → VK → Prop := fun vs H Q => ∃ (a : Addr) (xs : List V) (k : V → Int), vs = [V.ref a] ∧ SqL K H a xs ∧ (∀ x ∈ xs, ∃ t tl, x = V.ref t ∧ H t = some (.tup (.int (k x) :: tl))) ∧ (∀ x ∈ xs, ∀ y ∈ xs, k x = k y → x = y) ∧
  ∀ ys p, ys.Pairwise (fun x y => k x ≤ k y) → ys.Perm xs → H p = none → Q (.ref p) (upd H p (.lst ys))
theorem cr_sortedD {X : Cx} : CallR X (.builtin "sorted") (rSortedD X.K) := by
  intro pins s σ H vs us Q I r h
  obtain ⟨a, xs, k, rfl, hs, hx, hj, q⟩ := h
  obtain ⟨its, rv, hl, hz⟩ := I.list hs
  obtain ⟨u, rfl, ru⟩ := vals1 r
  obtain rfl : u = Value.ref a := ru
  obtain ⟨e1, e2⟩ := refs_back rv fun x m => by
    obtain ⟨t, _, e, _⟩ := hx x m
    exact ⟨t, e⟩
  refine SrtO.sorted_keyO (k := fun u => k (backV u)) hl.isList (by rw [← rv.length]; exact hz) (fun v hv => ?_) (fun v hv u hu e => ?_) fun h' d out h1 h2 kp hd hn => ?_
  · obtain ⟨t, rfl⟩ := e2 v hv
    have hm : V.ref t ∈ xs := by rw [e1]; exact List.mem_map.mpr ⟨_, hv, rfl⟩
    obtain ⟨t', tl, e, ht⟩ := hx _ hm
    cases e
    obtain ⟨_, its2, r2, o, ho, hc, n, hd⟩ := I.hok _ _ ht
    cases r2 with
    | cons ri rt =>
      obtain ⟨t1, rfl⟩ := ri
      exact ⟨t, o, t1, _, _, n, rfl, ho, hc, hd, rfl⟩
  · have m1 : backV v ∈ xs := by rw [e1]; exact List.mem_map.mpr ⟨_, hv, rfl⟩
    have m2 : backV u ∈ xs := by rw [e1]; exact List.mem_map.mpr ⟨_, hu, rfl⟩
    obtain ⟨a1, rfl⟩ := e2 v hv
    obtain ⟨a2, rfl⟩ := e2 u hu
    have := hj _ m1 _ m2 e
    cases this
    rfl
  · have h3 : ∀ u ∈ out, ∃ a, u = Value.ref a := fun u hu => e2 u (h2.perm.mem_iff.mp hu)
    obtain ⟨n, hn⟩ := hn
    refine ⟨.ref d, upd H d (.lst (out.map backV)), I.laid (t' := s.toks) kp hd ⟨?_, out, n, vals_back h3, hn⟩, rfl, q _ d ?_ ?_ (I.hok.fresh hd)⟩
    · rw [List.length_map, h2.perm.length_eq, ← rv.length]; exact hz
    · refine List.pairwise_map.mpr (h1.imp fun {x y} h => ?_)
      have := of_decide_eq_false h
      omega
    · rw [e1]; exact h2.perm.map backV
end G

namespace K81
open PySem PySem.Spec PyProof.Rows L2 G

def top (i : Nat) : Stmt := PySem.Challenge.pw_throughway_k81_fair_queues_lose_nothing.main.body.getD i (.Pass ⟨0, 0, 0, 0⟩)

abbrev s_Waiting_init : Stmt := inClass (top 4) 0
abbrev N_Waiting_init : List Str := ["self", "key", "item", "weight"]
abbrev P_Waiting_init : List Str := ["self", "key", "item", "weight"]

theorem sc_Waiting_init : FnScope N_Waiting_init P_Waiting_init (defScope s_Waiting_init) := ⟨rfl, rfl, rfl, by decide +kernel, rfl, by decide +kernel, by decide +kernel⟩

abbrev D_Waiting_init : He.DefD := ⟨("Waiting", some "__init__"), "__init__", "Waiting.__init__", defArgs s_Waiting_init, defBody s_Waiting_init, defScope s_Waiting_init, [], []⟩

abbrev s_Flow_init : Stmt := inClass (top 5) 0
abbrev N_Flow_init : List Str := ["self", "key"]
abbrev P_Flow_init : List Str := ["self", "key"]

theorem sc_Flow_init : FnScope N_Flow_init P_Flow_init (defScope s_Flow_init) := ⟨rfl, rfl, rfl, by decide +kernel, rfl, by decide +kernel, by decide +kernel⟩

abbrev D_Flow_init : He.DefD := ⟨("Flow", some "__init__"), "__init__", "Flow.__init__", defArgs s_Flow_init, defBody s_Flow_init, defScope s_Flow_init, [], []⟩

abbrev s_Flow_add : Stmt := inClass (top 5) 1
abbrev N_Flow_add : List Str := ["self", "waiting"]
abbrev P_Flow_add : List Str := ["self", "waiting"]

theorem sc_Flow_add : FnScope N_Flow_add P_Flow_add (defScope s_Flow_add) := ⟨rfl, rfl, rfl, by decide +kernel, rfl, by decide +kernel, by decide +kernel⟩

abbrev D_Flow_add : He.DefD := ⟨("Flow", some "add"), "add", "Flow.add", defArgs s_Flow_add, defBody s_Flow_add, defScope s_Flow_add, [], []⟩

abbrev s_Flow_take : Stmt := inClass (top 5) 2
abbrev N_Flow_take : List Str := ["self", "at", "waiting"]
abbrev P_Flow_take : List Str := ["self", "at"]

theorem sc_Flow_take : FnScope N_Flow_take P_Flow_take (defScope s_Flow_take) := ⟨rfl, rfl, rfl, by decide +kernel, rfl, by decide +kernel, by decide +kernel⟩

abbrev D_Flow_take : He.DefD := ⟨("Flow", some "take"), "take", "Flow.take", defArgs s_Flow_take, defBody s_Flow_take, defScope s_Flow_take, [], []⟩

abbrev s_Flow_fork : Stmt := inClass (top 5) 3
abbrev N_Flow_fork : List Str := ["self", "double"]
abbrev P_Flow_fork : List Str := ["self"]

theorem sc_Flow_fork : FnScope N_Flow_fork P_Flow_fork (defScope s_Flow_fork) := ⟨rfl, rfl, rfl, by decide +kernel, rfl, by decide +kernel, by decide +kernel⟩

abbrev D_Flow_fork : He.DefD := ⟨("Flow", some "fork"), "fork", "Flow.fork", defArgs s_Flow_fork, defBody s_Flow_fork, defScope s_Flow_fork, [], []⟩

abbrev s_FairQueue_init : Stmt := inClass (top 6) 0
abbrev N_FairQueue_init : List Str := ["self", "limit", "quantum"]
abbrev P_FairQueue_init : List Str := ["self", "limit", "quantum"]

theorem sc_FairQueue_init : FnScope N_FairQueue_init P_FairQueue_init (defScope s_FairQueue_init) := ⟨rfl, rfl, rfl, by decide +kernel, rfl, by decide +kernel, by decide +kernel⟩

abbrev D_FairQueue_init : He.DefD := ⟨("FairQueue", some "__init__"), "__init__", "FairQueue.__init__", defArgs s_FairQueue_init, defBody s_FairQueue_init, defScope s_FairQueue_init, [], []⟩

abbrev s_FairQueue_count : Stmt := inClass (top 6) 1
abbrev N_FairQueue_count : List Str := ["self", "flow"]
abbrev P_FairQueue_count : List Str := ["self"]

theorem sc_FairQueue_count : FnScope N_FairQueue_count P_FairQueue_count (defScope s_FairQueue_count) := ⟨rfl, rfl, rfl, by decide +kernel, rfl, by decide +kernel, by decide +kernel⟩

abbrev D_FairQueue_count : He.DefD := ⟨("FairQueue", some "count"), "count", "FairQueue.count", defArgs s_FairQueue_count, defBody s_FairQueue_count, defScope s_FairQueue_count, [], []⟩

abbrev s_FairQueue_octets : Stmt := inClass (top 6) 2
abbrev N_FairQueue_octets : List Str := ["self", "flow"]
abbrev P_FairQueue_octets : List Str := ["self"]

theorem sc_FairQueue_octets : FnScope N_FairQueue_octets P_FairQueue_octets (defScope s_FairQueue_octets) := ⟨rfl, rfl, rfl, by decide +kernel, rfl, by decide +kernel, by decide +kernel⟩

abbrev D_FairQueue_octets : He.DefD := ⟨("FairQueue", some "octets"), "octets", "FairQueue.octets", defArgs s_FairQueue_octets, defBody s_FairQueue_octets, defScope s_FairQueue_octets, [], []⟩

abbrev s_FairQueue_octets_of : Stmt := inClass (top 6) 3
abbrev N_FairQueue_octets_of : List Str := ["self", "key", "flow"]
abbrev P_FairQueue_octets_of : List Str := ["self", "key"]

theorem sc_FairQueue_octets_of : FnScope N_FairQueue_octets_of P_FairQueue_octets_of (defScope s_FairQueue_octets_of) := ⟨rfl, rfl, rfl, by decide +kernel, rfl, by decide +kernel, by decide +kernel⟩

abbrev D_FairQueue_octets_of : He.DefD := ⟨("FairQueue", some "octets_of"), "octets_of", "FairQueue.octets_of", defArgs s_FairQueue_octets_of, defBody s_FairQueue_octets_of, defScope s_FairQueue_octets_of, [], []⟩

abbrev s_FairQueue_flow_of : Stmt := inClass (top 6) 4
abbrev N_FairQueue_flow_of : List Str := ["self", "key", "flow"]
abbrev P_FairQueue_flow_of : List Str := ["self", "key"]

theorem sc_FairQueue_flow_of : FnScope N_FairQueue_flow_of P_FairQueue_flow_of (defScope s_FairQueue_flow_of) := ⟨rfl, rfl, rfl, by decide +kernel, rfl, by decide +kernel, by decide +kernel⟩

abbrev D_FairQueue_flow_of : He.DefD := ⟨("FairQueue", some "flow_of"), "flow_of", "FairQueue.flow_of", defArgs s_FairQueue_flow_of, defBody s_FairQueue_flow_of, defScope s_FairQueue_flow_of, [], []⟩

abbrev s_FairQueue_remove_flow : Stmt := inClass (top 6) 5
abbrev N_FairQueue_remove_flow : List Str := ["self", "at"]
abbrev P_FairQueue_remove_flow : List Str := ["self", "at"]

theorem sc_FairQueue_remove_flow : FnScope N_FairQueue_remove_flow P_FairQueue_remove_flow (defScope s_FairQueue_remove_flow) := ⟨rfl, rfl, rfl, by decide +kernel, rfl, by decide +kernel, by decide +kernel⟩

abbrev D_FairQueue_remove_flow : He.DefD := ⟨("FairQueue", some "remove_flow"), "remove_flow", "FairQueue.remove_flow", defArgs s_FairQueue_remove_flow, defBody s_FairQueue_remove_flow, defScope s_FairQueue_remove_flow, [], []⟩

abbrev s_FairQueue_put : Stmt := inClass (top 6) 6
abbrev N_FairQueue_put : List Str := ["self", "key", "item", "weight", "waiting", "flow", "dropped"]
abbrev P_FairQueue_put : List Str := ["self", "key", "item", "weight"]

theorem sc_FairQueue_put : FnScope N_FairQueue_put P_FairQueue_put (defScope s_FairQueue_put) := ⟨rfl, rfl, rfl, by decide +kernel, rfl, by decide +kernel, by decide +kernel⟩

abbrev D_FairQueue_put : He.DefD := ⟨("FairQueue", some "put"), "put", "FairQueue.put", defArgs s_FairQueue_put, defBody s_FairQueue_put, defScope s_FairQueue_put, [], []⟩

abbrev s_FairQueue_drop : Stmt := inClass (top 6) 7
abbrev N_FairQueue_drop : List Str := ["self", "most", "at", "flow", "waiting"]
abbrev P_FairQueue_drop : List Str := ["self"]

theorem sc_FairQueue_drop : FnScope N_FairQueue_drop P_FairQueue_drop (defScope s_FairQueue_drop) := ⟨rfl, rfl, rfl, by decide +kernel, rfl, by decide +kernel, by decide +kernel⟩

abbrev D_FairQueue_drop : He.DefD := ⟨("FairQueue", some "drop"), "drop", "FairQueue.drop", defArgs s_FairQueue_drop, defBody s_FairQueue_drop, defScope s_FairQueue_drop, [], []⟩

abbrev s_FairQueue_turn : Stmt := inClass (top 6) 8
abbrev N_FairQueue_turn : List Str := ["self", "flow"]
abbrev P_FairQueue_turn : List Str := ["self"]

theorem sc_FairQueue_turn : FnScope N_FairQueue_turn P_FairQueue_turn (defScope s_FairQueue_turn) := ⟨rfl, rfl, rfl, by decide +kernel, rfl, by decide +kernel, by decide +kernel⟩

abbrev D_FairQueue_turn : He.DefD := ⟨("FairQueue", some "turn"), "turn", "FairQueue.turn", defArgs s_FairQueue_turn, defBody s_FairQueue_turn, defScope s_FairQueue_turn, [], []⟩

abbrev s_FairQueue_next_up : Stmt := inClass (top 6) 9
abbrev N_FairQueue_next_up : List Str := ["self"]
abbrev P_FairQueue_next_up : List Str := ["self"]

theorem sc_FairQueue_next_up : FnScope N_FairQueue_next_up P_FairQueue_next_up (defScope s_FairQueue_next_up) := ⟨rfl, rfl, rfl, by decide +kernel, rfl, by decide +kernel, by decide +kernel⟩

abbrev D_FairQueue_next_up : He.DefD := ⟨("FairQueue", some "next_up"), "next_up", "FairQueue.next_up", defArgs s_FairQueue_next_up, defBody s_FairQueue_next_up, defScope s_FairQueue_next_up, [], []⟩

abbrev s_FairQueue_take : Stmt := inClass (top 6) 10
abbrev N_FairQueue_take : List Str := ["self", "waiting", "flow"]
abbrev P_FairQueue_take : List Str := ["self"]

theorem sc_FairQueue_take : FnScope N_FairQueue_take P_FairQueue_take (defScope s_FairQueue_take) := ⟨rfl, rfl, rfl, by decide +kernel, rfl, by decide +kernel, by decide +kernel⟩

abbrev D_FairQueue_take : He.DefD := ⟨("FairQueue", some "take"), "take", "FairQueue.take", defArgs s_FairQueue_take, defBody s_FairQueue_take, defScope s_FairQueue_take, [], []⟩

abbrev s_FairQueue_take_all : Stmt := inClass (top 6) 11
abbrev N_FairQueue_take_all : List Str := ["self", "rows", "flow"]
abbrev P_FairQueue_take_all : List Str := ["self"]

theorem sc_FairQueue_take_all : FnScope N_FairQueue_take_all P_FairQueue_take_all (defScope s_FairQueue_take_all) := ⟨rfl, rfl, rfl, by decide +kernel, rfl, by decide +kernel, by decide +kernel⟩

abbrev D_FairQueue_take_all : He.DefD := ⟨("FairQueue", some "take_all"), "take_all", "FairQueue.take_all", defArgs s_FairQueue_take_all, defBody s_FairQueue_take_all, defScope s_FairQueue_take_all, [], []⟩

abbrev s_FairQueue_fork : Stmt := inClass (top 6) 12
abbrev N_FairQueue_fork : List Str := ["self", "double", "flow"]
abbrev P_FairQueue_fork : List Str := ["self"]

theorem sc_FairQueue_fork : FnScope N_FairQueue_fork P_FairQueue_fork (defScope s_FairQueue_fork) := ⟨rfl, rfl, rfl, by decide +kernel, rfl, by decide +kernel, by decide +kernel⟩

abbrev D_FairQueue_fork : He.DefD := ⟨("FairQueue", some "fork"), "fork", "FairQueue.fork", defArgs s_FairQueue_fork, defBody s_FairQueue_fork, defScope s_FairQueue_fork, [], []⟩

abbrev s_law_cell : Stmt := top 8
abbrev N_law_cell : List Str := ["script", "k"]
abbrev P_law_cell : List Str := ["script", "k"]

theorem sc_law_cell : FnScope N_law_cell P_law_cell (defScope s_law_cell) := ⟨rfl, rfl, rfl, by decide +kernel, rfl, by decide +kernel, by decide +kernel⟩

abbrev D_law_cell : He.DefD := ⟨("_law_cell", none), "_law_cell", "_law_cell", defArgs s_law_cell, defBody s_law_cell, defScope s_law_cell, [], []⟩

abbrev s_law_start : Stmt := top 9
abbrev N_law_start : List Str := ["cell", "k", "prime", "mixed", "number", "turn"]
abbrev P_law_start : List Str := ["cell", "k"]

theorem sc_law_start : FnScope N_law_start P_law_start (defScope s_law_start) := ⟨rfl, rfl, rfl, by decide +kernel, rfl, by decide +kernel, by decide +kernel⟩

abbrev D_law_start : He.DefD := ⟨("_law_start", none), "_law_start", "_law_start", defArgs s_law_start, defBody s_law_start, defScope s_law_start, [], []⟩

abbrev s_law_digit : Stmt := top 10
abbrev N_law_digit : List Str := ["state", "many", "digit"]
abbrev P_law_digit : List Str := ["state", "many"]

theorem sc_law_digit : FnScope N_law_digit P_law_digit (defScope s_law_digit) := ⟨rfl, rfl, rfl, by decide +kernel, rfl, by decide +kernel, by decide +kernel⟩

abbrev D_law_digit : He.DefD := ⟨("_law_digit", none), "_law_digit", "_law_digit", defArgs s_law_digit, defBody s_law_digit, defScope s_law_digit, [], []⟩

abbrev s_law_size : Stmt := top 11
abbrev N_law_size : List Str := ["state"]
abbrev P_law_size : List Str := ["state"]

theorem sc_law_size : FnScope N_law_size P_law_size (defScope s_law_size) := ⟨rfl, rfl, rfl, by decide +kernel, rfl, by decide +kernel, by decide +kernel⟩

abbrev D_law_size : He.DefD := ⟨("_law_size", none), "_law_size", "_law_size", defArgs s_law_size, defBody s_law_size, defScope s_law_size, [], []⟩

abbrev s_law_row : Stmt := top 12
abbrev N_law_row : List Str := ["waiting"]
abbrev P_law_row : List Str := ["waiting"]

theorem sc_law_row : FnScope N_law_row P_law_row (defScope s_law_row) := ⟨rfl, rfl, rfl, by decide +kernel, rfl, by decide +kernel, by decide +kernel⟩

abbrev D_law_row : He.DefD := ⟨("_law_row", none), "_law_row", "_law_row", defArgs s_law_row, defBody s_law_row, defScope s_law_row, [], []⟩

abbrev s_law_counts : Stmt := top 13
abbrev N_law_counts : List Str := ["queue", "rows", "row", "key"]
abbrev P_law_counts : List Str := ["queue", "rows"]

theorem sc_law_counts : FnScope N_law_counts P_law_counts (defScope s_law_counts) := ⟨rfl, rfl, rfl, by decide +kernel, rfl, by decide +kernel, by decide +kernel⟩

abbrev D_law_counts : He.DefD := ⟨("_law_counts", none), "_law_counts", "_law_counts", defArgs s_law_counts, defBody s_law_counts, defScope s_law_counts, [], []⟩

abbrev s_law_put : Stmt := top 14
abbrev N_law_put : List Str := ["queue", "rows", "number", "state", "row", "dropped", "waiting", "octets", "other", "gone"]
abbrev P_law_put : List Str := ["queue", "rows", "number", "state"]

theorem sc_law_put : FnScope N_law_put P_law_put (defScope s_law_put) := ⟨rfl, rfl, rfl, by decide +kernel, rfl, by decide +kernel, by decide +kernel⟩

abbrev D_law_put : He.DefD := ⟨("_law_put", none), "_law_put", "_law_put", defArgs s_law_put, defBody s_law_put, defScope s_law_put, [], []⟩

abbrev s_law_take : Stmt := top 15
abbrev N_law_take : List Str := ["queue", "rows", "state", "first", "again", "taken", "told", "row"]
abbrev P_law_take : List Str := ["queue", "rows", "state"]

theorem sc_law_take : FnScope N_law_take P_law_take (defScope s_law_take) := ⟨rfl, rfl, rfl, by decide +kernel, rfl, by decide +kernel, by decide +kernel⟩

abbrev D_law_take : He.DefD := ⟨("_law_take", none), "_law_take", "_law_take", defArgs s_law_take, defBody s_law_take, defScope s_law_take, [], []⟩

abbrev s_law_cleared : Stmt := top 16
abbrev N_law_cleared : List Str := ["queue", "rows", "told", "waiting", "key", "own", "row"]
abbrev P_law_cleared : List Str := ["queue", "rows"]

theorem sc_law_cleared : FnScope N_law_cleared P_law_cleared (defScope s_law_cleared) := ⟨rfl, rfl, rfl, by decide +kernel, rfl, by decide +kernel, by decide +kernel⟩

abbrev D_law_cleared : He.DefD := ⟨("_law_cleared", none), "_law_cleared", "_law_cleared", defArgs s_law_cleared, defBody s_law_cleared, defScope s_law_cleared, [], []⟩

abbrev s_law_deed : Stmt := top 17
abbrev N_law_deed : List Str := ["queue", "rows", "number", "state", "kind"]
abbrev P_law_deed : List Str := ["queue", "rows", "number", "state"]

theorem sc_law_deed : FnScope N_law_deed P_law_deed (defScope s_law_deed) := ⟨rfl, rfl, rfl, by decide +kernel, rfl, by decide +kernel, by decide +kernel⟩

abbrev D_law_deed : He.DefD := ⟨("_law_deed", none), "_law_deed", "_law_deed", defArgs s_law_deed, defBody s_law_deed, defScope s_law_deed, [], []⟩

abbrev s_law_refused : Stmt := top 18
abbrev N_law_refused : List Str := ["limit", "quantum"]
abbrev P_law_refused : List Str := ["limit", "quantum"]

theorem sc_law_refused : FnScope N_law_refused P_law_refused (defScope s_law_refused) := ⟨rfl, rfl, rfl, by decide +kernel, rfl, by decide +kernel, by decide +kernel⟩

abbrev D_law_refused : He.DefD := ⟨("_law_refused", none), "_law_refused", "_law_refused", defArgs s_law_refused, defBody s_law_refused, defScope s_law_refused, [], []⟩

abbrev s_law : Stmt := top 19
abbrev N_law : List Str := ["script", "state", "limit", "quantum", "queue", "rows", "beside", "kept", "k"]
abbrev P_law : List Str := ["script"]

theorem sc_law : FnScope N_law P_law (defScope s_law) := ⟨rfl, rfl, rfl, by decide +kernel, rfl, by decide +kernel, by decide +kernel⟩

abbrev D_law : He.DefD := ⟨("law", none), "law", "law", defArgs s_law, defBody s_law, defScope s_law, [], []⟩

abbrev fn : List He.DefD := [D_Waiting_init, D_Flow_init, D_Flow_add, D_Flow_take, D_Flow_fork, D_FairQueue_init, D_FairQueue_count, D_FairQueue_octets, D_FairQueue_octets_of, D_FairQueue_flow_of, D_FairQueue_remove_flow, D_FairQueue_put, D_FairQueue_drop, D_FairQueue_turn, D_FairQueue_next_up, D_FairQueue_take, D_FairQueue_take_all, D_FairQueue_fork, D_law_cell, D_law_start, D_law_digit, D_law_size, D_law_row, D_law_counts, D_law_put, D_law_take, D_law_cleared, D_law_deed, D_law_refused, D_law]

abbrev fa : List He.Fa := [.exm "InvalidAmount" "InvalidAmount" true, .free "list", .exc "InvalidAmount", .glo "InvalidAmount", .free "len", .free "sum", .free "range", .free "int", .free "sorted", .free "min", .glo "Waiting", .mkr "Waiting", .cls "Waiting", .glo "Flow", .mkr "Flow", .cls "Flow", .meth "Flow" "add", .meth "Flow" "take", .meth "Flow" "fork", .glo "FairQueue", .mkr "FairQueue", .cls "FairQueue", .meth "FairQueue" "count", .meth "FairQueue" "octets", .meth "FairQueue" "octets_of", .meth "FairQueue" "flow_of", .meth "FairQueue" "remove_flow", .meth "FairQueue" "put", .meth "FairQueue" "drop", .meth "FairQueue" "turn", .meth "FairQueue" "next_up", .meth "FairQueue" "take", .meth "FairQueue" "take_all", .meth "FairQueue" "fork", .glo "_law_cell", .glo "_law_start", .glo "_law_digit", .glo "_law_size", .glo "_law_row", .glo "_law_counts", .glo "_law_put", .glo "_law_take", .glo "_law_cleared", .glo "_law_deed", .glo "_law_refused", .glo "law", .noat "Waiting" "key", .noat "Waiting" "item", .noat "Waiting" "weight", .noat "Flow" "key", .noat "Flow" "rows", .noat "Flow" "octets", .noat "Flow" "credit", .noat "FairQueue" "limit", .noat "FairQueue" "quantum", .noat "FairQueue" "flows", .noat "FairQueue" "granted"]

abbrev pr : List Pr := []
abbrev ex : List Ex := []
abbrev TX (K : PySem.W.Frag) (mg : Str → Option Value) (base : Heap) : Prop := TxB fa fn pr ex K mg base

section
variable {K : PySem.W.Frag} {mg : Str → Option Value} {base : Heap}

theorem cl_Waiting (T : TX K mg base) : Cls K (He.ga K "Waiting") := T.cls 12

theorem na_Waiting_key (T : TX K mg base) : NoAttr K (He.ga K "Waiting") "key" := T.noat 46

theorem na_Waiting_item (T : TX K mg base) : NoAttr K (He.ga K "Waiting") "item" := T.noat 47

theorem na_Waiting_weight (T : TX K mg base) : NoAttr K (He.ga K "Waiting") "weight" := T.noat 48

theorem cl_Flow (T : TX K mg base) : Cls K (He.ga K "Flow") := T.cls 15

theorem na_Flow_key (T : TX K mg base) : NoAttr K (He.ga K "Flow") "key" := T.noat 49

theorem na_Flow_rows (T : TX K mg base) : NoAttr K (He.ga K "Flow") "rows" := T.noat 50

theorem na_Flow_octets (T : TX K mg base) : NoAttr K (He.ga K "Flow") "octets" := T.noat 51

theorem na_Flow_credit (T : TX K mg base) : NoAttr K (He.ga K "Flow") "credit" := T.noat 52

theorem cl_FairQueue (T : TX K mg base) : Cls K (He.ga K "FairQueue") := T.cls 21

theorem na_FairQueue_limit (T : TX K mg base) : NoAttr K (He.ga K "FairQueue") "limit" := T.noat 53

theorem na_FairQueue_quantum (T : TX K mg base) : NoAttr K (He.ga K "FairQueue") "quantum" := T.noat 54

theorem na_FairQueue_flows (T : TX K mg base) : NoAttr K (He.ga K "FairQueue") "flows" := T.noat 55

theorem na_FairQueue_granted (T : TX K mg base) : NoAttr K (He.ga K "FairQueue") "granted" := T.noat 56

/-- the attributes of a Waiting, in the order of its __init__ -/
abbrev fWaiting (x0 x1 x2 : V) : List (Str × V) := [("key", x0), ("item", x1), ("weight", x2)]

theorem lk_Waiting_key {x0 x1 x2 : V} : (fWaiting x0 x1 x2).lookup ("key" : Str) = some x0 := by kernel_rfl

theorem pt_Waiting_key {x0 x1 x2 y : V} : putF "key" y (fWaiting x0 x1 x2) = fWaiting y x1 x2 := by kernel_rfl

theorem pn_Waiting_key { y : V} : putF "key" y ([] : List (Str × V)) = ([("key", y)] : List (Str × V)) := by kernel_rfl

theorem lk_Waiting_item {x0 x1 x2 : V} : (fWaiting x0 x1 x2).lookup ("item" : Str) = some x1 := by kernel_rfl

theorem pt_Waiting_item {x0 x1 x2 y : V} : putF "item" y (fWaiting x0 x1 x2) = fWaiting x0 y x2 := by kernel_rfl

theorem pn_Waiting_item {x0 y : V} : putF "item" y ([("key", x0)] : List (Str × V)) = ([("key", x0), ("item", y)] : List (Str × V)) := by kernel_rfl

theorem lk_Waiting_weight {x0 x1 x2 : V} : (fWaiting x0 x1 x2).lookup ("weight" : Str) = some x2 := by kernel_rfl

theorem pt_Waiting_weight {x0 x1 x2 y : V} : putF "weight" y (fWaiting x0 x1 x2) = fWaiting x0 x1 y := by kernel_rfl

theorem pn_Waiting_weight {x0 x1 y : V} : putF "weight" y ([("key", x0), ("item", x1)] : List (Str × V)) = ([("key", x0), ("item", x1), ("weight", y)] : List (Str × V)) := by kernel_rfl

/-- the attributes of a Flow, in the order of its __init__ -/
abbrev fFlow (x0 x1 x2 x3 : V) : List (Str × V) := [("key", x0), ("rows", x1), ("octets", x2), ("credit", x3)]

theorem lk_Flow_key {x0 x1 x2 x3 : V} : (fFlow x0 x1 x2 x3).lookup ("key" : Str) = some x0 := by kernel_rfl

theorem pt_Flow_key {x0 x1 x2 x3 y : V} : putF "key" y (fFlow x0 x1 x2 x3) = fFlow y x1 x2 x3 := by kernel_rfl

theorem pn_Flow_key { y : V} : putF "key" y ([] : List (Str × V)) = ([("key", y)] : List (Str × V)) := by kernel_rfl

theorem lk_Flow_rows {x0 x1 x2 x3 : V} : (fFlow x0 x1 x2 x3).lookup ("rows" : Str) = some x1 := by kernel_rfl

theorem pt_Flow_rows {x0 x1 x2 x3 y : V} : putF "rows" y (fFlow x0 x1 x2 x3) = fFlow x0 y x2 x3 := by kernel_rfl

theorem pn_Flow_rows {x0 y : V} : putF "rows" y ([("key", x0)] : List (Str × V)) = ([("key", x0), ("rows", y)] : List (Str × V)) := by kernel_rfl

theorem lk_Flow_octets {x0 x1 x2 x3 : V} : (fFlow x0 x1 x2 x3).lookup ("octets" : Str) = some x2 := by kernel_rfl

theorem pt_Flow_octets {x0 x1 x2 x3 y : V} : putF "octets" y (fFlow x0 x1 x2 x3) = fFlow x0 x1 y x3 := by kernel_rfl

theorem pn_Flow_octets {x0 x1 y : V} : putF "octets" y ([("key", x0), ("rows", x1)] : List (Str × V)) = ([("key", x0), ("rows", x1), ("octets", y)] : List (Str × V)) := by kernel_rfl

theorem lk_Flow_credit {x0 x1 x2 x3 : V} : (fFlow x0 x1 x2 x3).lookup ("credit" : Str) = some x3 := by kernel_rfl

theorem pt_Flow_credit {x0 x1 x2 x3 y : V} : putF "credit" y (fFlow x0 x1 x2 x3) = fFlow x0 x1 x2 y := by kernel_rfl

theorem pn_Flow_credit {x0 x1 x2 y : V} : putF "credit" y ([("key", x0), ("rows", x1), ("octets", x2)] : List (Str × V)) = ([("key", x0), ("rows", x1), ("octets", x2), ("credit", y)] : List (Str × V)) := by kernel_rfl

theorem ln_Flow_add {x0 x1 x2 x3 : V} : (fFlow x0 x1 x2 x3).lookup ("add" : Str) = none := by kernel_rfl

theorem ln_Flow_take {x0 x1 x2 x3 : V} : (fFlow x0 x1 x2 x3).lookup ("take" : Str) = none := by kernel_rfl

theorem ln_Flow_fork {x0 x1 x2 x3 : V} : (fFlow x0 x1 x2 x3).lookup ("fork" : Str) = none := by kernel_rfl

/-- the attributes of a FairQueue, in the order of its __init__ -/
abbrev fFairQueue (x0 x1 x2 x3 : V) : List (Str × V) := [("limit", x0), ("quantum", x1), ("flows", x2), ("granted", x3)]

theorem lk_FairQueue_limit {x0 x1 x2 x3 : V} : (fFairQueue x0 x1 x2 x3).lookup ("limit" : Str) = some x0 := by kernel_rfl

theorem pt_FairQueue_limit {x0 x1 x2 x3 y : V} : putF "limit" y (fFairQueue x0 x1 x2 x3) = fFairQueue y x1 x2 x3 := by kernel_rfl

theorem pn_FairQueue_limit { y : V} : putF "limit" y ([] : List (Str × V)) = ([("limit", y)] : List (Str × V)) := by kernel_rfl

theorem lk_FairQueue_quantum {x0 x1 x2 x3 : V} : (fFairQueue x0 x1 x2 x3).lookup ("quantum" : Str) = some x1 := by kernel_rfl

theorem pt_FairQueue_quantum {x0 x1 x2 x3 y : V} : putF "quantum" y (fFairQueue x0 x1 x2 x3) = fFairQueue x0 y x2 x3 := by kernel_rfl

theorem pn_FairQueue_quantum {x0 y : V} : putF "quantum" y ([("limit", x0)] : List (Str × V)) = ([("limit", x0), ("quantum", y)] : List (Str × V)) := by kernel_rfl

theorem lk_FairQueue_flows {x0 x1 x2 x3 : V} : (fFairQueue x0 x1 x2 x3).lookup ("flows" : Str) = some x2 := by kernel_rfl

theorem pt_FairQueue_flows {x0 x1 x2 x3 y : V} : putF "flows" y (fFairQueue x0 x1 x2 x3) = fFairQueue x0 x1 y x3 := by kernel_rfl

theorem pn_FairQueue_flows {x0 x1 y : V} : putF "flows" y ([("limit", x0), ("quantum", x1)] : List (Str × V)) = ([("limit", x0), ("quantum", x1), ("flows", y)] : List (Str × V)) := by kernel_rfl

theorem lk_FairQueue_granted {x0 x1 x2 x3 : V} : (fFairQueue x0 x1 x2 x3).lookup ("granted" : Str) = some x3 := by kernel_rfl

theorem pt_FairQueue_granted {x0 x1 x2 x3 y : V} : putF "granted" y (fFairQueue x0 x1 x2 x3) = fFairQueue x0 x1 x2 y := by kernel_rfl

theorem pn_FairQueue_granted {x0 x1 x2 y : V} : putF "granted" y ([("limit", x0), ("quantum", x1), ("flows", x2)] : List (Str × V)) = ([("limit", x0), ("quantum", x1), ("flows", x2), ("granted", y)] : List (Str × V)) := by kernel_rfl

theorem ln_FairQueue_count {x0 x1 x2 x3 : V} : (fFairQueue x0 x1 x2 x3).lookup ("count" : Str) = none := by kernel_rfl

theorem ln_FairQueue_octets {x0 x1 x2 x3 : V} : (fFairQueue x0 x1 x2 x3).lookup ("octets" : Str) = none := by kernel_rfl

theorem ln_FairQueue_octets_of {x0 x1 x2 x3 : V} : (fFairQueue x0 x1 x2 x3).lookup ("octets_of" : Str) = none := by kernel_rfl

theorem ln_FairQueue_flow_of {x0 x1 x2 x3 : V} : (fFairQueue x0 x1 x2 x3).lookup ("flow_of" : Str) = none := by kernel_rfl

theorem ln_FairQueue_remove_flow {x0 x1 x2 x3 : V} : (fFairQueue x0 x1 x2 x3).lookup ("remove_flow" : Str) = none := by kernel_rfl

theorem ln_FairQueue_put {x0 x1 x2 x3 : V} : (fFairQueue x0 x1 x2 x3).lookup ("put" : Str) = none := by kernel_rfl

theorem ln_FairQueue_drop {x0 x1 x2 x3 : V} : (fFairQueue x0 x1 x2 x3).lookup ("drop" : Str) = none := by kernel_rfl

theorem ln_FairQueue_turn {x0 x1 x2 x3 : V} : (fFairQueue x0 x1 x2 x3).lookup ("turn" : Str) = none := by kernel_rfl

theorem ln_FairQueue_next_up {x0 x1 x2 x3 : V} : (fFairQueue x0 x1 x2 x3).lookup ("next_up" : Str) = none := by kernel_rfl

theorem ln_FairQueue_take {x0 x1 x2 x3 : V} : (fFairQueue x0 x1 x2 x3).lookup ("take" : Str) = none := by kernel_rfl

theorem ln_FairQueue_take_all {x0 x1 x2 x3 : V} : (fFairQueue x0 x1 x2 x3).lookup ("take_all" : Str) = none := by kernel_rfl

theorem ln_FairQueue_fork {x0 x1 x2 x3 : V} : (fFairQueue x0 x1 x2 x3).lookup ("fork" : Str) = none := by kernel_rfl

end
end K81

namespace K81
open PySem PySem.Spec PyProof.Rows L2 G
/-! ### fair queues: the mathematics -/
abbrev Ky := List Key
def kDat : Key → PyData
  | .inl i => .int i
  | .inr s => .str s
def kD (k : Ky) : PyData := .tuple (k.map kDat)
def kOk (k : Ky) : Prop := SeqAt.shaped (kD k) = true
structure Wt where
  k : Ky
  i : V
  w : Int
structure Fl where
  k : Ky
  rows : List (V × Int)
  cr : Int
structure Qu where
  lim : Int
  q : Int
  fs : List Fl
  gr : Bool
abbrev Fl.wr (f : Fl) (rs : List (V × Int)) : Fl := ⟨f.k, rs, f.cr⟩
abbrev Fl.wc (f : Fl) (c : Int) : Fl := ⟨f.k, f.rows, c⟩
def Fl.oct (f : Fl) : Int := (f.rows.map (·.2)).sum
abbrev Fl.wt (f : Fl) (r : V × Int) : Wt := ⟨f.k, r.1, r.2⟩
def fl0 : Fl := ⟨[], [], 0⟩
def octs (fs : List Fl) : Int := (fs.map Fl.oct).sum
def cnt (fs : List Fl) : Nat := (fs.map (fun f => f.rows.length)).sum
/-- the first flow with the most octets, of the first n + 1 -/
def mostTo (fs : List Fl) : Nat → Nat
  | 0 => 0
  | n + 1 => if (fs.getD (mostTo fs n) fl0).oct < (fs.getD (n + 1) fl0).oct then n + 1 else mostTo fs n
def most (fs : List Fl) : Nat := mostTo fs (fs.length - 1)
/-- the flow at a place has gone if it is empty -/
def outAt (fs : List Fl) (gr : Bool) (a : Nat) : List Fl × Bool := if (fs.getD a fl0).rows = [] then (fs.eraseIdx a, if a = 0 then false else gr) else (fs, gr)
def dropS (fs : List Fl) (gr : Bool) : List Fl × Bool := outAt (fs.set (most fs) ((fs.getD (most fs) fl0).wr (fs.getD (most fs) fl0).rows.dropLast)) gr (most fs)
def dropW (fs : List Fl) : Wt := (fs.getD (most fs) fl0).wt ((fs.getD (most fs) fl0).rows.getLastD (.non, 0))
def dropL (lim : Int) : Nat → List Fl → Bool → List Fl × Bool × List Wt
  | 0, fs, gr => (fs, gr, [])
  | n + 1, fs, gr => if octs fs ≤ lim then (fs, gr, []) else
    ((dropL lim n (dropS fs gr).1 (dropS fs gr).2).1, (dropL lim n (dropS fs gr).1 (dropS fs gr).2).2.1, dropW fs :: (dropL lim n (dropS fs gr).1 (dropS fs gr).2).2.2)
def fnd (fs : List Fl) (k : Ky) : Option Nat := fs.findIdx? (fun f => decide (f.k = k))
def addF (fs : List Fl) (k : Ky) (r : V × Int) : List Fl := match fnd fs k with
  | some j => fs.set j ((fs.getD j fl0).wr ((fs.getD j fl0).rows ++ [r]))
  | none => fs ++ [⟨k, [r], 0⟩]
def putF (x : Qu) (k : Ky) (i : V) (w : Int) : Qu × List Wt := if x.lim < w then (x, [⟨k, i, w⟩]) else
  ({ x with fs := (dropL x.lim (cnt (addF x.fs k (i, w))) (addF x.fs k (i, w)) x.gr).1, gr := (dropL x.lim (cnt (addF x.fs k (i, w))) (addF x.fs k (i, w)) x.gr).2.1 }, (dropL x.lim (cnt (addF x.fs k (i, w))) (addF x.fs k (i, w)) x.gr).2.2)
def Fl.w0 (f : Fl) : Int := (f.rows.headD (.non, 0)).2
/-- what the first items still want -/
def want (fs : List Fl) : Nat := (fs.map (fun f => (f.w0 - f.cr).toNat)).sum
def mu (fs : List Fl) (gr : Bool) : Nat := want fs + if gr then 1 else 0
def turnL (q : Int) : Nat → List Fl → Bool → List Fl × Bool
  | 0, fs, gr => (fs, gr)
  | _ + 1, [], gr => ([], gr)
  | n + 1, f :: r, gr => if f.w0 ≤ (if gr then f.cr else f.cr + q) then ({ f with cr := if gr then f.cr else f.cr + q } :: r, true) else turnL q n (r ++ [{ f with cr := if gr then f.cr else f.cr + q }]) false
def turnF (x : Qu) : Qu := { x with fs := (turnL x.q (mu x.fs x.gr + 1) x.fs x.gr).1, gr := (turnL x.q (mu x.fs x.gr + 1) x.fs x.gr).2 }
def firstF (x : Qu) : Option Wt := match x.fs with
  | [] => none
  | f :: _ => some (f.wt (f.rows.headD (.non, 0)))
/-- the first item has gone -/
def goneF (x : Qu) : Qu := match x.fs with
  | [] => x
  | f :: r => { x with fs := (outAt ({ f with rows := f.rows.tail, cr := f.cr - f.w0 } :: r) x.gr 0).1, gr := (outAt ({ f with rows := f.rows.tail, cr := f.cr - f.w0 } :: r) x.gr 0).2 }
def allW (fs : List Fl) : List Wt := (fs.map (fun f => f.rows.map f.wt)).flatten
structure WFl (f : Fl) : Prop where
  k : kOk f.k
  ne : f.rows ≠ []
  w : ∀ r ∈ f.rows, 1 ≤ r.2
structure WF (x : Qu) : Prop where
  lim : 1 ≤ x.lim
  q : 1 ≤ x.q
  fs : ∀ f ∈ x.fs, WFl f
/-! ### what stands on the heap -/
section
variable (K : PySem.W.Frag)
def KyP (a : Addr) (k : Ky) : HP := ro a (.tup (k.map kV))
def WtP (p : Addr) (x : Wt) : HP := hex fun dx => hex fun ka => stars [ro p (.ins (He.ga K "Waiting") dx (fWaiting (.ref ka) x.i (.int x.w))), KyP ka x.k]
def FlP (p : Addr) (f : Fl) : HP := hex fun dx => hex fun ka => hex fun l => hex fun ws => stars [pt p (.ins (He.ga K "Flow") dx (fFlow (.ref ka) (.ref l) (.int f.oct) (.int f.cr))), KyP ka f.k, pt l (.lst (ws.map V.ref)), big (WtP K) ws (f.rows.map f.wt)]
def QuP (p : Addr) (x : Qu) : HP := hex fun dx => hex fun l => hex fun fs => stars [pt p (.ins (He.ga K "FairQueue") dx (fFairQueue (.int x.lim) (.int x.q) (.ref l) (.bl x.gr))), pt l (.lst (fs.map V.ref)), big (FlP K) fs x.fs]
end
section
variable {K : PySem.W.Frag} {L R L1 L2 L3 : List HP} {H : Hp} {p ka l dx : Addr} {k : Ky} {x : Wt} {f : Fl} {y : Qu} {ws fs : List Addr} {c : Bool}
instance {a : Addr} {k : Ky} : Ro (KyP a k) := by unfold KyP; infer_instance
instance {p : Addr} {x : Wt} : Ro (WtP K p x) := by unfold WtP; infer_instance
theorem wt_in (w : Own (ro p (.ins (He.ga K "Waiting") dx (fWaiting (.ref ka) x.i (.int x.w))) :: KyP ka x.k :: L) H) : Own (WtP K p x :: L) H := Own.exi dx (Own.exi ka (Own.fold (L := [_, _]) w))
theorem wt_out (w : Own (WtP K p x :: L) H) : ∃ dx ka, Own (ro p (.ins (He.ga K "Waiting") dx (fWaiting (.ref ka) x.i (.int x.w))) :: KyP ka x.k :: L) H := by
  obtain ⟨dx, w⟩ := w.ex
  obtain ⟨ka, w⟩ := w.ex
  exact ⟨dx, ka, Own.flat (L := [_, _]) w⟩
theorem fl_in (w : Own (pt p (.ins (He.ga K "Flow") dx (fFlow (.ref ka) (.ref l) (.int f.oct) (.int f.cr))) :: KyP ka f.k :: pt l (.lst (ws.map V.ref)) :: big (WtP K) ws (f.rows.map f.wt) :: L) H) : Own (FlP K p f :: L) H :=
  Own.exi dx (Own.exi ka (Own.exi l (Own.exi ws (Own.fold (L := [_, _, _, _]) w))))
theorem fl_out (w : Own (FlP K p f :: L) H) : ∃ dx ka l ws, Own (pt p (.ins (He.ga K "Flow") dx (fFlow (.ref ka) (.ref l) (.int f.oct) (.int f.cr))) :: KyP ka f.k :: pt l (.lst (ws.map V.ref)) :: big (WtP K) ws (f.rows.map f.wt) :: L) H := by
  obtain ⟨dx, w⟩ := w.ex
  obtain ⟨ka, w⟩ := w.ex
  obtain ⟨l, w⟩ := w.ex
  obtain ⟨ws, w⟩ := w.ex
  exact ⟨dx, ka, l, ws, Own.flat (L := [_, _, _, _]) w⟩
theorem qu_in (w : Own (pt p (.ins (He.ga K "FairQueue") dx (fFairQueue (.int y.lim) (.int y.q) (.ref l) (.bl y.gr))) :: pt l (.lst (fs.map V.ref)) :: big (FlP K) fs y.fs :: L) H) : Own (QuP K p y :: L) H :=
  Own.exi dx (Own.exi l (Own.exi fs (Own.fold (L := [_, _, _]) w)))
theorem qu_out (w : Own (QuP K p y :: L) H) : ∃ dx l fs, Own (pt p (.ins (He.ga K "FairQueue") dx (fFairQueue (.int y.lim) (.int y.q) (.ref l) (.bl y.gr))) :: pt l (.lst (fs.map V.ref)) :: big (FlP K) fs y.fs :: L) H := by
  obtain ⟨dx, w⟩ := w.ex
  obtain ⟨l, w⟩ := w.ex
  obtain ⟨fs, w⟩ := w.ex
  exact ⟨dx, l, fs, Own.flat (L := [_, _, _]) w⟩
theorem tell_wt : Tell (WtP K p x) (fun H => ∃ dx ka, H p = some (.ins (He.ga K "Waiting") dx (fWaiting (.ref ka) x.i (.int x.w))) ∧ H ka = some (.tup (x.k.map kV))) := fun h ⟨dx, ka, h1, h2, d, s1, s2, p, h3, h4, _, s3, _, q, _⟩ H e => ⟨dx, ka, e _ _ _ (s1 _ _ p), e _ _ _ (s2 _ _ (s3 _ _ q))⟩
theorem tell_fl : Tell (FlP K p f) (fun H => ∃ dx ka l, H p = some (.ins (He.ga K "Flow") dx (fFlow (.ref ka) (.ref l) (.int f.oct) (.int f.cr))) ∧ H ka = some (.tup (f.k.map kV))) := fun h ⟨dx, ka, l, ws, h1, h2, d, s1, s2, p, h3, h4, _, s3, _, q, _⟩ H e => ⟨dx, ka, l, e _ _ _ (s1 _ _ p), e _ _ _ (s2 _ _ (s3 _ _ q))⟩
theorem tell_qu : Tell (QuP K p y) (fun H => ∃ dx l, H p = some (.ins (He.ga K "FairQueue") dx (fFairQueue (.int y.lim) (.int y.q) (.ref l) (.bl y.gr)))) := fun h ⟨dx, l, fs, h1, h2, d, s1, s2, p, _⟩ H e => ⟨dx, l, e _ _ _ (s1 _ _ p)⟩
theorem tell_qu_lim : TFld (QuP K p y) p (He.ga K "FairQueue") "limit" (.int y.lim) := fun h z H e => let ⟨dx, l, w⟩ := tell_qu h z H e; ⟨dx, _, w, lk_FairQueue_limit⟩
theorem tell_qu_q : TFld (QuP K p y) p (He.ga K "FairQueue") "quantum" (.int y.q) := fun h z H e => let ⟨dx, l, w⟩ := tell_qu h z H e; ⟨dx, _, w, lk_FairQueue_quantum⟩
theorem tell_qu_m {m : Str} (ln : ∀ {x0 x1 x2 x3 : V}, (fFairQueue x0 x1 x2 x3).lookup m = none) : TMt (QuP K p y) p (He.ga K "FairQueue") m := fun h z H e => let ⟨dx, l, w⟩ := tell_qu h z H e; ⟨dx, _, w, ln⟩
theorem tell_fl_m {m : Str} (ln : ∀ {x0 x1 x2 x3 : V}, (fFlow x0 x1 x2 x3).lookup m = none) : TMt (FlP K p f) p (He.ga K "Flow") m := fun h z H e => let ⟨dx, ka, l, w, _⟩ := tell_fl h z H e; ⟨dx, _, w, ln⟩
theorem tell_wt_w : TFld (WtP K p x) p (He.ga K "Waiting") "weight" (.int x.w) := fun h z H e => let ⟨dx, ka, w, _⟩ := tell_wt h z H e; ⟨dx, _, w, lk_Waiting_weight⟩
theorem tell_wt_i : TFld (WtP K p x) p (He.ga K "Waiting") "item" x.i := fun h z H e => let ⟨dx, ka, w, _⟩ := tell_wt h z H e; ⟨dx, _, w, lk_Waiting_item⟩
end
/-! ### promises -/
abbrev eA (K : PySem.W.Frag) : Value := .ref (He.ga K "InvalidAmount")
def sp_Waiting_init (K : PySem.W.Frag) : Sp := fun vs H Q _ => ∃ (p dx ka : Addr) (k : Ky) (i : V) (w : Int) (R : List HP), vs = [.ref p, .ref ka, i, .int w] ∧ Own (pt p (.ins (He.ga K "Waiting") dx []) :: KyP ka k :: R) H ∧ ∀ H', Own (WtP K p ⟨k, i, w⟩ :: R) H' → Q .non H'
def sp_Flow_init (K : PySem.W.Frag) : Sp := fun vs H Q _ => ∃ (p dx ka : Addr) (k : Ky) (R : List HP), vs = [.ref p, .ref ka] ∧ Own (pt p (.ins (He.ga K "Flow") dx []) :: KyP ka k :: R) H ∧ ∀ H', Own (FlP K p ⟨k, [], 0⟩ :: R) H' → Q .non H'
def sp_Flow_add (K : PySem.W.Frag) : Sp := fun vs H Q _ => ∃ (p x : Addr) (f : Fl) (r : V × Int) (R : List HP), vs = [.ref p, .ref x] ∧ f.rows.length ≤ 1000000 ∧ Own (FlP K p f :: WtP K x (f.wt r) :: R) H ∧ ∀ H', Own (FlP K p { f with rows := f.rows ++ [r] } :: R) H' → Q .non H'
def sp_Flow_take (K : PySem.W.Frag) : Sp := fun vs H Q _ => ∃ (p : Addr) (f : Fl) (j : Nat) (r : V × Int) (R : List HP), vs = [.ref p, .int (j : Int)] ∧ f.rows[j]? = some r ∧ f.rows.length ≤ 1000000 ∧ Own (FlP K p f :: R) H ∧
  ∀ H' x, Own (WtP K x (f.wt r) :: FlP K p { f with rows := f.rows.eraseIdx j } :: R) H' → Q (.ref x) H'
def sp_Flow_fork (K : PySem.W.Frag) : Sp := fun vs H Q _ => ∃ (p : Addr) (f : Fl) (R : List HP), vs = [.ref p] ∧ Own (FlP K p f :: R) H ∧ ∀ H' p', Own (FlP K p' f :: FlP K p f :: R) H' → Q (.ref p') H'
def sp_FairQueue_init (K : PySem.W.Frag) : Sp := fun vs H Q E => ∃ (p dx : Addr) (lim q : Int) (R : List HP), vs = [.ref p, .int lim, .int q] ∧ Own (pt p (.ins (He.ga K "FairQueue") dx []) :: R) H ∧ (lim < 1 ∨ q < 1 → ∀ H', Own R H' → E (eA K) none H') ∧
  (1 ≤ lim → 1 ≤ q → ∀ H', Own (QuP K p ⟨lim, q, [], false⟩ :: R) H' → Q .non H')
def sp_FairQueue_octets (K : PySem.W.Frag) : Sp := fun vs H Q _ => ∃ (p : Addr) (x : Qu) (R : List HP), vs = [.ref p] ∧ x.fs.length ≤ 1000000 ∧ Own (QuP K p x :: R) H ∧ ∀ H', Own (QuP K p x :: R) H' → Q (.int (octs x.fs)) H'
/-- the round is open: its list at l, its flows at fs -/
def sp_FairQueue_flow_of (K : PySem.W.Frag) : Sp := fun vs H Q _ => ∃ (p dx l ka : Addr) (fs : List Addr) (x : Qu) (k : Ky) (R : List HP), vs = [.ref p, .ref ka] ∧ kOk k ∧ (∀ f ∈ x.fs, kOk f.k) ∧
  Own (pt p (.ins (He.ga K "FairQueue") dx (fFairQueue (.int x.lim) (.int x.q) (.ref l) (.bl x.gr))) :: pt l (.lst (fs.map V.ref)) :: big (FlP K) fs x.fs :: KyP ka k :: R) H ∧
  ∀ H', Own (pt p (.ins (He.ga K "FairQueue") dx (fFairQueue (.int x.lim) (.int x.q) (.ref l) (.bl x.gr))) :: pt l (.lst (fs.map V.ref)) :: big (FlP K) fs x.fs :: KyP ka k :: R) H' → ∀ v, (v = V.non ∧ fnd x.fs k = none ∨ ∃ j a, v = V.ref a ∧ fnd x.fs k = some j ∧ fs[j]? = some a) → Q v H'
def sp_FairQueue_remove_flow (K : PySem.W.Frag) : Sp := fun vs H Q _ => ∃ (p : Addr) (x : Qu) (j : Nat) (R : List HP), vs = [.ref p, .int (j : Int)] ∧ j < x.fs.length ∧ x.fs.length ≤ 1000000 ∧ Own (QuP K p x :: R) H ∧
  ∀ H', Own (QuP K p { x with fs := x.fs.eraseIdx j, gr := if j = 0 then false else x.gr } :: R) H' → Q .non H'
def sp_FairQueue_put (K : PySem.W.Frag) : Sp := fun vs H Q _ => ∃ (p ka : Addr) (x : Qu) (k : Ky) (i : V) (w : Int) (R : List HP), vs = [.ref p, .ref ka, i, .int w] ∧ WF x ∧ cnt x.fs ≤ 100000 ∧ kOk k ∧ 1 ≤ w ∧ Own (QuP K p x :: KyP ka k :: R) H ∧
  ∀ H' t ws, Own (pt t (.lst (ws.map V.ref)) :: big (WtP K) ws (putF x k i w).2 :: QuP K p (putF x k i w).1 :: R) H' → Q (.ref t) H'
def sp_FairQueue_drop (K : PySem.W.Frag) : Sp := fun vs H Q _ => ∃ (p : Addr) (x : Qu) (R : List HP), vs = [.ref p] ∧ x.fs ≠ [] ∧ (∀ f ∈ x.fs, f.rows ≠ []) ∧ cnt x.fs ≤ 200000 ∧ Own (QuP K p x :: R) H ∧
  ∀ H' a, Own (WtP K a (dropW x.fs) :: QuP K p { x with fs := (dropS x.fs x.gr).1, gr := (dropS x.fs x.gr).2 } :: R) H' → Q (.ref a) H'
def sp_FairQueue_turn (K : PySem.W.Frag) : Sp := fun vs H Q _ => ∃ (p : Addr) (x : Qu) (R : List HP), vs = [.ref p] ∧ WF x ∧ cnt x.fs ≤ 200000 ∧ Own (QuP K p x :: R) H ∧ ∀ H', Own (QuP K p (turnF x) :: R) H' → Q .non H'
def sp_FairQueue_next_up (K : PySem.W.Frag) : Sp := fun vs H Q _ => ∃ (p : Addr) (x : Qu) (R : List HP), vs = [.ref p] ∧ WF x ∧ cnt x.fs ≤ 200000 ∧ Own (QuP K p x :: R) H ∧
  (firstF (turnF x) = none → ∀ H', Own (QuP K p (turnF x) :: R) H' → Q .non H') ∧ ∀ y, firstF (turnF x) = some y → ∀ H' a, Own (WtP K a y :: QuP K p (turnF x) :: R) H' → Q (.ref a) H'
def sp_FairQueue_take (K : PySem.W.Frag) : Sp := fun vs H Q _ => ∃ (p : Addr) (x : Qu) (R : List HP), vs = [.ref p] ∧ WF x ∧ cnt x.fs ≤ 200000 ∧ Own (QuP K p x :: R) H ∧
  (firstF (turnF x) = none → ∀ H', Own (QuP K p (turnF x) :: R) H' → Q .non H') ∧ ∀ y, firstF (turnF x) = some y → ∀ H' a, Own (WtP K a y :: QuP K p (goneF (turnF x)) :: R) H' → Q (.ref a) H'
def sp_FairQueue_take_all (K : PySem.W.Frag) : Sp := fun vs H Q _ => ∃ (p : Addr) (x : Qu) (R : List HP), vs = [.ref p] ∧ cnt x.fs ≤ 200000 ∧ Own (QuP K p x :: R) H ∧ ∀ H' t ws, Own (pt t (.lst (ws.map V.ref)) :: big (WtP K) ws (allW x.fs) :: QuP K p { x with fs := [], gr := false } :: R) H' → Q (.ref t) H'
def sp_FairQueue_fork (K : PySem.W.Frag) : Sp := fun vs H Q _ => ∃ (p : Addr) (x : Qu) (R : List HP), vs = [.ref p] ∧ 1 ≤ x.lim ∧ 1 ≤ x.q ∧ x.fs.length ≤ 1000000 ∧ Own (QuP K p x :: R) H ∧ ∀ H' p', Own (QuP K p' x :: QuP K p x :: R) H' → Q (.ref p') H'
section
variable {K : PySem.W.Frag} {L R L1 : List HP} {H : Hp} {Q : VK} {E : XK} {p ka dx x a : Addr} {k : Ky} {i : V} {w : Int} {f : Fl} {y : Qu} {r : V × Int}
theorem c_Waiting_init (v : Own L H) (p1 : Pick L (pt p (.ins (He.ga K "Waiting") dx [])) L1) (p2 : Pick L1 (KyP ka k) R) (q : ∀ H', Own (WtP K p ⟨k, i, w⟩ :: R) H' → Q .non H') : sp_Waiting_init K [.ref p, .ref ka, i, .int w] H Q E := ⟨p, dx, ka, k, i, w, R, rfl, (v.pick p1).pick2 p2, q⟩
theorem c_Flow_init (v : Own L H) (p1 : Pick L (pt p (.ins (He.ga K "Flow") dx [])) L1) (p2 : Pick L1 (KyP ka k) R) (q : ∀ H', Own (FlP K p ⟨k, [], 0⟩ :: R) H' → Q .non H') : sp_Flow_init K [.ref p, .ref ka] H Q E := ⟨p, dx, ka, k, R, rfl, (v.pick p1).pick2 p2, q⟩
theorem c_take {j : Nat} {i : Int} (e : i = (j : Int)) (hr : f.rows[j]? = some r) (hl : f.rows.length ≤ 1000000) (v : Own L H) (p1 : Pick L (FlP K p f) R) (q : ∀ H' x, Own (WtP K x (f.wt r) :: FlP K p { f with rows := f.rows.eraseIdx j } :: R) H' → Q (.ref x) H') : sp_Flow_take K [.ref p, .int i] H Q E := ⟨p, f, j, r, R, by rw [e], hr, hl, v.pick p1, q⟩
theorem c_remove {j : Nat} {i : Int} (e : i = (j : Int)) (hj : j < y.fs.length) (hl : y.fs.length ≤ 1000000) (v : Own L H) (p1 : Pick L (QuP K p y) R) (q : ∀ H', Own (QuP K p { y with fs := y.fs.eraseIdx j, gr := if j = 0 then false else y.gr } :: R) H' → Q .non H') : sp_FairQueue_remove_flow K [.ref p, .int i] H Q E := ⟨p, y, j, R, by rw [e], hj, hl, v.pick p1, q⟩
theorem c_add (hl : f.rows.length ≤ 1000000) (v : Own L H) (p1 : Pick L (FlP K p f) L1) (p2 : Pick L1 (WtP K x (f.wt r)) R) (q : ∀ H', Own (FlP K p { f with rows := f.rows ++ [r] } :: R) H' → Q .non H') : sp_Flow_add K [.ref p, .ref x] H Q E := ⟨p, x, f, r, R, rfl, hl, (v.pick p1).pick2 p2, q⟩
theorem c_drop (h1 : y.fs ≠ []) (h2 : ∀ f ∈ y.fs, f.rows ≠ []) (h3 : cnt y.fs ≤ 200000) (v : Own L H) (p1 : Pick L (QuP K p y) R) (q : ∀ H' a, Own (WtP K a (dropW y.fs) :: QuP K p { y with fs := (dropS y.fs y.gr).1, gr := (dropS y.fs y.gr).2 } :: R) H' → Q (.ref a) H') : sp_FairQueue_drop K [.ref p] H Q E := ⟨p, y, R, rfl, h1, h2, h3, v.pick p1, q⟩
theorem c_turn (h1 : WF y) (h3 : cnt y.fs ≤ 200000) (v : Own L H) (p1 : Pick L (QuP K p y) R) (q : ∀ H', Own (QuP K p (turnF y) :: R) H' → Q .non H') : sp_FairQueue_turn K [.ref p] H Q E := ⟨p, y, R, rfl, h1, h3, v.pick p1, q⟩
theorem c_octets (hl : y.fs.length ≤ 1000000) (v : Own L H) (p1 : Pick L (QuP K p y) R) (q : ∀ H', Own (QuP K p y :: R) H' → Q (.int (octs y.fs)) H') : sp_FairQueue_octets K [.ref p] H Q E := ⟨p, y, R, rfl, hl, v.pick p1, q⟩
end
/-! ### the law's own rows -/
def num (x : Wt) : Int := match x.i with
  | .int n => n
  | _ => 0
def RtP (t : Addr) (x : Wt) : HP := hex fun ka => stars [ro t (.tup [x.i, .ref ka, .int x.w]), KyP ka x.k]
def RsP (l : Addr) (xs : List Wt) : HP := hex fun ts => stars [ro l (.lst (ts.map V.ref)), big RtP ts xs]
instance {t : Addr} {x : Wt} : Ro (RtP t x) := by unfold RtP; infer_instance
instance {l : Addr} {xs : List Wt} : Ro (RsP l xs) := by unfold RsP; infer_instance
section
variable {L : List HP} {H : Hp} {t l ka : Addr} {ts : List Addr} {x : Wt} {xs : List Wt}
theorem rt_in (w : Own (ro t (.tup [x.i, .ref ka, .int x.w]) :: KyP ka x.k :: L) H) : Own (RtP t x :: L) H := Own.exi ka (Own.fold (L := [_, _]) w)
theorem rt_out (w : Own (RtP t x :: L) H) : ∃ ka, Own (ro t (.tup [x.i, .ref ka, .int x.w]) :: KyP ka x.k :: L) H := by
  obtain ⟨ka, w⟩ := w.ex
  exact ⟨ka, Own.flat (L := [_, _]) w⟩
theorem rs_in (w : Own (ro l (.lst (ts.map V.ref)) :: big RtP ts xs :: L) H) : Own (RsP l xs :: L) H := Own.exi ts (Own.fold (L := [_, _]) w)
theorem rs_out (w : Own (RsP l xs :: L) H) : ∃ ts, Own (ro l (.lst (ts.map V.ref)) :: big RtP ts xs :: L) H := by
  obtain ⟨ts, w⟩ := w.ex
  exact ⟨ts, Own.flat (L := [_, _]) w⟩
theorem tell_rt : Tell (RtP t x) (fun H => ∃ ka, H t = some (.tup [x.i, .ref ka, .int x.w]) ∧ H ka = some (.tup (x.k.map kV))) := fun h ⟨ka, h1, h2, d, s1, s2, p, h3, h4, _, s3, _, q, _⟩ H e => ⟨ka, e _ _ _ (s1 _ _ p), e _ _ _ (s2 _ _ (s3 _ _ q))⟩
end
/-! ### what holds -/
def own (rows : List Wt) (k : Ky) : List Wt := rows.filter (fun r => decide (r.k = k))
/-- the flows, and the rows that the law keeps of them -/
structure JX (fs : List Fl) (rows : List Wt) : Prop where
  wf : ∀ f ∈ fs, WFl f
  ky : (fs.map (·.k)).Nodup
  key : ∀ k, own rows k = own (allW fs) k
  asc : rows.Pairwise (fun a b => num a < num b)
  it : ∀ r ∈ rows, r.i = .int (num r)
  rk : ∀ r ∈ rows, ∃ d, r.k = [.inr "flow", .inl d]
structure JI (x : Qu) (rows : List Wt) : Prop where
  wf : WF x
  jx : JX x.fs rows
  oc : octs x.fs ≤ x.lim
def octOf (fs : List Fl) (k : Ky) : Int := match fnd fs k with
  | some j => (fs.getD j fl0).oct
  | none => 0
abbrev sp_law_cell := gsCell
abbrev sp_law_start := gsStart
abbrev sp_law_digit := gsDigit
def sp_FairQueue_count (K : PySem.W.Frag) : Sp := fun vs H Q _ => ∃ (p : Addr) (x : Qu) (R : List HP), vs = [.ref p] ∧ cnt x.fs ≤ 200000 ∧ x.fs.length ≤ 200000 ∧ Own (QuP K p x :: R) H ∧ ∀ H', Own (QuP K p x :: R) H' → Q (.int (cnt x.fs : Nat)) H'
def sp_FairQueue_octets_of (K : PySem.W.Frag) : Sp := fun vs H Q _ => ∃ (p ka : Addr) (x : Qu) (k : Ky) (R : List HP), vs = [.ref p, .ref ka] ∧ kOk k ∧ (∀ f ∈ x.fs, kOk f.k) ∧ Own (QuP K p x :: KyP ka k :: R) H ∧
  ∀ H', Own (QuP K p x :: KyP ka k :: R) H' → Q (.int (octOf x.fs k)) H'
def sp_law_size (K : PySem.W.Frag) : Sp := fun vs H Q _ => ∃ (s : Addr) (R : List HP), vs = [.ref s] ∧ Own (Drw s :: R) H ∧ ∀ H' w, 1 ≤ w → Own (Drw s :: R) H' → Q (.int w) H'
def sp_law_row (K : PySem.W.Frag) : Sp := fun vs H Q _ => ∃ (p : Addr) (x : Wt) (R : List HP), vs = [.ref p] ∧ Own (WtP K p x :: R) H ∧ ∀ H' a, Own (RtP a x :: R) H' → Q (.ref a) H'
def sp_law_counts (K : PySem.W.Frag) : Sp := fun vs H Q _ => ∃ (p l : Addr) (x : Qu) (rows : List Wt) (R : List HP), vs = [.ref p, .ref l] ∧ JI x rows ∧ rows.length ≤ 1000 ∧ Own (QuP K p x :: RsP l rows :: R) H ∧ ∀ H', Own (QuP K p x :: RsP l rows :: R) H' → Q (.bl true) H'
def sp_law_put (K : PySem.W.Frag) : Sp := fun vs H Q _ => ∃ (p l s : Addr) (n : Int) (x : Qu) (rows : List Wt) (R : List HP), vs = [.ref p, .ref l, .int n, .ref s] ∧ JI x rows ∧ (∀ r ∈ rows, num r < n) ∧ rows.length ≤ 1000 ∧ Own (QuP K p x :: RsP l rows :: Drw s :: R) H ∧
  ∀ H' l' x' rows', JI x' rows' → (∀ r ∈ rows', num r ≤ n) → rows'.length ≤ rows.length + 1 → Own (QuP K p x' :: RsP l' rows' :: Drw s :: R) H' → Q (.ref l') H'
def sp_law_take (K : PySem.W.Frag) : Sp := fun vs H Q _ => ∃ (p l s : Addr) (x : Qu) (rows : List Wt) (R : List HP), vs = [.ref p, .ref l, .ref s] ∧ JI x rows ∧ rows.length ≤ 1000 ∧ Own (QuP K p x :: RsP l rows :: Drw s :: R) H ∧
  ∀ H' l' x' rows', JI x' rows' → (∀ r ∈ rows', r ∈ rows) → rows'.length ≤ rows.length → Own (QuP K p x' :: RsP l' rows' :: Drw s :: R) H' → Q (.ref l') H'
def sp_law_cleared (K : PySem.W.Frag) : Sp := fun vs H Q _ => ∃ (p l : Addr) (x : Qu) (rows : List Wt) (R : List HP), vs = [.ref p, .ref l] ∧ JI x rows ∧ rows.length ≤ 1000 ∧ Own (QuP K p x :: RsP l rows :: R) H ∧
  ∀ H' l' x', JI x' [] → Own (QuP K p x' :: RsP l' [] :: R) H' → Q (.ref l') H'
def sp_law_deed (K : PySem.W.Frag) : Sp := fun vs H Q _ => ∃ (p l s : Addr) (n : Int) (x : Qu) (rows : List Wt) (R : List HP), vs = [.ref p, .ref l, .int n, .ref s] ∧ JI x rows ∧ (∀ r ∈ rows, num r < n) ∧ rows.length ≤ 1000 ∧ Own (QuP K p x :: RsP l rows :: Drw s :: R) H ∧
  ∀ H' l' x' rows', JI x' rows' → (∀ r ∈ rows', num r ≤ n) → rows'.length ≤ rows.length + 1 → Own (QuP K p x' :: RsP l' rows' :: Drw s :: R) H' → Q (.ref l') H'
def sp_law_refused (K : PySem.W.Frag) : Sp := fun vs H Q _ => ∃ (a b : Int) (R : List HP), vs = [.int a, .int b] ∧ Own R H ∧ ∀ H', Own R H' → Q (.bl (decide (a < 1 ∨ b < 1))) H'
def sp_law (K : PySem.W.Frag) : Sp := fun vs H Q _ => ∃ (a : Addr) (ns : List Int), vs = [.ref a] ∧ ns.length ≤ 63 ∧ Own [ScP K a (ns.map V.int)] H ∧ ∀ H', Q (.bl true) H'
theorem law_start {K : PySem.W.Frag} {H : Hp} {a : Addr} {ns : List Int} {E : XK} (hl : ns.length ≤ 63) (hb : ∀ z ∈ ns, Builtin.Int.intBits z ≤ 1048576) (hO : Only H) (hS : SqL K H a (ns.map V.int)) :
    sp_law K [.ref a] H (fun v _ => v = .bl true) E := ⟨a, ns, rfl, hl, .ofScr (.of hO hS), fun _ => rfl⟩
end K81

namespace K81
open PySem PySem.Spec PyProof.Rows L2 G

/-- Waiting.__init__ -/
def t_Waiting_init (K : PySem.W.Frag) (E : XK) : TS :=
  (tSeq (sFld K (tVar 0) (tVar 1) "key")
  (tSeq (sFld K (tVar 0) (tVar 2) "item")
  (sFld K (tVar 0) (tVar 3) "weight")))

/-- Flow.__init__ -/
def t_Flow_init (K : PySem.W.Frag) (E : XK) : TS :=
  (tSeq (sFld K (tVar 0) (tVar 1) "key")
  (tSeq (sFld K (tVar 0) (tLst tNil) "rows")
  (tSeq (sFld K (tVar 0) (tC (.int 0)) "octets")
  (sFld K (tVar 0) (tC (.int 0)) "credit"))))

/-- Flow.add -/
def t_Flow_add (K : PySem.W.Frag) (E : XK) : TS :=
  (tSeq (tDrop (tBM K "list" rAppend (tFld K (tVar 0) "rows") (tCons (tVar 1) tNil)))
  (sFldAug K (tVar 0) (tFld K (tVar 1) "weight") L2.rAdd "octets"))

/-- Flow.take -/
def t_Flow_take (K : PySem.W.Frag) (E : XK) : TS :=
  (tSeq (tAsg (tBM K "list" rPopAt (tFld K (tVar 0) "rows") (tCons (tVar 1) tNil)) (gName 2))
  (tSeq (sFldAug K (tVar 0) (tFld K (tVar 2) "weight") L2.rSub "octets")
  (tRet (tVar 2))))

/-- Flow.fork -/
def t_Flow_fork (K : PySem.W.Frag) (E : XK) : TS :=
  (tSeq (tAsg (tMk (He.ga K "Flow") (sp_Flow_init K) (WE (wB E)) (tCons (tFld K (tVar 0) "key") tNil)) (gName 1))
  (tSeq (sFld K (tVar 1) (tCB (gListOf K) (tCons (tFld K (tVar 0) "rows") tNil)) "rows")
  (tSeq (sFld K (tVar 1) (tFld K (tVar 0) "octets") "octets")
  (tSeq (sFld K (tVar 1) (tFld K (tVar 0) "credit") "credit")
  (tRet (tVar 1))))))

/-- FairQueue.__init__ -/
def t_FairQueue_init (K : PySem.W.Frag) (E : XK) : TS :=
  (tSeq (tIfS (tOr (tTest (tOp gLt (tVar 1) (tC (.int 1)))) (tTest (tOp gLt (tVar 2) (tC (.int 1)))))
  (tRs (He.ga K "InvalidAmount") (wB E))
  tNext)
  (tSeq (sFld K (tVar 0) (tVar 1) "limit")
  (tSeq (sFld K (tVar 0) (tVar 2) "quantum")
  (tSeq (sFld K (tVar 0) (tLst tNil) "flows")
  (sFld K (tVar 0) (tC (.bl false)) "granted")))))

/-- FairQueue.count -/
def t_FairQueue_count (K : PySem.W.Frag) (E : XK) : TS :=
  (tRet (tCB (rSum K) (tCons (tLc (iList K (tFld K (tVar 0) "flows")) (gName 1) tYes (tCB (gLen K) (tCons (tFld K (tVar 1) "rows") tNil)) [1]) tNil)))

/-- FairQueue.octets -/
def t_FairQueue_octets (K : PySem.W.Frag) (E : XK) : TS :=
  (tRet (tCB (rSum K) (tCons (tLc (iList K (tFld K (tVar 0) "flows")) (gName 1) tYes (tFld K (tVar 1) "octets") [1]) tNil)))

/-- FairQueue.octets_of -/
def t_FairQueue_octets_of (K : PySem.W.Frag) (E : XK) : TS :=
  (tSeq (tAsg (tMt (He.ga K "FairQueue") "flow_of" (sp_FairQueue_flow_of K) (WE (wB E)) (tVar 0) (tCons (tVar 1) tNil)) (gName 2))
  (tSeq (tIfS (tTest (tOp rIsN (tVar 2) (tC .non)))
  (tRet (tC (.int 0)))
  tNext)
  (tRet (tFld K (tVar 2) "octets"))))

/-- FairQueue.flow_of -/
def t_FairQueue_flow_of (K : PySem.W.Frag) (E : XK) : TS :=
  (tSeq (tFor (iList K (tFld K (tVar 0) "flows")) (gName 2)
  (tIfS (tTest (tOp (rEqD K) (tFld K (tVar 2) "key") (tVar 1)))
  (tRet (tVar 2))
  tNext))
  (tRet (tC .non)))

/-- FairQueue.remove_flow -/
def t_FairQueue_remove_flow (K : PySem.W.Frag) (E : XK) : TS :=
  (tSeq (tDelL (tFld K (tVar 0) "flows") (tVar 1))
  (tIfS (tTest (tOp rEq (tVar 1) (tC (.int 0))))
  (sFld K (tVar 0) (tC (.bl false)) "granted")
  tNext))

/-- FairQueue.put -/
def t_FairQueue_put (K : PySem.W.Frag) (E : XK) : TS :=
  (tSeq (tAsg (tMk (He.ga K "Waiting") (sp_Waiting_init K) (WE (wB E)) (tCons (tVar 1) (tCons (tVar 2) (tCons (tVar 3) tNil)))) (gName 4))
  (tSeq (tIfS (tTest (tOp gGt (tVar 3) (tFld K (tVar 0) "limit")))
  (tRet (tLst (tCons (tVar 4) tNil)))
  tNext)
  (tSeq (tAsg (tMt (He.ga K "FairQueue") "flow_of" (sp_FairQueue_flow_of K) (WE (wB E)) (tVar 0) (tCons (tVar 1) tNil)) (gName 5))
  (Evl.tCut (tIfS (tTest (tOp rIsN (tVar 5) (tC .non)))
  (tSeq (tAsg (tMk (He.ga K "Flow") (sp_Flow_init K) (WE (wB E)) (tCons (tVar 1) tNil)) (gName 5))
  (tDrop (tBM K "list" rAppend (tFld K (tVar 0) "flows") (tCons (tVar 5) tNil))))
  tNext)
  (tSeq (tDrop (tMt (He.ga K "Flow") "add" (sp_Flow_add K) (WE (wB E)) (tVar 5) (tCons (tVar 4) tNil)))
  (tSeq (tAsg (tLst tNil) (gName 6))
  (tSeq (tWhile (tTest (tOp gGt (tMt (He.ga K "FairQueue") "octets" (sp_FairQueue_octets K) (WE (wB E)) (tVar 0) tNil) (tFld K (tVar 0) "limit")))
  (tDrop (tBM K "list" rAppend (tVar 6) (tCons (tMt (He.ga K "FairQueue") "drop" (sp_FairQueue_drop K) (WE (wB E)) (tVar 0) tNil) tNil))))
  (tRet (tVar 6)))))))))

/-- FairQueue.drop -/
def t_FairQueue_drop (K : PySem.W.Frag) (E : XK) : TS :=
  (tSeq (tAsg (tC (.int 0)) (gName 1))
  (tSeq (tFor (iRng2 (tCons (tC (.int 1)) (tCons (tCB (gLen K) (tCons (tFld K (tVar 0) "flows") tNil)) tNil))) (gName 2)
  (tIfS (tTest (tOp gGt (tFld K (tOp (rIxL K) (tFld K (tVar 0) "flows") (tVar 2)) "octets") (tFld K (tOp (rIxL K) (tFld K (tVar 0) "flows") (tVar 1)) "octets")))
  (tAsg (tVar 2) (gName 1))
  tNext))
  (tSeq (tAsg (tOp (rIxL K) (tFld K (tVar 0) "flows") (tVar 1)) (gName 3))
  (tSeq (tAsg (tMt (He.ga K "Flow") "take" (sp_Flow_take K) (WE (wB E)) (tVar 3) (tCons (tOp gMinus (tCB (gLen K) (tCons (tFld K (tVar 3) "rows") tNil)) (tC (.int 1))) tNil)) (gName 4))
  (tSeq (tIfS (tNot (tTru K (tFld K (tVar 3) "rows")))
  (tDrop (tMt (He.ga K "FairQueue") "remove_flow" (sp_FairQueue_remove_flow K) (WE (wB E)) (tVar 0) (tCons (tVar 1) tNil)))
  tNext)
  (tRet (tVar 4)))))))

/-- FairQueue.turn -/
def t_FairQueue_turn (K : PySem.W.Frag) (E : XK) : TS :=
  (tWhile (tTru K (tFld K (tVar 0) "flows"))
  (tSeq (tAsg (tOp (rIxL K) (tFld K (tVar 0) "flows") (tC (.int 0))) (gName 1))
  (Evl.tCut (tIfS (tNot (tB (tFld K (tVar 0) "granted")))
  (tSeq (sFld K (tVar 1) (tOp gAdd (tFld K (tVar 1) "credit") (tFld K (tVar 0) "quantum")) "credit")
  (sFld K (tVar 0) (tC (.bl true)) "granted"))
  tNext)
  (tSeq (tIfS (tTest (tOp gLe (tFld K (tOp (rIxL K) (tFld K (tVar 1) "rows") (tC (.int 0))) "weight") (tFld K (tVar 1) "credit")))
  tRetN
  tNext)
  (tSeq (tDrop (tBM K "list" rAppend (tFld K (tVar 0) "flows") (tCons (tBM K "list" rPopAt (tFld K (tVar 0) "flows") (tCons (tC (.int 0)) tNil)) tNil)))
  (sFld K (tVar 0) (tC (.bl false)) "granted"))))))

/-- FairQueue.next_up -/
def t_FairQueue_next_up (K : PySem.W.Frag) (E : XK) : TS :=
  (tSeq (tDrop (tMt (He.ga K "FairQueue") "turn" (sp_FairQueue_turn K) (WE (wB E)) (tVar 0) tNil))
  (tSeq (tIfS (tNot (tTru K (tFld K (tVar 0) "flows")))
  (tRet (tC .non))
  tNext)
  (tRet (tOp (rIxL K) (tFld K (tOp (rIxL K) (tFld K (tVar 0) "flows") (tC (.int 0))) "rows") (tC (.int 0))))))

/-- FairQueue.take -/
def t_FairQueue_take (K : PySem.W.Frag) (E : XK) : TS :=
  (tSeq (tAsg (tMt (He.ga K "FairQueue") "next_up" (sp_FairQueue_next_up K) (WE (wB E)) (tVar 0) tNil) (gName 1))
  (tSeq (tIfS (tTest (tOp rIsN (tVar 1) (tC .non)))
  (tRet (tC .non))
  tNext)
  (tSeq (tAsg (tOp (rIxL K) (tFld K (tVar 0) "flows") (tC (.int 0))) (gName 2))
  (tSeq (tDrop (tMt (He.ga K "Flow") "take" (sp_Flow_take K) (WE (wB E)) (tVar 2) (tCons (tC (.int 0)) tNil)))
  (tSeq (sFldAug K (tVar 2) (tFld K (tVar 1) "weight") L2.rSub "credit")
  (tSeq (tIfS (tNot (tTru K (tFld K (tVar 2) "rows")))
  (tDrop (tMt (He.ga K "FairQueue") "remove_flow" (sp_FairQueue_remove_flow K) (WE (wB E)) (tVar 0) (tCons (tC (.int 0)) tNil)))
  tNext)
  (tRet (tVar 1))))))))

/-- FairQueue.take_all -/
def t_FairQueue_take_all (K : PySem.W.Frag) (E : XK) : TS :=
  (tSeq (tAsg (tLst tNil) (gName 1))
  (tSeq (tFor (iList K (tFld K (tVar 0) "flows")) (gName 2)
  (tAsg (tOp rCat (tVar 1) (tFld K (tVar 2) "rows")) (gName 1)))
  (tSeq (sFld K (tVar 0) (tLst tNil) "flows")
  (tSeq (sFld K (tVar 0) (tC (.bl false)) "granted")
  (tRet (tVar 1))))))

/-- FairQueue.fork -/
def t_FairQueue_fork (K : PySem.W.Frag) (E : XK) : TS :=
  (tSeq (tAsg (tMk (He.ga K "FairQueue") (sp_FairQueue_init K) (WE (wB E)) (tCons (tFld K (tVar 0) "limit") (tCons (tFld K (tVar 0) "quantum") tNil))) (gName 1))
  (tSeq (sFld K (tVar 1) (tLc (iList K (tFld K (tVar 0) "flows")) (gName 2) tYes (tMt (He.ga K "Flow") "fork" (sp_Flow_fork K) (fun _ => E0) (tVar 2) tNil) [2]) "flows")
  (tSeq (sFld K (tVar 1) (tFld K (tVar 0) "granted") "granted")
  (tRet (tVar 1)))))

/-- _law_cell -/
def t_law_cell (K : PySem.W.Frag) (E : XK) : TS :=
  (tSeq (tIfS (tTest (tOp gLt (tVar 1) (tCB (gLen K) (tCons (tVar 0) tNil))))
  (tRet (tOp (rIxL K) (tVar 0) (tVar 1)))
  tNext)
  (tRet (tC (.int 0))))

/-- _law_start -/
def t_law_start (K : PySem.W.Frag) (E : XK) : TS :=
  (tSeq (tAsg (tC (.int 618970019642690137449562111)) (gName 2))
  (tSeq (tIfS (tTest (tChain gLt gLt (tUn gNeg (tC (.int 1000000000000000000))) (tVar 0) (tC (.int 1000000000000000000))))
  (tSeq (tAsg (tOp gMod (tCB gInt1 (tCons (tOp gAdd (tOp gMul (tVar 0) (tC (.int 2654435761))) (tOp gMul (tOp gAdd (tVar 1) (tC (.int 1))) (tC (.int 6700417)))) tNil)) (tVar 2)) (gName 3))
  (tSeq (tAsg (tC (.int 0)) (gName 4))
  (tSeq (tFor (iRng1 (tCons (tC (.int 4)) tNil)) (gName 5)
  (tSeq (tAsg (tOp gMod (tCB gInt1 (tCons (tOp gAdd (tOp gAdd (tOp gAdd (tOp gMulW (tVar 3) (tVar 3)) (tOp gMul (tC (.int 7)) (tVar 3))) (tVar 1)) (tVar 5)) tNil)) (tVar 2)) (gName 3))
  (tAsg (tOp gAdd (tOp gMulW (tVar 4) (tVar 2)) (tVar 3)) (gName 4))))
  (tRet (tLst (tCons (tVar 4) tNil))))))
  tNext)
  (tRet (tLst (tCons (tVar 0) tNil)))))

/-- _law_digit -/
def t_law_digit (K : PySem.W.Frag) (E : XK) : TS :=
  (tSeq (tAsg (tOp gMod (tCB gInt1 (tCons (tOp (rIxL K) (tVar 0) (tC (.int 0))) tNil)) (tVar 1)) (gName 2))
  (tSeq (tAsg (tOp gDivW (tOp (rIxL K) (tVar 0) (tC (.int 0))) (tVar 1)) (gSub (tVar 0) (tC (.int 0)) rSetL))
  (tRet (tVar 2))))

/-- _law_size -/
def t_law_size (K : PySem.W.Frag) (E : XK) : TS :=
  (tRet (tOp gAdd (tC (.int 1)) (tCallS (sp_law_digit K) (WE (wB E)) (tCons (tVar 0) (tCons (tOp (rIxT K) (tTup (tCons (tC (.int 30)) (tCons (tC (.int 5)) (tCons (tC (.int 60)) tNil)))) (tCallS (sp_law_digit K) (WE (wB E)) (tCons (tVar 0) (tCons (tC (.int 3)) tNil)))) tNil)))))

/-- _law_row -/
def t_law_row (K : PySem.W.Frag) (E : XK) : TS :=
  (tRet (tTup (tCons (tFld K (tVar 0) "item") (tCons (tFld K (tVar 0) "key") (tCons (tFld K (tVar 0) "weight") tNil)))))

/-- _law_counts -/
def t_law_counts (K : PySem.W.Frag) (E : XK) : TS :=
  (tSeq (tIfS (tOr (tTest (tOp rNe (tMt (He.ga K "FairQueue") "count" (sp_FairQueue_count K) (WE (wB E)) (tVar 0) tNil) (tCB (gLen K) (tCons (tVar 1) tNil)))) (tTest (tOp rNe (tMt (He.ga K "FairQueue") "octets" (sp_FairQueue_octets K) (WE (wB E)) (tVar 0) tNil) (tCB (rSum K) (tCons (tLc (iList K (tVar 1)) (gName 2) tYes (tOp (rIxT K) (tVar 2) (tC (.int 2))) [2]) tNil)))))
  (tRet (tC (.bl false)))
  tNext)
  (tSeq (tFor (iRng1 (tCons (tC (.int 6)) tNil)) (gName 3)
  (tIfS (tTest (tOp rNe (tMt (He.ga K "FairQueue") "octets_of" (sp_FairQueue_octets_of K) (WE (wB E)) (tVar 0) (tCons (tTup (tCons (tC (.str "flow")) (tCons (tVar 3) tNil))) tNil)) (tCB (rSum K) (tCons (tLc (iList K (tVar 1)) (gName 2) (tTest (tOp (rEqD K) (tOp (rIxT K) (tVar 2) (tC (.int 1))) (tTup (tCons (tC (.str "flow")) (tCons (tVar 3) tNil))))) (tOp (rIxT K) (tVar 2) (tC (.int 2))) [2]) tNil))))
  (tRet (tC (.bl false)))
  tNext))
  (tRet (tOp gLe (tMt (He.ga K "FairQueue") "octets" (sp_FairQueue_octets K) (WE (wB E)) (tVar 0) tNil) (tFld K (tVar 0) "limit")))))

/-- _law_put -/
def t_law_put (K : PySem.W.Frag) (E : XK) : TS :=
  (tSeq (tAsg (tTup (tCons (tVar 2) (tCons (tTup (tCons (tC (.str "flow")) (tCons (tCallS (sp_law_digit K) (WE (wB E)) (tCons (tVar 3) (tCons (tC (.int 5)) tNil))) tNil))) (tCons (tCallS (sp_law_size K) (WE (wB E)) (tCons (tVar 3) tNil)) tNil)))) (gName 4))
  (tSeq (tAsg (tOp rCat (tVar 1) (tLst (tCons (tVar 4) tNil))) (gName 1))
  (tSeq (tAsg (tLc (iList K (tMt (He.ga K "FairQueue") "put" (sp_FairQueue_put K) (WE (wB E)) (tVar 0) (tCons (tOp (rIxT K) (tVar 4) (tC (.int 1))) (tCons (tOp (rIxT K) (tVar 4) (tC (.int 0))) (tCons (tOp (rIxT K) (tVar 4) (tC (.int 2))) tNil))))) (gName 6) tYes (tCallS (sp_law_row K) (fun _ => E0) (tCons (tVar 6) tNil)) [6]) (gName 5))
  (tSeq (tIfS (tTest (tOp gGt (tOp (rIxT K) (tVar 4) (tC (.int 2))) (tFld K (tVar 0) "limit")))
  (tSeq (tIfS (tTest (tOp (rNeD K) (tVar 5) (tLst (tCons (tVar 4) tNil))))
  (tRet (tC .non))
  tNext)
  (tRet (tSl (rSlL K) (tVar 1) tNoPart (tPart (tOp gMinus (tCB (gLen K) (tCons (tVar 1) tNil)) (tC (.int 1)))))))
  tNext)
  (tSeq (tAsg (tCB (rSum K) (tCons (tLc (iList K (tVar 1)) (gName 8) tYes (tOp (rIxT K) (tVar 8) (tC (.int 2))) [8]) tNil)) (gName 7))
  (tSeq (tFor (iList K (tVar 5)) (gName 9)
  (tSeq (tIfS (tOr (tTest (tOp gLe (tVar 7) (tFld K (tVar 0) "limit"))) (tTest (tOp (rNotInD K) (tVar 9) (tVar 1))))
  (tRet (tC .non))
  tNext)
  (tSeq (tIfS (tTest (tOp (rNeD K) (tVar 9) (tOp (rIxL K) (tLc (iList K (tVar 1)) (gName 8) (tTest (tOp (rEqD K) (tOp (rIxT K) (tVar 8) (tC (.int 1))) (tOp (rIxT K) (tVar 9) (tC (.int 1))))) (tVar 8) [8]) (tUn gNeg (tC (.int 1))))))
  (tRet (tC .non))
  tNext)
  (tSeq (tAsg (tOp gMinus (tVar 7) (tOp (rIxT K) (tVar 9) (tC (.int 2)))) (gName 7))
  (tAsg (tLc (iList K (tVar 1)) (gName 8) (tTest (tOp (rNeD K) (tVar 8) (tVar 9))) (tVar 8) [8]) (gName 1))))))
  (tRet (tVar 1))))))))

/-- _law_take -/
def t_law_take (K : PySem.W.Frag) (E : XK) : TS :=
  (tSeq (tAsg (tMt (He.ga K "FairQueue") "next_up" (sp_FairQueue_next_up K) (WE (wB E)) (tVar 0) tNil) (gName 3))
  (Evl.tCut (tIfS (tTest (tOp rEq (tCallS (sp_law_digit K) (WE (wB E)) (tCons (tVar 2) (tCons (tC (.int 2)) tNil))) (tC (.int 0))))
  (tSeq (tAsg (tMt (He.ga K "FairQueue") "next_up" (sp_FairQueue_next_up K) (WE (wB E)) (tVar 0) tNil) (gName 4))
  (tIfS (tOr (tTest (tOp rNe (tOp rIsN (tVar 3) (tC .non)) (tOp rIsN (tVar 4) (tC .non)))) (tAnd (tTest (tOp rNotN (tVar 3) (tC .non))) (tTest (tOp (rNeD K) (tCallS (sp_law_row K) (WE (wB E)) (tCons (tVar 3) tNil)) (tCallS (sp_law_row K) (WE (wB E)) (tCons (tVar 4) tNil))))))
  (tRet (tC .non))
  tNext))
  tNext)
  (tSeq (tAsg (tMt (He.ga K "FairQueue") "take" (sp_FairQueue_take K) (WE (wB E)) (tVar 0) tNil) (gName 5))
  (tSeq (tIfS (tTest (tOp rEq (tCB (gLen K) (tCons (tVar 1) tNil)) (tC (.int 0))))
  (tSeq (tIfS (tOr (tTest (tOp rNotN (tVar 3) (tC .non))) (tTest (tOp rNotN (tVar 5) (tC .non))))
  (tRet (tC .non))
  tNext)
  (tRet (tVar 1)))
  tNext)
  (tSeq (tIfS (tOr (tTest (tOp rIsN (tVar 5) (tC .non))) (tOr (tTest (tOp rIsN (tVar 3) (tC .non))) (tTest (tOp (rNeD K) (tCallS (sp_law_row K) (WE (wB E)) (tCons (tVar 3) tNil)) (tCallS (sp_law_row K) (WE (wB E)) (tCons (tVar 5) tNil))))))
  (tRet (tC .non))
  tNext)
  (tSeq (tAsg (tCallS (sp_law_row K) (WE (wB E)) (tCons (tVar 5) tNil)) (gName 6))
  (tSeq (tIfS (tOr (tTest (tOp (rNotInD K) (tVar 6) (tVar 1))) (tTest (tOp (rNeD K) (tVar 6) (tOp (rIxL K) (tLc (iList K (tVar 1)) (gName 7) (tTest (tOp (rEqD K) (tOp (rIxT K) (tVar 7) (tC (.int 1))) (tOp (rIxT K) (tVar 6) (tC (.int 1))))) (tVar 7) [7]) (tC (.int 0))))))
  (tRet (tC .non))
  tNext)
  (tRet (tLc (iList K (tVar 1)) (gName 7) (tTest (tOp (rNeD K) (tVar 7) (tVar 6))) (tVar 7) [7])))))))))

/-- _law_cleared -/
def t_law_cleared (K : PySem.W.Frag) (E : XK) : TS :=
  (tSeq (tAsg (tLc (iList K (tMt (He.ga K "FairQueue") "take_all" (sp_FairQueue_take_all K) (WE (wB E)) (tVar 0) tNil)) (gName 3) tYes (tCallS (sp_law_row K) (fun _ => E0) (tCons (tVar 3) tNil)) [3]) (gName 2))
  (tSeq (tIfS (tTest (tOp (rNeD K) (tCB (rSortedD K) (tCons (tVar 2) tNil)) (tCB (rSortedD K) (tCons (tVar 1) tNil))))
  (tRet (tC .non))
  tNext)
  (tSeq (tFor (iRng1 (tCons (tC (.int 5)) tNil)) (gName 4)
  (tSeq (tAsg (tLc (iList K (tVar 2)) (gName 6) (tTest (tOp (rEqD K) (tOp (rIxT K) (tVar 6) (tC (.int 1))) (tTup (tCons (tC (.str "flow")) (tCons (tVar 4) tNil))))) (tVar 6) [6]) (gName 5))
  (tIfS (tTest (tOp (rNeD K) (tVar 5) (tCB (rSortedD K) (tCons (tVar 5) tNil))))
  (tRet (tC .non))
  tNext)))
  (tRet (tLst tNil)))))

/-- _law_deed -/
def t_law_deed (K : PySem.W.Frag) (E : XK) : TS :=
  (tSeq (tAsg (tCallS (sp_law_digit K) (WE (wB E)) (tCons (tVar 3) (tCons (tC (.int 20)) tNil))) (gName 4))
  (tSeq (tIfS (tTest (tOp gLt (tVar 4) (tC (.int 11))))
  (tRet (tCallS (sp_law_put K) (WE (wB E)) (tCons (tVar 0) (tCons (tVar 1) (tCons (tVar 2) (tCons (tVar 3) tNil))))))
  tNext)
  (tSeq (tIfS (tTest (tOp gLt (tVar 4) (tC (.int 19))))
  (tRet (tCallS (sp_law_take K) (WE (wB E)) (tCons (tVar 0) (tCons (tVar 1) (tCons (tVar 3) tNil)))))
  tNext)
  (tRet (tCallS (sp_law_cleared K) (WE (wB E)) (tCons (tVar 0) (tCons (tVar 1) tNil)))))))

/-- _law_refused -/
def t_law_refused (K : PySem.W.Frag) (E : XK) : TS :=
  (tSeq (fun D σ H => (fun W1 : WX => (tDrop (tMk (He.ga K "FairQueue") (sp_FairQueue_init K) (WE W1) (tCons (tVar 0) (tCons (tVar 1) tNil))))) (wOnly K (.ref (He.ga K "InvalidAmount")) (fun (aX : Addr) (clX : Value) (dX : Option Addr) => (tRet (tC (.bl true)))) (wB E) D) D σ H)
  (tRet (tC (.bl false))))

/-- law -/
def t_law (K : PySem.W.Frag) (E : XK) : TS :=
  (tSeq (tAsg (tCallS (sp_law_start K) (WE (wB E)) (tCons (tCallS (sp_law_cell K) (WE (wB E)) (tCons (tVar 0) (tCons (tC (.int 0)) tNil))) (tCons (tC (.int 0)) tNil))) (gName 1))
  (tSeq (tAsg (tOp gAdd (tC (.int 1)) (tCallS (sp_law_digit K) (WE (wB E)) (tCons (tVar 1) (tCons (tC (.int 150)) tNil)))) (gName 2))
  (tSeq (tAsg (tOp gAdd (tC (.int 1)) (tCallS (sp_law_digit K) (WE (wB E)) (tCons (tVar 1) (tCons (tC (.int 40)) tNil)))) (gName 3))
  (tSeq (tIfS (tOr (tNot (tB (tCallS (sp_law_refused K) (WE (wB E)) (tCons (tC (.int 0)) (tCons (tVar 3) tNil))))) (tOr (tNot (tB (tCallS (sp_law_refused K) (WE (wB E)) (tCons (tVar 2) (tCons (tC (.int 0)) tNil))))) (tB (tCallS (sp_law_refused K) (WE (wB E)) (tCons (tC (.int 1)) (tCons (tC (.int 1)) tNil))))))
  (tRet (tC (.bl false)))
  tNext)
  (tSeq (tAsg (tMk (He.ga K "FairQueue") (sp_FairQueue_init K) (WE (wB E)) (tCons (tVar 2) (tCons (tVar 3) tNil))) (gName 4))
  (tSeq (tAsg (tLst tNil) (gName 5))
  (tSeq (tAsg (tC .non) (gName 6))
  (tSeq (tAsg (tLst tNil) (gName 7))
  (tSeq (tFor (iRng1 (tCons (tCB gMin2 (tCons (tC (.int 80)) (tCons (tOp gAdd (tC (.int 1)) (tCB (gLen K) (tCons (tVar 0) tNil))) tNil))) tNil)) (gName 8)
  (tSeq (tAsg (tCallS (sp_law_start K) (WE (wB E)) (tCons (tCallS (sp_law_cell K) (WE (wB E)) (tCons (tVar 0) (tCons (tVar 8) tNil))) (tCons (tOp gAdd (tVar 8) (tC (.int 1))) tNil))) (gName 1))
  (tSeq (tAsg (tCallS (sp_law_deed K) (WE (wB E)) (tCons (tVar 4) (tCons (tVar 5) (tCons (tVar 8) (tCons (tVar 1) tNil))))) (gName 5))
  (tSeq (tIfS (tOr (tTest (tOp rIsN (tVar 5) (tC .non))) (tNot (tB (tCallS (sp_law_counts K) (WE (wB E)) (tCons (tVar 4) (tCons (tVar 5) tNil))))))
  (tRet (tC (.bl false)))
  tNext)
  (tSeq (tIfS (tTest (tOp rEq (tOp gMod (tVar 8) (tC (.int 25))) (tC (.int 12))))
  (tSeq (tAsg (tMt (He.ga K "FairQueue") "fork" (sp_FairQueue_fork K) (WE (wB E)) (tVar 4) tNil) (gName 6))
  (tAsg (tVar 5) (gName 7)))
  (tIfS (tAnd (tTest (tOp rNotN (tVar 6) (tC .non))) (tTest (tOp rEq (tCallS (sp_law_digit K) (WE (wB E)) (tCons (tVar 1) (tCons (tC (.int 2)) tNil))) (tC (.int 0)))))
  (tSeq (tAsg (tCallS (sp_law_deed K) (WE (wB E)) (tCons (tVar 6) (tCons (tVar 7) (tCons (tOp gAdd (tC (.int 1000)) (tVar 8)) (tCons (tVar 1) tNil))))) (gName 7))
  (tIfS (tTest (tOp rIsN (tVar 7) (tC .non)))
  (tRet (tC (.bl false)))
  tNext))
  tNext))
  (tIfS (tAnd (tTest (tOp rNotN (tVar 6) (tC .non))) (tNot (tB (tCallS (sp_law_counts K) (WE (wB E)) (tCons (tVar 6) (tCons (tVar 7) tNil))))))
  (tRet (tC (.bl false)))
  tNext))))))
  (tRet (tC (.bl true))))))))))))

end K81

namespace K81
open PySem PySem.Spec PyProof.Rows L2 G
section
variable {P : Program} {w : World} {K : PySem.W.Frag} {mg : Str → Option Value} {base : Heap}

theorem d_Waiting_init (T : TX K mg base)  {cdv : Value} {A : Around} {outer : List Env} {s : Shared} {H : Hp} {E : XK} (hr : Room 0 (A.deeper (envOfC "Waiting.__init__" (defScope s_Waiting_init) s.heap.objs.size (He.ma K (He.ga K "Waiting") "__init__") cdv))) :
    PSs (cxOf (L2.CX P w) P w K mg base N_Waiting_init "Waiting.__init__" (defScope s_Waiting_init) (He.ma K (He.ga K "Waiting") "__init__") cdv A outer s H E) (defBody s_Waiting_init) (t_Waiting_init K E) := by
  have tk : Takes (cxOf (L2.CX P w) P w K mg base N_Waiting_init "Waiting.__init__" (defScope s_Waiting_init) (He.ma K (He.ga K "Waiting") "__init__") cdv A outer s H E) (wB E) := takes_of rfl rfl rfl rfl
  exact (pss_cons (ps_fld (pv 0) (pv 1) rfl)
  (pss_cons (ps_fld (pv 0) (pv 2) rfl)
  (pss_one (ps_fld (pv 0) (pv 3) rfl))))

theorem d_Flow_init (T : TX K mg base)  {cdv : Value} {A : Around} {outer : List Env} {s : Shared} {H : Hp} {E : XK} (hr : Room 0 (A.deeper (envOfC "Flow.__init__" (defScope s_Flow_init) s.heap.objs.size (He.ma K (He.ga K "Flow") "__init__") cdv))) :
    PSs (cxOf (L2.CX P w) P w K mg base N_Flow_init "Flow.__init__" (defScope s_Flow_init) (He.ma K (He.ga K "Flow") "__init__") cdv A outer s H E) (defBody s_Flow_init) (t_Flow_init K E) := by
  have tk : Takes (cxOf (L2.CX P w) P w K mg base N_Flow_init "Flow.__init__" (defScope s_Flow_init) (He.ma K (He.ga K "Flow") "__init__") cdv A outer s H E) (wB E) := takes_of rfl rfl rfl rfl
  exact (pss_cons (ps_fld (pv 0) (pv 1) rfl)
  (pss_cons (ps_fld (pv 0) (pe_lst pa_nil) rfl)
  (pss_cons (ps_fld (pv 0) pe_int rfl)
  (pss_one (ps_fld (pv 0) pe_int rfl)))))

theorem d_Flow_add (T : TX K mg base)  {cdv : Value} {A : Around} {outer : List Env} {s : Shared} {H : Hp} {E : XK} (hr : Room 0 (A.deeper (envOfC "Flow.add" (defScope s_Flow_add) s.heap.objs.size (He.ma K (He.ga K "Flow") "add") cdv))) :
    PSs (cxOf (L2.CX P w) P w K mg base N_Flow_add "Flow.add" (defScope s_Flow_add) (He.ma K (He.ga K "Flow") "add") cdv A outer s H E) (defBody s_Flow_add) (t_Flow_add K E) := by
  have tk : Takes (cxOf (L2.CX P w) P w K mg base N_Flow_add "Flow.add" (defScope s_Flow_add) (He.ma K (He.ga K "Flow") "add") cdv A outer s H E) (wB E) := takes_of rfl rfl rfl rfl
  exact (pss_cons (ps_expr (pe_bm PySem.F.plainAttrs_list PySem.F.slot_list_append PySem.F.type_list_append mt_append (pe_fld (pv 0) rfl) (pa_cons (pv 1) pa_nil)))
  (pss_one (ps_fldaug (pv 0) (pe_fld (pv 1) rfl) in_add)))

theorem d_Flow_take (T : TX K mg base)  {cdv : Value} {A : Around} {outer : List Env} {s : Shared} {H : Hp} {E : XK} (hr : Room 0 (A.deeper (envOfC "Flow.take" (defScope s_Flow_take) s.heap.objs.size (He.ma K (He.ga K "Flow") "take") cdv))) :
    PSs (cxOf (L2.CX P w) P w K mg base N_Flow_take "Flow.take" (defScope s_Flow_take) (He.ma K (He.ga K "Flow") "take") cdv A outer s H E) (defBody s_Flow_take) (t_Flow_take K E) := by
  have tk : Takes (cxOf (L2.CX P w) P w K mg base N_Flow_take "Flow.take" (defScope s_Flow_take) (He.ma K (He.ga K "Flow") "take") cdv A outer s H E) (wB E) := takes_of rfl rfl rfl rfl
  exact (pss_cons (ps_set (i := 2) sc_Flow_take.nd rfl (Or.inl rfl) (pe_bm PySem.F.plainAttrs_list PySem.F.slot_list_pop PySem.F.type_list_pop mt_popAt (pe_fld (pv 0) rfl) (pa_cons (pv 1) pa_nil)))
  (pss_cons (ps_fldaug (pv 0) (pe_fld (pv 2) rfl) in_sub)
  (pss_one (ps_ret (pv 2)))))

theorem d_Flow_fork (T : TX K mg base) (h_Flow_init : HasI P w K mg base 1 "Flow" P_Flow_init (sp_Flow_init K)) {cdv : Value} {A : Around} {outer : List Env} {s : Shared} {H : Hp} {E : XK} (hr : Room 2 (A.deeper (envOfC "Flow.fork" (defScope s_Flow_fork) s.heap.objs.size (He.ma K (He.ga K "Flow") "fork") cdv))) :
    PSs (cxOf (L2.CX P w) P w K mg base N_Flow_fork "Flow.fork" (defScope s_Flow_fork) (He.ma K (He.ga K "Flow") "fork") cdv A outer s H E) (defBody s_Flow_fork) (t_Flow_fork K E) := by
  have tk : Takes (cxOf (L2.CX P w) P w K mg base N_Flow_fork "Flow.fork" (defScope s_Flow_fork) (He.ma K (He.ga K "Flow") "fork") cdv A outer s H E) (wB E) := takes_of rfl rfl rfl rfl
  exact (pss_cons (ps_set (i := 1) sc_Flow_fork.nd rfl (Or.inl rfl) (pe_i h_Flow_init (hr.mono (by decide)) rfl (fun σ => passAt tk σ) (pa_cons (pe_fld (pv 0) rfl) pa_nil)))
  (pss_cons (ps_fld (pv 1) (pe_callTy call_list_of (by rfl) (T.free 1) (by decide +kernel) (pa_cons (pe_fld (pv 0) rfl) pa_nil)) rfl)
  (pss_cons (ps_fld (pv 1) (pe_fld (pv 0) rfl) rfl)
  (pss_cons (ps_fld (pv 1) (pe_fld (pv 0) rfl) rfl)
  (pss_one (ps_ret (pv 1)))))))

theorem d_FairQueue_init (T : TX K mg base)  {cdv : Value} {A : Around} {outer : List Env} {s : Shared} {H : Hp} {E : XK} (hr : Room 0 (A.deeper (envOfC "FairQueue.__init__" (defScope s_FairQueue_init) s.heap.objs.size (He.ma K (He.ga K "FairQueue") "__init__") cdv))) :
    PSs (cxOf (L2.CX P w) P w K mg base N_FairQueue_init "FairQueue.__init__" (defScope s_FairQueue_init) (He.ma K (He.ga K "FairQueue") "__init__") cdv A outer s H E) (defBody s_FairQueue_init) (t_FairQueue_init K E) := by
  have tk : Takes (cxOf (L2.CX P w) P w K mg base N_FairQueue_init "FairQueue.__init__" (defScope s_FairQueue_init) (He.ma K (He.ga K "FairQueue") "__init__") cdv A outer s H E) (wB E) := takes_of rfl rfl rfl rfl
  exact (pss_cons (ps_if (PW.pt (pw_or (pt_cmpR op_lt (pv 1) pe_int (nomark _)) (pw_or1 (pt_cmpR op_lt (pv 2) pe_int (nomark _)))))
  (pss_one (ps_rs rfl tk (T.exc 2 3) rfl))
  pss_nil)
  (pss_cons (ps_fld (pv 0) (pv 1) rfl)
  (pss_cons (ps_fld (pv 0) (pv 2) rfl)
  (pss_cons (ps_fld (pv 0) (pe_lst pa_nil) rfl)
  (pss_one (ps_fld (pv 0) pe_bl rfl))))))

theorem d_FairQueue_count (T : TX K mg base)  {cdv : Value} {A : Around} {outer : List Env} {s : Shared} {H : Hp} {E : XK} (hr : Room 0 (A.deeper (envOfC "FairQueue.count" (defScope s_FairQueue_count) s.heap.objs.size (He.ma K (He.ga K "FairQueue") "count") cdv))) :
    PSs (cxOf (L2.CX P w) P w K mg base N_FairQueue_count "FairQueue.count" (defScope s_FairQueue_count) (He.ma K (He.ga K "FairQueue") "count") cdv A outer s H E) (defBody s_FairQueue_count) (t_FairQueue_count K E) := by
  have tk : Takes (cxOf (L2.CX P w) P w K mg base N_FairQueue_count "FairQueue.count" (defScope s_FairQueue_count) (He.ma K (He.ga K "FairQueue") "count") cdv A outer s H E) (wB E) := takes_of rfl rfl rfl rfl
  exact (pss_one (ps_ret (pe_callB (cr_sum rfl) (by rfl) (T.free 5) (by decide +kernel) (pa_cons (pe_lc (own := [("flow", 1)]) (g := (gName 1)) (tt := tYes) rfl sc_FairQueue_count.nd (pi_list (pe_fld (pv 0) rfl)) (blkOk_by (own := [("flow", 1)]) (N := N_FairQueue_count) (sc := defScope s_FairQueue_count) (by decide +kernel)) (fun _ _ _ _ _ => (pg_name (i := 1) sc_FairQueue_count.nd rfl (Or.inl rfl))) (fun _ _ _ _ _ => pts_nil) (fun _ _ _ _ _ => (pe_callB call_len (by rfl) (T.free 4) PySem.boot_len (pa_cons (pe_fld (pv 1) rfl) pa_nil)))) pa_nil))))

theorem d_FairQueue_octets (T : TX K mg base)  {cdv : Value} {A : Around} {outer : List Env} {s : Shared} {H : Hp} {E : XK} (hr : Room 0 (A.deeper (envOfC "FairQueue.octets" (defScope s_FairQueue_octets) s.heap.objs.size (He.ma K (He.ga K "FairQueue") "octets") cdv))) :
    PSs (cxOf (L2.CX P w) P w K mg base N_FairQueue_octets "FairQueue.octets" (defScope s_FairQueue_octets) (He.ma K (He.ga K "FairQueue") "octets") cdv A outer s H E) (defBody s_FairQueue_octets) (t_FairQueue_octets K E) := by
  have tk : Takes (cxOf (L2.CX P w) P w K mg base N_FairQueue_octets "FairQueue.octets" (defScope s_FairQueue_octets) (He.ma K (He.ga K "FairQueue") "octets") cdv A outer s H E) (wB E) := takes_of rfl rfl rfl rfl
  exact (pss_one (ps_ret (pe_callB (cr_sum rfl) (by rfl) (T.free 5) (by decide +kernel) (pa_cons (pe_lc (own := [("flow", 1)]) (g := (gName 1)) (tt := tYes) rfl sc_FairQueue_octets.nd (pi_list (pe_fld (pv 0) rfl)) (blkOk_by (own := [("flow", 1)]) (N := N_FairQueue_octets) (sc := defScope s_FairQueue_octets) (by decide +kernel)) (fun _ _ _ _ _ => (pg_name (i := 1) sc_FairQueue_octets.nd rfl (Or.inl rfl))) (fun _ _ _ _ _ => pts_nil) (fun _ _ _ _ _ => (pe_fld (pv 1) rfl))) pa_nil))))

theorem d_FairQueue_octets_of (T : TX K mg base) (h_FairQueue_flow_of : HasM P w K mg base 1 "FairQueue" "flow_of" P_FairQueue_flow_of (sp_FairQueue_flow_of K)) {cdv : Value} {A : Around} {outer : List Env} {s : Shared} {H : Hp} {E : XK} (hr : Room 1 (A.deeper (envOfC "FairQueue.octets_of" (defScope s_FairQueue_octets_of) s.heap.objs.size (He.ma K (He.ga K "FairQueue") "octets_of") cdv))) :
    PSs (cxOf (L2.CX P w) P w K mg base N_FairQueue_octets_of "FairQueue.octets_of" (defScope s_FairQueue_octets_of) (He.ma K (He.ga K "FairQueue") "octets_of") cdv A outer s H E) (defBody s_FairQueue_octets_of) (t_FairQueue_octets_of K E) := by
  have tk : Takes (cxOf (L2.CX P w) P w K mg base N_FairQueue_octets_of "FairQueue.octets_of" (defScope s_FairQueue_octets_of) (He.ma K (He.ga K "FairQueue") "octets_of") cdv A outer s H E) (wB E) := takes_of rfl rfl rfl rfl
  exact (pss_cons (ps_set (i := 2) sc_FairQueue_octets_of.nd rfl (Or.inl rfl) (pe_m (pv 0) h_FairQueue_flow_of (hr.mono (by decide)) (fun σ => passAt tk σ) (pa_cons (pv 1) pa_nil)))
  (pss_cons (ps_if (pt_cmpR op_isN1 (pv 2) pe_non (nomark _))
  (pss_one (ps_ret pe_int))
  pss_nil)
  (pss_one (ps_ret (pe_fld (pv 2) rfl)))))

theorem d_FairQueue_flow_of (T : TX K mg base)  {cdv : Value} {A : Around} {outer : List Env} {s : Shared} {H : Hp} {E : XK} (hr : Room 0 (A.deeper (envOfC "FairQueue.flow_of" (defScope s_FairQueue_flow_of) s.heap.objs.size (He.ma K (He.ga K "FairQueue") "flow_of") cdv))) :
    PSs (cxOf (L2.CX P w) P w K mg base N_FairQueue_flow_of "FairQueue.flow_of" (defScope s_FairQueue_flow_of) (He.ma K (He.ga K "FairQueue") "flow_of") cdv A outer s H E) (defBody s_FairQueue_flow_of) (t_FairQueue_flow_of K E) := by
  have tk : Takes (cxOf (L2.CX P w) P w K mg base N_FairQueue_flow_of "FairQueue.flow_of" (defScope s_FairQueue_flow_of) (He.ma K (He.ga K "FairQueue") "flow_of") cdv A outer s H E) (wB E) := takes_of rfl rfl rfl rfl
  have po : PassesOwn (model P w) (cxOf (L2.CX P w) P w K mg base N_FairQueue_flow_of "FairQueue.flow_of" (defScope s_FairQueue_flow_of) (He.ma K (He.ga K "FairQueue") "flow_of") cdv A outer s H E).A (cxOf (L2.CX P w) P w K mg base N_FairQueue_flow_of "FairQueue.flow_of" (defScope s_FairQueue_flow_of) (He.ma K (He.ga K "FairQueue") "flow_of") cdv A outer s H E).env (cxOf (L2.CX P w) P w K mg base N_FairQueue_flow_of "FairQueue.flow_of" (defScope s_FairQueue_flow_of) (He.ma K (He.ga K "FairQueue") "flow_of") cdv A outer s H E).xe := passes_of rfl
  exact (pss_cons (ps_for po rfl (pi_list (pe_fld (pv 0) rfl)) (pg_name (i := 2) sc_FairQueue_flow_of.nd rfl (Or.inl rfl))
  (pss_one (ps_if (pt_cmpR (op_eqD hr.units) (pe_fld (pv 2) rfl) (pv 1) (nomark _))
  (pss_one (ps_ret (pv 2)))
  pss_nil)))
  (pss_one (ps_ret pe_non)))

theorem d_FairQueue_remove_flow (T : TX K mg base)  {cdv : Value} {A : Around} {outer : List Env} {s : Shared} {H : Hp} {E : XK} (hr : Room 0 (A.deeper (envOfC "FairQueue.remove_flow" (defScope s_FairQueue_remove_flow) s.heap.objs.size (He.ma K (He.ga K "FairQueue") "remove_flow") cdv))) :
    PSs (cxOf (L2.CX P w) P w K mg base N_FairQueue_remove_flow "FairQueue.remove_flow" (defScope s_FairQueue_remove_flow) (He.ma K (He.ga K "FairQueue") "remove_flow") cdv A outer s H E) (defBody s_FairQueue_remove_flow) (t_FairQueue_remove_flow K E) := by
  have tk : Takes (cxOf (L2.CX P w) P w K mg base N_FairQueue_remove_flow "FairQueue.remove_flow" (defScope s_FairQueue_remove_flow) (He.ma K (He.ga K "FairQueue") "remove_flow") cdv A outer s H E) (wB E) := takes_of rfl rfl rfl rfl
  exact (pss_cons (ps_delL (pe_fld (pv 0) rfl) (pv 1))
  (pss_one (ps_if (pt_cmpR op_eq (pv 1) pe_int (nomark _))
  (pss_one (ps_fld (pv 0) pe_bl rfl))
  pss_nil)))

theorem d_FairQueue_put (T : TX K mg base) (h_Waiting_init : HasI P w K mg base 1 "Waiting" P_Waiting_init (sp_Waiting_init K)) (h_FairQueue_flow_of : HasM P w K mg base 1 "FairQueue" "flow_of" P_FairQueue_flow_of (sp_FairQueue_flow_of K)) (h_Flow_init : HasI P w K mg base 1 "Flow" P_Flow_init (sp_Flow_init K)) (h_Flow_add : HasM P w K mg base 1 "Flow" "add" P_Flow_add (sp_Flow_add K)) (h_FairQueue_octets : HasM P w K mg base 1 "FairQueue" "octets" P_FairQueue_octets (sp_FairQueue_octets K)) (h_FairQueue_drop : HasM P w K mg base 2 "FairQueue" "drop" P_FairQueue_drop (sp_FairQueue_drop K)) {cdv : Value} {A : Around} {outer : List Env} {s : Shared} {H : Hp} {E : XK} (hr : Room 2 (A.deeper (envOfC "FairQueue.put" (defScope s_FairQueue_put) s.heap.objs.size (He.ma K (He.ga K "FairQueue") "put") cdv))) :
    PSs (cxOf (L2.CX P w) P w K mg base N_FairQueue_put "FairQueue.put" (defScope s_FairQueue_put) (He.ma K (He.ga K "FairQueue") "put") cdv A outer s H E) (defBody s_FairQueue_put) (t_FairQueue_put K E) := by
  have tk : Takes (cxOf (L2.CX P w) P w K mg base N_FairQueue_put "FairQueue.put" (defScope s_FairQueue_put) (He.ma K (He.ga K "FairQueue") "put") cdv A outer s H E) (wB E) := takes_of rfl rfl rfl rfl
  have po : PassesOwn (model P w) (cxOf (L2.CX P w) P w K mg base N_FairQueue_put "FairQueue.put" (defScope s_FairQueue_put) (He.ma K (He.ga K "FairQueue") "put") cdv A outer s H E).A (cxOf (L2.CX P w) P w K mg base N_FairQueue_put "FairQueue.put" (defScope s_FairQueue_put) (He.ma K (He.ga K "FairQueue") "put") cdv A outer s H E).env (cxOf (L2.CX P w) P w K mg base N_FairQueue_put "FairQueue.put" (defScope s_FairQueue_put) (He.ma K (He.ga K "FairQueue") "put") cdv A outer s H E).xe := passes_of rfl
  exact (pss_cons (ps_set (i := 4) sc_FairQueue_put.nd rfl (Or.inl rfl) (pe_i h_Waiting_init (hr.mono (by decide)) rfl (fun σ => passAt tk σ) (pa_cons (pv 1) (pa_cons (pv 2) (pa_cons (pv 3) pa_nil)))))
  (pss_cons (ps_if (pt_cmpR op_gt (pv 3) (pe_fld (pv 0) rfl) (nomark _))
  (pss_one (ps_ret (pe_lst (pa_cons (pv 4) pa_nil))))
  pss_nil)
  (pss_cons (ps_set (i := 5) sc_FairQueue_put.nd rfl (Or.inl rfl) (pe_m (pv 0) h_FairQueue_flow_of (hr.mono (by decide)) (fun σ => passAt tk σ) (pa_cons (pv 1) pa_nil)))
  (Evl.pss_cut (ps_if (pt_cmpR op_isN1 (pv 5) pe_non (nomark _))
  (pss_cons (ps_set (i := 5) sc_FairQueue_put.nd rfl (Or.inl rfl) (pe_i h_Flow_init (hr.mono (by decide)) rfl (fun σ => passAt tk σ) (pa_cons (pv 1) pa_nil)))
  (pss_one (ps_expr (pe_bm PySem.F.plainAttrs_list PySem.F.slot_list_append PySem.F.type_list_append mt_append (pe_fld (pv 0) rfl) (pa_cons (pv 5) pa_nil)))))
  pss_nil)
  (pss_cons (ps_expr (pe_m (pv 5) h_Flow_add (hr.mono (by decide)) (fun σ => passAt tk σ) (pa_cons (pv 4) pa_nil)))
  (pss_cons (ps_set (i := 6) sc_FairQueue_put.nd rfl (Or.inl rfl) (pe_lst pa_nil))
  (pss_cons (ps_while po (pt_cmpR op_gt (pe_m0 (pv 0) h_FairQueue_octets (hr.mono (by decide)) (fun σ => passAt tk σ)) (pe_fld (pv 0) rfl) (nomark _))
  (pss_one (ps_expr (pe_bm PySem.F.plainAttrs_list PySem.F.slot_list_append PySem.F.type_list_append mt_append (pv 6) (pa_cons (pe_m0 (pv 0) h_FairQueue_drop (hr.mono (by decide)) (fun σ => passAt tk σ)) pa_nil)))))
  (pss_one (ps_ret (pv 6))))))))))

theorem d_FairQueue_drop (T : TX K mg base) (h_Flow_take : HasM P w K mg base 1 "Flow" "take" P_Flow_take (sp_Flow_take K)) (h_FairQueue_remove_flow : HasM P w K mg base 1 "FairQueue" "remove_flow" P_FairQueue_remove_flow (sp_FairQueue_remove_flow K)) {cdv : Value} {A : Around} {outer : List Env} {s : Shared} {H : Hp} {E : XK} (hr : Room 1 (A.deeper (envOfC "FairQueue.drop" (defScope s_FairQueue_drop) s.heap.objs.size (He.ma K (He.ga K "FairQueue") "drop") cdv))) :
    PSs (cxOf (L2.CX P w) P w K mg base N_FairQueue_drop "FairQueue.drop" (defScope s_FairQueue_drop) (He.ma K (He.ga K "FairQueue") "drop") cdv A outer s H E) (defBody s_FairQueue_drop) (t_FairQueue_drop K E) := by
  have tk : Takes (cxOf (L2.CX P w) P w K mg base N_FairQueue_drop "FairQueue.drop" (defScope s_FairQueue_drop) (He.ma K (He.ga K "FairQueue") "drop") cdv A outer s H E) (wB E) := takes_of rfl rfl rfl rfl
  have po : PassesOwn (model P w) (cxOf (L2.CX P w) P w K mg base N_FairQueue_drop "FairQueue.drop" (defScope s_FairQueue_drop) (He.ma K (He.ga K "FairQueue") "drop") cdv A outer s H E).A (cxOf (L2.CX P w) P w K mg base N_FairQueue_drop "FairQueue.drop" (defScope s_FairQueue_drop) (He.ma K (He.ga K "FairQueue") "drop") cdv A outer s H E).env (cxOf (L2.CX P w) P w K mg base N_FairQueue_drop "FairQueue.drop" (defScope s_FairQueue_drop) (He.ma K (He.ga K "FairQueue") "drop") cdv A outer s H E).xe := passes_of rfl
  exact (pss_cons (ps_set (i := 1) sc_FairQueue_drop.nd rfl (Or.inl rfl) pe_int)
  (pss_cons (ps_for po rfl (pi_range2 rfl (T.free 6) (pa_cons pe_int (pa_cons (pe_callB call_len (by rfl) (T.free 4) PySem.boot_len (pa_cons (pe_fld (pv 0) rfl) pa_nil)) pa_nil))) (pg_name (i := 2) sc_FairQueue_drop.nd rfl (Or.inl rfl))
  (pss_one (ps_if (pt_cmpR op_gt (pe_fld (pe_ix ix_list (pe_fld (pv 0) rfl) (pv 2) (fun _ _ => rfl)) rfl) (pe_fld (pe_ix ix_list (pe_fld (pv 0) rfl) (pv 1) (fun _ _ => rfl)) rfl) (nomark _))
  (pss_one (ps_set (i := 1) sc_FairQueue_drop.nd rfl (Or.inl rfl) (pv 2)))
  pss_nil)))
  (pss_cons (ps_set (i := 3) sc_FairQueue_drop.nd rfl (Or.inl rfl) (pe_ix ix_list (pe_fld (pv 0) rfl) (pv 1) (fun _ _ => rfl)))
  (pss_cons (ps_set (i := 4) sc_FairQueue_drop.nd rfl (Or.inl rfl) (pe_m (pv 3) h_Flow_take (hr.mono (by decide)) (fun σ => passAt tk σ) (pa_cons (pe_op op_sub (pe_callB call_len (by rfl) (T.free 4) PySem.boot_len (pa_cons (pe_fld (pv 3) rfl) pa_nil)) pe_int) pa_nil)))
  (pss_cons (ps_if (pt_not (pt_truth (pe_fld (pv 3) rfl) (by intro _; rfl)))
  (pss_one (ps_expr (pe_m (pv 0) h_FairQueue_remove_flow (hr.mono (by decide)) (fun σ => passAt tk σ) (pa_cons (pv 1) pa_nil))))
  pss_nil)
  (pss_one (ps_ret (pv 4))))))))

theorem d_FairQueue_turn (T : TX K mg base)  {cdv : Value} {A : Around} {outer : List Env} {s : Shared} {H : Hp} {E : XK} (hr : Room 0 (A.deeper (envOfC "FairQueue.turn" (defScope s_FairQueue_turn) s.heap.objs.size (He.ma K (He.ga K "FairQueue") "turn") cdv))) :
    PSs (cxOf (L2.CX P w) P w K mg base N_FairQueue_turn "FairQueue.turn" (defScope s_FairQueue_turn) (He.ma K (He.ga K "FairQueue") "turn") cdv A outer s H E) (defBody s_FairQueue_turn) (t_FairQueue_turn K E) := by
  have tk : Takes (cxOf (L2.CX P w) P w K mg base N_FairQueue_turn "FairQueue.turn" (defScope s_FairQueue_turn) (He.ma K (He.ga K "FairQueue") "turn") cdv A outer s H E) (wB E) := takes_of rfl rfl rfl rfl
  have po : PassesOwn (model P w) (cxOf (L2.CX P w) P w K mg base N_FairQueue_turn "FairQueue.turn" (defScope s_FairQueue_turn) (He.ma K (He.ga K "FairQueue") "turn") cdv A outer s H E).A (cxOf (L2.CX P w) P w K mg base N_FairQueue_turn "FairQueue.turn" (defScope s_FairQueue_turn) (He.ma K (He.ga K "FairQueue") "turn") cdv A outer s H E).env (cxOf (L2.CX P w) P w K mg base N_FairQueue_turn "FairQueue.turn" (defScope s_FairQueue_turn) (He.ma K (He.ga K "FairQueue") "turn") cdv A outer s H E).xe := passes_of rfl
  exact (pss_one (ps_while po (pt_truth (pe_fld (pv 0) rfl) (by intro _; rfl))
  (pss_cons (ps_set (i := 1) sc_FairQueue_turn.nd rfl (Or.inl rfl) (pe_ix ix_list (pe_fld (pv 0) rfl) pe_int (fun _ _ => rfl)))
  (Evl.pss_cut (ps_if (pt_not (pt_val (pe_fld (pv 0) rfl)))
  (pss_cons (ps_fld (pv 1) (pe_op op_add (pe_fld (pv 1) rfl) (pe_fld (pv 0) rfl)) rfl)
  (pss_one (ps_fld (pv 0) pe_bl rfl)))
  pss_nil)
  (pss_cons (ps_if (pt_cmpR op_le (pe_fld (pe_ix ix_list (pe_fld (pv 1) rfl) pe_int (fun _ _ => rfl)) rfl) (pe_fld (pv 1) rfl) (nomark _))
  (pss_one ps_retN)
  pss_nil)
  (pss_cons (ps_expr (pe_bm PySem.F.plainAttrs_list PySem.F.slot_list_append PySem.F.type_list_append mt_append (pe_fld (pv 0) rfl) (pa_cons (pe_bm PySem.F.plainAttrs_list PySem.F.slot_list_pop PySem.F.type_list_pop mt_popAt (pe_fld (pv 0) rfl) (pa_cons pe_int pa_nil)) pa_nil)))
  (pss_one (ps_fld (pv 0) pe_bl rfl))))))))

theorem d_FairQueue_next_up (T : TX K mg base) (h_FairQueue_turn : HasM P w K mg base 1 "FairQueue" "turn" P_FairQueue_turn (sp_FairQueue_turn K)) {cdv : Value} {A : Around} {outer : List Env} {s : Shared} {H : Hp} {E : XK} (hr : Room 1 (A.deeper (envOfC "FairQueue.next_up" (defScope s_FairQueue_next_up) s.heap.objs.size (He.ma K (He.ga K "FairQueue") "next_up") cdv))) :
    PSs (cxOf (L2.CX P w) P w K mg base N_FairQueue_next_up "FairQueue.next_up" (defScope s_FairQueue_next_up) (He.ma K (He.ga K "FairQueue") "next_up") cdv A outer s H E) (defBody s_FairQueue_next_up) (t_FairQueue_next_up K E) := by
  have tk : Takes (cxOf (L2.CX P w) P w K mg base N_FairQueue_next_up "FairQueue.next_up" (defScope s_FairQueue_next_up) (He.ma K (He.ga K "FairQueue") "next_up") cdv A outer s H E) (wB E) := takes_of rfl rfl rfl rfl
  exact (pss_cons (ps_expr (pe_m0 (pv 0) h_FairQueue_turn (hr.mono (by decide)) (fun σ => passAt tk σ)))
  (pss_cons (ps_if (pt_not (pt_truth (pe_fld (pv 0) rfl) (by intro _; rfl)))
  (pss_one (ps_ret pe_non))
  pss_nil)
  (pss_one (ps_ret (pe_ix ix_list (pe_fld (pe_ix ix_list (pe_fld (pv 0) rfl) pe_int (fun _ _ => rfl)) rfl) pe_int (fun _ _ => rfl))))))

theorem d_FairQueue_take (T : TX K mg base) (h_FairQueue_next_up : HasM P w K mg base 2 "FairQueue" "next_up" P_FairQueue_next_up (sp_FairQueue_next_up K)) (h_Flow_take : HasM P w K mg base 1 "Flow" "take" P_Flow_take (sp_Flow_take K)) (h_FairQueue_remove_flow : HasM P w K mg base 1 "FairQueue" "remove_flow" P_FairQueue_remove_flow (sp_FairQueue_remove_flow K)) {cdv : Value} {A : Around} {outer : List Env} {s : Shared} {H : Hp} {E : XK} (hr : Room 2 (A.deeper (envOfC "FairQueue.take" (defScope s_FairQueue_take) s.heap.objs.size (He.ma K (He.ga K "FairQueue") "take") cdv))) :
    PSs (cxOf (L2.CX P w) P w K mg base N_FairQueue_take "FairQueue.take" (defScope s_FairQueue_take) (He.ma K (He.ga K "FairQueue") "take") cdv A outer s H E) (defBody s_FairQueue_take) (t_FairQueue_take K E) := by
  have tk : Takes (cxOf (L2.CX P w) P w K mg base N_FairQueue_take "FairQueue.take" (defScope s_FairQueue_take) (He.ma K (He.ga K "FairQueue") "take") cdv A outer s H E) (wB E) := takes_of rfl rfl rfl rfl
  exact (pss_cons (ps_set (i := 1) sc_FairQueue_take.nd rfl (Or.inl rfl) (pe_m0 (pv 0) h_FairQueue_next_up (hr.mono (by decide)) (fun σ => passAt tk σ)))
  (pss_cons (ps_if (pt_cmpR op_isN1 (pv 1) pe_non (nomark _))
  (pss_one (ps_ret pe_non))
  pss_nil)
  (pss_cons (ps_set (i := 2) sc_FairQueue_take.nd rfl (Or.inl rfl) (pe_ix ix_list (pe_fld (pv 0) rfl) pe_int (fun _ _ => rfl)))
  (pss_cons (ps_expr (pe_m (pv 2) h_Flow_take (hr.mono (by decide)) (fun σ => passAt tk σ) (pa_cons pe_int pa_nil)))
  (pss_cons (ps_fldaug (pv 2) (pe_fld (pv 1) rfl) in_sub)
  (pss_cons (ps_if (pt_not (pt_truth (pe_fld (pv 2) rfl) (by intro _; rfl)))
  (pss_one (ps_expr (pe_m (pv 0) h_FairQueue_remove_flow (hr.mono (by decide)) (fun σ => passAt tk σ) (pa_cons pe_int pa_nil))))
  pss_nil)
  (pss_one (ps_ret (pv 1)))))))))

theorem d_FairQueue_take_all (T : TX K mg base)  {cdv : Value} {A : Around} {outer : List Env} {s : Shared} {H : Hp} {E : XK} (hr : Room 0 (A.deeper (envOfC "FairQueue.take_all" (defScope s_FairQueue_take_all) s.heap.objs.size (He.ma K (He.ga K "FairQueue") "take_all") cdv))) :
    PSs (cxOf (L2.CX P w) P w K mg base N_FairQueue_take_all "FairQueue.take_all" (defScope s_FairQueue_take_all) (He.ma K (He.ga K "FairQueue") "take_all") cdv A outer s H E) (defBody s_FairQueue_take_all) (t_FairQueue_take_all K E) := by
  have tk : Takes (cxOf (L2.CX P w) P w K mg base N_FairQueue_take_all "FairQueue.take_all" (defScope s_FairQueue_take_all) (He.ma K (He.ga K "FairQueue") "take_all") cdv A outer s H E) (wB E) := takes_of rfl rfl rfl rfl
  have po : PassesOwn (model P w) (cxOf (L2.CX P w) P w K mg base N_FairQueue_take_all "FairQueue.take_all" (defScope s_FairQueue_take_all) (He.ma K (He.ga K "FairQueue") "take_all") cdv A outer s H E).A (cxOf (L2.CX P w) P w K mg base N_FairQueue_take_all "FairQueue.take_all" (defScope s_FairQueue_take_all) (He.ma K (He.ga K "FairQueue") "take_all") cdv A outer s H E).env (cxOf (L2.CX P w) P w K mg base N_FairQueue_take_all "FairQueue.take_all" (defScope s_FairQueue_take_all) (He.ma K (He.ga K "FairQueue") "take_all") cdv A outer s H E).xe := passes_of rfl
  exact (pss_cons (ps_set (i := 1) sc_FairQueue_take_all.nd rfl (Or.inl rfl) (pe_lst pa_nil))
  (pss_cons (ps_for po rfl (pi_list (pe_fld (pv 0) rfl)) (pg_name (i := 2) sc_FairQueue_take_all.nd rfl (Or.inl rfl))
  (pss_one (ps_set (i := 1) sc_FairQueue_take_all.nd rfl (Or.inl rfl) (pe_op op_cat (pv 1) (pe_fld (pv 2) rfl)))))
  (pss_cons (ps_fld (pv 0) (pe_lst pa_nil) rfl)
  (pss_cons (ps_fld (pv 0) pe_bl rfl)
  (pss_one (ps_ret (pv 1)))))))

theorem d_FairQueue_fork (T : TX K mg base) (h_FairQueue_init : HasI P w K mg base 1 "FairQueue" P_FairQueue_init (sp_FairQueue_init K)) (h_Flow_fork : HasM P w K mg base 3 "Flow" "fork" P_Flow_fork (sp_Flow_fork K)) {cdv : Value} {A : Around} {outer : List Env} {s : Shared} {H : Hp} {E : XK} (hr : Room 3 (A.deeper (envOfC "FairQueue.fork" (defScope s_FairQueue_fork) s.heap.objs.size (He.ma K (He.ga K "FairQueue") "fork") cdv))) :
    PSs (cxOf (L2.CX P w) P w K mg base N_FairQueue_fork "FairQueue.fork" (defScope s_FairQueue_fork) (He.ma K (He.ga K "FairQueue") "fork") cdv A outer s H E) (defBody s_FairQueue_fork) (t_FairQueue_fork K E) := by
  have tk : Takes (cxOf (L2.CX P w) P w K mg base N_FairQueue_fork "FairQueue.fork" (defScope s_FairQueue_fork) (He.ma K (He.ga K "FairQueue") "fork") cdv A outer s H E) (wB E) := takes_of rfl rfl rfl rfl
  exact (pss_cons (ps_set (i := 1) sc_FairQueue_fork.nd rfl (Or.inl rfl) (pe_i h_FairQueue_init (hr.mono (by decide)) rfl (fun σ => passAt tk σ) (pa_cons (pe_fld (pv 0) rfl) (pa_cons (pe_fld (pv 0) rfl) pa_nil))))
  (pss_cons (ps_fld (pv 1) (pe_lc (own := [("flow", 2)]) (g := (gName 2)) (tt := tYes) rfl sc_FairQueue_fork.nd (pi_list (pe_fld (pv 0) rfl)) (blkOk_by (own := [("flow", 2)]) (N := N_FairQueue_fork) (sc := defScope s_FairQueue_fork) (by decide +kernel)) (fun _ _ _ _ _ => (pg_name (i := 2) sc_FairQueue_fork.nd rfl (Or.inl rfl))) (fun _ _ _ _ _ => pts_nil) (fun _ _ _ _ _ => (pe_m0 (pv 2) h_Flow_fork (hr.mono (by decide)) (fun σ => passZ σ)))) rfl)
  (pss_cons (ps_fld (pv 1) (pe_fld (pv 0) rfl) rfl)
  (pss_one (ps_ret (pv 1))))))

theorem d_law_cell (T : TX K mg base)  {cdv : Value} {A : Around} {outer : List Env} {s : Shared} {H : Hp} {E : XK} (hr : Room 0 (A.deeper (envOfC "_law_cell" (defScope s_law_cell) s.heap.objs.size (He.ga K "_law_cell") cdv))) :
    PSs (cxOf (L2.CX P w) P w K mg base N_law_cell "_law_cell" (defScope s_law_cell) (He.ga K "_law_cell") cdv A outer s H E) (defBody s_law_cell) (t_law_cell K E) := by
  have tk : Takes (cxOf (L2.CX P w) P w K mg base N_law_cell "_law_cell" (defScope s_law_cell) (He.ga K "_law_cell") cdv A outer s H E) (wB E) := takes_of rfl rfl rfl rfl
  exact (pss_cons (ps_if (pt_cmpR op_lt (pv 1) (pe_callB call_len (by rfl) (T.free 4) PySem.boot_len (pa_cons (pv 0) pa_nil)) (nomark _))
  (pss_one (ps_ret (pe_ix ix_list (pv 0) (pv 1) (fun _ _ => rfl))))
  pss_nil)
  (pss_one (ps_ret pe_int)))

theorem d_law_start (T : TX K mg base)  {cdv : Value} {A : Around} {outer : List Env} {s : Shared} {H : Hp} {E : XK} (hr : Room 0 (A.deeper (envOfC "_law_start" (defScope s_law_start) s.heap.objs.size (He.ga K "_law_start") cdv))) :
    PSs (cxOf (L2.CX P w) P w K mg base N_law_start "_law_start" (defScope s_law_start) (He.ga K "_law_start") cdv A outer s H E) (defBody s_law_start) (t_law_start K E) := by
  have tk : Takes (cxOf (L2.CX P w) P w K mg base N_law_start "_law_start" (defScope s_law_start) (He.ga K "_law_start") cdv A outer s H E) (wB E) := takes_of rfl rfl rfl rfl
  have po : PassesOwn (model P w) (cxOf (L2.CX P w) P w K mg base N_law_start "_law_start" (defScope s_law_start) (He.ga K "_law_start") cdv A outer s H E).A (cxOf (L2.CX P w) P w K mg base N_law_start "_law_start" (defScope s_law_start) (He.ga K "_law_start") cdv A outer s H E).env (cxOf (L2.CX P w) P w K mg base N_law_start "_law_start" (defScope s_law_start) (He.ga K "_law_start") cdv A outer s H E).xe := passes_of rfl
  exact (pss_cons (ps_set (i := 2) sc_law_start.nd rfl (Or.inl rfl) pe_int)
  (pss_cons (ps_if (pt_chain op_lt op_lt (pe_un un_neg pe_int) (pv 0) pe_int)
  (pss_cons (ps_set (i := 3) sc_law_start.nd rfl (Or.inl rfl) (pe_op op_mod (pe_callTy call_int1 (by rfl) (T.free 7) (by decide +kernel) (pa_cons (pe_op op_add (pe_op op_mul (pv 0) pe_int) (pe_op op_mul (pe_op op_add (pv 1) pe_int) pe_int)) pa_nil)) (pv 2)))
  (pss_cons (ps_set (i := 4) sc_law_start.nd rfl (Or.inl rfl) pe_int)
  (pss_cons (ps_for po rfl (pi_range1 rfl (T.free 6) (pa_cons pe_int pa_nil)) (pg_name (i := 5) sc_law_start.nd rfl (Or.inl rfl))
  (pss_cons (ps_set (i := 3) sc_law_start.nd rfl (Or.inl rfl) (pe_op op_mod (pe_callTy call_int1 (by rfl) (T.free 7) (by decide +kernel) (pa_cons (pe_op op_add (pe_op op_add (pe_op op_add (pe_op op_mulW (pv 3) (pv 3)) (pe_op op_mul pe_int (pv 3))) (pv 1)) (pv 5)) pa_nil)) (pv 2)))
  (pss_one (ps_set (i := 4) sc_law_start.nd rfl (Or.inl rfl) (pe_op op_add (pe_op op_mulW (pv 4) (pv 2)) (pv 3))))))
  (pss_one (ps_ret (pe_lst (pa_cons (pv 4) pa_nil)))))))
  pss_nil)
  (pss_one (ps_ret (pe_lst (pa_cons (pv 0) pa_nil))))))

theorem d_law_digit (T : TX K mg base)  {cdv : Value} {A : Around} {outer : List Env} {s : Shared} {H : Hp} {E : XK} (hr : Room 0 (A.deeper (envOfC "_law_digit" (defScope s_law_digit) s.heap.objs.size (He.ga K "_law_digit") cdv))) :
    PSs (cxOf (L2.CX P w) P w K mg base N_law_digit "_law_digit" (defScope s_law_digit) (He.ga K "_law_digit") cdv A outer s H E) (defBody s_law_digit) (t_law_digit K E) := by
  have tk : Takes (cxOf (L2.CX P w) P w K mg base N_law_digit "_law_digit" (defScope s_law_digit) (He.ga K "_law_digit") cdv A outer s H E) (wB E) := takes_of rfl rfl rfl rfl
  exact (pss_cons (ps_set (i := 2) sc_law_digit.nd rfl (Or.inl rfl) (pe_op op_mod (pe_callTy call_int1 (by rfl) (T.free 7) (by decide +kernel) (pa_cons (pe_ix ix_list (pv 0) pe_int (fun _ _ => rfl)) pa_nil)) (pv 1)))
  (pss_cons (ps_asg (pe_op op_fdivW (pe_ix ix_list (pv 0) pe_int (fun _ _ => rfl)) (pv 1)) (pg_sub (pv 0) pe_int set_list))
  (pss_one (ps_ret (pv 2)))))

theorem d_law_size (T : TX K mg base) (h_law_digit : Has P w K mg base 1 "_law_digit" P_law_digit (sp_law_digit K)) {cdv : Value} {A : Around} {outer : List Env} {s : Shared} {H : Hp} {E : XK} (hr : Room 1 (A.deeper (envOfC "_law_size" (defScope s_law_size) s.heap.objs.size (He.ga K "_law_size") cdv))) :
    PSs (cxOf (L2.CX P w) P w K mg base N_law_size "_law_size" (defScope s_law_size) (He.ga K "_law_size") cdv A outer s H E) (defBody s_law_size) (t_law_size K E) := by
  have tk : Takes (cxOf (L2.CX P w) P w K mg base N_law_size "_law_size" (defScope s_law_size) (He.ga K "_law_size") cdv A outer s H E) (wB E) := takes_of rfl rfl rfl rfl
  exact (pss_one (ps_ret (pe_op op_add pe_int (pe_h h_law_digit (hr.mono (by decide)) rfl (fun σ => passAt tk σ) (pa_cons (pv 0) (pa_cons (pe_ix ix_tup (pe_tup (pa_cons pe_int (pa_cons pe_int (pa_cons pe_int pa_nil)))) (pe_h h_law_digit (hr.mono (by decide)) rfl (fun σ => passAt tk σ) (pa_cons (pv 0) (pa_cons pe_int pa_nil))) (fun _ _ => rfl)) pa_nil))))))

theorem d_law_row (T : TX K mg base)  {cdv : Value} {A : Around} {outer : List Env} {s : Shared} {H : Hp} {E : XK} (hr : Room 0 (A.deeper (envOfC "_law_row" (defScope s_law_row) s.heap.objs.size (He.ga K "_law_row") cdv))) :
    PSs (cxOf (L2.CX P w) P w K mg base N_law_row "_law_row" (defScope s_law_row) (He.ga K "_law_row") cdv A outer s H E) (defBody s_law_row) (t_law_row K E) := by
  have tk : Takes (cxOf (L2.CX P w) P w K mg base N_law_row "_law_row" (defScope s_law_row) (He.ga K "_law_row") cdv A outer s H E) (wB E) := takes_of rfl rfl rfl rfl
  exact (pss_one (ps_ret (pe_tup (pa_cons (pe_fld (pv 0) rfl) (pa_cons (pe_fld (pv 0) rfl) (pa_cons (pe_fld (pv 0) rfl) pa_nil))))))

theorem d_law_counts (T : TX K mg base) (h_FairQueue_count : HasM P w K mg base 1 "FairQueue" "count" P_FairQueue_count (sp_FairQueue_count K)) (h_FairQueue_octets : HasM P w K mg base 1 "FairQueue" "octets" P_FairQueue_octets (sp_FairQueue_octets K)) (h_FairQueue_octets_of : HasM P w K mg base 2 "FairQueue" "octets_of" P_FairQueue_octets_of (sp_FairQueue_octets_of K)) {cdv : Value} {A : Around} {outer : List Env} {s : Shared} {H : Hp} {E : XK} (hr : Room 2 (A.deeper (envOfC "_law_counts" (defScope s_law_counts) s.heap.objs.size (He.ga K "_law_counts") cdv))) :
    PSs (cxOf (L2.CX P w) P w K mg base N_law_counts "_law_counts" (defScope s_law_counts) (He.ga K "_law_counts") cdv A outer s H E) (defBody s_law_counts) (t_law_counts K E) := by
  have tk : Takes (cxOf (L2.CX P w) P w K mg base N_law_counts "_law_counts" (defScope s_law_counts) (He.ga K "_law_counts") cdv A outer s H E) (wB E) := takes_of rfl rfl rfl rfl
  have po : PassesOwn (model P w) (cxOf (L2.CX P w) P w K mg base N_law_counts "_law_counts" (defScope s_law_counts) (He.ga K "_law_counts") cdv A outer s H E).A (cxOf (L2.CX P w) P w K mg base N_law_counts "_law_counts" (defScope s_law_counts) (He.ga K "_law_counts") cdv A outer s H E).env (cxOf (L2.CX P w) P w K mg base N_law_counts "_law_counts" (defScope s_law_counts) (He.ga K "_law_counts") cdv A outer s H E).xe := passes_of rfl
  exact (pss_cons (ps_if (PW.pt (pw_or (pt_cmpR op_ne (pe_m0 (pv 0) h_FairQueue_count (hr.mono (by decide)) (fun σ => passAt tk σ)) (pe_callB call_len (by rfl) (T.free 4) PySem.boot_len (pa_cons (pv 1) pa_nil)) (nomark _)) (pw_or1 (pt_cmpR op_ne (pe_m0 (pv 0) h_FairQueue_octets (hr.mono (by decide)) (fun σ => passAt tk σ)) (pe_callB (cr_sum rfl) (by rfl) (T.free 5) (by decide +kernel) (pa_cons (pe_lc (own := [("row", 2)]) (g := (gName 2)) (tt := tYes) rfl sc_law_counts.nd (pi_list (pv 1)) (blkOk_by (own := [("row", 2)]) (N := N_law_counts) (sc := defScope s_law_counts) (by decide +kernel)) (fun _ _ _ _ _ => (pg_name (i := 2) sc_law_counts.nd rfl (Or.inl rfl))) (fun _ _ _ _ _ => pts_nil) (fun _ _ _ _ _ => (pe_ix ix_tup (pv 2) pe_int (fun _ _ => rfl)))) pa_nil)) (nomark _)))))
  (pss_one (ps_ret pe_bl))
  pss_nil)
  (pss_cons (ps_for po rfl (pi_range1 rfl (T.free 6) (pa_cons pe_int pa_nil)) (pg_name (i := 3) sc_law_counts.nd rfl (Or.inr rfl))
  (pss_one (ps_if (pt_cmpR op_ne (pe_m (pv 0) h_FairQueue_octets_of (hr.mono (by decide)) (fun σ => passAt tk σ) (pa_cons (pe_tup (pa_cons pe_str (pa_cons (pv 3) pa_nil))) pa_nil)) (pe_callB (cr_sum rfl) (by rfl) (T.free 5) (by decide +kernel) (pa_cons (pe_lc (own := [("row", 2)]) (g := (gName 2)) (tt := (tTest (tOp (rEqD K) (tOp (rIxT K) (tVar 2) (tC (.int 1))) (tTup (tCons (tC (.str "flow")) (tCons (tVar 3) tNil)))))) rfl sc_law_counts.nd (pi_list (pv 1)) (blkOk_by (own := [("row", 2)]) (N := N_law_counts) (sc := defScope s_law_counts) (by decide +kernel)) (fun _ _ _ _ _ => (pg_name (i := 2) sc_law_counts.nd rfl (Or.inl rfl))) (fun _ _ _ _ _ => (pts_one (pt_cmpR (op_eqD hr.units) (pe_ix ix_tup (pv 2) pe_int (fun _ _ => rfl)) (pe_tup (pa_cons pe_str (pa_cons (pv 3) pa_nil))) (nomark _)))) (fun _ _ _ _ _ => (pe_ix ix_tup (pv 2) pe_int (fun _ _ => rfl)))) pa_nil)) (nomark _))
  (pss_one (ps_ret pe_bl))
  pss_nil)))
  (pss_one (ps_ret (pe_cmpR op_le (pe_m0 (pv 0) h_FairQueue_octets (hr.mono (by decide)) (fun σ => passAt tk σ)) (pe_fld (pv 0) rfl) (nomark _))))))

theorem d_law_put (T : TX K mg base) (h_law_size : Has P w K mg base 2 "_law_size" P_law_size (sp_law_size K)) (h_law_digit : Has P w K mg base 1 "_law_digit" P_law_digit (sp_law_digit K)) (h_FairQueue_put : HasM P w K mg base 3 "FairQueue" "put" P_FairQueue_put (sp_FairQueue_put K)) (h_law_row : Has P w K mg base 1 "_law_row" P_law_row (sp_law_row K)) {cdv : Value} {A : Around} {outer : List Env} {s : Shared} {H : Hp} {E : XK} (hr : Room 3 (A.deeper (envOfC "_law_put" (defScope s_law_put) s.heap.objs.size (He.ga K "_law_put") cdv))) :
    PSs (cxOf (L2.CX P w) P w K mg base N_law_put "_law_put" (defScope s_law_put) (He.ga K "_law_put") cdv A outer s H E) (defBody s_law_put) (t_law_put K E) := by
  have tk : Takes (cxOf (L2.CX P w) P w K mg base N_law_put "_law_put" (defScope s_law_put) (He.ga K "_law_put") cdv A outer s H E) (wB E) := takes_of rfl rfl rfl rfl
  have po : PassesOwn (model P w) (cxOf (L2.CX P w) P w K mg base N_law_put "_law_put" (defScope s_law_put) (He.ga K "_law_put") cdv A outer s H E).A (cxOf (L2.CX P w) P w K mg base N_law_put "_law_put" (defScope s_law_put) (He.ga K "_law_put") cdv A outer s H E).env (cxOf (L2.CX P w) P w K mg base N_law_put "_law_put" (defScope s_law_put) (He.ga K "_law_put") cdv A outer s H E).xe := passes_of rfl
  exact (pss_cons (ps_set (i := 4) sc_law_put.nd rfl (Or.inl rfl) (pe_tup (pa_cons (pv 2) (pa_cons (pe_tup (pa_cons pe_str (pa_cons (pe_h h_law_digit (hr.mono (by decide)) rfl (fun σ => passAt tk σ) (pa_cons (pv 3) (pa_cons pe_int pa_nil))) pa_nil))) (pa_cons (pe_h h_law_size (hr.mono (by decide)) rfl (fun σ => passAt tk σ) (pa_cons (pv 3) pa_nil)) pa_nil)))))
  (pss_cons (ps_set (i := 1) sc_law_put.nd rfl (Or.inl rfl) (pe_op op_cat (pv 1) (pe_lst (pa_cons (pv 4) pa_nil))))
  (pss_cons (ps_setLc (i := 5) (own := [("waiting", 6)]) (g := (gName 6)) (tt := tYes) rfl sc_law_put.nd rfl rfl (sw_true rfl rfl rfl (by decide +kernel)) (pi_list (pe_m (pv 0) h_FairQueue_put (hr.mono (by decide)) (fun σ => passAt tk σ) (pa_cons (pe_ix ix_tup (pv 4) pe_int (fun _ _ => rfl)) (pa_cons (pe_ix ix_tup (pv 4) pe_int (fun _ _ => rfl)) (pa_cons (pe_ix ix_tup (pv 4) pe_int (fun _ _ => rfl)) pa_nil))))) (blkOk_by (own := [("waiting", 6)]) (N := N_law_put) (sc := defScope s_law_put) (by decide +kernel)) (fun _ _ _ _ _ => (pg_name (i := 6) sc_law_put.nd rfl (Or.inl rfl))) (fun _ _ _ _ _ => pts_nil) (fun _ _ _ _ _ => (pe_h h_law_row (hr.mono (by decide)) rfl (fun σ => passZ σ) (pa_cons (pv 6) pa_nil))))
  (pss_cons (ps_if (pt_cmpR op_gt (pe_ix ix_tup (pv 4) pe_int (fun _ _ => rfl)) (pe_fld (pv 0) rfl) (nomark _))
  (pss_cons (ps_if (pt_cmpR (op_neD hr.units) (pv 5) (pe_lst (pa_cons (pv 4) pa_nil)) (nomark _))
  (pss_one (ps_ret pe_non))
  pss_nil)
  (pss_one (ps_ret (pe_slice sl_list (pv 1) po_none (po_some (pe_op op_sub (pe_callB call_len (by rfl) (T.free 4) PySem.boot_len (pa_cons (pv 1) pa_nil)) pe_int))))))
  pss_nil)
  (pss_cons (ps_set (i := 7) sc_law_put.nd rfl (Or.inl rfl) (pe_callB (cr_sum rfl) (by rfl) (T.free 5) (by decide +kernel) (pa_cons (pe_lc (own := [("other", 8)]) (g := (gName 8)) (tt := tYes) rfl sc_law_put.nd (pi_list (pv 1)) (blkOk_by (own := [("other", 8)]) (N := N_law_put) (sc := defScope s_law_put) (by decide +kernel)) (fun _ _ _ _ _ => (pg_name (i := 8) sc_law_put.nd rfl (Or.inl rfl))) (fun _ _ _ _ _ => pts_nil) (fun _ _ _ _ _ => (pe_ix ix_tup (pv 8) pe_int (fun _ _ => rfl)))) pa_nil)))
  (pss_cons (ps_for po rfl (pi_list (pv 5)) (pg_name (i := 9) sc_law_put.nd rfl (Or.inr rfl))
  (pss_cons (ps_if (PW.pt (pw_or (pt_cmpR op_le (pv 7) (pe_fld (pv 0) rfl) (nomark _)) (pw_or1 (pt_cmpR (op_notInD (units65 hr)) (pv 9) (pv 1) (by first | exact nomark _ | rfl | (with_unfolding_all rfl))))))
  (pss_one (ps_ret pe_non))
  pss_nil)
  (pss_cons (ps_if (pt_cmpR (op_neD hr.units) (pv 9) (pe_ix ix_list (pe_lc (own := [("other", 8)]) (g := (gName 8)) (tt := (tTest (tOp (rEqD K) (tOp (rIxT K) (tVar 8) (tC (.int 1))) (tOp (rIxT K) (tVar 9) (tC (.int 1)))))) rfl sc_law_put.nd (pi_list (pv 1)) (blkOk_by (own := [("other", 8)]) (N := N_law_put) (sc := defScope s_law_put) (by decide +kernel)) (fun _ _ _ _ _ => (pg_name (i := 8) sc_law_put.nd rfl (Or.inl rfl))) (fun _ _ _ _ _ => (pts_one (pt_cmpR (op_eqD hr.units) (pe_ix ix_tup (pv 8) pe_int (fun _ _ => rfl)) (pe_ix ix_tup (pv 9) pe_int (fun _ _ => rfl)) (nomark _)))) (fun _ _ _ _ _ => (pv 8))) (pe_un un_neg pe_int) (fun _ _ => rfl)) (nomark _))
  (pss_one (ps_ret pe_non))
  pss_nil)
  (pss_cons (ps_set (i := 7) sc_law_put.nd rfl (Or.inl rfl) (pe_op op_sub (pv 7) (pe_ix ix_tup (pv 9) pe_int (fun _ _ => rfl))))
  (pss_one (ps_setLc (i := 1) (own := [("other", 8)]) (g := (gName 8)) (tt := (tTest (tOp (rNeD K) (tVar 8) (tVar 9)))) rfl sc_law_put.nd rfl rfl (sw_true rfl rfl rfl (by decide +kernel)) (pi_list (pv 1)) (blkOk_by (own := [("other", 8)]) (N := N_law_put) (sc := defScope s_law_put) (by decide +kernel)) (fun _ _ _ _ _ => (pg_name (i := 8) sc_law_put.nd rfl (Or.inl rfl))) (fun _ _ _ _ _ => (pts_one (pt_cmpR (op_neD hr.units) (pv 8) (pv 9) (nomark _)))) (fun _ _ _ _ _ => (pv 8))))))))
  (pss_one (ps_ret (pv 1)))))))))

theorem d_law_take (T : TX K mg base) (h_FairQueue_next_up : HasM P w K mg base 2 "FairQueue" "next_up" P_FairQueue_next_up (sp_FairQueue_next_up K)) (h_law_digit : Has P w K mg base 1 "_law_digit" P_law_digit (sp_law_digit K)) (h_law_row : Has P w K mg base 1 "_law_row" P_law_row (sp_law_row K)) (h_FairQueue_take : HasM P w K mg base 3 "FairQueue" "take" P_FairQueue_take (sp_FairQueue_take K)) {cdv : Value} {A : Around} {outer : List Env} {s : Shared} {H : Hp} {E : XK} (hr : Room 3 (A.deeper (envOfC "_law_take" (defScope s_law_take) s.heap.objs.size (He.ga K "_law_take") cdv))) :
    PSs (cxOf (L2.CX P w) P w K mg base N_law_take "_law_take" (defScope s_law_take) (He.ga K "_law_take") cdv A outer s H E) (defBody s_law_take) (t_law_take K E) := by
  have tk : Takes (cxOf (L2.CX P w) P w K mg base N_law_take "_law_take" (defScope s_law_take) (He.ga K "_law_take") cdv A outer s H E) (wB E) := takes_of rfl rfl rfl rfl
  exact (pss_cons (ps_set (i := 3) sc_law_take.nd rfl (Or.inl rfl) (pe_m0 (pv 0) h_FairQueue_next_up (hr.mono (by decide)) (fun σ => passAt tk σ)))
  (Evl.pss_cut (ps_if (pt_cmpR op_eq (pe_h h_law_digit (hr.mono (by decide)) rfl (fun σ => passAt tk σ) (pa_cons (pv 2) (pa_cons pe_int pa_nil))) pe_int (nomark _))
  (pss_cons (ps_set (i := 4) sc_law_take.nd rfl (Or.inl rfl) (pe_m0 (pv 0) h_FairQueue_next_up (hr.mono (by decide)) (fun σ => passAt tk σ)))
  (pss_one (ps_if (PW.pt (pw_or (pt_cmpR op_ne (pe_cmpR op_isN1 (pv 3) pe_non (nomark _)) (pe_cmpR op_isN1 (pv 4) pe_non (nomark _)) (nomark _)) (pw_or1 (PW.pt (pw_and (pt_cmpR op_notN1 (pv 3) pe_non (nomark _)) (pw_and1 (pt_cmpR (op_neD hr.units) (pe_h h_law_row (hr.mono (by decide)) rfl (fun σ => passAt tk σ) (pa_cons (pv 3) pa_nil)) (pe_h h_law_row (hr.mono (by decide)) rfl (fun σ => passAt tk σ) (pa_cons (pv 4) pa_nil)) (nomark _))))))))
  (pss_one (ps_ret pe_non))
  pss_nil)))
  pss_nil)
  (pss_cons (ps_set (i := 5) sc_law_take.nd rfl (Or.inl rfl) (pe_m0 (pv 0) h_FairQueue_take (hr.mono (by decide)) (fun σ => passAt tk σ)))
  (pss_cons (ps_if (pt_cmpR op_eq (pe_callB call_len (by rfl) (T.free 4) PySem.boot_len (pa_cons (pv 1) pa_nil)) pe_int (nomark _))
  (pss_cons (ps_if (PW.pt (pw_or (pt_cmpR op_notN1 (pv 3) pe_non (nomark _)) (pw_or1 (pt_cmpR op_notN1 (pv 5) pe_non (nomark _)))))
  (pss_one (ps_ret pe_non))
  pss_nil)
  (pss_one (ps_ret (pv 1))))
  pss_nil)
  (pss_cons (ps_if (PW.pt (pw_or (pt_cmpR op_isN1 (pv 5) pe_non (nomark _)) (pw_or (pt_cmpR op_isN1 (pv 3) pe_non (nomark _)) (pw_or1 (pt_cmpR (op_neD hr.units) (pe_h h_law_row (hr.mono (by decide)) rfl (fun σ => passAt tk σ) (pa_cons (pv 3) pa_nil)) (pe_h h_law_row (hr.mono (by decide)) rfl (fun σ => passAt tk σ) (pa_cons (pv 5) pa_nil)) (nomark _))))))
  (pss_one (ps_ret pe_non))
  pss_nil)
  (pss_cons (ps_set (i := 6) sc_law_take.nd rfl (Or.inr rfl) (pe_h h_law_row (hr.mono (by decide)) rfl (fun σ => passAt tk σ) (pa_cons (pv 5) pa_nil)))
  (pss_cons (ps_if (PW.pt (pw_or (pt_cmpR (op_notInD (units65 hr)) (pv 6) (pv 1) (by first | exact nomark _ | rfl | (with_unfolding_all rfl))) (pw_or1 (pt_cmpR (op_neD hr.units) (pv 6) (pe_ix ix_list (pe_lc (own := [("row", 7)]) (g := (gName 7)) (tt := (tTest (tOp (rEqD K) (tOp (rIxT K) (tVar 7) (tC (.int 1))) (tOp (rIxT K) (tVar 6) (tC (.int 1)))))) rfl sc_law_take.nd (pi_list (pv 1)) (blkOk_by (own := [("row", 7)]) (N := N_law_take) (sc := defScope s_law_take) (by decide +kernel)) (fun _ _ _ _ _ => (pg_name (i := 7) sc_law_take.nd rfl (Or.inl rfl))) (fun _ _ _ _ _ => (pts_one (pt_cmpR (op_eqD hr.units) (pe_ix ix_tup (pv 7) pe_int (fun _ _ => rfl)) (pe_ix ix_tup (pv 6) pe_int (fun _ _ => rfl)) (nomark _)))) (fun _ _ _ _ _ => (pv 7))) pe_int (fun _ _ => rfl)) (nomark _)))))
  (pss_one (ps_ret pe_non))
  pss_nil)
  (pss_one (ps_ret (pe_lc (own := [("row", 7)]) (g := (gName 7)) (tt := (tTest (tOp (rNeD K) (tVar 7) (tVar 6)))) rfl sc_law_take.nd (pi_list (pv 1)) (blkOk_by (own := [("row", 7)]) (N := N_law_take) (sc := defScope s_law_take) (by decide +kernel)) (fun _ _ _ _ _ => (pg_name (i := 7) sc_law_take.nd rfl (Or.inl rfl))) (fun _ _ _ _ _ => (pts_one (pt_cmpR (op_neD hr.units) (pv 7) (pv 6) (nomark _)))) (fun _ _ _ _ _ => (pv 7))))))))))))

theorem d_law_cleared (T : TX K mg base) (h_FairQueue_take_all : HasM P w K mg base 1 "FairQueue" "take_all" P_FairQueue_take_all (sp_FairQueue_take_all K)) (h_law_row : Has P w K mg base 1 "_law_row" P_law_row (sp_law_row K)) {cdv : Value} {A : Around} {outer : List Env} {s : Shared} {H : Hp} {E : XK} (hr : Room 1 (A.deeper (envOfC "_law_cleared" (defScope s_law_cleared) s.heap.objs.size (He.ga K "_law_cleared") cdv))) :
    PSs (cxOf (L2.CX P w) P w K mg base N_law_cleared "_law_cleared" (defScope s_law_cleared) (He.ga K "_law_cleared") cdv A outer s H E) (defBody s_law_cleared) (t_law_cleared K E) := by
  have tk : Takes (cxOf (L2.CX P w) P w K mg base N_law_cleared "_law_cleared" (defScope s_law_cleared) (He.ga K "_law_cleared") cdv A outer s H E) (wB E) := takes_of rfl rfl rfl rfl
  have po : PassesOwn (model P w) (cxOf (L2.CX P w) P w K mg base N_law_cleared "_law_cleared" (defScope s_law_cleared) (He.ga K "_law_cleared") cdv A outer s H E).A (cxOf (L2.CX P w) P w K mg base N_law_cleared "_law_cleared" (defScope s_law_cleared) (He.ga K "_law_cleared") cdv A outer s H E).env (cxOf (L2.CX P w) P w K mg base N_law_cleared "_law_cleared" (defScope s_law_cleared) (He.ga K "_law_cleared") cdv A outer s H E).xe := passes_of rfl
  exact (pss_cons (ps_setLc (i := 2) (own := [("waiting", 3)]) (g := (gName 3)) (tt := tYes) rfl sc_law_cleared.nd rfl rfl (sw_true rfl rfl rfl (by decide +kernel)) (pi_list (pe_m0 (pv 0) h_FairQueue_take_all (hr.mono (by decide)) (fun σ => passAt tk σ))) (blkOk_by (own := [("waiting", 3)]) (N := N_law_cleared) (sc := defScope s_law_cleared) (by decide +kernel)) (fun _ _ _ _ _ => (pg_name (i := 3) sc_law_cleared.nd rfl (Or.inl rfl))) (fun _ _ _ _ _ => pts_nil) (fun _ _ _ _ _ => (pe_h h_law_row (hr.mono (by decide)) rfl (fun σ => passZ σ) (pa_cons (pv 3) pa_nil))))
  (pss_cons (ps_if (pt_cmpR (op_neD hr.units) (pe_callB cr_sortedD (by rfl) (T.free 8) (by decide +kernel) (pa_cons (pv 2) pa_nil)) (pe_callB cr_sortedD (by rfl) (T.free 8) (by decide +kernel) (pa_cons (pv 1) pa_nil)) (nomark _))
  (pss_one (ps_ret pe_non))
  pss_nil)
  (pss_cons (ps_for po rfl (pi_range1 rfl (T.free 6) (pa_cons pe_int pa_nil)) (pg_name (i := 4) sc_law_cleared.nd rfl (Or.inr rfl))
  (pss_cons (ps_setLc (i := 5) (own := [("row", 6)]) (g := (gName 6)) (tt := (tTest (tOp (rEqD K) (tOp (rIxT K) (tVar 6) (tC (.int 1))) (tTup (tCons (tC (.str "flow")) (tCons (tVar 4) tNil)))))) rfl sc_law_cleared.nd rfl rfl (sw_true rfl rfl rfl (by decide +kernel)) (pi_list (pv 2)) (blkOk_by (own := [("row", 6)]) (N := N_law_cleared) (sc := defScope s_law_cleared) (by decide +kernel)) (fun _ _ _ _ _ => (pg_name (i := 6) sc_law_cleared.nd rfl (Or.inl rfl))) (fun _ _ _ _ _ => (pts_one (pt_cmpR (op_eqD hr.units) (pe_ix ix_tup (pv 6) pe_int (fun _ _ => rfl)) (pe_tup (pa_cons pe_str (pa_cons (pv 4) pa_nil))) (nomark _)))) (fun _ _ _ _ _ => (pv 6)))
  (pss_one (ps_if (pt_cmpR (op_neD hr.units) (pv 5) (pe_callB cr_sortedD (by rfl) (T.free 8) (by decide +kernel) (pa_cons (pv 5) pa_nil)) (nomark _))
  (pss_one (ps_ret pe_non))
  pss_nil))))
  (pss_one (ps_ret (pe_lst pa_nil))))))

theorem d_law_deed (T : TX K mg base) (h_law_digit : Has P w K mg base 1 "_law_digit" P_law_digit (sp_law_digit K)) (h_law_put : Has P w K mg base 4 "_law_put" P_law_put (sp_law_put K)) (h_law_take : Has P w K mg base 4 "_law_take" P_law_take (sp_law_take K)) (h_law_cleared : Has P w K mg base 2 "_law_cleared" P_law_cleared (sp_law_cleared K)) {cdv : Value} {A : Around} {outer : List Env} {s : Shared} {H : Hp} {E : XK} (hr : Room 4 (A.deeper (envOfC "_law_deed" (defScope s_law_deed) s.heap.objs.size (He.ga K "_law_deed") cdv))) :
    PSs (cxOf (L2.CX P w) P w K mg base N_law_deed "_law_deed" (defScope s_law_deed) (He.ga K "_law_deed") cdv A outer s H E) (defBody s_law_deed) (t_law_deed K E) := by
  have tk : Takes (cxOf (L2.CX P w) P w K mg base N_law_deed "_law_deed" (defScope s_law_deed) (He.ga K "_law_deed") cdv A outer s H E) (wB E) := takes_of rfl rfl rfl rfl
  exact (pss_cons (ps_set (i := 4) sc_law_deed.nd rfl (Or.inl rfl) (pe_h h_law_digit (hr.mono (by decide)) rfl (fun σ => passAt tk σ) (pa_cons (pv 3) (pa_cons pe_int pa_nil))))
  (pss_cons (ps_if (pt_cmpR op_lt (pv 4) pe_int (nomark _))
  (pss_one (ps_ret (pe_h h_law_put (hr.mono (by decide)) rfl (fun σ => passAt tk σ) (pa_cons (pv 0) (pa_cons (pv 1) (pa_cons (pv 2) (pa_cons (pv 3) pa_nil)))))))
  pss_nil)
  (pss_cons (ps_if (pt_cmpR op_lt (pv 4) pe_int (nomark _))
  (pss_one (ps_ret (pe_h h_law_take (hr.mono (by decide)) rfl (fun σ => passAt tk σ) (pa_cons (pv 0) (pa_cons (pv 1) (pa_cons (pv 3) pa_nil))))))
  pss_nil)
  (pss_one (ps_ret (pe_h h_law_cleared (hr.mono (by decide)) rfl (fun σ => passAt tk σ) (pa_cons (pv 0) (pa_cons (pv 1) pa_nil))))))))

theorem d_law_refused (T : TX K mg base) (h_FairQueue_init : HasI P w K mg base 1 "FairQueue" P_FairQueue_init (sp_FairQueue_init K)) {cdv : Value} {A : Around} {outer : List Env} {s : Shared} {H : Hp} {E : XK} (hr : Room 2 (A.deeper (envOfC "_law_refused" (defScope s_law_refused) s.heap.objs.size (He.ga K "_law_refused") cdv))) :
    PSs (cxOf (L2.CX P w) P w K mg base N_law_refused "_law_refused" (defScope s_law_refused) (He.ga K "_law_refused") cdv A outer s H E) (defBody s_law_refused) (t_law_refused K E) := by
  have tk : Takes (cxOf (L2.CX P w) P w K mg base N_law_refused "_law_refused" (defScope s_law_refused) (He.ga K "_law_refused") cdv A outer s H E) (wB E) := takes_of rfl rfl rfl rfl
  exact (pss_cons (ps_try_only (tb := fun W1 => (tDrop (tMk (He.ga K "FairQueue") (sp_FairQueue_init K) (WE W1) (tCons (tVar 0) (tCons (tVar 1) tNil))))) (ts := (fun (aX : Addr) (clX : Value) (dX : Option Addr) => (tRet (tC (.bl true))))) (Wout := (wB E)) rfl rfl ⟨rfl, by decide, .inl (T.glo 3)⟩ tk (fun W1 pn xe tk1 po1 => (pss_one (ps_expr (pe_i h_FairQueue_init (hr.mono (by decide)) rfl (fun σ => passAt tk1 σ) (pa_cons (pv 0) (pa_cons (pv 1) pa_nil)))))) (fun aX oX clX dX pn hzX hfX => (pss_one (ps_ret pe_bl))))
  (pss_one (ps_ret pe_bl)))

theorem d_law (T : TX K mg base) (h_law_start : Has P w K mg base 1 "_law_start" P_law_start (sp_law_start K)) (h_law_cell : Has P w K mg base 1 "_law_cell" P_law_cell (sp_law_cell K)) (h_law_digit : Has P w K mg base 1 "_law_digit" P_law_digit (sp_law_digit K)) (h_law_refused : Has P w K mg base 3 "_law_refused" P_law_refused (sp_law_refused K)) (h_FairQueue_init : HasI P w K mg base 1 "FairQueue" P_FairQueue_init (sp_FairQueue_init K)) (h_law_deed : Has P w K mg base 5 "_law_deed" P_law_deed (sp_law_deed K)) (h_law_counts : Has P w K mg base 3 "_law_counts" P_law_counts (sp_law_counts K)) (h_FairQueue_fork : HasM P w K mg base 4 "FairQueue" "fork" P_FairQueue_fork (sp_FairQueue_fork K)) {cdv : Value} {A : Around} {outer : List Env} {s : Shared} {H : Hp} {E : XK} (hr : Room 5 (A.deeper (envOfC "law" (defScope s_law) s.heap.objs.size (He.ga K "law") cdv))) :
    PSs (cxOf (L2.CX P w) P w K mg base N_law "law" (defScope s_law) (He.ga K "law") cdv A outer s H E) (defBody s_law) (t_law K E) := by
  have tk : Takes (cxOf (L2.CX P w) P w K mg base N_law "law" (defScope s_law) (He.ga K "law") cdv A outer s H E) (wB E) := takes_of rfl rfl rfl rfl
  have po : PassesOwn (model P w) (cxOf (L2.CX P w) P w K mg base N_law "law" (defScope s_law) (He.ga K "law") cdv A outer s H E).A (cxOf (L2.CX P w) P w K mg base N_law "law" (defScope s_law) (He.ga K "law") cdv A outer s H E).env (cxOf (L2.CX P w) P w K mg base N_law "law" (defScope s_law) (He.ga K "law") cdv A outer s H E).xe := passes_of rfl
  exact (pss_cons (ps_set (i := 1) sc_law.nd rfl (Or.inl rfl) (pe_h h_law_start (hr.mono (by decide)) rfl (fun σ => passAt tk σ) (pa_cons (pe_h h_law_cell (hr.mono (by decide)) rfl (fun σ => passAt tk σ) (pa_cons (pv 0) (pa_cons pe_int pa_nil))) (pa_cons pe_int pa_nil))))
  (pss_cons (ps_set (i := 2) sc_law.nd rfl (Or.inl rfl) (pe_op op_add pe_int (pe_h h_law_digit (hr.mono (by decide)) rfl (fun σ => passAt tk σ) (pa_cons (pv 1) (pa_cons pe_int pa_nil)))))
  (pss_cons (ps_set (i := 3) sc_law.nd rfl (Or.inl rfl) (pe_op op_add pe_int (pe_h h_law_digit (hr.mono (by decide)) rfl (fun σ => passAt tk σ) (pa_cons (pv 1) (pa_cons pe_int pa_nil)))))
  (pss_cons (ps_if (PW.pt (pw_or (pt_not (pt_val (pe_h h_law_refused (hr.mono (by decide)) rfl (fun σ => passAt tk σ) (pa_cons pe_int (pa_cons (pv 3) pa_nil))))) (pw_or (pt_not (pt_val (pe_h h_law_refused (hr.mono (by decide)) rfl (fun σ => passAt tk σ) (pa_cons (pv 2) (pa_cons pe_int pa_nil))))) (pw_or1 (pt_val (pe_h h_law_refused (hr.mono (by decide)) rfl (fun σ => passAt tk σ) (pa_cons pe_int (pa_cons pe_int pa_nil))))))))
  (pss_one (ps_ret pe_bl))
  pss_nil)
  (pss_cons (ps_set (i := 4) sc_law.nd rfl (Or.inl rfl) (pe_i h_FairQueue_init (hr.mono (by decide)) rfl (fun σ => passAt tk σ) (pa_cons (pv 2) (pa_cons (pv 3) pa_nil))))
  (pss_cons (ps_set (i := 5) sc_law.nd rfl (Or.inl rfl) (pe_lst pa_nil))
  (pss_cons (ps_set (i := 6) sc_law.nd rfl (Or.inl rfl) pe_non)
  (pss_cons (ps_set (i := 7) sc_law.nd rfl (Or.inl rfl) (pe_lst pa_nil))
  (pss_cons (ps_for po rfl (pi_range1 rfl (T.free 6) (pa_cons (pe_callB (call_min2 rfl) (by rfl) (T.free 9) (by decide +kernel) (pa_cons pe_int (pa_cons (pe_op op_add pe_int (pe_callB call_len (by rfl) (T.free 4) PySem.boot_len (pa_cons (pv 0) pa_nil))) pa_nil))) pa_nil)) (pg_name (i := 8) sc_law.nd rfl (Or.inl rfl))
  (pss_cons (ps_set (i := 1) sc_law.nd rfl (Or.inl rfl) (pe_h h_law_start (hr.mono (by decide)) rfl (fun σ => passAt tk σ) (pa_cons (pe_h h_law_cell (hr.mono (by decide)) rfl (fun σ => passAt tk σ) (pa_cons (pv 0) (pa_cons (pv 8) pa_nil))) (pa_cons (pe_op op_add (pv 8) pe_int) pa_nil))))
  (pss_cons (ps_set (i := 5) sc_law.nd rfl (Or.inl rfl) (pe_h h_law_deed (hr.mono (by decide)) rfl (fun σ => passAt tk σ) (pa_cons (pv 4) (pa_cons (pv 5) (pa_cons (pv 8) (pa_cons (pv 1) pa_nil))))))
  (pss_cons (ps_if (PW.pt (pw_or (pt_cmpR op_isN1 (pv 5) pe_non (nomark _)) (pw_or1 (pt_not (pt_val (pe_h h_law_counts (hr.mono (by decide)) rfl (fun σ => passAt tk σ) (pa_cons (pv 4) (pa_cons (pv 5) pa_nil))))))))
  (pss_one (ps_ret pe_bl))
  pss_nil)
  (pss_cons (ps_if (pt_cmpR op_eq (pe_op op_mod (pv 8) pe_int) pe_int (nomark _))
  (pss_cons (ps_set (i := 6) sc_law.nd rfl (Or.inl rfl) (pe_m0 (pv 4) h_FairQueue_fork (hr.mono (by decide)) (fun σ => passAt tk σ)))
  (pss_one (ps_set (i := 7) sc_law.nd rfl (Or.inl rfl) (pv 5))))
  (pss_one (ps_if (PW.pt (pw_and (pt_cmpR op_notN1 (pv 6) pe_non (nomark _)) (pw_and1 (pt_cmpR op_eq (pe_h h_law_digit (hr.mono (by decide)) rfl (fun σ => passAt tk σ) (pa_cons (pv 1) (pa_cons pe_int pa_nil))) pe_int (nomark _)))))
  (pss_cons (ps_set (i := 7) sc_law.nd rfl (Or.inl rfl) (pe_h h_law_deed (hr.mono (by decide)) rfl (fun σ => passAt tk σ) (pa_cons (pv 6) (pa_cons (pv 7) (pa_cons (pe_op op_add pe_int (pv 8)) (pa_cons (pv 1) pa_nil))))))
  (pss_one (ps_if (pt_cmpR op_isN1 (pv 7) pe_non (nomark _))
  (pss_one (ps_ret pe_bl))
  pss_nil)))
  pss_nil)))
  (pss_one (ps_if (PW.pt (pw_and (pt_cmpR op_notN1 (pv 6) pe_non (nomark _)) (pw_and1 (pt_not (pt_val (pe_h h_law_counts (hr.mono (by decide)) rfl (fun σ => passAt tk σ) (pa_cons (pv 6) (pa_cons (pv 7) pa_nil))))))))
  (pss_one (ps_ret pe_bl))
  pss_nil)))))))
  (pss_one (ps_ret pe_bl)))))))))))

end
end K81

namespace K81
open PySem PySem.Spec PyProof.Rows L2 G
local macro_rules | `(tactic| wtm_at "g_get") => `(tactic| first
  | ((with_reducible refine' w_fld ?k1 (cl_Waiting (by assumption)) (na_Waiting_key (by assumption)) lk_Waiting_key ?_); (case k1 => wtm_at "g_hp"))
  | ((with_reducible refine' w_fld ?k1 (cl_Waiting (by assumption)) (na_Waiting_item (by assumption)) lk_Waiting_item ?_); (case k1 => wtm_at "g_hp"))
  | ((with_reducible refine' w_fld ?k1 (cl_Waiting (by assumption)) (na_Waiting_weight (by assumption)) lk_Waiting_weight ?_); (case k1 => wtm_at "g_hp"))
  | ((with_reducible refine' w_fld ?k1 (cl_Flow (by assumption)) (na_Flow_key (by assumption)) lk_Flow_key ?_); (case k1 => wtm_at "g_hp"))
  | ((with_reducible refine' w_fld ?k1 (cl_Flow (by assumption)) (na_Flow_rows (by assumption)) lk_Flow_rows ?_); (case k1 => wtm_at "g_hp"))
  | ((with_reducible refine' w_fld ?k1 (cl_Flow (by assumption)) (na_Flow_octets (by assumption)) lk_Flow_octets ?_); (case k1 => wtm_at "g_hp"))
  | ((with_reducible refine' w_fld ?k1 (cl_Flow (by assumption)) (na_Flow_credit (by assumption)) lk_Flow_credit ?_); (case k1 => wtm_at "g_hp"))
  | ((with_reducible refine' w_fld ?k1 (cl_FairQueue (by assumption)) (na_FairQueue_limit (by assumption)) lk_FairQueue_limit ?_); (case k1 => wtm_at "g_hp"))
  | ((with_reducible refine' w_fld ?k1 (cl_FairQueue (by assumption)) (na_FairQueue_quantum (by assumption)) lk_FairQueue_quantum ?_); (case k1 => wtm_at "g_hp"))
  | ((with_reducible refine' w_fld ?k1 (cl_FairQueue (by assumption)) (na_FairQueue_flows (by assumption)) lk_FairQueue_flows ?_); (case k1 => wtm_at "g_hp"))
  | ((with_reducible refine' w_fld ?k1 (cl_FairQueue (by assumption)) (na_FairQueue_granted (by assumption)) lk_FairQueue_granted ?_); (case k1 => wtm_at "g_hp"))
  | fail)
local macro_rules | `(tactic| wtm_at "g_set") => `(tactic| first
  | ((with_reducible refine' k_fld ?k1 ?k2 (cl_Waiting (by assumption)) (na_Waiting_key (by assumption)) pt_Waiting_key rfl ?_); (case k1 => wtm_at "g_own"); (case k2 => wtm_at "g_put"); intro HH ww)
  | ((with_reducible refine' k_fld ?k1 ?k2 (cl_Waiting (by assumption)) (na_Waiting_key (by assumption)) pn_Waiting_key rfl ?_); (case k1 => wtm_at "g_own"); (case k2 => wtm_at "g_put"); intro HH ww)
  | ((with_reducible refine' k_fld ?k1 ?k2 (cl_Waiting (by assumption)) (na_Waiting_item (by assumption)) pt_Waiting_item rfl ?_); (case k1 => wtm_at "g_own"); (case k2 => wtm_at "g_put"); intro HH ww)
  | ((with_reducible refine' k_fld ?k1 ?k2 (cl_Waiting (by assumption)) (na_Waiting_item (by assumption)) pn_Waiting_item rfl ?_); (case k1 => wtm_at "g_own"); (case k2 => wtm_at "g_put"); intro HH ww)
  | ((with_reducible refine' k_fld ?k1 ?k2 (cl_Waiting (by assumption)) (na_Waiting_weight (by assumption)) pt_Waiting_weight rfl ?_); (case k1 => wtm_at "g_own"); (case k2 => wtm_at "g_put"); intro HH ww)
  | ((with_reducible refine' k_fld ?k1 ?k2 (cl_Waiting (by assumption)) (na_Waiting_weight (by assumption)) pn_Waiting_weight rfl ?_); (case k1 => wtm_at "g_own"); (case k2 => wtm_at "g_put"); intro HH ww)
  | ((with_reducible refine' k_fld ?k1 ?k2 (cl_Flow (by assumption)) (na_Flow_key (by assumption)) pt_Flow_key rfl ?_); (case k1 => wtm_at "g_own"); (case k2 => wtm_at "g_put"); intro HH ww)
  | ((with_reducible refine' k_fld ?k1 ?k2 (cl_Flow (by assumption)) (na_Flow_key (by assumption)) pn_Flow_key rfl ?_); (case k1 => wtm_at "g_own"); (case k2 => wtm_at "g_put"); intro HH ww)
  | ((with_reducible refine' k_fld ?k1 ?k2 (cl_Flow (by assumption)) (na_Flow_rows (by assumption)) pt_Flow_rows rfl ?_); (case k1 => wtm_at "g_own"); (case k2 => wtm_at "g_put"); intro HH ww)
  | ((with_reducible refine' k_fld ?k1 ?k2 (cl_Flow (by assumption)) (na_Flow_rows (by assumption)) pn_Flow_rows rfl ?_); (case k1 => wtm_at "g_own"); (case k2 => wtm_at "g_put"); intro HH ww)
  | ((with_reducible refine' k_fld ?k1 ?k2 (cl_Flow (by assumption)) (na_Flow_octets (by assumption)) pt_Flow_octets rfl ?_); (case k1 => wtm_at "g_own"); (case k2 => wtm_at "g_put"); intro HH ww)
  | ((with_reducible refine' k_fld ?k1 ?k2 (cl_Flow (by assumption)) (na_Flow_octets (by assumption)) pn_Flow_octets rfl ?_); (case k1 => wtm_at "g_own"); (case k2 => wtm_at "g_put"); intro HH ww)
  | ((with_reducible refine' k_fld ?k1 ?k2 (cl_Flow (by assumption)) (na_Flow_credit (by assumption)) pt_Flow_credit rfl ?_); (case k1 => wtm_at "g_own"); (case k2 => wtm_at "g_put"); intro HH ww)
  | ((with_reducible refine' k_fld ?k1 ?k2 (cl_Flow (by assumption)) (na_Flow_credit (by assumption)) pn_Flow_credit rfl ?_); (case k1 => wtm_at "g_own"); (case k2 => wtm_at "g_put"); intro HH ww)
  | ((with_reducible refine' k_fld ?k1 ?k2 (cl_FairQueue (by assumption)) (na_FairQueue_limit (by assumption)) pt_FairQueue_limit rfl ?_); (case k1 => wtm_at "g_own"); (case k2 => wtm_at "g_put"); intro HH ww)
  | ((with_reducible refine' k_fld ?k1 ?k2 (cl_FairQueue (by assumption)) (na_FairQueue_limit (by assumption)) pn_FairQueue_limit rfl ?_); (case k1 => wtm_at "g_own"); (case k2 => wtm_at "g_put"); intro HH ww)
  | ((with_reducible refine' k_fld ?k1 ?k2 (cl_FairQueue (by assumption)) (na_FairQueue_quantum (by assumption)) pt_FairQueue_quantum rfl ?_); (case k1 => wtm_at "g_own"); (case k2 => wtm_at "g_put"); intro HH ww)
  | ((with_reducible refine' k_fld ?k1 ?k2 (cl_FairQueue (by assumption)) (na_FairQueue_quantum (by assumption)) pn_FairQueue_quantum rfl ?_); (case k1 => wtm_at "g_own"); (case k2 => wtm_at "g_put"); intro HH ww)
  | ((with_reducible refine' k_fld ?k1 ?k2 (cl_FairQueue (by assumption)) (na_FairQueue_flows (by assumption)) pt_FairQueue_flows rfl ?_); (case k1 => wtm_at "g_own"); (case k2 => wtm_at "g_put"); intro HH ww)
  | ((with_reducible refine' k_fld ?k1 ?k2 (cl_FairQueue (by assumption)) (na_FairQueue_flows (by assumption)) pn_FairQueue_flows rfl ?_); (case k1 => wtm_at "g_own"); (case k2 => wtm_at "g_put"); intro HH ww)
  | ((with_reducible refine' k_fld ?k1 ?k2 (cl_FairQueue (by assumption)) (na_FairQueue_granted (by assumption)) pt_FairQueue_granted rfl ?_); (case k1 => wtm_at "g_own"); (case k2 => wtm_at "g_put"); intro HH ww)
  | ((with_reducible refine' k_fld ?k1 ?k2 (cl_FairQueue (by assumption)) (na_FairQueue_granted (by assumption)) pn_FairQueue_granted rfl ?_); (case k1 => wtm_at "g_own"); (case k2 => wtm_at "g_put"); intro HH ww)
  | fail)
local macro_rules | `(tactic| wtm_at "g_set2") => `(tactic| first
  | ((with_reducible refine' k_fa ?k1 ?k2 pt_Waiting_key rfl ?_); (case k1 => wtm_at "g_own"); (case k2 => wtm_at "g_put"); intro HH ww)
  | ((with_reducible refine' k_fa ?k1 ?k2 pt_Waiting_item rfl ?_); (case k1 => wtm_at "g_own"); (case k2 => wtm_at "g_put"); intro HH ww)
  | ((with_reducible refine' k_fa ?k1 ?k2 pt_Waiting_weight rfl ?_); (case k1 => wtm_at "g_own"); (case k2 => wtm_at "g_put"); intro HH ww)
  | ((with_reducible refine' k_fa ?k1 ?k2 pt_Flow_key rfl ?_); (case k1 => wtm_at "g_own"); (case k2 => wtm_at "g_put"); intro HH ww)
  | ((with_reducible refine' k_fa ?k1 ?k2 pt_Flow_rows rfl ?_); (case k1 => wtm_at "g_own"); (case k2 => wtm_at "g_put"); intro HH ww)
  | ((with_reducible refine' k_fa ?k1 ?k2 pt_Flow_octets rfl ?_); (case k1 => wtm_at "g_own"); (case k2 => wtm_at "g_put"); intro HH ww)
  | ((with_reducible refine' k_fa ?k1 ?k2 pt_Flow_credit rfl ?_); (case k1 => wtm_at "g_own"); (case k2 => wtm_at "g_put"); intro HH ww)
  | ((with_reducible refine' k_fa ?k1 ?k2 pt_FairQueue_limit rfl ?_); (case k1 => wtm_at "g_own"); (case k2 => wtm_at "g_put"); intro HH ww)
  | ((with_reducible refine' k_fa ?k1 ?k2 pt_FairQueue_quantum rfl ?_); (case k1 => wtm_at "g_own"); (case k2 => wtm_at "g_put"); intro HH ww)
  | ((with_reducible refine' k_fa ?k1 ?k2 pt_FairQueue_flows rfl ?_); (case k1 => wtm_at "g_own"); (case k2 => wtm_at "g_put"); intro HH ww)
  | ((with_reducible refine' k_fa ?k1 ?k2 pt_FairQueue_granted rfl ?_); (case k1 => wtm_at "g_own"); (case k2 => wtm_at "g_put"); intro HH ww)
  | fail)
local macro_rules | `(tactic| wtm_at "g_mt") => `(tactic| first
  | ((with_reducible refine' w_mt1 ?k1 ln_Flow_add ?_); (case k1 => wtm_at "g_hp"))
  | ((with_reducible refine' w_mt1 ?k1 ln_Flow_take ?_); (case k1 => wtm_at "g_hp"))
  | ((with_reducible refine' w_mt1 ?k1 ln_Flow_fork ?_); (case k1 => wtm_at "g_hp"))
  | ((with_reducible refine' w_mt1 ?k1 ln_FairQueue_count ?_); (case k1 => wtm_at "g_hp"))
  | ((with_reducible refine' w_mt1 ?k1 ln_FairQueue_octets ?_); (case k1 => wtm_at "g_hp"))
  | ((with_reducible refine' w_mt1 ?k1 ln_FairQueue_octets_of ?_); (case k1 => wtm_at "g_hp"))
  | ((with_reducible refine' w_mt1 ?k1 ln_FairQueue_flow_of ?_); (case k1 => wtm_at "g_hp"))
  | ((with_reducible refine' w_mt1 ?k1 ln_FairQueue_remove_flow ?_); (case k1 => wtm_at "g_hp"))
  | ((with_reducible refine' w_mt1 ?k1 ln_FairQueue_put ?_); (case k1 => wtm_at "g_hp"))
  | ((with_reducible refine' w_mt1 ?k1 ln_FairQueue_drop ?_); (case k1 => wtm_at "g_hp"))
  | ((with_reducible refine' w_mt1 ?k1 ln_FairQueue_turn ?_); (case k1 => wtm_at "g_hp"))
  | ((with_reducible refine' w_mt1 ?k1 ln_FairQueue_next_up ?_); (case k1 => wtm_at "g_hp"))
  | ((with_reducible refine' w_mt1 ?k1 ln_FairQueue_take ?_); (case k1 => wtm_at "g_hp"))
  | ((with_reducible refine' w_mt1 ?k1 ln_FairQueue_take_all ?_); (case k1 => wtm_at "g_hp"))
  | ((with_reducible refine' w_mt1 ?k1 ln_FairQueue_fork ?_); (case k1 => wtm_at "g_hp"))
  | fail)
local macro_rules | `(tactic| wtm_at "g_mkk") => `(tactic| first
  | fail
  | fail)
local macro_rules | `(tactic| wtm_at "g_callf") => `(tactic| first
  | ((with_reducible refine' c_Waiting_init ?k1 ?k2 ?k3 ?_); (case k1 => wtm_at "g_own"); (case k2 => wtm_at "g_pk"); (case k3 => wtm_at "g_pk"); intro HH ww)
  | ((with_reducible refine' c_Flow_init ?k1 ?k2 ?k3 ?_); (case k1 => wtm_at "g_own"); (case k2 => wtm_at "g_pk"); (case k3 => wtm_at "g_pk"); intro HH ww)
  | ((with_reducible refine' c_octets ?k0 ?k1 ?k2 ?_); (case k1 => wtm_at "g_own"); (case k2 => wtm_at "g_pk"); (case k0 => omega); intro HH ww)
  | ((with_reducible refine' w_fldT tell_qu_lim ?k1 ?k2 (cl_FairQueue (by assumption)) (na_FairQueue_limit (by assumption)) ?_); (case k1 => wtm_at "g_own"); (case k2 => wtm_at "g_pk"); intro dz fz; (try clear fz dz))
  | ((with_reducible refine' w_fldT tell_qu_q ?k1 ?k2 (cl_FairQueue (by assumption)) (na_FairQueue_quantum (by assumption)) ?_); (case k1 => wtm_at "g_own"); (case k2 => wtm_at "g_pk"); intro dz fz; (try clear fz dz))
  | ((with_reducible refine' w_fldT tell_wt_w ?k1 ?k2 (cl_Waiting (by assumption)) (na_Waiting_weight (by assumption)) ?_); (case k1 => wtm_at "g_own"); (case k2 => wtm_at "g_pk"); intro dz fz; (try clear fz dz))
  | ((with_reducible refine' w_fldT tell_wt_i ?k1 ?k2 (cl_Waiting (by assumption)) (na_Waiting_item (by assumption)) ?_); (case k1 => wtm_at "g_own"); (case k2 => wtm_at "g_pk"); intro dz fz; (try clear fz dz))
  | ((with_reducible refine' w_mtT (tell_qu_m ln_FairQueue_octets) ?k1 ?k2 ?_); (case k1 => wtm_at "g_own"); (case k2 => wtm_at "g_pk"))
  | ((with_reducible refine' w_mtT (tell_qu_m ln_FairQueue_drop) ?k1 ?k2 ?_); (case k1 => wtm_at "g_own"); (case k2 => wtm_at "g_pk"))
  | ((with_reducible refine' w_mtT (tell_qu_m ln_FairQueue_turn) ?k1 ?k2 ?_); (case k1 => wtm_at "g_own"); (case k2 => wtm_at "g_pk"))
  | ((with_reducible refine' w_mtT (tell_qu_m ln_FairQueue_next_up) ?k1 ?k2 ?_); (case k1 => wtm_at "g_own"); (case k2 => wtm_at "g_pk"))
  | ((with_reducible refine' w_mtT (tell_qu_m ln_FairQueue_remove_flow) ?k1 ?k2 ?_); (case k1 => wtm_at "g_own"); (case k2 => wtm_at "g_pk"))
  | ((with_reducible refine' w_mtT (tell_fl_m ln_Flow_add) ?k1 ?k2 ?_); (case k1 => wtm_at "g_own"); (case k2 => wtm_at "g_pk"))
  | ((with_reducible refine' w_mtT (tell_fl_m ln_Flow_take) ?k1 ?k2 ?_); (case k1 => wtm_at "g_own"); (case k2 => wtm_at "g_pk"))
  | fail)
local macro_rules | `(tactic| wtm_at "g_call") => `(tactic| first
  | wtm_at "g_callf"
  | ((with_reducible refine' w_mtT (tell_qu_m ln_FairQueue_count) ?k1 ?k2 ?_); (case k1 => wtm_at "g_own"); (case k2 => wtm_at "g_pk"))
  | ((with_reducible refine' w_mtT (tell_qu_m ln_FairQueue_octets_of) ?k1 ?k2 ?_); (case k1 => wtm_at "g_own"); (case k2 => wtm_at "g_pk"))
  | ((with_reducible refine' w_mtT (tell_qu_m ln_FairQueue_flow_of) ?k1 ?k2 ?_); (case k1 => wtm_at "g_own"); (case k2 => wtm_at "g_pk"))
  | ((with_reducible refine' w_mtT (tell_qu_m ln_FairQueue_put) ?k1 ?k2 ?_); (case k1 => wtm_at "g_own"); (case k2 => wtm_at "g_pk"))
  | ((with_reducible refine' w_mtT (tell_qu_m ln_FairQueue_take) ?k1 ?k2 ?_); (case k1 => wtm_at "g_own"); (case k2 => wtm_at "g_pk"))
  | ((with_reducible refine' w_mtT (tell_qu_m ln_FairQueue_take_all) ?k1 ?k2 ?_); (case k1 => wtm_at "g_own"); (case k2 => wtm_at "g_pk"))
  | ((with_reducible refine' w_mtT (tell_qu_m ln_FairQueue_fork) ?k1 ?k2 ?_); (case k1 => wtm_at "g_own"); (case k2 => wtm_at "g_pk"))
  | ((with_reducible refine' w_mtT (tell_fl_m ln_Flow_fork) ?k1 ?k2 ?_); (case k1 => wtm_at "g_own"); (case k2 => wtm_at "g_pk"))
  | fail)
local macro_rules | `(tactic| wtm_at "g_own") => `(tactic| first
  | (with_reducible assumption)
  | ((with_reducible refine' Own.newT ?k1 ?k2); (case k1 => with_reducible assumption); (case k2 => wtm_at "g_own"))
  | ((with_reducible refine' Own.new ?k1 ?k2); (case k1 => with_reducible assumption); (case k2 => wtm_at "g_own"))
  | ((with_reducible refine' Own.put ?k1 ?k2); (case k1 => wtm_at "g_own"); (case k2 => wtm_at "g_put"))
  | ((with_reducible refine' Own.sel ?k1 ?k2); (case k1 => with_reducible assumption); (case k2 => wtm_at "g_sel"))
  | fail)
local macro_rules | `(tactic| wtm_at "g_sel") => `(tactic| first
  | (with_reducible exact Sel.rf) | (with_reducible exact Sel.nil)
  | ((with_reducible refine' Sel.cons ?k1 ?k2); (case k1 => wtm_at "g_pk"); (case k2 => wtm_at "g_sel"))
  | ((with_reducible refine' Sel.drop ?k1); (case k1 => wtm_at "g_sel"))
  | fail)
local macro_rules | `(tactic| wtm_at "g_got") => `(tactic| first
  | (with_reducible assumption) | (with_reducible exact Got.here)
  | ((with_reducible refine' Got.next ?k1); (case k1 => wtm_at "g_got"))
  | fail)
local macro_rules | `(tactic| wtm_at "g_gl") => `(tactic| first
  | (with_reducible assumption) | (with_reducible exact GotL.here) | (with_reducible exact GotL.hereS)
  | ((with_reducible refine' GotL.next ?k1); (case k1 => wtm_at "g_gl"))
  | fail)
local macro_rules | `(tactic| wtm_at "g_put") => `(tactic| first
  | (with_reducible assumption) | (with_reducible exact Put.here)
  | ((with_reducible refine' Put.next ?k1); (case k1 => wtm_at "g_put"))
  | fail)
local macro_rules | `(tactic| wtm_at "g_pk") => `(tactic| first
  | (with_reducible assumption) | (with_reducible exact Pick.keep) | (with_reducible exact Pick.here)
  | ((with_reducible refine' Pick.next ?k1); (case k1 => wtm_at "g_pk"))
  | fail)
local macro_rules | `(tactic| wtm_at "g_hp") => `(tactic| first
  | (with_reducible assumption) | (with_reducible exact upd_same)
  | ((with_reducible refine' Own.get ?k1 ?k2); (case k1 => wtm_at "g_own"); (case k2 => wtm_at "g_got"))
  | fail)
local macro_rules | `(tactic| wtm_at "g_sq") => `(tactic| first
  | (with_reducible assumption)
  | ((with_reducible refine' Own.sql ?k1 ?k2); (case k1 => wtm_at "g_own"); (case k2 => wtm_at "g_gl"))
  | ((with_reducible refine' SqL.of ?k1); (case k1 => wtm_at "g_hp"))
  | fail)
local macro_rules | `(tactic| wtm_at "g_sqt") => `(tactic| first
  | (with_reducible assumption) | ((with_reducible refine' SqT.of' ?k1); (case k1 => wtm_at "g_hp"))
  | fail)
local macro_rules | `(tactic| wtm_at "g_sz") => `(tactic| first
  | (with_reducible assumption) | (exact small_le rfl)
  | ((with_reducible refine' small16 ?k1); (case k1 => (try simp only [List.length_append, List.length_map, List.length_cons, List.length_nil, List.length_take, List.length_drop, List.length_set, List.length_range]); omega))
  | ((with_reducible refine' small16l ?k1); (case k1 => (try simp only [List.length_append, List.length_map, List.length_cons, List.length_nil, List.length_take, List.length_drop, List.length_set, List.length_range]); omega))
  | fail)
local macro_rules | `(tactic| wtm_at "g_gd") => `(tactic| first
  | (with_reducible assumption) | (with_reducible exact GotD.here) | (with_reducible exact GotD.hereR) | (with_reducible exact GotD.ints)
  | ((with_reducible refine' GotD.next ?k1); (case k1 => wtm_at "g_gd"))
  | fail)
local macro_rules | `(tactic| wtm_at "g_dp") => `(tactic| first
  | (with_reducible assumption)
  | ((with_reducible refine' Own.dpG ?k1 ?k2); (case k1 => wtm_at "g_own"); (case k2 => wtm_at "g_gd"))
  | fail)
local macro_rules | `(tactic| wtm_at "g_ar") => `(tactic| first
  | decide | (exact ⟨by decide, by decide⟩) | (exact Or.inr ⟨by decide, by decide⟩) | (exact Or.inl ⟨by decide, by decide⟩) | omega | (exact Or.inr ⟨by omega, by omega⟩) | (exact Or.inl ⟨by omega, by omega⟩) | (exact ⟨by omega, by omega⟩)
  | fail)
local macro_rules | `(tactic| wtm_at "g_ow") => `(tactic| first
  | wtm_at "g_own"
  | ((simp only [List.map_cons, List.map_nil]); wtm_at "g_own")
  | fail)
local macro_rules | `(tactic| wtm_at "g_callc") => `(tactic| first
  | ((with_reducible refine' o_digit ?k1 ?k2 ?k3 ?k4 ?_); (case k1 => wtm_at "g_own"); (case k2 => wtm_at "g_pk"); (case k3 => omega); (case k4 => omega); intro d HH d0 d1 ww)
  | ((with_reducible refine' o_start ?k1 ?_); (case k1 => wtm_at "g_own"); intro p HH ww)
  | ((with_reducible refine' c_cell ?k1 ?k2 ?_); (case k1 => wtm_at "g_sq"); (case k2 => omega); intro n)
  | ((with_reducible refine' c_isint ?_))
  | fail)
local macro_rules | `(tactic| wtm_at "g_st") => `(tactic| first
  | (with_reducible first
      | refine w_seq ?_ | refine w_asg ?_ | refine w_nm ?_ | refine w_next ?_ | refine w_if ?_ | refine w_ret ?_ | refine w_retN ?_ | refine w_drop ?_
      | refine w_var rfl ?_ | refine w_c ?_ | refine w_op ?_ | refine w_I0 ?_
      | refine w_eqI ?_ | refine w_neI ?_ | refine w_eqB ?_ | refine w_neB ?_ | refine w_eqS ?_ | refine w_neS ?_ | refine w_isN0 ?_ | refine w_isNi ?_ | refine w_isNr ?_ | refine w_isNb ?_ | refine w_isNs ?_ | refine w_notN0 ?_ | refine w_notNi ?_ | refine w_notNr ?_ | refine w_notNb ?_ | refine w_notNs ?_ | refine w_isN ?_ | refine w_notN ?_ | refine w_isB ?_ | refine w_notB ?_
      | refine w_un ?_ | refine w_U ?_ | refine w_chain ?_ | refine w_k ?_ | refine w_test ?_ | refine w_tB ?_ | refine w_tru ?_ | refine w_not ?_ | refine w_and ?_ | refine w_or ?_
      | refine w_andV ?_ | refine w_orV ?_ | refine w_notV ?_ | refine w_ife ?_ | refine w_nil ?_ | refine w_cons ?_ | refine w_tupK ?_ | refine w_lstK ?_ | refine w_small rfl ?_
      | refine w_call ?_ | refine w_mkQ ?_ | refine w_mt ?_ | refine k_ini ?_ | refine w_cb ?_ | refine w_min2 ?_ | refine w_max2 ?_ | refine w_abs ?_ | refine w_int ?_ | refine w_intb ?_
      | refine w_fld0 ?_ | refine w_bm ?_ | refine w_bm0 ?_ | refine w_sub ?_ | refine w_sfldQ ?_ | refine w_sfaQ ?_ | refine w_delQ ?_ | refine k_whT ?_ | refine w_radd ?_ | refine w_rsub ?_ | refine w_ip ?_ | refine w_rs ?_ | refine w_pr ?_
      | refine w_lcR1 ?_ | refine w_lcR2 ?_ | refine w_lcL ?_ | refine w_lcT ?_ | refine w_yes ?_ | refine w_disp ?_ | refine w_prs ?_ | refine w_prn ?_ | refine w_dget ?_ | refine w_sl ?_ | refine w_nopart ?_ | refine w_part ?_ | refine w_pint ?_
      | refine w_for3 ?_ | refine w_mkKQ ?_ | refine w_forR1 ?_ | refine w_forR2 ?_ | refine w_forL ?_ | refine w_forT ?_ | refine w_aug rfl ?_ | refine w_par ?_ | refine w_brk ?_ | refine w_cont ?_
      | refine w_isi_ii ?_ | refine w_isi_ib ?_ | refine w_isi_bi ?_ | refine w_isi_bb ?_ | refine w_isi_ss ?_ | refine w_isi_is ?_ | refine w_isi_il ?_ | refine w_isi_it ?_ | refine w_isi_sl ?_ | refine w_isi_st ?_ | refine w_isi_nl ?_ | refine w_isi_nt ?_
      | refine if_T ?_ | refine if_F ?_ | refine if_nT ?_ | refine if_nF ?_)
  | ((with_reducible refine' k_tup rfl ?k1 ?_); (case k1 => wtm_at "g_own"); intro p HH ww)
  | ((with_reducible refine' k_lst1R ?k1 ?_); (case k1 => wtm_at "g_own"); intro p HH ww)
  | ((with_reducible refine' k_lst1I ?k1 ?_); (case k1 => wtm_at "g_own"); intro p HH ww)
  | ((with_reducible refine' k_lst rfl ?k1 ?_); (case k1 => wtm_at "g_own"); intro p HH ww)
  | ((with_reducible refine' k_mk ?k1 ?_); (case k1 => wtm_at "g_own"); intro p dx HH ww)
  | wtm_at "g_mkk"
  | ((with_reducible refine' k_listL ?k1 ?k2 ?_); (case k1 => wtm_at "g_own"); (case k2 => wtm_at "g_sq"); intro p HH ww)
  | ((with_reducible refine' k_listT ?k1 ?k2 ?_); (case k1 => wtm_at "g_own"); (case k2 => wtm_at "g_sqt"); intro p HH ww)
  | ((with_reducible refine' k_tupL ?k1 ?k2 ?_); (case k1 => wtm_at "g_own"); (case k2 => wtm_at "g_sq"); intro p HH ww)
  | ((with_reducible refine' k_slfromRs ?k1 ?k2 ?_); (case k1 => wtm_at "g_own"); (case k2 => wtm_at "g_sq"); intro p HH ww)
  | ((with_reducible refine' k_slfromR1 ?k1 ?k2 ?_); (case k1 => wtm_at "g_own"); (case k2 => wtm_at "g_sq"); intro p HH ww)
  | ((with_reducible refine' k_slfromRn ?k1 ?k2 ?_); (case k1 => wtm_at "g_own"); (case k2 => wtm_at "g_sq"); intro p HH ww)
  | ((with_reducible refine' k_sltoR1 ?k1 ?k2 ?_); (case k1 => wtm_at "g_own"); (case k2 => wtm_at "g_sq"); intro p HH ww)
  | ((with_reducible refine' k_sltoRn ?k1 ?k2 ?_); (case k1 => wtm_at "g_own"); (case k2 => wtm_at "g_sq"); intro p HH ww)
  | ((with_reducible refine' k_slfromIs ?k1 ?k2 ?_); (case k1 => wtm_at "g_own"); (case k2 => wtm_at "g_sq"); intro p HH ww)
  | ((with_reducible refine' k_slfromI1 ?k1 ?k2 ?_); (case k1 => wtm_at "g_own"); (case k2 => wtm_at "g_sq"); intro p HH ww)
  | ((with_reducible refine' k_slfromIn ?k1 ?k2 ?_); (case k1 => wtm_at "g_own"); (case k2 => wtm_at "g_sq"); intro p HH ww)
  | ((with_reducible refine' k_sltoI1 ?k1 ?k2 ?_); (case k1 => wtm_at "g_own"); (case k2 => wtm_at "g_sq"); intro p HH ww)
  | ((with_reducible refine' k_sltoIn ?k1 ?k2 ?_); (case k1 => wtm_at "g_own"); (case k2 => wtm_at "g_sq"); intro p HH ww)
  | ((with_reducible refine' k_slfromI ?k1 ?k2 ?k3 ?_); (case k1 => wtm_at "g_own"); (case k2 => wtm_at "g_sq"); (case k3 => omega); intro p HH ww)
  | ((with_reducible refine' k_sltoI ?k1 ?k2 ?k3 ?_); (case k1 => wtm_at "g_own"); (case k2 => wtm_at "g_sq"); (case k3 => omega); intro p HH ww)
  | ((with_reducible refine' k_slmidI ?k1 ?k2 ?k3 ?k4 ?_); (case k1 => wtm_at "g_own"); (case k2 => wtm_at "g_sq"); (case k3 => omega); (case k4 => omega); intro p HH ww)
  | ((with_reducible refine' k_catI ?k1 ?k2 ?k3 ?k4 ?_); (case k1 => wtm_at "g_own"); (case k2 => wtm_at "g_got"); (case k3 => wtm_at "g_got"); (case k4 => wtm_at "g_sz"); intro p HH ww)
  | ((with_reducible refine' k_catR ?k1 ?k2 ?k3 ?k4 ?_); (case k1 => wtm_at "g_own"); (case k2 => wtm_at "g_got"); (case k3 => wtm_at "g_got"); (case k4 => wtm_at "g_sz"); intro p HH ww)
  | ((with_reducible refine' k_slfromR ?k1 ?k2 ?k3 ?_); (case k1 => wtm_at "g_own"); (case k2 => wtm_at "g_sq"); (case k3 => omega); intro p HH ww)
  | ((with_reducible refine' k_sltoR ?k1 ?k2 ?k3 ?_); (case k1 => wtm_at "g_own"); (case k2 => wtm_at "g_sq"); (case k3 => omega); intro p HH ww)
  | ((with_reducible refine' k_appI ?k1 ?k2 ?k3 ?_); (case k1 => wtm_at "g_own"); (case k2 => wtm_at "g_put"); (case k3 => wtm_at "g_sz"); intro HH ww)
  | ((with_reducible refine' k_appR ?k1 ?k2 ?k3 ?_); (case k1 => wtm_at "g_own"); (case k2 => wtm_at "g_put"); (case k3 => wtm_at "g_sz"); intro HH ww)
  | ((with_reducible refine' k_extendI ?k1 ?k2 ?k3 ?k4 ?_); (case k1 => wtm_at "g_own"); (case k2 => wtm_at "g_put"); (case k3 => wtm_at "g_got"); (case k4 => wtm_at "g_sz"); intro HH ww)
  | ((with_reducible refine' k_slfrom ?k1 ?k2 ?k3 ?_); (case k1 => wtm_at "g_own"); (case k2 => wtm_at "g_sq"); (case k3 => omega); intro p HH ww)
  | ((with_reducible refine' k_slto ?k1 ?k2 ?k3 ?_); (case k1 => wtm_at "g_own"); (case k2 => wtm_at "g_sq"); (case k3 => omega); intro p HH ww)
  | ((with_reducible refine' k_slmid ?k1 ?k2 ?k3 ?k4 ?_); (case k1 => wtm_at "g_own"); (case k2 => wtm_at "g_sq"); (case k3 => omega); (case k4 => omega); intro p HH ww)
  | ((with_reducible refine' k_cat ?k1 ?k2 ?k3 ?k4 ?_); (case k1 => wtm_at "g_own"); (case k2 => wtm_at "g_got"); (case k3 => wtm_at "g_got"); (case k4 => wtm_at "g_sz"); intro p HH ww)
  | ((with_reducible refine' k_app ?k1 ?k2 ?k3 ?_); (case k1 => wtm_at "g_own"); (case k2 => wtm_at "g_put"); (case k3 => wtm_at "g_sz"); intro HH ww)
  | ((with_reducible refine' ty_list ?k1 ?_); (case k1 => wtm_at "g_hp"))
  | ((with_reducible refine' k_truR ?k1 ?_); (case k1 => wtm_at "g_sq"))
  | ((with_reducible refine' k_truI ?k1 ?_); (case k1 => wtm_at "g_sq"))
  | ((with_reducible refine' k_truL ?k1 ?_); (case k1 => wtm_at "g_sq"))
  | ((with_reducible refine' w_lenLI ?k1 ?_); (case k1 => wtm_at "g_sq"))
  | ((with_reducible refine' w_lenLR ?k1 ?_); (case k1 => wtm_at "g_sq"))
  | ((with_reducible refine' w_ixT ?k1 ?k2 ?_); (case k1 => wtm_at "g_sqt"); (case k2 => first | rfl | fail))
  | ((with_reducible refine' w_ixRc ?k1 ?_); (case k1 => wtm_at "g_sq"))
  | ((with_reducible refine' w_ixR0 ?k1 ?k2 ?_); (case k1 => wtm_at "g_sq"); (case k2 => with_reducible assumption))
  | ((with_reducible refine' w_ixR ?k1 ?k2 ?_); (case k1 => wtm_at "g_sq"); (case k2 => with_reducible assumption))
  | ((with_reducible refine' w_ixLastR ?k1 ?k2 ?_); (case k1 => wtm_at "g_sq"); (case k2 => with_reducible assumption))
  | ((with_reducible refine' k_slinitR ?k1 ?k2 ?_); (case k1 => wtm_at "g_own"); (case k2 => wtm_at "g_sq"); intro p HH ww)
  | ((with_reducible refine' w_gTup ?k1 ?k2 ?_); (case k1 => wtm_at "g_sqt"); (case k2 => rfl))
  | (with_reducible refine w_gCons ?_)
  | (with_reducible refine w_gNil ?_)
  | ((with_reducible refine' w_ixI ?k1 ?k2 ?k3 ?_); (case k1 => wtm_at "g_sq"); (case k2 => omega); (case k3 => omega))
  | ((with_reducible refine' w_I ?k1 ?_); (case k1 => wtm_at "g_ar"))
  | ((with_reducible refine' k_reverse ?k1 ?k2 ?_); (case k1 => wtm_at "g_own"); (case k2 => wtm_at "g_put"); intro HH ww)
  | ((with_reducible refine' w_lenL ?k1 ?_); (case k1 => wtm_at "g_sq"))
  | ((with_reducible refine' w_lenT ?k1 ?_); (case k1 => wtm_at "g_sqt"))
  | ((with_reducible refine' w_isi_ll ?k1 ?_); (case k1 => wtm_at "g_hp"))
  | ((with_reducible refine' w_isi_tt ?k1 ?_); (case k1 => wtm_at "g_hp"))
  | ((with_reducible refine' w_isi_lt ?k1 ?_); (case k1 => wtm_at "g_hp"))
  | ((with_reducible refine' w_isi_tl ?k1 ?_); (case k1 => wtm_at "g_hp"))
  | ((with_reducible refine' w_ll ?k1 ?k2 ?_); (case k1 => rfl); (case k2 => rfl))
  | wtm_at "g_get"
  | wtm_at "g_mt"
  | wtm_at "g_set"
  | wtm_at "g_set2"
  | wtm_at "g_call"
  | wtm_at "g_callc"
  | fail)
local macro_rules | `(tactic| wtm_at "g_go") => `(tactic| repeat wtm_at "g_st")
local macro_rules | `(tactic| wtm_at "g_ifo") => `(tactic| first
  | (refine if_nno rfl ?_) | (refine if_yes rfl ?_)
  | (refine if_no (by omega) ?_)
  | (refine if_yes (by omega) ?_)
  | (refine if_nno (by omega) ?_)
  | (refine if_nyes (by omega) ?_)
  | (refine if_nno (decide_eq_false (by omega)).symm ?_)
  | (refine if_nno (decide_eq_true (by omega)).symm ?_)
  | fail)
local macro_rules | `(tactic| wtm_at "g_goo") => `(tactic| repeat (first | wtm_at "g_st" | wtm_at "g_ifo"))
section
variable {K : PySem.W.Frag} {mg : Str → Option Value} {base : Heap}
theorem pure_law_cell (T : TX K mg base) (vs : List V) (H : Hp) (Q : VK) (E : XK) (h : sp_law_cell K vs H Q E) : t_law_cell K E { nx := fun _ H' => Q .non H', rt := Q } (start N_law_cell vs) H := g_law_cell vs H Q E h
theorem pure_law_digit (T : TX K mg base) (vs : List V) (H : Hp) (Q : VK) (E : XK) (h : sp_law_digit K vs H Q E) : t_law_digit K E { nx := fun _ H' => Q .non H', rt := Q } (start N_law_digit vs) H := g_law_digit vs H Q E h
theorem pure_law_start (T : TX K mg base) (vs : List V) (H : Hp) (Q : VK) (E : XK) (h : sp_law_start K vs H Q E) : t_law_start K E { nx := fun _ H' => Q .non H', rt := Q } (start N_law_start vs) H := g_law_start vs H Q E h
end
section
variable {K : PySem.W.Frag} {mg : Str → Option Value} {base : Heap}
theorem pure_Waiting_init (T : TX K mg base) (vs : List V) (H : Hp) (Q : VK) (E : XK) (h : sp_Waiting_init K vs H Q E) : t_Waiting_init K E { nx := fun _ H' => Q .non H', rt := Q } (start N_Waiting_init vs) H := by
  obtain ⟨p, dx, ka, k, i, w, R, rfl, v, q⟩ := h
  unfold t_Waiting_init
  wtm_at "g_go"
  exact q _ (wt_in (x := ⟨k, i, w⟩) (Own.toRo (by wtm_at "g_own")))
theorem pure_Flow_init (T : TX K mg base) (vs : List V) (H : Hp) (Q : VK) (E : XK) (h : sp_Flow_init K vs H Q E) : t_Flow_init K E { nx := fun _ H' => Q .non H', rt := Q } (start N_Flow_init vs) H := by
  obtain ⟨p, dx, ka, k, R, rfl, v, q⟩ := h
  unfold t_Flow_init
  wtm_at "g_go"
  rename_i w'
  have w2 := Own.bigNil (f := WtP K) w'
  exact q _ (fl_in (f := ⟨k, [], 0⟩) (ws := []) (show Own (pt p (.ins _ dx (fFlow (.ref ka) (.ref _) (.int 0) (.int 0))) :: KyP ka k :: pt _ (.lst []) :: big (WtP K) [] [] :: R) _ from by wtm_at "g_own"))
theorem oct_app {f : Fl} {r : V × Int} : ({ f with rows := f.rows ++ [r] } : Fl).oct = f.oct + r.2 := by
  unfold Fl.oct
  rw [List.map_append, sum_app]
  simp
theorem wt_app {f : Fl} {r : V × Int} : ({ f with rows := f.rows ++ [r] } : Fl).rows.map ({ f with rows := f.rows ++ [r] } : Fl).wt = f.rows.map f.wt ++ [f.wt r] := by
  show (f.rows ++ [r]).map f.wt = _
  rw [List.map_append]
  rfl
theorem sum_erase : ∀ (l : List Int) (j : Nat) (r : Int), l[j]? = some r → (l.eraseIdx j).sum = l.sum - r
  | [], _, _, h => by simp at h
  | a :: l, 0, r, h => by
    simp at h
    subst h
    show l.sum = _
    rw [List.sum_cons]
    omega
  | a :: l, j + 1, r, h => by
    have := sum_erase l j r (by simpa using h)
    show (a :: l.eraseIdx j).sum = _
    rw [List.sum_cons, List.sum_cons, this]
    omega
theorem oct_erase {f : Fl} {j : Nat} {r : V × Int} (h : f.rows[j]? = some r) : ({ f with rows := f.rows.eraseIdx j } : Fl).oct = f.oct - r.2 := by
  unfold Fl.oct
  show ((f.rows.eraseIdx j).map (·.2)).sum = _
  rw [eraseIdx_map']
  exact sum_erase _ j _ (by rw [List.getElem?_map, h]; rfl)
theorem wt_erase {f : Fl} {j : Nat} : ({ f with rows := f.rows.eraseIdx j } : Fl).rows.map ({ f with rows := f.rows.eraseIdx j } : Fl).wt = (f.rows.map f.wt).eraseIdx j := by
  show (f.rows.eraseIdx j).map f.wt = _
  rw [eraseIdx_map']
theorem pure_Flow_add (T : TX K mg base) (vs : List V) (H : Hp) (Q : VK) (E : XK) (h : sp_Flow_add K vs H Q E) : t_Flow_add K E { nx := fun _ H' => Q .non H', rt := Q } (start N_Flow_add vs) H := by
  obtain ⟨p, x, f, r, R, rfl, hl, w, q⟩ := h
  obtain ⟨dy, kb, w⟩ := wt_out (w.swap.dup)
  obtain ⟨dx, ka, l, ws, w⟩ := fl_out (w.pick (.next (.next (.next .here))))
  have hws : ws.length = f.rows.length := by
    have := (w.pick (.next (.next (.next .here)))).bigLen
    rw [List.length_map] at this
    exact this
  unfold t_Flow_add
  wtm_at "g_go"
  rename_i H2 w2
  refine q _ (fl_in (f := { f with rows := f.rows ++ [r] }) (ws := ws ++ [x]) (l := l) (dx := dx) (ka := ka) ?_)
  rw [oct_app, wt_app]
  have w3 : Own (big (WtP K) ws (f.rows.map f.wt) :: WtP K x (f.wt r) :: pt p (.ins (He.ga K "Flow") dx (fFlow (.ref ka) (.ref l) (.int (f.oct + r.2)) (.int f.cr))) :: KyP ka f.k :: pt l (.lst ((ws ++ [x]).map V.ref)) :: R) H2 := by
    wtm_at "g_own"
  exact w3.bigSnoc.perm (by exact (List.Perm.swap _ _ _).trans (.cons _ ((List.Perm.swap _ _ _).trans (.cons _ (List.Perm.swap _ _ _)))))
theorem pure_Flow_take (T : TX K mg base) (vs : List V) (H : Hp) (Q : VK) (E : XK) (h : sp_Flow_take K vs H Q E) : t_Flow_take K E { nx := fun _ H' => Q .non H', rt := Q } (start N_Flow_take vs) H := by
  obtain ⟨p, f, j, r, R, rfl, hr, hl, w, q⟩ := h
  obtain ⟨dx, ka, l, ws, w⟩ := fl_out w
  have hws : ws.length = f.rows.length := by
    have := (w.pick (.next (.next (.next .here)))).bigLen
    rw [List.length_map] at this
    exact this
  have hj := (List.getElem?_eq_some_iff.mp hr).1
  obtain ⟨x, hx⟩ : ∃ x, ws[j]? = some x := ⟨_, List.getElem?_eq_getElem (by omega)⟩
  have w1 := (w.pick (.next (.next (.next .here)))).bigErase hx (show (f.rows.map f.wt)[j]? = some (f.wt r) by rw [List.getElem?_map, hr]; rfl)
  obtain ⟨dy, kb, w2⟩ := wt_out w1.dup
  unfold t_Flow_take
  wtm_at "g_go"
  refine k_popAtR (ps := ws) (by wtm_at "g_own") rfl (by omega) hx (by wtm_at "g_put") fun H1 w3 => ?_
  wtm_at "g_go"
  rename_i H2 w4
  refine q _ _ (Own.swap (fl_in (f := { f with rows := f.rows.eraseIdx j }) (ws := ws.eraseIdx j) (l := l) (dx := dx) (ka := ka) ?_))
  rw [oct_erase hr, wt_erase]
  wtm_at "g_own"
theorem pure_FairQueue_init (T : TX K mg base) (vs : List V) (H : Hp) (Q : VK) (E : XK) (h : sp_FairQueue_init K vs H Q E) : t_FairQueue_init K E { nx := fun _ H' => Q .non H', rt := Q } (start N_FairQueue_init vs) H := by
  obtain ⟨p, dx, lim, q, R, rfl, w, q1, q2⟩ := h
  unfold t_FairQueue_init
  wtm_at "g_go"
  refine if_d (fun h1 => ?_) (fun h1 => ?_)
  · wtm_at "g_go"
    exact q1 (.inl h1) _ w.tail
  wtm_at "g_go"
  refine if_d (fun h2 => ?_) (fun h2 => ?_)
  · wtm_at "g_go"
    exact q1 (.inr h2) _ w.tail
  wtm_at "g_go"
  rename_i w'
  have w2 := Own.bigNil (f := FlP K) w'
  exact q2 (by omega) (by omega) _ (qu_in (y := ⟨lim, q, [], false⟩) (fs := []) (show Own (pt p (.ins _ dx (fFairQueue (.int lim) (.int q) (.ref _) (.bl false))) :: pt _ (.lst []) :: big (FlP K) [] [] :: R) _ from by wtm_at "g_own"))
theorem map_ref_at {ps : List Addr} {i : Nat} {x : V} (h : (ps.map V.ref)[i]? = some x) : ∃ p, ps[i]? = some p ∧ V.ref p = x := by
  rw [List.getElem?_map] at h
  cases e : ps[i]? with
  | none => rw [e] at h; cases h
  | some p => rw [e] at h; cases h; exact ⟨p, rfl, rfl⟩
theorem at_of_len {α β : Type} {as : List α} {bs : List β} {i : Nat} {a : α} (h : as[i]? = some a) (l : as.length = bs.length) : ∃ b, bs[i]? = some b :=
  ⟨bs[i]'(by have := (List.getElem?_eq_some_iff.mp h).1; omega), List.getElem?_eq_getElem _⟩
theorem take_map_s {α β : Type} {f : α → β} {xs : List α} {i : Nat} {x : α} (h : xs[i]? = some x) : (xs.take (i + 1)).map f = (xs.take i).map f ++ [f x] := by
  rw [List.take_add_one, h, List.map_append]
  rfl
theorem pure_FairQueue_octets (T : TX K mg base) (vs : List V) (H : Hp) (Q : VK) (E : XK) (h : sp_FairQueue_octets K vs H Q E) : t_FairQueue_octets K E { nx := fun _ H' => Q .non H', rt := Q } (start N_FairQueue_octets vs) H := by
  obtain ⟨p, x, R, rfl, hl, w, q⟩ := h
  obtain ⟨dx, l, fs, w⟩ := qu_out w
  have hlen := (w.pick (.next (.next .here))).bigLen
  unfold t_FairQueue_octets
  wtm_at "g_go"
  refine lcLO (fun i A L => A = (x.fs.take i).map (fun f => V.int f.oct) ∧ L = pt p (.ins (He.ga K "FairQueue") dx (fFairQueue (.int x.lim) (.int x.q) (.ref l) (.bl x.gr))) :: pt l (.lst (fs.map V.ref)) :: big (FlP K) fs x.fs :: R) w ⟨rfl, rfl⟩ ?_ (by wtm_at "g_sq") ?_ ?_
  · rintro i A L D H' ⟨rfl, rfl⟩ w'
    wtm_at "g_sq"
  · rintro i y D A L H1 hy ⟨rfl, rfl⟩ w'
    obtain ⟨a, ha, rfl⟩ := map_ref_at hy
    obtain ⟨f, hf⟩ := at_of_len ha hlen
    obtain ⟨dy, ka, lf, hp, _⟩ := (w'.pick (.next (.next (.next .here)))).bigTell ha hf tell_fl
    wtm_at "g_go"
    refine lc_addO w' .here (small16l ?_) ⟨?_, rfl⟩
    · rw [List.length_map, List.length_take]; omega
    · rw [take_map_s hf]
  · rintro D A L H1 ⟨rfl, rfl⟩ w'
    wtm_at "g_go"
    have e : (List.take (fs.map V.ref).length x.fs).map (fun f => V.int f.oct) = (x.fs.map Fl.oct).map V.int := by
      rw [List.length_map, hlen, List.take_length, List.map_map]
      rfl
    rw [e] at w'
    refine w_sum (ns := x.fs.map Fl.oct) (by wtm_at "g_sq") ?_
    exact q _ (qu_in (by wtm_at "g_own"))
theorem eqv_kd : ∀ a b : Ky, PyData.eqvAll (a.map kDat) (b.map kDat) = decide (a = b)
  | [], [] => by simp [PyData.eqvAll]
  | [], y :: ys => by simp [PyData.eqvAll]
  | x :: xs, [] => by simp [PyData.eqvAll]
  | x :: xs, y :: ys => by
    have h := eqv_kd xs ys
    show (PyData.eqv (kDat x) (kDat y) && PyData.eqvAll (xs.map kDat) (ys.map kDat)) = _
    rw [h]
    have hx : PyData.eqv (kDat x) (kDat y) = decide (x = y) := by
      cases x <;> cases y <;> simp [kDat, PyData.eqv, Bool.beq_eq_decide_eq]
    rw [hx]
    by_cases h1 : x = y <;> by_cases h2 : xs = ys <;> simp [h1, h2]
theorem dp_kds {H : Hp} : ∀ k : Ky, DpAll K H (k.map kV) (k.map kDat)
  | [] => .nil
  | .inl i :: r => .cons (.int i) (dp_kds r)
  | .inr s :: r => .cons (.str s) (dp_kds r)
theorem w_eqK {H : Hp} {Q : VK} {a b : Addr} {k j : Ky} (h1 : H a = some (.tup (k.map kV))) (h2 : H b = some (.tup (j.map kV))) (o1 : kOk k) (o2 : kOk j) (q : Q (.bl (decide (k = j))) H) : rEqD K (.ref a) (.ref b) H Q :=
  w_eqD (.tup (SqT.of' h1) (dp_kds k)) (.tup (SqT.of' h2) (dp_kds j)) o1 o2 (by
    show Q (.bl (PyData.eqvAll _ _)) H
    rw [eqv_kd]
    exact q)
theorem fnd_none {fs : List Fl} {k : Ky} (h : ∀ (j : Nat) (f : Fl), fs[j]? = some f → f.k ≠ k) : fnd fs k = none := by
  unfold fnd
  rw [List.findIdx?_eq_none_iff]
  intro f hf
  obtain ⟨j, hj, e⟩ := List.getElem_of_mem hf
  exact decide_eq_false (h j f (by rw [List.getElem?_eq_getElem hj, e]))
theorem fnd_some {fs : List Fl} {k : Ky} {i : Nat} {f : Fl} (hi : fs[i]? = some f) (e : f.k = k) (h : ∀ (j : Nat) (g : Fl), j < i → fs[j]? = some g → g.k ≠ k) : fnd fs k = some i := by
  unfold fnd
  rw [List.findIdx?_eq_some_iff_getElem]
  obtain ⟨hl, rfl⟩ := List.getElem?_eq_some_iff.mp hi
  refine ⟨hl, decide_eq_true e, fun j hj => ?_⟩
  have := h j _ hj (List.getElem?_eq_getElem (by omega))
  simpa using this
theorem pure_FairQueue_flow_of (T : TX K mg base) (vs : List V) (H : Hp) (Q : VK) (E : XK) (h : sp_FairQueue_flow_of K vs H Q E) : t_FairQueue_flow_of K E { nx := fun _ H' => Q .non H', rt := Q } (start N_FairQueue_flow_of vs) H := by
  obtain ⟨p, dx, l, ka, fs, x, k, R, rfl, ho, hos, w, q⟩ := h
  have hlen := (w.pick (.next (.next .here))).bigLen
  unfold t_FairQueue_flow_of
  wtm_at "g_go"
  refine loopL (xs := fs.map V.ref) (fun i σ H' => ∃ v2, σ = [some (.ref p), some (.ref ka), v2] ∧ (∀ (j : Nat) (f : Fl), j < i → x.fs[j]? = some f → f.k ≠ k) ∧ Own (pt p (.ins (He.ga K "FairQueue") dx (fFairQueue (.int x.lim) (.int x.q) (.ref l) (.bl x.gr))) :: pt l (.lst (fs.map V.ref)) :: big (FlP K) fs x.fs :: KyP ka k :: R) H') (by wtm_at "g_sq") ⟨_, rfl, (fun j f hj => absurd hj (Nat.not_lt_zero j)), w⟩ ?_ ?_ ?_
  · rintro i σ H' hi ⟨v2, rfl, hn, w'⟩
    wtm_at "g_sq"
  · rintro i y σ H1 hy ⟨v2, rfl, hn, w'⟩
    obtain ⟨a, ha, rfl⟩ := map_ref_at hy
    obtain ⟨f, hf⟩ := at_of_len ha hlen
    obtain ⟨dy, kb, lf, hp, hk⟩ := (w'.pick (.next (.next .here))).bigTell ha hf tell_fl
    have hka : H1 ka = some (.tup (k.map kV)) := w'.get (.next (.next (.next (by unfold KyP; exact Got.here))))
    wtm_at "g_go"
    refine w_eqK hk hka (hos f (List.mem_of_getElem? hf)) ho ?_
    wtm_at "g_go"
    refine if_d (fun h1 => ?_) (fun h1 => ?_)
    · wtm_at "g_go"
      exact q _ w' _ (.inr ⟨i, a, rfl, fnd_some hf h1 hn, ha⟩)
    · wtm_at "g_go"
      refine ⟨_, rfl, fun j g hj hg => ?_, w'⟩
      by_cases e : j = i
      · subst e
        rw [hf] at hg
        cases hg
        exact h1
      · exact hn j g (by omega) hg
  · rintro σ H1 ⟨v2, rfl, hn, w'⟩
    wtm_at "g_go"
    refine q _ w' _ (.inl ⟨rfl, fnd_none fun j f hf => hn j f ?_ hf⟩)
    have := (List.getElem?_eq_some_iff.mp hf).1
    rw [List.length_map]
    omega
theorem pure_FairQueue_remove_flow (T : TX K mg base) (vs : List V) (H : Hp) (Q : VK) (E : XK) (h : sp_FairQueue_remove_flow K vs H Q E) : t_FairQueue_remove_flow K E { nx := fun _ H' => Q .non H', rt := Q } (start N_FairQueue_remove_flow vs) H := by
  obtain ⟨p, x, j, R, rfl, hj, hl, w, q⟩ := h
  obtain ⟨dx, l, fs, w⟩ := qu_out w
  have hlen := (w.pick (.next (.next .here))).bigLen
  have w1 := (w.pick (.next (.next .here))).bigErase (i := j) (List.getElem?_eq_getElem (by omega)) (List.getElem?_eq_getElem hj)
  unfold t_FairQueue_remove_flow
  wtm_at "g_go"
  refine k_delR (ps := fs) (j := j) (by wtm_at "g_own") rfl (by omega) (by omega) (by wtm_at "g_put") fun H2 w2 => ?_
  wtm_at "g_go"
  refine if_d (fun h1 => ?_) (fun h1 => ?_)
  · wtm_at "g_go"
    refine q _ (qu_in (y := { x with fs := x.fs.eraseIdx j, gr := if j = 0 then false else x.gr }) (fs := fs.eraseIdx j) (l := l) (dx := dx) ?_)
    rw [if_pos (by omega)]
    wtm_at "g_own"
  · wtm_at "g_go"
    refine q _ (qu_in (y := { x with fs := x.fs.eraseIdx j, gr := if j = 0 then false else x.gr }) (fs := fs.eraseIdx j) (l := l) (dx := dx) ?_)
    rw [if_neg (by omega)]
    wtm_at "g_own"
end
end K81

namespace K81
open PySem PySem.Spec PyProof.Rows L2 G
local macro_rules | `(tactic| wtm_at "g_get") => `(tactic| first
  | ((with_reducible refine' w_fld ?k1 (cl_Waiting (by assumption)) (na_Waiting_key (by assumption)) lk_Waiting_key ?_); (case k1 => wtm_at "g_hp"))
  | ((with_reducible refine' w_fld ?k1 (cl_Waiting (by assumption)) (na_Waiting_item (by assumption)) lk_Waiting_item ?_); (case k1 => wtm_at "g_hp"))
  | ((with_reducible refine' w_fld ?k1 (cl_Waiting (by assumption)) (na_Waiting_weight (by assumption)) lk_Waiting_weight ?_); (case k1 => wtm_at "g_hp"))
  | ((with_reducible refine' w_fld ?k1 (cl_Flow (by assumption)) (na_Flow_key (by assumption)) lk_Flow_key ?_); (case k1 => wtm_at "g_hp"))
  | ((with_reducible refine' w_fld ?k1 (cl_Flow (by assumption)) (na_Flow_rows (by assumption)) lk_Flow_rows ?_); (case k1 => wtm_at "g_hp"))
  | ((with_reducible refine' w_fld ?k1 (cl_Flow (by assumption)) (na_Flow_octets (by assumption)) lk_Flow_octets ?_); (case k1 => wtm_at "g_hp"))
  | ((with_reducible refine' w_fld ?k1 (cl_Flow (by assumption)) (na_Flow_credit (by assumption)) lk_Flow_credit ?_); (case k1 => wtm_at "g_hp"))
  | ((with_reducible refine' w_fld ?k1 (cl_FairQueue (by assumption)) (na_FairQueue_limit (by assumption)) lk_FairQueue_limit ?_); (case k1 => wtm_at "g_hp"))
  | ((with_reducible refine' w_fld ?k1 (cl_FairQueue (by assumption)) (na_FairQueue_quantum (by assumption)) lk_FairQueue_quantum ?_); (case k1 => wtm_at "g_hp"))
  | ((with_reducible refine' w_fld ?k1 (cl_FairQueue (by assumption)) (na_FairQueue_flows (by assumption)) lk_FairQueue_flows ?_); (case k1 => wtm_at "g_hp"))
  | ((with_reducible refine' w_fld ?k1 (cl_FairQueue (by assumption)) (na_FairQueue_granted (by assumption)) lk_FairQueue_granted ?_); (case k1 => wtm_at "g_hp"))
  | fail)
local macro_rules | `(tactic| wtm_at "g_set") => `(tactic| first
  | ((with_reducible refine' k_fld ?k1 ?k2 (cl_Waiting (by assumption)) (na_Waiting_key (by assumption)) pt_Waiting_key rfl ?_); (case k1 => wtm_at "g_own"); (case k2 => wtm_at "g_put"); intro HH ww)
  | ((with_reducible refine' k_fld ?k1 ?k2 (cl_Waiting (by assumption)) (na_Waiting_key (by assumption)) pn_Waiting_key rfl ?_); (case k1 => wtm_at "g_own"); (case k2 => wtm_at "g_put"); intro HH ww)
  | ((with_reducible refine' k_fld ?k1 ?k2 (cl_Waiting (by assumption)) (na_Waiting_item (by assumption)) pt_Waiting_item rfl ?_); (case k1 => wtm_at "g_own"); (case k2 => wtm_at "g_put"); intro HH ww)
  | ((with_reducible refine' k_fld ?k1 ?k2 (cl_Waiting (by assumption)) (na_Waiting_item (by assumption)) pn_Waiting_item rfl ?_); (case k1 => wtm_at "g_own"); (case k2 => wtm_at "g_put"); intro HH ww)
  | ((with_reducible refine' k_fld ?k1 ?k2 (cl_Waiting (by assumption)) (na_Waiting_weight (by assumption)) pt_Waiting_weight rfl ?_); (case k1 => wtm_at "g_own"); (case k2 => wtm_at "g_put"); intro HH ww)
  | ((with_reducible refine' k_fld ?k1 ?k2 (cl_Waiting (by assumption)) (na_Waiting_weight (by assumption)) pn_Waiting_weight rfl ?_); (case k1 => wtm_at "g_own"); (case k2 => wtm_at "g_put"); intro HH ww)
  | ((with_reducible refine' k_fld ?k1 ?k2 (cl_Flow (by assumption)) (na_Flow_key (by assumption)) pt_Flow_key rfl ?_); (case k1 => wtm_at "g_own"); (case k2 => wtm_at "g_put"); intro HH ww)
  | ((with_reducible refine' k_fld ?k1 ?k2 (cl_Flow (by assumption)) (na_Flow_key (by assumption)) pn_Flow_key rfl ?_); (case k1 => wtm_at "g_own"); (case k2 => wtm_at "g_put"); intro HH ww)
  | ((with_reducible refine' k_fld ?k1 ?k2 (cl_Flow (by assumption)) (na_Flow_rows (by assumption)) pt_Flow_rows rfl ?_); (case k1 => wtm_at "g_own"); (case k2 => wtm_at "g_put"); intro HH ww)
  | ((with_reducible refine' k_fld ?k1 ?k2 (cl_Flow (by assumption)) (na_Flow_rows (by assumption)) pn_Flow_rows rfl ?_); (case k1 => wtm_at "g_own"); (case k2 => wtm_at "g_put"); intro HH ww)
  | ((with_reducible refine' k_fld ?k1 ?k2 (cl_Flow (by assumption)) (na_Flow_octets (by assumption)) pt_Flow_octets rfl ?_); (case k1 => wtm_at "g_own"); (case k2 => wtm_at "g_put"); intro HH ww)
  | ((with_reducible refine' k_fld ?k1 ?k2 (cl_Flow (by assumption)) (na_Flow_octets (by assumption)) pn_Flow_octets rfl ?_); (case k1 => wtm_at "g_own"); (case k2 => wtm_at "g_put"); intro HH ww)
  | ((with_reducible refine' k_fld ?k1 ?k2 (cl_Flow (by assumption)) (na_Flow_credit (by assumption)) pt_Flow_credit rfl ?_); (case k1 => wtm_at "g_own"); (case k2 => wtm_at "g_put"); intro HH ww)
  | ((with_reducible refine' k_fld ?k1 ?k2 (cl_Flow (by assumption)) (na_Flow_credit (by assumption)) pn_Flow_credit rfl ?_); (case k1 => wtm_at "g_own"); (case k2 => wtm_at "g_put"); intro HH ww)
  | ((with_reducible refine' k_fld ?k1 ?k2 (cl_FairQueue (by assumption)) (na_FairQueue_limit (by assumption)) pt_FairQueue_limit rfl ?_); (case k1 => wtm_at "g_own"); (case k2 => wtm_at "g_put"); intro HH ww)
  | ((with_reducible refine' k_fld ?k1 ?k2 (cl_FairQueue (by assumption)) (na_FairQueue_limit (by assumption)) pn_FairQueue_limit rfl ?_); (case k1 => wtm_at "g_own"); (case k2 => wtm_at "g_put"); intro HH ww)
  | ((with_reducible refine' k_fld ?k1 ?k2 (cl_FairQueue (by assumption)) (na_FairQueue_quantum (by assumption)) pt_FairQueue_quantum rfl ?_); (case k1 => wtm_at "g_own"); (case k2 => wtm_at "g_put"); intro HH ww)
  | ((with_reducible refine' k_fld ?k1 ?k2 (cl_FairQueue (by assumption)) (na_FairQueue_quantum (by assumption)) pn_FairQueue_quantum rfl ?_); (case k1 => wtm_at "g_own"); (case k2 => wtm_at "g_put"); intro HH ww)
  | ((with_reducible refine' k_fld ?k1 ?k2 (cl_FairQueue (by assumption)) (na_FairQueue_flows (by assumption)) pt_FairQueue_flows rfl ?_); (case k1 => wtm_at "g_own"); (case k2 => wtm_at "g_put"); intro HH ww)
  | ((with_reducible refine' k_fld ?k1 ?k2 (cl_FairQueue (by assumption)) (na_FairQueue_flows (by assumption)) pn_FairQueue_flows rfl ?_); (case k1 => wtm_at "g_own"); (case k2 => wtm_at "g_put"); intro HH ww)
  | ((with_reducible refine' k_fld ?k1 ?k2 (cl_FairQueue (by assumption)) (na_FairQueue_granted (by assumption)) pt_FairQueue_granted rfl ?_); (case k1 => wtm_at "g_own"); (case k2 => wtm_at "g_put"); intro HH ww)
  | ((with_reducible refine' k_fld ?k1 ?k2 (cl_FairQueue (by assumption)) (na_FairQueue_granted (by assumption)) pn_FairQueue_granted rfl ?_); (case k1 => wtm_at "g_own"); (case k2 => wtm_at "g_put"); intro HH ww)
  | fail)
local macro_rules | `(tactic| wtm_at "g_set2") => `(tactic| first
  | ((with_reducible refine' k_fa ?k1 ?k2 pt_Waiting_key rfl ?_); (case k1 => wtm_at "g_own"); (case k2 => wtm_at "g_put"); intro HH ww)
  | ((with_reducible refine' k_fa ?k1 ?k2 pt_Waiting_item rfl ?_); (case k1 => wtm_at "g_own"); (case k2 => wtm_at "g_put"); intro HH ww)
  | ((with_reducible refine' k_fa ?k1 ?k2 pt_Waiting_weight rfl ?_); (case k1 => wtm_at "g_own"); (case k2 => wtm_at "g_put"); intro HH ww)
  | ((with_reducible refine' k_fa ?k1 ?k2 pt_Flow_key rfl ?_); (case k1 => wtm_at "g_own"); (case k2 => wtm_at "g_put"); intro HH ww)
  | ((with_reducible refine' k_fa ?k1 ?k2 pt_Flow_rows rfl ?_); (case k1 => wtm_at "g_own"); (case k2 => wtm_at "g_put"); intro HH ww)
  | ((with_reducible refine' k_fa ?k1 ?k2 pt_Flow_octets rfl ?_); (case k1 => wtm_at "g_own"); (case k2 => wtm_at "g_put"); intro HH ww)
  | ((with_reducible refine' k_fa ?k1 ?k2 pt_Flow_credit rfl ?_); (case k1 => wtm_at "g_own"); (case k2 => wtm_at "g_put"); intro HH ww)
  | ((with_reducible refine' k_fa ?k1 ?k2 pt_FairQueue_limit rfl ?_); (case k1 => wtm_at "g_own"); (case k2 => wtm_at "g_put"); intro HH ww)
  | ((with_reducible refine' k_fa ?k1 ?k2 pt_FairQueue_quantum rfl ?_); (case k1 => wtm_at "g_own"); (case k2 => wtm_at "g_put"); intro HH ww)
  | ((with_reducible refine' k_fa ?k1 ?k2 pt_FairQueue_flows rfl ?_); (case k1 => wtm_at "g_own"); (case k2 => wtm_at "g_put"); intro HH ww)
  | ((with_reducible refine' k_fa ?k1 ?k2 pt_FairQueue_granted rfl ?_); (case k1 => wtm_at "g_own"); (case k2 => wtm_at "g_put"); intro HH ww)
  | fail)
local macro_rules | `(tactic| wtm_at "g_mt") => `(tactic| first
  | ((with_reducible refine' w_mt1 ?k1 ln_Flow_add ?_); (case k1 => wtm_at "g_hp"))
  | ((with_reducible refine' w_mt1 ?k1 ln_Flow_take ?_); (case k1 => wtm_at "g_hp"))
  | ((with_reducible refine' w_mt1 ?k1 ln_Flow_fork ?_); (case k1 => wtm_at "g_hp"))
  | ((with_reducible refine' w_mt1 ?k1 ln_FairQueue_count ?_); (case k1 => wtm_at "g_hp"))
  | ((with_reducible refine' w_mt1 ?k1 ln_FairQueue_octets ?_); (case k1 => wtm_at "g_hp"))
  | ((with_reducible refine' w_mt1 ?k1 ln_FairQueue_octets_of ?_); (case k1 => wtm_at "g_hp"))
  | ((with_reducible refine' w_mt1 ?k1 ln_FairQueue_flow_of ?_); (case k1 => wtm_at "g_hp"))
  | ((with_reducible refine' w_mt1 ?k1 ln_FairQueue_remove_flow ?_); (case k1 => wtm_at "g_hp"))
  | ((with_reducible refine' w_mt1 ?k1 ln_FairQueue_put ?_); (case k1 => wtm_at "g_hp"))
  | ((with_reducible refine' w_mt1 ?k1 ln_FairQueue_drop ?_); (case k1 => wtm_at "g_hp"))
  | ((with_reducible refine' w_mt1 ?k1 ln_FairQueue_turn ?_); (case k1 => wtm_at "g_hp"))
  | ((with_reducible refine' w_mt1 ?k1 ln_FairQueue_next_up ?_); (case k1 => wtm_at "g_hp"))
  | ((with_reducible refine' w_mt1 ?k1 ln_FairQueue_take ?_); (case k1 => wtm_at "g_hp"))
  | ((with_reducible refine' w_mt1 ?k1 ln_FairQueue_take_all ?_); (case k1 => wtm_at "g_hp"))
  | ((with_reducible refine' w_mt1 ?k1 ln_FairQueue_fork ?_); (case k1 => wtm_at "g_hp"))
  | fail)
local macro_rules | `(tactic| wtm_at "g_mkk") => `(tactic| first
  | fail
  | fail)
local macro_rules | `(tactic| wtm_at "g_callf") => `(tactic| first
  | ((with_reducible refine' c_Waiting_init ?k1 ?k2 ?k3 ?_); (case k1 => wtm_at "g_own"); (case k2 => wtm_at "g_pk"); (case k3 => wtm_at "g_pk"); intro HH ww)
  | ((with_reducible refine' c_Flow_init ?k1 ?k2 ?k3 ?_); (case k1 => wtm_at "g_own"); (case k2 => wtm_at "g_pk"); (case k3 => wtm_at "g_pk"); intro HH ww)
  | ((with_reducible refine' c_octets ?k0 ?k1 ?k2 ?_); (case k1 => wtm_at "g_own"); (case k2 => wtm_at "g_pk"); (case k0 => omega); intro HH ww)
  | ((with_reducible refine' w_fldT tell_qu_lim ?k1 ?k2 (cl_FairQueue (by assumption)) (na_FairQueue_limit (by assumption)) ?_); (case k1 => wtm_at "g_own"); (case k2 => wtm_at "g_pk"); intro dz fz; (try clear fz dz))
  | ((with_reducible refine' w_fldT tell_qu_q ?k1 ?k2 (cl_FairQueue (by assumption)) (na_FairQueue_quantum (by assumption)) ?_); (case k1 => wtm_at "g_own"); (case k2 => wtm_at "g_pk"); intro dz fz; (try clear fz dz))
  | ((with_reducible refine' w_fldT tell_wt_w ?k1 ?k2 (cl_Waiting (by assumption)) (na_Waiting_weight (by assumption)) ?_); (case k1 => wtm_at "g_own"); (case k2 => wtm_at "g_pk"); intro dz fz; (try clear fz dz))
  | ((with_reducible refine' w_fldT tell_wt_i ?k1 ?k2 (cl_Waiting (by assumption)) (na_Waiting_item (by assumption)) ?_); (case k1 => wtm_at "g_own"); (case k2 => wtm_at "g_pk"); intro dz fz; (try clear fz dz))
  | ((with_reducible refine' w_mtT (tell_qu_m ln_FairQueue_octets) ?k1 ?k2 ?_); (case k1 => wtm_at "g_own"); (case k2 => wtm_at "g_pk"))
  | ((with_reducible refine' w_mtT (tell_qu_m ln_FairQueue_drop) ?k1 ?k2 ?_); (case k1 => wtm_at "g_own"); (case k2 => wtm_at "g_pk"))
  | ((with_reducible refine' w_mtT (tell_qu_m ln_FairQueue_turn) ?k1 ?k2 ?_); (case k1 => wtm_at "g_own"); (case k2 => wtm_at "g_pk"))
  | ((with_reducible refine' w_mtT (tell_qu_m ln_FairQueue_next_up) ?k1 ?k2 ?_); (case k1 => wtm_at "g_own"); (case k2 => wtm_at "g_pk"))
  | ((with_reducible refine' w_mtT (tell_qu_m ln_FairQueue_remove_flow) ?k1 ?k2 ?_); (case k1 => wtm_at "g_own"); (case k2 => wtm_at "g_pk"))
  | ((with_reducible refine' w_mtT (tell_fl_m ln_Flow_add) ?k1 ?k2 ?_); (case k1 => wtm_at "g_own"); (case k2 => wtm_at "g_pk"))
  | ((with_reducible refine' w_mtT (tell_fl_m ln_Flow_take) ?k1 ?k2 ?_); (case k1 => wtm_at "g_own"); (case k2 => wtm_at "g_pk"))
  | fail)
local macro_rules | `(tactic| wtm_at "g_call") => `(tactic| first
  | wtm_at "g_callf"
  | ((with_reducible refine' w_mtT (tell_qu_m ln_FairQueue_count) ?k1 ?k2 ?_); (case k1 => wtm_at "g_own"); (case k2 => wtm_at "g_pk"))
  | ((with_reducible refine' w_mtT (tell_qu_m ln_FairQueue_octets_of) ?k1 ?k2 ?_); (case k1 => wtm_at "g_own"); (case k2 => wtm_at "g_pk"))
  | ((with_reducible refine' w_mtT (tell_qu_m ln_FairQueue_flow_of) ?k1 ?k2 ?_); (case k1 => wtm_at "g_own"); (case k2 => wtm_at "g_pk"))
  | ((with_reducible refine' w_mtT (tell_qu_m ln_FairQueue_put) ?k1 ?k2 ?_); (case k1 => wtm_at "g_own"); (case k2 => wtm_at "g_pk"))
  | ((with_reducible refine' w_mtT (tell_qu_m ln_FairQueue_take) ?k1 ?k2 ?_); (case k1 => wtm_at "g_own"); (case k2 => wtm_at "g_pk"))
  | ((with_reducible refine' w_mtT (tell_qu_m ln_FairQueue_take_all) ?k1 ?k2 ?_); (case k1 => wtm_at "g_own"); (case k2 => wtm_at "g_pk"))
  | ((with_reducible refine' w_mtT (tell_qu_m ln_FairQueue_fork) ?k1 ?k2 ?_); (case k1 => wtm_at "g_own"); (case k2 => wtm_at "g_pk"))
  | ((with_reducible refine' w_mtT (tell_fl_m ln_Flow_fork) ?k1 ?k2 ?_); (case k1 => wtm_at "g_own"); (case k2 => wtm_at "g_pk"))
  | fail)
local macro_rules | `(tactic| wtm_at "g_own") => `(tactic| first
  | (with_reducible assumption)
  | ((with_reducible refine' Own.newT ?k1 ?k2); (case k1 => with_reducible assumption); (case k2 => wtm_at "g_own"))
  | ((with_reducible refine' Own.new ?k1 ?k2); (case k1 => with_reducible assumption); (case k2 => wtm_at "g_own"))
  | ((with_reducible refine' Own.put ?k1 ?k2); (case k1 => wtm_at "g_own"); (case k2 => wtm_at "g_put"))
  | ((with_reducible refine' Own.sel ?k1 ?k2); (case k1 => with_reducible assumption); (case k2 => wtm_at "g_sel"))
  | fail)
local macro_rules | `(tactic| wtm_at "g_sel") => `(tactic| first
  | (with_reducible exact Sel.rf) | (with_reducible exact Sel.nil)
  | ((with_reducible refine' Sel.cons ?k1 ?k2); (case k1 => wtm_at "g_pk"); (case k2 => wtm_at "g_sel"))
  | ((with_reducible refine' Sel.drop ?k1); (case k1 => wtm_at "g_sel"))
  | fail)
local macro_rules | `(tactic| wtm_at "g_got") => `(tactic| first
  | (with_reducible assumption) | (with_reducible exact Got.here)
  | ((with_reducible refine' Got.next ?k1); (case k1 => wtm_at "g_got"))
  | fail)
local macro_rules | `(tactic| wtm_at "g_gl") => `(tactic| first
  | (with_reducible assumption) | (with_reducible exact GotL.here) | (with_reducible exact GotL.hereS)
  | ((with_reducible refine' GotL.next ?k1); (case k1 => wtm_at "g_gl"))
  | fail)
local macro_rules | `(tactic| wtm_at "g_put") => `(tactic| first
  | (with_reducible assumption) | (with_reducible exact Put.here)
  | ((with_reducible refine' Put.next ?k1); (case k1 => wtm_at "g_put"))
  | fail)
local macro_rules | `(tactic| wtm_at "g_pk") => `(tactic| first
  | (with_reducible assumption) | (with_reducible exact Pick.keep) | (with_reducible exact Pick.here)
  | ((with_reducible refine' Pick.next ?k1); (case k1 => wtm_at "g_pk"))
  | fail)
local macro_rules | `(tactic| wtm_at "g_hp") => `(tactic| first
  | (with_reducible assumption) | (with_reducible exact upd_same)
  | ((with_reducible refine' Own.get ?k1 ?k2); (case k1 => wtm_at "g_own"); (case k2 => wtm_at "g_got"))
  | fail)
local macro_rules | `(tactic| wtm_at "g_sq") => `(tactic| first
  | (with_reducible assumption)
  | ((with_reducible refine' Own.sql ?k1 ?k2); (case k1 => wtm_at "g_own"); (case k2 => wtm_at "g_gl"))
  | ((with_reducible refine' SqL.of ?k1); (case k1 => wtm_at "g_hp"))
  | fail)
local macro_rules | `(tactic| wtm_at "g_sqt") => `(tactic| first
  | (with_reducible assumption) | ((with_reducible refine' SqT.of' ?k1); (case k1 => wtm_at "g_hp"))
  | fail)
local macro_rules | `(tactic| wtm_at "g_sz") => `(tactic| first
  | (with_reducible assumption) | (exact small_le rfl)
  | ((with_reducible refine' small16 ?k1); (case k1 => (try simp only [List.length_append, List.length_map, List.length_cons, List.length_nil, List.length_take, List.length_drop, List.length_set, List.length_range]); omega))
  | ((with_reducible refine' small16l ?k1); (case k1 => (try simp only [List.length_append, List.length_map, List.length_cons, List.length_nil, List.length_take, List.length_drop, List.length_set, List.length_range]); omega))
  | fail)
local macro_rules | `(tactic| wtm_at "g_gd") => `(tactic| first
  | (with_reducible assumption) | (with_reducible exact GotD.here) | (with_reducible exact GotD.hereR) | (with_reducible exact GotD.ints)
  | ((with_reducible refine' GotD.next ?k1); (case k1 => wtm_at "g_gd"))
  | fail)
local macro_rules | `(tactic| wtm_at "g_dp") => `(tactic| first
  | (with_reducible assumption)
  | ((with_reducible refine' Own.dpG ?k1 ?k2); (case k1 => wtm_at "g_own"); (case k2 => wtm_at "g_gd"))
  | fail)
local macro_rules | `(tactic| wtm_at "g_ar") => `(tactic| first
  | decide | (exact ⟨by decide, by decide⟩) | (exact Or.inr ⟨by decide, by decide⟩) | (exact Or.inl ⟨by decide, by decide⟩) | omega | (exact Or.inr ⟨by omega, by omega⟩) | (exact Or.inl ⟨by omega, by omega⟩) | (exact ⟨by omega, by omega⟩)
  | fail)
local macro_rules | `(tactic| wtm_at "g_ow") => `(tactic| first
  | wtm_at "g_own"
  | ((simp only [List.map_cons, List.map_nil]); wtm_at "g_own")
  | fail)
local macro_rules | `(tactic| wtm_at "g_callc") => `(tactic| first
  | ((with_reducible refine' o_digit ?k1 ?k2 ?k3 ?k4 ?_); (case k1 => wtm_at "g_own"); (case k2 => wtm_at "g_pk"); (case k3 => omega); (case k4 => omega); intro d HH d0 d1 ww)
  | ((with_reducible refine' o_start ?k1 ?_); (case k1 => wtm_at "g_own"); intro p HH ww)
  | ((with_reducible refine' c_cell ?k1 ?k2 ?_); (case k1 => wtm_at "g_sq"); (case k2 => omega); intro n)
  | ((with_reducible refine' c_isint ?_))
  | fail)
local macro_rules | `(tactic| wtm_at "g_st") => `(tactic| first
  | (with_reducible first
      | refine w_seq ?_ | refine w_asg ?_ | refine w_nm ?_ | refine w_next ?_ | refine w_if ?_ | refine w_ret ?_ | refine w_retN ?_ | refine w_drop ?_
      | refine w_var rfl ?_ | refine w_c ?_ | refine w_op ?_ | refine w_I0 ?_
      | refine w_eqI ?_ | refine w_neI ?_ | refine w_eqB ?_ | refine w_neB ?_ | refine w_eqS ?_ | refine w_neS ?_ | refine w_isN0 ?_ | refine w_isNi ?_ | refine w_isNr ?_ | refine w_isNb ?_ | refine w_isNs ?_ | refine w_notN0 ?_ | refine w_notNi ?_ | refine w_notNr ?_ | refine w_notNb ?_ | refine w_notNs ?_ | refine w_isN ?_ | refine w_notN ?_ | refine w_isB ?_ | refine w_notB ?_
      | refine w_un ?_ | refine w_U ?_ | refine w_chain ?_ | refine w_k ?_ | refine w_test ?_ | refine w_tB ?_ | refine w_tru ?_ | refine w_not ?_ | refine w_and ?_ | refine w_or ?_
      | refine w_andV ?_ | refine w_orV ?_ | refine w_notV ?_ | refine w_ife ?_ | refine w_nil ?_ | refine w_cons ?_ | refine w_tupK ?_ | refine w_lstK ?_ | refine w_small rfl ?_
      | refine w_call ?_ | refine w_mkQ ?_ | refine w_mt ?_ | refine k_ini ?_ | refine w_cb ?_ | refine w_min2 ?_ | refine w_max2 ?_ | refine w_abs ?_ | refine w_int ?_ | refine w_intb ?_
      | refine w_fld0 ?_ | refine w_bm ?_ | refine w_bm0 ?_ | refine w_sub ?_ | refine w_sfldQ ?_ | refine w_sfaQ ?_ | refine w_delQ ?_ | refine k_whT ?_ | refine w_radd ?_ | refine w_rsub ?_ | refine w_ip ?_ | refine w_rs ?_ | refine w_pr ?_
      | refine w_lcR1 ?_ | refine w_lcR2 ?_ | refine w_lcL ?_ | refine w_lcT ?_ | refine w_yes ?_ | refine w_disp ?_ | refine w_prs ?_ | refine w_prn ?_ | refine w_dget ?_ | refine w_sl ?_ | refine w_nopart ?_ | refine w_part ?_ | refine w_pint ?_
      | refine w_for3 ?_ | refine w_mkKQ ?_ | refine w_forR1 ?_ | refine w_forR2 ?_ | refine w_forL ?_ | refine w_forT ?_ | refine w_aug rfl ?_ | refine w_par ?_ | refine w_brk ?_ | refine w_cont ?_
      | refine w_isi_ii ?_ | refine w_isi_ib ?_ | refine w_isi_bi ?_ | refine w_isi_bb ?_ | refine w_isi_ss ?_ | refine w_isi_is ?_ | refine w_isi_il ?_ | refine w_isi_it ?_ | refine w_isi_sl ?_ | refine w_isi_st ?_ | refine w_isi_nl ?_ | refine w_isi_nt ?_
      | refine if_T ?_ | refine if_F ?_ | refine if_nT ?_ | refine if_nF ?_)
  | ((with_reducible refine' k_tup rfl ?k1 ?_); (case k1 => wtm_at "g_own"); intro p HH ww)
  | ((with_reducible refine' k_lst1R ?k1 ?_); (case k1 => wtm_at "g_own"); intro p HH ww)
  | ((with_reducible refine' k_lst1I ?k1 ?_); (case k1 => wtm_at "g_own"); intro p HH ww)
  | ((with_reducible refine' k_lst rfl ?k1 ?_); (case k1 => wtm_at "g_own"); intro p HH ww)
  | ((with_reducible refine' k_mk ?k1 ?_); (case k1 => wtm_at "g_own"); intro p dx HH ww)
  | wtm_at "g_mkk"
  | ((with_reducible refine' k_listL ?k1 ?k2 ?_); (case k1 => wtm_at "g_own"); (case k2 => wtm_at "g_sq"); intro p HH ww)
  | ((with_reducible refine' k_listT ?k1 ?k2 ?_); (case k1 => wtm_at "g_own"); (case k2 => wtm_at "g_sqt"); intro p HH ww)
  | ((with_reducible refine' k_tupL ?k1 ?k2 ?_); (case k1 => wtm_at "g_own"); (case k2 => wtm_at "g_sq"); intro p HH ww)
  | ((with_reducible refine' k_slfromRs ?k1 ?k2 ?_); (case k1 => wtm_at "g_own"); (case k2 => wtm_at "g_sq"); intro p HH ww)
  | ((with_reducible refine' k_slfromR1 ?k1 ?k2 ?_); (case k1 => wtm_at "g_own"); (case k2 => wtm_at "g_sq"); intro p HH ww)
  | ((with_reducible refine' k_slfromRn ?k1 ?k2 ?_); (case k1 => wtm_at "g_own"); (case k2 => wtm_at "g_sq"); intro p HH ww)
  | ((with_reducible refine' k_sltoR1 ?k1 ?k2 ?_); (case k1 => wtm_at "g_own"); (case k2 => wtm_at "g_sq"); intro p HH ww)
  | ((with_reducible refine' k_sltoRn ?k1 ?k2 ?_); (case k1 => wtm_at "g_own"); (case k2 => wtm_at "g_sq"); intro p HH ww)
  | ((with_reducible refine' k_slfromIs ?k1 ?k2 ?_); (case k1 => wtm_at "g_own"); (case k2 => wtm_at "g_sq"); intro p HH ww)
  | ((with_reducible refine' k_slfromI1 ?k1 ?k2 ?_); (case k1 => wtm_at "g_own"); (case k2 => wtm_at "g_sq"); intro p HH ww)
  | ((with_reducible refine' k_slfromIn ?k1 ?k2 ?_); (case k1 => wtm_at "g_own"); (case k2 => wtm_at "g_sq"); intro p HH ww)
  | ((with_reducible refine' k_sltoI1 ?k1 ?k2 ?_); (case k1 => wtm_at "g_own"); (case k2 => wtm_at "g_sq"); intro p HH ww)
  | ((with_reducible refine' k_sltoIn ?k1 ?k2 ?_); (case k1 => wtm_at "g_own"); (case k2 => wtm_at "g_sq"); intro p HH ww)
  | ((with_reducible refine' k_slfromI ?k1 ?k2 ?k3 ?_); (case k1 => wtm_at "g_own"); (case k2 => wtm_at "g_sq"); (case k3 => omega); intro p HH ww)
  | ((with_reducible refine' k_sltoI ?k1 ?k2 ?k3 ?_); (case k1 => wtm_at "g_own"); (case k2 => wtm_at "g_sq"); (case k3 => omega); intro p HH ww)
  | ((with_reducible refine' k_slmidI ?k1 ?k2 ?k3 ?k4 ?_); (case k1 => wtm_at "g_own"); (case k2 => wtm_at "g_sq"); (case k3 => omega); (case k4 => omega); intro p HH ww)
  | ((with_reducible refine' k_catI ?k1 ?k2 ?k3 ?k4 ?_); (case k1 => wtm_at "g_own"); (case k2 => wtm_at "g_got"); (case k3 => wtm_at "g_got"); (case k4 => wtm_at "g_sz"); intro p HH ww)
  | ((with_reducible refine' k_catR ?k1 ?k2 ?k3 ?k4 ?_); (case k1 => wtm_at "g_own"); (case k2 => wtm_at "g_got"); (case k3 => wtm_at "g_got"); (case k4 => wtm_at "g_sz"); intro p HH ww)
  | ((with_reducible refine' k_slfromR ?k1 ?k2 ?k3 ?_); (case k1 => wtm_at "g_own"); (case k2 => wtm_at "g_sq"); (case k3 => omega); intro p HH ww)
  | ((with_reducible refine' k_sltoR ?k1 ?k2 ?k3 ?_); (case k1 => wtm_at "g_own"); (case k2 => wtm_at "g_sq"); (case k3 => omega); intro p HH ww)
  | ((with_reducible refine' k_appI ?k1 ?k2 ?k3 ?_); (case k1 => wtm_at "g_own"); (case k2 => wtm_at "g_put"); (case k3 => wtm_at "g_sz"); intro HH ww)
  | ((with_reducible refine' k_appR ?k1 ?k2 ?k3 ?_); (case k1 => wtm_at "g_own"); (case k2 => wtm_at "g_put"); (case k3 => wtm_at "g_sz"); intro HH ww)
  | ((with_reducible refine' k_extendI ?k1 ?k2 ?k3 ?k4 ?_); (case k1 => wtm_at "g_own"); (case k2 => wtm_at "g_put"); (case k3 => wtm_at "g_got"); (case k4 => wtm_at "g_sz"); intro HH ww)
  | ((with_reducible refine' k_slfrom ?k1 ?k2 ?k3 ?_); (case k1 => wtm_at "g_own"); (case k2 => wtm_at "g_sq"); (case k3 => omega); intro p HH ww)
  | ((with_reducible refine' k_slto ?k1 ?k2 ?k3 ?_); (case k1 => wtm_at "g_own"); (case k2 => wtm_at "g_sq"); (case k3 => omega); intro p HH ww)
  | ((with_reducible refine' k_slmid ?k1 ?k2 ?k3 ?k4 ?_); (case k1 => wtm_at "g_own"); (case k2 => wtm_at "g_sq"); (case k3 => omega); (case k4 => omega); intro p HH ww)
  | ((with_reducible refine' k_cat ?k1 ?k2 ?k3 ?k4 ?_); (case k1 => wtm_at "g_own"); (case k2 => wtm_at "g_got"); (case k3 => wtm_at "g_got"); (case k4 => wtm_at "g_sz"); intro p HH ww)
  | ((with_reducible refine' k_app ?k1 ?k2 ?k3 ?_); (case k1 => wtm_at "g_own"); (case k2 => wtm_at "g_put"); (case k3 => wtm_at "g_sz"); intro HH ww)
  | ((with_reducible refine' ty_list ?k1 ?_); (case k1 => wtm_at "g_hp"))
  | ((with_reducible refine' k_truR ?k1 ?_); (case k1 => wtm_at "g_sq"))
  | ((with_reducible refine' k_truI ?k1 ?_); (case k1 => wtm_at "g_sq"))
  | ((with_reducible refine' k_truL ?k1 ?_); (case k1 => wtm_at "g_sq"))
  | ((with_reducible refine' w_lenLI ?k1 ?_); (case k1 => wtm_at "g_sq"))
  | ((with_reducible refine' w_lenLR ?k1 ?_); (case k1 => wtm_at "g_sq"))
  | ((with_reducible refine' w_ixT ?k1 ?k2 ?_); (case k1 => wtm_at "g_sqt"); (case k2 => first | rfl | fail))
  | ((with_reducible refine' w_ixRc ?k1 ?_); (case k1 => wtm_at "g_sq"))
  | ((with_reducible refine' w_ixR0 ?k1 ?k2 ?_); (case k1 => wtm_at "g_sq"); (case k2 => with_reducible assumption))
  | ((with_reducible refine' w_ixR ?k1 ?k2 ?_); (case k1 => wtm_at "g_sq"); (case k2 => with_reducible assumption))
  | ((with_reducible refine' w_ixLastR ?k1 ?k2 ?_); (case k1 => wtm_at "g_sq"); (case k2 => with_reducible assumption))
  | ((with_reducible refine' k_slinitR ?k1 ?k2 ?_); (case k1 => wtm_at "g_own"); (case k2 => wtm_at "g_sq"); intro p HH ww)
  | ((with_reducible refine' w_gTup ?k1 ?k2 ?_); (case k1 => wtm_at "g_sqt"); (case k2 => rfl))
  | (with_reducible refine w_gCons ?_)
  | (with_reducible refine w_gNil ?_)
  | ((with_reducible refine' w_ixI ?k1 ?k2 ?k3 ?_); (case k1 => wtm_at "g_sq"); (case k2 => omega); (case k3 => omega))
  | ((with_reducible refine' w_I ?k1 ?_); (case k1 => wtm_at "g_ar"))
  | ((with_reducible refine' k_reverse ?k1 ?k2 ?_); (case k1 => wtm_at "g_own"); (case k2 => wtm_at "g_put"); intro HH ww)
  | ((with_reducible refine' w_lenL ?k1 ?_); (case k1 => wtm_at "g_sq"))
  | ((with_reducible refine' w_lenT ?k1 ?_); (case k1 => wtm_at "g_sqt"))
  | ((with_reducible refine' w_isi_ll ?k1 ?_); (case k1 => wtm_at "g_hp"))
  | ((with_reducible refine' w_isi_tt ?k1 ?_); (case k1 => wtm_at "g_hp"))
  | ((with_reducible refine' w_isi_lt ?k1 ?_); (case k1 => wtm_at "g_hp"))
  | ((with_reducible refine' w_isi_tl ?k1 ?_); (case k1 => wtm_at "g_hp"))
  | ((with_reducible refine' w_ll ?k1 ?k2 ?_); (case k1 => rfl); (case k2 => rfl))
  | wtm_at "g_get"
  | wtm_at "g_mt"
  | wtm_at "g_set"
  | wtm_at "g_set2"
  | wtm_at "g_call"
  | wtm_at "g_callc"
  | fail)
local macro_rules | `(tactic| wtm_at "g_go") => `(tactic| repeat wtm_at "g_st")
local macro_rules | `(tactic| wtm_at "g_ifo") => `(tactic| first
  | (refine if_nno rfl ?_) | (refine if_yes rfl ?_)
  | (refine if_no (by omega) ?_)
  | (refine if_yes (by omega) ?_)
  | (refine if_nno (by omega) ?_)
  | (refine if_nyes (by omega) ?_)
  | (refine if_nno (decide_eq_false (by omega)).symm ?_)
  | (refine if_nno (decide_eq_true (by omega)).symm ?_)
  | fail)
local macro_rules | `(tactic| wtm_at "g_goo") => `(tactic| repeat (first | wtm_at "g_st" | wtm_at "g_ifo"))
section
variable {K : PySem.W.Frag} {mg : Str → Option Value} {base : Heap}
theorem mostTo_le (fs : List Fl) : ∀ n, mostTo fs n ≤ n
  | 0 => Nat.le_refl 0
  | n + 1 => by
    have := mostTo_le fs n
    unfold mostTo
    split <;> omega
theorem most_lt {fs : List Fl} (h : fs ≠ []) : most fs < fs.length := by
  have := mostTo_le fs (fs.length - 1)
  have : 0 < fs.length := List.length_pos_iff.mpr h
  unfold most
  omega
theorem getD_some {α : Type} {xs : List α} {i : Nat} {x d : α} (h : xs[i]? = some x) : xs.getD i d = x := by rw [List.getD_eq_getElem?_getD, h]; rfl
theorem some_lt {α : Type} {xs : List α} {i : Nat} (h : i < xs.length) : ∃ x, xs[i]? = some x := ⟨_, List.getElem?_eq_getElem h⟩
theorem len_cnt {fs : List Fl} {f : Fl} (h : f ∈ fs) : f.rows.length ≤ cnt fs := by
  unfold cnt
  induction fs with
  | nil => cases h
  | cons g r ih =>
    rw [List.map_cons, List.sum_cons]
    rcases List.mem_cons.mp h with rfl | h
    · omega
    · have := ih h; omega
theorem fs_cnt {fs : List Fl} (h : ∀ f ∈ fs, f.rows ≠ []) : fs.length ≤ cnt fs := by
  unfold cnt
  induction fs with
  | nil => exact Nat.le_refl 0
  | cons g r ih =>
    rw [List.map_cons, List.sum_cons, List.length_cons]
    have := ih fun f hf => h f (List.mem_cons_of_mem _ hf)
    have : 0 < g.rows.length := List.length_pos_iff.mpr (h g List.mem_cons_self)
    omega
theorem last_at {α : Type} {xs : List α} {d : α} (h : xs ≠ []) : xs[xs.length - 1]? = some (xs.getLastD d) := by
  rw [List.getLastD_eq_getLast?, ← List.getLast?_eq_getElem?]
  cases e : xs.getLast? with
  | none => exact absurd (List.getLast?_eq_none_iff.mp e) h
  | some x => rfl
theorem pure_FairQueue_drop (T : TX K mg base) (vs : List V) (H : Hp) (Q : VK) (E : XK) (h : sp_FairQueue_drop K vs H Q E) : t_FairQueue_drop K E { nx := fun _ H' => Q .non H', rt := Q } (start N_FairQueue_drop vs) H := by
  obtain ⟨p, x, R, rfl, hne, hrs, hc, w, q⟩ := h
  obtain ⟨dx, l, fs, w⟩ := qu_out w
  have hlen := (w.pick (.next (.next .here))).bigLen
  have hfl : x.fs.length ≤ 200000 := Nat.le_trans (fs_cnt hrs) hc
  have hpos : 0 < x.fs.length := List.length_pos_iff.mpr hne
  unfold t_FairQueue_drop
  wtm_at "g_go"
  refine loop2 (fun i σ H' => ∃ v2, σ = [some (.ref p), some (.int (mostTo x.fs i : Nat)), v2, none, none] ∧ Own (pt p (.ins (He.ga K "FairQueue") dx (fFairQueue (.int x.lim) (.int x.q) (.ref l) (.bl x.gr))) :: pt l (.lst (fs.map V.ref)) :: big (FlP K) fs x.fs :: R) H') ⟨by omega, by omega, by omega, by omega⟩ ⟨_, rfl, w⟩ ?_ ?_
  · rintro i σ H1 hi ⟨v2, rfl, w1⟩
    have hm := mostTo_le x.fs i
    obtain ⟨a, ha⟩ := some_lt (xs := fs) (i := 1 + i) (by omega)
    obtain ⟨f, hf⟩ := at_of_len ha hlen
    obtain ⟨b, hb⟩ := some_lt (xs := fs) (i := mostTo x.fs i) (by omega)
    obtain ⟨g, hg⟩ := at_of_len hb hlen
    obtain ⟨d1, k1, l1, hp1, _⟩ := (w1.pick (.next (.next .here))).bigTell ha hf tell_fl
    obtain ⟨d2, k2, l2, hp2, _⟩ := (w1.pick (.next (.next .here))).bigTell hb hg tell_fl
    wtm_at "g_go"
    refine w_ixL (xs := fs.map V.ref) (by wtm_at "g_sq") (atI_ref ha (by omega)) ?_
    wtm_at "g_go"
    have em : mostTo x.fs (i + 1) = if g.oct < f.oct then i + 1 else mostTo x.fs i := by
      rw [mostTo, getD_some hg, show i + 1 = 1 + i by omega, getD_some hf]
    refine if_d (fun h1 => ?_) (fun h1 => ?_)
    · wtm_at "g_go"
      exact ⟨_, by rw [em, if_pos h1, show ((i + 1 : Nat) : Int) = 1 + (i : Int) by omega]; rfl, w1⟩
    · wtm_at "g_go"
      exact ⟨_, by rw [em, if_neg h1]; rfl, w1⟩
  rintro σ H1 ⟨v2, rfl, w1⟩
  have e1 : (((fs.length : Nat) : Int) - 1).toNat = x.fs.length - 1 := by omega
  rw [e1]
  change Own _ H1 at w1
  have hmost : mostTo x.fs (x.fs.length - 1) = most x.fs := rfl
  rw [hmost]
  have hml := most_lt hne
  obtain ⟨a, ha⟩ := some_lt (xs := fs) (i := most x.fs) (by omega)
  obtain ⟨f, hf⟩ := at_of_len ha hlen
  have hfm := List.mem_of_getElem? hf
  have hfr := hrs f hfm
  have hfc : f.rows.length ≤ 200000 := Nat.le_trans (len_cnt hfm) hc
  have hfp : 0 < f.rows.length := List.length_pos_iff.mpr hfr
  wtm_at "g_go"
  obtain ⟨dy, ka, lf, ws, w2⟩ := fl_out ((w1.pick (.next (.next .here))).bigOut ha hf)
  have hws : ws.length = f.rows.length := by
    have := (w2.pick (.next (.next (.next .here)))).bigLen
    rw [List.length_map] at this
    exact this
  wtm_at "g_go"
  have w3 := fl_in w2
  refine c_take (f := f) (j := f.rows.length - 1) (by omega) (last_at (d := (V.non, (0 : Int))) hfr) (by omega) w3 .here fun H2 b w4 => ?_
  rw [List.eraseIdx_length_sub_one] at w4
  obtain ⟨dz, kb, lg, us, w5⟩ := fl_out (w4.swap)
  have hus : us.length = f.rows.dropLast.length := by
    have := (w5.pick (.next (.next (.next .here)))).bigLen
    rw [List.length_map] at this
    exact this
  wtm_at "g_go"
  have w6 := (fl_in w5).perm (.swap _ _ _)
  have w7 : Own (FlP K a { f with rows := f.rows.dropLast } :: big (FlP K) (fs.take (most x.fs)) (x.fs.take (most x.fs)) :: big (FlP K) (fs.drop (most x.fs + 1)) (x.fs.drop (most x.fs + 1)) :: WtP K b (dropW x.fs) :: pt p (.ins (He.ga K "FairQueue") dx (fFairQueue (.int x.lim) (.int x.q) (.ref l) (.bl x.gr))) :: pt l (.lst (fs.map V.ref)) :: R) H2 := by
    have e : dropW x.fs = f.wt (f.rows.getLastD (V.non, 0)) := by unfold dropW; rw [getD_some hf]
    rw [e]
    wtm_at "g_own"
  have w8 := w7.bigBack ha (by omega)
  have e8 : x.fs.set (most x.fs) { f with rows := f.rows.dropLast } = x.fs.set (most x.fs) ((x.fs.getD (most x.fs) fl0).wr (x.fs.getD (most x.fs) fl0).rows.dropLast) := by rw [getD_some hf]
  refine if_nd (fun h1 => ?_) (fun h1 => ?_)
  · have he : f.rows.dropLast = [] := List.length_eq_zero_iff.mp (by omega)
    have hs : dropS x.fs x.gr = ((x.fs.set (most x.fs) { f with rows := f.rows.dropLast }).eraseIdx (most x.fs), if most x.fs = 0 then false else x.gr) := by
      rw [dropS, ← e8, outAt, if_pos]
      rw [getD_some (List.getElem?_set_self hml)]
      exact he
    have w9 := (Own.swap w8)
    have w10 : Own (QuP K p { x with fs := x.fs.set (most x.fs) { f with rows := f.rows.dropLast } } :: WtP K b (dropW x.fs) :: R) H2 := qu_in (by wtm_at "g_own")
    obtain ⟨d3, l3, hp3⟩ := w10.ent (.here tell_qu)
    wtm_at "g_go"
    refine c_remove (j := most x.fs) rfl (by rw [List.length_set]; exact hml) (by rw [List.length_set]; omega) w10 .here fun H3 w11 => ?_
    wtm_at "g_go"
    refine q _ _ (Own.swap ?_)
    rw [hs]
    exact w11
  · have he : f.rows.dropLast ≠ [] := fun z => by rw [z] at hus; simp at hus; simp [hus] at h1
    have hs : dropS x.fs x.gr = (x.fs.set (most x.fs) { f with rows := f.rows.dropLast }, x.gr) := by
      rw [dropS, ← e8, outAt, if_neg]
      rw [getD_some (List.getElem?_set_self hml)]
      exact he
    wtm_at "g_go"
    refine q _ _ (Own.swap (qu_in (fs := fs) (l := l) (dx := dx) ?_))
    rw [hs]
    wtm_at "g_own"
end
end K81

namespace K81
open PySem PySem.Spec PyProof.Rows L2 G
local macro_rules | `(tactic| wtm_at "g_get") => `(tactic| first
  | ((with_reducible refine' w_fld ?k1 (cl_Waiting (by assumption)) (na_Waiting_key (by assumption)) lk_Waiting_key ?_); (case k1 => wtm_at "g_hp"))
  | ((with_reducible refine' w_fld ?k1 (cl_Waiting (by assumption)) (na_Waiting_item (by assumption)) lk_Waiting_item ?_); (case k1 => wtm_at "g_hp"))
  | ((with_reducible refine' w_fld ?k1 (cl_Waiting (by assumption)) (na_Waiting_weight (by assumption)) lk_Waiting_weight ?_); (case k1 => wtm_at "g_hp"))
  | ((with_reducible refine' w_fld ?k1 (cl_Flow (by assumption)) (na_Flow_key (by assumption)) lk_Flow_key ?_); (case k1 => wtm_at "g_hp"))
  | ((with_reducible refine' w_fld ?k1 (cl_Flow (by assumption)) (na_Flow_rows (by assumption)) lk_Flow_rows ?_); (case k1 => wtm_at "g_hp"))
  | ((with_reducible refine' w_fld ?k1 (cl_Flow (by assumption)) (na_Flow_octets (by assumption)) lk_Flow_octets ?_); (case k1 => wtm_at "g_hp"))
  | ((with_reducible refine' w_fld ?k1 (cl_Flow (by assumption)) (na_Flow_credit (by assumption)) lk_Flow_credit ?_); (case k1 => wtm_at "g_hp"))
  | ((with_reducible refine' w_fld ?k1 (cl_FairQueue (by assumption)) (na_FairQueue_limit (by assumption)) lk_FairQueue_limit ?_); (case k1 => wtm_at "g_hp"))
  | ((with_reducible refine' w_fld ?k1 (cl_FairQueue (by assumption)) (na_FairQueue_quantum (by assumption)) lk_FairQueue_quantum ?_); (case k1 => wtm_at "g_hp"))
  | ((with_reducible refine' w_fld ?k1 (cl_FairQueue (by assumption)) (na_FairQueue_flows (by assumption)) lk_FairQueue_flows ?_); (case k1 => wtm_at "g_hp"))
  | ((with_reducible refine' w_fld ?k1 (cl_FairQueue (by assumption)) (na_FairQueue_granted (by assumption)) lk_FairQueue_granted ?_); (case k1 => wtm_at "g_hp"))
  | fail)
local macro_rules | `(tactic| wtm_at "g_set") => `(tactic| first
  | ((with_reducible refine' k_fld ?k1 ?k2 (cl_Waiting (by assumption)) (na_Waiting_key (by assumption)) pt_Waiting_key rfl ?_); (case k1 => wtm_at "g_own"); (case k2 => wtm_at "g_put"); intro HH ww)
  | ((with_reducible refine' k_fld ?k1 ?k2 (cl_Waiting (by assumption)) (na_Waiting_key (by assumption)) pn_Waiting_key rfl ?_); (case k1 => wtm_at "g_own"); (case k2 => wtm_at "g_put"); intro HH ww)
  | ((with_reducible refine' k_fld ?k1 ?k2 (cl_Waiting (by assumption)) (na_Waiting_item (by assumption)) pt_Waiting_item rfl ?_); (case k1 => wtm_at "g_own"); (case k2 => wtm_at "g_put"); intro HH ww)
  | ((with_reducible refine' k_fld ?k1 ?k2 (cl_Waiting (by assumption)) (na_Waiting_item (by assumption)) pn_Waiting_item rfl ?_); (case k1 => wtm_at "g_own"); (case k2 => wtm_at "g_put"); intro HH ww)
  | ((with_reducible refine' k_fld ?k1 ?k2 (cl_Waiting (by assumption)) (na_Waiting_weight (by assumption)) pt_Waiting_weight rfl ?_); (case k1 => wtm_at "g_own"); (case k2 => wtm_at "g_put"); intro HH ww)
  | ((with_reducible refine' k_fld ?k1 ?k2 (cl_Waiting (by assumption)) (na_Waiting_weight (by assumption)) pn_Waiting_weight rfl ?_); (case k1 => wtm_at "g_own"); (case k2 => wtm_at "g_put"); intro HH ww)
  | ((with_reducible refine' k_fld ?k1 ?k2 (cl_Flow (by assumption)) (na_Flow_key (by assumption)) pt_Flow_key rfl ?_); (case k1 => wtm_at "g_own"); (case k2 => wtm_at "g_put"); intro HH ww)
  | ((with_reducible refine' k_fld ?k1 ?k2 (cl_Flow (by assumption)) (na_Flow_key (by assumption)) pn_Flow_key rfl ?_); (case k1 => wtm_at "g_own"); (case k2 => wtm_at "g_put"); intro HH ww)
  | ((with_reducible refine' k_fld ?k1 ?k2 (cl_Flow (by assumption)) (na_Flow_rows (by assumption)) pt_Flow_rows rfl ?_); (case k1 => wtm_at "g_own"); (case k2 => wtm_at "g_put"); intro HH ww)
  | ((with_reducible refine' k_fld ?k1 ?k2 (cl_Flow (by assumption)) (na_Flow_rows (by assumption)) pn_Flow_rows rfl ?_); (case k1 => wtm_at "g_own"); (case k2 => wtm_at "g_put"); intro HH ww)
  | ((with_reducible refine' k_fld ?k1 ?k2 (cl_Flow (by assumption)) (na_Flow_octets (by assumption)) pt_Flow_octets rfl ?_); (case k1 => wtm_at "g_own"); (case k2 => wtm_at "g_put"); intro HH ww)
  | ((with_reducible refine' k_fld ?k1 ?k2 (cl_Flow (by assumption)) (na_Flow_octets (by assumption)) pn_Flow_octets rfl ?_); (case k1 => wtm_at "g_own"); (case k2 => wtm_at "g_put"); intro HH ww)
  | ((with_reducible refine' k_fld ?k1 ?k2 (cl_Flow (by assumption)) (na_Flow_credit (by assumption)) pt_Flow_credit rfl ?_); (case k1 => wtm_at "g_own"); (case k2 => wtm_at "g_put"); intro HH ww)
  | ((with_reducible refine' k_fld ?k1 ?k2 (cl_Flow (by assumption)) (na_Flow_credit (by assumption)) pn_Flow_credit rfl ?_); (case k1 => wtm_at "g_own"); (case k2 => wtm_at "g_put"); intro HH ww)
  | ((with_reducible refine' k_fld ?k1 ?k2 (cl_FairQueue (by assumption)) (na_FairQueue_limit (by assumption)) pt_FairQueue_limit rfl ?_); (case k1 => wtm_at "g_own"); (case k2 => wtm_at "g_put"); intro HH ww)
  | ((with_reducible refine' k_fld ?k1 ?k2 (cl_FairQueue (by assumption)) (na_FairQueue_limit (by assumption)) pn_FairQueue_limit rfl ?_); (case k1 => wtm_at "g_own"); (case k2 => wtm_at "g_put"); intro HH ww)
  | ((with_reducible refine' k_fld ?k1 ?k2 (cl_FairQueue (by assumption)) (na_FairQueue_quantum (by assumption)) pt_FairQueue_quantum rfl ?_); (case k1 => wtm_at "g_own"); (case k2 => wtm_at "g_put"); intro HH ww)
  | ((with_reducible refine' k_fld ?k1 ?k2 (cl_FairQueue (by assumption)) (na_FairQueue_quantum (by assumption)) pn_FairQueue_quantum rfl ?_); (case k1 => wtm_at "g_own"); (case k2 => wtm_at "g_put"); intro HH ww)
  | ((with_reducible refine' k_fld ?k1 ?k2 (cl_FairQueue (by assumption)) (na_FairQueue_flows (by assumption)) pt_FairQueue_flows rfl ?_); (case k1 => wtm_at "g_own"); (case k2 => wtm_at "g_put"); intro HH ww)
  | ((with_reducible refine' k_fld ?k1 ?k2 (cl_FairQueue (by assumption)) (na_FairQueue_flows (by assumption)) pn_FairQueue_flows rfl ?_); (case k1 => wtm_at "g_own"); (case k2 => wtm_at "g_put"); intro HH ww)
  | ((with_reducible refine' k_fld ?k1 ?k2 (cl_FairQueue (by assumption)) (na_FairQueue_granted (by assumption)) pt_FairQueue_granted rfl ?_); (case k1 => wtm_at "g_own"); (case k2 => wtm_at "g_put"); intro HH ww)
  | ((with_reducible refine' k_fld ?k1 ?k2 (cl_FairQueue (by assumption)) (na_FairQueue_granted (by assumption)) pn_FairQueue_granted rfl ?_); (case k1 => wtm_at "g_own"); (case k2 => wtm_at "g_put"); intro HH ww)
  | fail)
local macro_rules | `(tactic| wtm_at "g_set2") => `(tactic| first
  | ((with_reducible refine' k_fa ?k1 ?k2 pt_Waiting_key rfl ?_); (case k1 => wtm_at "g_own"); (case k2 => wtm_at "g_put"); intro HH ww)
  | ((with_reducible refine' k_fa ?k1 ?k2 pt_Waiting_item rfl ?_); (case k1 => wtm_at "g_own"); (case k2 => wtm_at "g_put"); intro HH ww)
  | ((with_reducible refine' k_fa ?k1 ?k2 pt_Waiting_weight rfl ?_); (case k1 => wtm_at "g_own"); (case k2 => wtm_at "g_put"); intro HH ww)
  | ((with_reducible refine' k_fa ?k1 ?k2 pt_Flow_key rfl ?_); (case k1 => wtm_at "g_own"); (case k2 => wtm_at "g_put"); intro HH ww)
  | ((with_reducible refine' k_fa ?k1 ?k2 pt_Flow_rows rfl ?_); (case k1 => wtm_at "g_own"); (case k2 => wtm_at "g_put"); intro HH ww)
  | ((with_reducible refine' k_fa ?k1 ?k2 pt_Flow_octets rfl ?_); (case k1 => wtm_at "g_own"); (case k2 => wtm_at "g_put"); intro HH ww)
  | ((with_reducible refine' k_fa ?k1 ?k2 pt_Flow_credit rfl ?_); (case k1 => wtm_at "g_own"); (case k2 => wtm_at "g_put"); intro HH ww)
  | ((with_reducible refine' k_fa ?k1 ?k2 pt_FairQueue_limit rfl ?_); (case k1 => wtm_at "g_own"); (case k2 => wtm_at "g_put"); intro HH ww)
  | ((with_reducible refine' k_fa ?k1 ?k2 pt_FairQueue_quantum rfl ?_); (case k1 => wtm_at "g_own"); (case k2 => wtm_at "g_put"); intro HH ww)
  | ((with_reducible refine' k_fa ?k1 ?k2 pt_FairQueue_flows rfl ?_); (case k1 => wtm_at "g_own"); (case k2 => wtm_at "g_put"); intro HH ww)
  | ((with_reducible refine' k_fa ?k1 ?k2 pt_FairQueue_granted rfl ?_); (case k1 => wtm_at "g_own"); (case k2 => wtm_at "g_put"); intro HH ww)
  | fail)
local macro_rules | `(tactic| wtm_at "g_mt") => `(tactic| first
  | ((with_reducible refine' w_mt1 ?k1 ln_Flow_add ?_); (case k1 => wtm_at "g_hp"))
  | ((with_reducible refine' w_mt1 ?k1 ln_Flow_take ?_); (case k1 => wtm_at "g_hp"))
  | ((with_reducible refine' w_mt1 ?k1 ln_Flow_fork ?_); (case k1 => wtm_at "g_hp"))
  | ((with_reducible refine' w_mt1 ?k1 ln_FairQueue_count ?_); (case k1 => wtm_at "g_hp"))
  | ((with_reducible refine' w_mt1 ?k1 ln_FairQueue_octets ?_); (case k1 => wtm_at "g_hp"))
  | ((with_reducible refine' w_mt1 ?k1 ln_FairQueue_octets_of ?_); (case k1 => wtm_at "g_hp"))
  | ((with_reducible refine' w_mt1 ?k1 ln_FairQueue_flow_of ?_); (case k1 => wtm_at "g_hp"))
  | ((with_reducible refine' w_mt1 ?k1 ln_FairQueue_remove_flow ?_); (case k1 => wtm_at "g_hp"))
  | ((with_reducible refine' w_mt1 ?k1 ln_FairQueue_put ?_); (case k1 => wtm_at "g_hp"))
  | ((with_reducible refine' w_mt1 ?k1 ln_FairQueue_drop ?_); (case k1 => wtm_at "g_hp"))
  | ((with_reducible refine' w_mt1 ?k1 ln_FairQueue_turn ?_); (case k1 => wtm_at "g_hp"))
  | ((with_reducible refine' w_mt1 ?k1 ln_FairQueue_next_up ?_); (case k1 => wtm_at "g_hp"))
  | ((with_reducible refine' w_mt1 ?k1 ln_FairQueue_take ?_); (case k1 => wtm_at "g_hp"))
  | ((with_reducible refine' w_mt1 ?k1 ln_FairQueue_take_all ?_); (case k1 => wtm_at "g_hp"))
  | ((with_reducible refine' w_mt1 ?k1 ln_FairQueue_fork ?_); (case k1 => wtm_at "g_hp"))
  | fail)
local macro_rules | `(tactic| wtm_at "g_mkk") => `(tactic| first
  | fail
  | fail)
local macro_rules | `(tactic| wtm_at "g_callf") => `(tactic| first
  | ((with_reducible refine' c_Waiting_init ?k1 ?k2 ?k3 ?_); (case k1 => wtm_at "g_own"); (case k2 => wtm_at "g_pk"); (case k3 => wtm_at "g_pk"); intro HH ww)
  | ((with_reducible refine' c_Flow_init ?k1 ?k2 ?k3 ?_); (case k1 => wtm_at "g_own"); (case k2 => wtm_at "g_pk"); (case k3 => wtm_at "g_pk"); intro HH ww)
  | ((with_reducible refine' c_octets ?k0 ?k1 ?k2 ?_); (case k1 => wtm_at "g_own"); (case k2 => wtm_at "g_pk"); (case k0 => omega); intro HH ww)
  | ((with_reducible refine' w_fldT tell_qu_lim ?k1 ?k2 (cl_FairQueue (by assumption)) (na_FairQueue_limit (by assumption)) ?_); (case k1 => wtm_at "g_own"); (case k2 => wtm_at "g_pk"); intro dz fz; (try clear fz dz))
  | ((with_reducible refine' w_fldT tell_qu_q ?k1 ?k2 (cl_FairQueue (by assumption)) (na_FairQueue_quantum (by assumption)) ?_); (case k1 => wtm_at "g_own"); (case k2 => wtm_at "g_pk"); intro dz fz; (try clear fz dz))
  | ((with_reducible refine' w_fldT tell_wt_w ?k1 ?k2 (cl_Waiting (by assumption)) (na_Waiting_weight (by assumption)) ?_); (case k1 => wtm_at "g_own"); (case k2 => wtm_at "g_pk"); intro dz fz; (try clear fz dz))
  | ((with_reducible refine' w_fldT tell_wt_i ?k1 ?k2 (cl_Waiting (by assumption)) (na_Waiting_item (by assumption)) ?_); (case k1 => wtm_at "g_own"); (case k2 => wtm_at "g_pk"); intro dz fz; (try clear fz dz))
  | ((with_reducible refine' w_mtT (tell_qu_m ln_FairQueue_octets) ?k1 ?k2 ?_); (case k1 => wtm_at "g_own"); (case k2 => wtm_at "g_pk"))
  | ((with_reducible refine' w_mtT (tell_qu_m ln_FairQueue_drop) ?k1 ?k2 ?_); (case k1 => wtm_at "g_own"); (case k2 => wtm_at "g_pk"))
  | ((with_reducible refine' w_mtT (tell_qu_m ln_FairQueue_turn) ?k1 ?k2 ?_); (case k1 => wtm_at "g_own"); (case k2 => wtm_at "g_pk"))
  | ((with_reducible refine' w_mtT (tell_qu_m ln_FairQueue_next_up) ?k1 ?k2 ?_); (case k1 => wtm_at "g_own"); (case k2 => wtm_at "g_pk"))
  | ((with_reducible refine' w_mtT (tell_qu_m ln_FairQueue_remove_flow) ?k1 ?k2 ?_); (case k1 => wtm_at "g_own"); (case k2 => wtm_at "g_pk"))
  | ((with_reducible refine' w_mtT (tell_fl_m ln_Flow_add) ?k1 ?k2 ?_); (case k1 => wtm_at "g_own"); (case k2 => wtm_at "g_pk"))
  | ((with_reducible refine' w_mtT (tell_fl_m ln_Flow_take) ?k1 ?k2 ?_); (case k1 => wtm_at "g_own"); (case k2 => wtm_at "g_pk"))
  | fail)
local macro_rules | `(tactic| wtm_at "g_call") => `(tactic| first
  | wtm_at "g_callf"
  | ((with_reducible refine' w_mtT (tell_qu_m ln_FairQueue_count) ?k1 ?k2 ?_); (case k1 => wtm_at "g_own"); (case k2 => wtm_at "g_pk"))
  | ((with_reducible refine' w_mtT (tell_qu_m ln_FairQueue_octets_of) ?k1 ?k2 ?_); (case k1 => wtm_at "g_own"); (case k2 => wtm_at "g_pk"))
  | ((with_reducible refine' w_mtT (tell_qu_m ln_FairQueue_flow_of) ?k1 ?k2 ?_); (case k1 => wtm_at "g_own"); (case k2 => wtm_at "g_pk"))
  | ((with_reducible refine' w_mtT (tell_qu_m ln_FairQueue_put) ?k1 ?k2 ?_); (case k1 => wtm_at "g_own"); (case k2 => wtm_at "g_pk"))
  | ((with_reducible refine' w_mtT (tell_qu_m ln_FairQueue_take) ?k1 ?k2 ?_); (case k1 => wtm_at "g_own"); (case k2 => wtm_at "g_pk"))
  | ((with_reducible refine' w_mtT (tell_qu_m ln_FairQueue_take_all) ?k1 ?k2 ?_); (case k1 => wtm_at "g_own"); (case k2 => wtm_at "g_pk"))
  | ((with_reducible refine' w_mtT (tell_qu_m ln_FairQueue_fork) ?k1 ?k2 ?_); (case k1 => wtm_at "g_own"); (case k2 => wtm_at "g_pk"))
  | ((with_reducible refine' w_mtT (tell_fl_m ln_Flow_fork) ?k1 ?k2 ?_); (case k1 => wtm_at "g_own"); (case k2 => wtm_at "g_pk"))
  | fail)
local macro_rules | `(tactic| wtm_at "g_own") => `(tactic| first
  | (with_reducible assumption)
  | ((with_reducible refine' Own.newT ?k1 ?k2); (case k1 => with_reducible assumption); (case k2 => wtm_at "g_own"))
  | ((with_reducible refine' Own.new ?k1 ?k2); (case k1 => with_reducible assumption); (case k2 => wtm_at "g_own"))
  | ((with_reducible refine' Own.put ?k1 ?k2); (case k1 => wtm_at "g_own"); (case k2 => wtm_at "g_put"))
  | ((with_reducible refine' Own.sel ?k1 ?k2); (case k1 => with_reducible assumption); (case k2 => wtm_at "g_sel"))
  | fail)
local macro_rules | `(tactic| wtm_at "g_sel") => `(tactic| first
  | (with_reducible exact Sel.rf) | (with_reducible exact Sel.nil)
  | ((with_reducible refine' Sel.cons ?k1 ?k2); (case k1 => wtm_at "g_pk"); (case k2 => wtm_at "g_sel"))
  | ((with_reducible refine' Sel.drop ?k1); (case k1 => wtm_at "g_sel"))
  | fail)
local macro_rules | `(tactic| wtm_at "g_got") => `(tactic| first
  | (with_reducible assumption) | (with_reducible exact Got.here)
  | ((with_reducible refine' Got.next ?k1); (case k1 => wtm_at "g_got"))
  | fail)
local macro_rules | `(tactic| wtm_at "g_gl") => `(tactic| first
  | (with_reducible assumption) | (with_reducible exact GotL.here) | (with_reducible exact GotL.hereS)
  | ((with_reducible refine' GotL.next ?k1); (case k1 => wtm_at "g_gl"))
  | fail)
local macro_rules | `(tactic| wtm_at "g_put") => `(tactic| first
  | (with_reducible assumption) | (with_reducible exact Put.here)
  | ((with_reducible refine' Put.next ?k1); (case k1 => wtm_at "g_put"))
  | fail)
local macro_rules | `(tactic| wtm_at "g_pk") => `(tactic| first
  | (with_reducible assumption) | (with_reducible exact Pick.keep) | (with_reducible exact Pick.here)
  | ((with_reducible refine' Pick.next ?k1); (case k1 => wtm_at "g_pk"))
  | fail)
local macro_rules | `(tactic| wtm_at "g_hp") => `(tactic| first
  | (with_reducible assumption) | (with_reducible exact upd_same)
  | ((with_reducible refine' Own.get ?k1 ?k2); (case k1 => wtm_at "g_own"); (case k2 => wtm_at "g_got"))
  | fail)
local macro_rules | `(tactic| wtm_at "g_sq") => `(tactic| first
  | (with_reducible assumption)
  | ((with_reducible refine' Own.sql ?k1 ?k2); (case k1 => wtm_at "g_own"); (case k2 => wtm_at "g_gl"))
  | ((with_reducible refine' SqL.of ?k1); (case k1 => wtm_at "g_hp"))
  | fail)
local macro_rules | `(tactic| wtm_at "g_sqt") => `(tactic| first
  | (with_reducible assumption) | ((with_reducible refine' SqT.of' ?k1); (case k1 => wtm_at "g_hp"))
  | fail)
local macro_rules | `(tactic| wtm_at "g_sz") => `(tactic| first
  | (with_reducible assumption) | (exact small_le rfl)
  | ((with_reducible refine' small16 ?k1); (case k1 => (try simp only [List.length_append, List.length_map, List.length_cons, List.length_nil, List.length_take, List.length_drop, List.length_set, List.length_range]); omega))
  | ((with_reducible refine' small16l ?k1); (case k1 => (try simp only [List.length_append, List.length_map, List.length_cons, List.length_nil, List.length_take, List.length_drop, List.length_set, List.length_range]); omega))
  | fail)
local macro_rules | `(tactic| wtm_at "g_gd") => `(tactic| first
  | (with_reducible assumption) | (with_reducible exact GotD.here) | (with_reducible exact GotD.hereR) | (with_reducible exact GotD.ints)
  | ((with_reducible refine' GotD.next ?k1); (case k1 => wtm_at "g_gd"))
  | fail)
local macro_rules | `(tactic| wtm_at "g_dp") => `(tactic| first
  | (with_reducible assumption)
  | ((with_reducible refine' Own.dpG ?k1 ?k2); (case k1 => wtm_at "g_own"); (case k2 => wtm_at "g_gd"))
  | fail)
local macro_rules | `(tactic| wtm_at "g_ar") => `(tactic| first
  | decide | (exact ⟨by decide, by decide⟩) | (exact Or.inr ⟨by decide, by decide⟩) | (exact Or.inl ⟨by decide, by decide⟩) | omega | (exact Or.inr ⟨by omega, by omega⟩) | (exact Or.inl ⟨by omega, by omega⟩) | (exact ⟨by omega, by omega⟩)
  | fail)
local macro_rules | `(tactic| wtm_at "g_ow") => `(tactic| first
  | wtm_at "g_own"
  | ((simp only [List.map_cons, List.map_nil]); wtm_at "g_own")
  | fail)
local macro_rules | `(tactic| wtm_at "g_callc") => `(tactic| first
  | ((with_reducible refine' o_digit ?k1 ?k2 ?k3 ?k4 ?_); (case k1 => wtm_at "g_own"); (case k2 => wtm_at "g_pk"); (case k3 => omega); (case k4 => omega); intro d HH d0 d1 ww)
  | ((with_reducible refine' o_start ?k1 ?_); (case k1 => wtm_at "g_own"); intro p HH ww)
  | ((with_reducible refine' c_cell ?k1 ?k2 ?_); (case k1 => wtm_at "g_sq"); (case k2 => omega); intro n)
  | ((with_reducible refine' c_isint ?_))
  | fail)
local macro_rules | `(tactic| wtm_at "g_st") => `(tactic| first
  | (with_reducible first
      | refine w_seq ?_ | refine w_asg ?_ | refine w_nm ?_ | refine w_next ?_ | refine w_if ?_ | refine w_ret ?_ | refine w_retN ?_ | refine w_drop ?_
      | refine w_var rfl ?_ | refine w_c ?_ | refine w_op ?_ | refine w_I0 ?_
      | refine w_eqI ?_ | refine w_neI ?_ | refine w_eqB ?_ | refine w_neB ?_ | refine w_eqS ?_ | refine w_neS ?_ | refine w_isN0 ?_ | refine w_isNi ?_ | refine w_isNr ?_ | refine w_isNb ?_ | refine w_isNs ?_ | refine w_notN0 ?_ | refine w_notNi ?_ | refine w_notNr ?_ | refine w_notNb ?_ | refine w_notNs ?_ | refine w_isN ?_ | refine w_notN ?_ | refine w_isB ?_ | refine w_notB ?_
      | refine w_un ?_ | refine w_U ?_ | refine w_chain ?_ | refine w_k ?_ | refine w_test ?_ | refine w_tB ?_ | refine w_tru ?_ | refine w_not ?_ | refine w_and ?_ | refine w_or ?_
      | refine w_andV ?_ | refine w_orV ?_ | refine w_notV ?_ | refine w_ife ?_ | refine w_nil ?_ | refine w_cons ?_ | refine w_tupK ?_ | refine w_lstK ?_ | refine w_small rfl ?_
      | refine w_call ?_ | refine w_mkQ ?_ | refine w_mt ?_ | refine k_ini ?_ | refine w_cb ?_ | refine w_min2 ?_ | refine w_max2 ?_ | refine w_abs ?_ | refine w_int ?_ | refine w_intb ?_
      | refine w_fld0 ?_ | refine w_bm ?_ | refine w_bm0 ?_ | refine w_sub ?_ | refine w_sfldQ ?_ | refine w_sfaQ ?_ | refine w_delQ ?_ | refine k_whT ?_ | refine w_radd ?_ | refine w_rsub ?_ | refine w_ip ?_ | refine w_rs ?_ | refine w_pr ?_
      | refine w_lcR1 ?_ | refine w_lcR2 ?_ | refine w_lcL ?_ | refine w_lcT ?_ | refine w_yes ?_ | refine w_disp ?_ | refine w_prs ?_ | refine w_prn ?_ | refine w_dget ?_ | refine w_sl ?_ | refine w_nopart ?_ | refine w_part ?_ | refine w_pint ?_
      | refine w_for3 ?_ | refine w_mkKQ ?_ | refine w_forR1 ?_ | refine w_forR2 ?_ | refine w_forL ?_ | refine w_forT ?_ | refine w_aug rfl ?_ | refine w_par ?_ | refine w_brk ?_ | refine w_cont ?_
      | refine w_isi_ii ?_ | refine w_isi_ib ?_ | refine w_isi_bi ?_ | refine w_isi_bb ?_ | refine w_isi_ss ?_ | refine w_isi_is ?_ | refine w_isi_il ?_ | refine w_isi_it ?_ | refine w_isi_sl ?_ | refine w_isi_st ?_ | refine w_isi_nl ?_ | refine w_isi_nt ?_
      | refine if_T ?_ | refine if_F ?_ | refine if_nT ?_ | refine if_nF ?_)
  | ((with_reducible refine' k_tup rfl ?k1 ?_); (case k1 => wtm_at "g_own"); intro p HH ww)
  | ((with_reducible refine' k_lst1R ?k1 ?_); (case k1 => wtm_at "g_own"); intro p HH ww)
  | ((with_reducible refine' k_lst1I ?k1 ?_); (case k1 => wtm_at "g_own"); intro p HH ww)
  | ((with_reducible refine' k_lst rfl ?k1 ?_); (case k1 => wtm_at "g_own"); intro p HH ww)
  | ((with_reducible refine' k_mk ?k1 ?_); (case k1 => wtm_at "g_own"); intro p dx HH ww)
  | wtm_at "g_mkk"
  | ((with_reducible refine' k_listL ?k1 ?k2 ?_); (case k1 => wtm_at "g_own"); (case k2 => wtm_at "g_sq"); intro p HH ww)
  | ((with_reducible refine' k_listT ?k1 ?k2 ?_); (case k1 => wtm_at "g_own"); (case k2 => wtm_at "g_sqt"); intro p HH ww)
  | ((with_reducible refine' k_tupL ?k1 ?k2 ?_); (case k1 => wtm_at "g_own"); (case k2 => wtm_at "g_sq"); intro p HH ww)
  | ((with_reducible refine' k_slfromRs ?k1 ?k2 ?_); (case k1 => wtm_at "g_own"); (case k2 => wtm_at "g_sq"); intro p HH ww)
  | ((with_reducible refine' k_slfromR1 ?k1 ?k2 ?_); (case k1 => wtm_at "g_own"); (case k2 => wtm_at "g_sq"); intro p HH ww)
  | ((with_reducible refine' k_slfromRn ?k1 ?k2 ?_); (case k1 => wtm_at "g_own"); (case k2 => wtm_at "g_sq"); intro p HH ww)
  | ((with_reducible refine' k_sltoR1 ?k1 ?k2 ?_); (case k1 => wtm_at "g_own"); (case k2 => wtm_at "g_sq"); intro p HH ww)
  | ((with_reducible refine' k_sltoRn ?k1 ?k2 ?_); (case k1 => wtm_at "g_own"); (case k2 => wtm_at "g_sq"); intro p HH ww)
  | ((with_reducible refine' k_slfromIs ?k1 ?k2 ?_); (case k1 => wtm_at "g_own"); (case k2 => wtm_at "g_sq"); intro p HH ww)
  | ((with_reducible refine' k_slfromI1 ?k1 ?k2 ?_); (case k1 => wtm_at "g_own"); (case k2 => wtm_at "g_sq"); intro p HH ww)
  | ((with_reducible refine' k_slfromIn ?k1 ?k2 ?_); (case k1 => wtm_at "g_own"); (case k2 => wtm_at "g_sq"); intro p HH ww)
  | ((with_reducible refine' k_sltoI1 ?k1 ?k2 ?_); (case k1 => wtm_at "g_own"); (case k2 => wtm_at "g_sq"); intro p HH ww)
  | ((with_reducible refine' k_sltoIn ?k1 ?k2 ?_); (case k1 => wtm_at "g_own"); (case k2 => wtm_at "g_sq"); intro p HH ww)
  | ((with_reducible refine' k_slfromI ?k1 ?k2 ?k3 ?_); (case k1 => wtm_at "g_own"); (case k2 => wtm_at "g_sq"); (case k3 => omega); intro p HH ww)
  | ((with_reducible refine' k_sltoI ?k1 ?k2 ?k3 ?_); (case k1 => wtm_at "g_own"); (case k2 => wtm_at "g_sq"); (case k3 => omega); intro p HH ww)
  | ((with_reducible refine' k_slmidI ?k1 ?k2 ?k3 ?k4 ?_); (case k1 => wtm_at "g_own"); (case k2 => wtm_at "g_sq"); (case k3 => omega); (case k4 => omega); intro p HH ww)
  | ((with_reducible refine' k_catI ?k1 ?k2 ?k3 ?k4 ?_); (case k1 => wtm_at "g_own"); (case k2 => wtm_at "g_got"); (case k3 => wtm_at "g_got"); (case k4 => wtm_at "g_sz"); intro p HH ww)
  | ((with_reducible refine' k_catR ?k1 ?k2 ?k3 ?k4 ?_); (case k1 => wtm_at "g_own"); (case k2 => wtm_at "g_got"); (case k3 => wtm_at "g_got"); (case k4 => wtm_at "g_sz"); intro p HH ww)
  | ((with_reducible refine' k_slfromR ?k1 ?k2 ?k3 ?_); (case k1 => wtm_at "g_own"); (case k2 => wtm_at "g_sq"); (case k3 => omega); intro p HH ww)
  | ((with_reducible refine' k_sltoR ?k1 ?k2 ?k3 ?_); (case k1 => wtm_at "g_own"); (case k2 => wtm_at "g_sq"); (case k3 => omega); intro p HH ww)
  | ((with_reducible refine' k_appI ?k1 ?k2 ?k3 ?_); (case k1 => wtm_at "g_own"); (case k2 => wtm_at "g_put"); (case k3 => wtm_at "g_sz"); intro HH ww)
  | ((with_reducible refine' k_appR ?k1 ?k2 ?k3 ?_); (case k1 => wtm_at "g_own"); (case k2 => wtm_at "g_put"); (case k3 => wtm_at "g_sz"); intro HH ww)
  | ((with_reducible refine' k_extendI ?k1 ?k2 ?k3 ?k4 ?_); (case k1 => wtm_at "g_own"); (case k2 => wtm_at "g_put"); (case k3 => wtm_at "g_got"); (case k4 => wtm_at "g_sz"); intro HH ww)
  | ((with_reducible refine' k_slfrom ?k1 ?k2 ?k3 ?_); (case k1 => wtm_at "g_own"); (case k2 => wtm_at "g_sq"); (case k3 => omega); intro p HH ww)
  | ((with_reducible refine' k_slto ?k1 ?k2 ?k3 ?_); (case k1 => wtm_at "g_own"); (case k2 => wtm_at "g_sq"); (case k3 => omega); intro p HH ww)
  | ((with_reducible refine' k_slmid ?k1 ?k2 ?k3 ?k4 ?_); (case k1 => wtm_at "g_own"); (case k2 => wtm_at "g_sq"); (case k3 => omega); (case k4 => omega); intro p HH ww)
  | ((with_reducible refine' k_cat ?k1 ?k2 ?k3 ?k4 ?_); (case k1 => wtm_at "g_own"); (case k2 => wtm_at "g_got"); (case k3 => wtm_at "g_got"); (case k4 => wtm_at "g_sz"); intro p HH ww)
  | ((with_reducible refine' k_app ?k1 ?k2 ?k3 ?_); (case k1 => wtm_at "g_own"); (case k2 => wtm_at "g_put"); (case k3 => wtm_at "g_sz"); intro HH ww)
  | ((with_reducible refine' ty_list ?k1 ?_); (case k1 => wtm_at "g_hp"))
  | ((with_reducible refine' k_truR ?k1 ?_); (case k1 => wtm_at "g_sq"))
  | ((with_reducible refine' k_truI ?k1 ?_); (case k1 => wtm_at "g_sq"))
  | ((with_reducible refine' k_truL ?k1 ?_); (case k1 => wtm_at "g_sq"))
  | ((with_reducible refine' w_lenLI ?k1 ?_); (case k1 => wtm_at "g_sq"))
  | ((with_reducible refine' w_lenLR ?k1 ?_); (case k1 => wtm_at "g_sq"))
  | ((with_reducible refine' w_ixT ?k1 ?k2 ?_); (case k1 => wtm_at "g_sqt"); (case k2 => first | rfl | fail))
  | ((with_reducible refine' w_ixRc ?k1 ?_); (case k1 => wtm_at "g_sq"))
  | ((with_reducible refine' w_ixR0 ?k1 ?k2 ?_); (case k1 => wtm_at "g_sq"); (case k2 => with_reducible assumption))
  | ((with_reducible refine' w_ixR ?k1 ?k2 ?_); (case k1 => wtm_at "g_sq"); (case k2 => with_reducible assumption))
  | ((with_reducible refine' w_ixLastR ?k1 ?k2 ?_); (case k1 => wtm_at "g_sq"); (case k2 => with_reducible assumption))
  | ((with_reducible refine' k_slinitR ?k1 ?k2 ?_); (case k1 => wtm_at "g_own"); (case k2 => wtm_at "g_sq"); intro p HH ww)
  | ((with_reducible refine' w_gTup ?k1 ?k2 ?_); (case k1 => wtm_at "g_sqt"); (case k2 => rfl))
  | (with_reducible refine w_gCons ?_)
  | (with_reducible refine w_gNil ?_)
  | ((with_reducible refine' w_ixI ?k1 ?k2 ?k3 ?_); (case k1 => wtm_at "g_sq"); (case k2 => omega); (case k3 => omega))
  | ((with_reducible refine' w_I ?k1 ?_); (case k1 => wtm_at "g_ar"))
  | ((with_reducible refine' k_reverse ?k1 ?k2 ?_); (case k1 => wtm_at "g_own"); (case k2 => wtm_at "g_put"); intro HH ww)
  | ((with_reducible refine' w_lenL ?k1 ?_); (case k1 => wtm_at "g_sq"))
  | ((with_reducible refine' w_lenT ?k1 ?_); (case k1 => wtm_at "g_sqt"))
  | ((with_reducible refine' w_isi_ll ?k1 ?_); (case k1 => wtm_at "g_hp"))
  | ((with_reducible refine' w_isi_tt ?k1 ?_); (case k1 => wtm_at "g_hp"))
  | ((with_reducible refine' w_isi_lt ?k1 ?_); (case k1 => wtm_at "g_hp"))
  | ((with_reducible refine' w_isi_tl ?k1 ?_); (case k1 => wtm_at "g_hp"))
  | ((with_reducible refine' w_ll ?k1 ?k2 ?_); (case k1 => rfl); (case k2 => rfl))
  | wtm_at "g_get"
  | wtm_at "g_mt"
  | wtm_at "g_set"
  | wtm_at "g_set2"
  | wtm_at "g_call"
  | wtm_at "g_callc"
  | fail)
local macro_rules | `(tactic| wtm_at "g_go") => `(tactic| repeat wtm_at "g_st")
local macro_rules | `(tactic| wtm_at "g_ifo") => `(tactic| first
  | (refine if_nno rfl ?_) | (refine if_yes rfl ?_)
  | (refine if_no (by omega) ?_)
  | (refine if_yes (by omega) ?_)
  | (refine if_nno (by omega) ?_)
  | (refine if_nyes (by omega) ?_)
  | (refine if_nno (decide_eq_false (by omega)).symm ?_)
  | (refine if_nno (decide_eq_true (by omega)).symm ?_)
  | fail)
local macro_rules | `(tactic| wtm_at "g_goo") => `(tactic| repeat (first | wtm_at "g_st" | wtm_at "g_ifo"))
section
variable {K : PySem.W.Frag} {mg : Str → Option Value} {base : Heap}
theorem cnt_set {fs : List Fl} {i : Nat} {f g : Fl} (h : fs[i]? = some f) : cnt (fs.set i g) + f.rows.length = cnt fs + g.rows.length := by
  induction fs generalizing i with
  | nil => simp at h
  | cons a r ih =>
    cases i with
    | zero =>
      simp at h
      subst h
      simp only [List.set_cons_zero, cnt, List.map_cons, List.sum_cons]
      omega
    | succ i =>
      have := ih (i := i) (by simpa using h)
      simp only [List.set_cons_succ, cnt, List.map_cons, List.sum_cons] at this ⊢
      omega
theorem cnt_erase {fs : List Fl} {i : Nat} {f : Fl} (h : fs[i]? = some f) : cnt (fs.eraseIdx i) + f.rows.length = cnt fs := by
  induction fs generalizing i with
  | nil => simp at h
  | cons a r ih =>
    cases i with
    | zero =>
      simp at h
      subst h
      simp only [List.eraseIdx_cons_zero, cnt, List.map_cons, List.sum_cons]
      omega
    | succ i =>
      have := ih (i := i) (by simpa using h)
      simp only [List.eraseIdx_cons_succ, cnt, List.map_cons, List.sum_cons] at this ⊢
      omega
theorem cnt_dropS {fs : List Fl} {gr : Bool} (h : fs ≠ []) (hr : ∀ f ∈ fs, f.rows ≠ []) : cnt (dropS fs gr).1 + 1 = cnt fs := by
  have hm := most_lt h
  obtain ⟨f, hf⟩ := some_lt hm
  have hp := List.length_pos_iff.mpr (hr f (List.mem_of_getElem? hf))
  have hs := cnt_set (g := { f with rows := f.rows.dropLast }) hf
  unfold dropS outAt
  rw [getD_some hf, getD_some (List.getElem?_set_self hm)]
  have hl : ({ f with rows := f.rows.dropLast } : Fl).rows.length = f.rows.length - 1 := List.length_dropLast
  split
  · rename_i he
    have he' : ({ f with rows := f.rows.dropLast } : Fl).rows.length = 0 := by rw [he]; rfl
    have := cnt_erase (fs := fs.set (most fs) { f with rows := f.rows.dropLast }) (i := most fs) (List.getElem?_set_self hm)
    show cnt ((fs.set (most fs) { f with rows := f.rows.dropLast }).eraseIdx (most fs)) + 1 = _
    omega
  · show cnt (fs.set (most fs) { f with rows := f.rows.dropLast }) + 1 = _
    omega
theorem wfl_dropS {fs : List Fl} {gr : Bool} (h : fs ≠ []) (hw : ∀ f ∈ fs, WFl f) : ∀ g ∈ (dropS fs gr).1, WFl g := by
  have hm := most_lt h
  obtain ⟨f, hf⟩ := some_lt hm
  have hwf := hw f (List.mem_of_getElem? hf)
  unfold dropS outAt
  rw [getD_some hf, getD_some (List.getElem?_set_self hm)]
  have hmem : ∀ g ∈ fs.set (most fs) { f with rows := f.rows.dropLast }, g = { f with rows := f.rows.dropLast } ∨ g ∈ fs := fun g hg => (List.mem_or_eq_of_mem_set hg).symm
  split
  · intro g hg
    have he : (fs.set (most fs) { f with rows := f.rows.dropLast }).eraseIdx (most fs) = fs.eraseIdx (most fs) := by
      rw [List.eraseIdx_set_eq]
    rw [he] at hg
    exact hw g (List.mem_of_mem_eraseIdx hg)
  · rename_i hne
    intro g hg
    rcases hmem g hg with rfl | hg
    · exact ⟨hwf.k, hne, fun r hr => hwf.w r (List.dropLast_subset _ hr)⟩
    · exact hw g hg
theorem octs_nil : octs [] = 0 := rfl
theorem dropL_nil {lim : Int} (h : 1 ≤ lim) : ∀ n gr, dropL lim n [] gr = ([], gr, [])
  | 0, gr => rfl
  | n + 1, gr => by rw [dropL, if_pos (by rw [octs_nil]; omega)]
theorem wfl_add {fs : List Fl} {k : Ky} {r : V × Int} (hk : kOk k) (hr : 1 ≤ r.2) (hw : ∀ f ∈ fs, WFl f) : ∀ g ∈ addF fs k r, WFl g := by
  unfold addF
  split
  · rename_i j hj
    intro g hg
    rcases List.mem_or_eq_of_mem_set hg with hg | rfl
    · exact hw g hg
    · unfold fnd at hj
      rw [List.findIdx?_eq_some_iff_getElem] at hj
      obtain ⟨hl, e, _⟩ := hj
      have hf := hw _ (List.getElem_mem hl)
      rw [getD_some (List.getElem?_eq_getElem hl)]
      refine ⟨hf.k, by simp, fun z hz => ?_⟩
      rcases List.mem_append.mp hz with hz | hz
      · exact hf.w z hz
      · rw [List.mem_singleton.mp hz]; exact hr
  · intro g hg
    rcases List.mem_append.mp hg with hg | hg
    · exact hw g hg
    · rw [List.mem_singleton.mp hg]
      exact ⟨hk, by simp, fun z hz => by rw [List.mem_singleton.mp hz]; exact hr⟩
theorem cnt_app {fs gs : List Fl} : cnt (fs ++ gs) = cnt fs + cnt gs := by
  unfold cnt
  rw [List.map_append, List.sum_append]
theorem cnt_add {fs : List Fl} {k : Ky} {r : V × Int} : cnt (addF fs k r) = cnt fs + 1 := by
  unfold addF
  split
  · rename_i j hj
    unfold fnd at hj
    rw [List.findIdx?_eq_some_iff_getElem] at hj
    obtain ⟨hl, e, _⟩ := hj
    have := cnt_set (g := ((fs.getD j fl0).wr ((fs.getD j fl0).rows ++ [r]))) (List.getElem?_eq_getElem hl)
    rw [getD_some (List.getElem?_eq_getElem hl)] at this ⊢
    rw [List.length_append] at this
    simp only [List.length_cons, List.length_nil] at this
    omega
  · rw [cnt_app]
    rfl
theorem fnd_at {fs : List Fl} {k : Ky} {j : Nat} (h : fnd fs k = some j) : ∃ f, fs[j]? = some f ∧ f.k = k := by
  unfold fnd at h
  rw [List.findIdx?_eq_some_iff_getElem] at h
  obtain ⟨hl, e, _⟩ := h
  exact ⟨_, List.getElem?_eq_getElem hl, of_decide_eq_true e⟩
theorem pure_FairQueue_put (T : TX K mg base) (vs : List V) (H : Hp) (Q : VK) (E : XK) (h : sp_FairQueue_put K vs H Q E) : t_FairQueue_put K E { nx := fun _ H' => Q .non H', rt := Q } (start N_FairQueue_put vs) H := by
  obtain ⟨p, ka, x, k, i, wt, R, rfl, wf, hc, hk, hwt, w, q⟩ := h
  unfold t_FairQueue_put
  wtm_at "g_go"
  rename_i u du H1 w1 H2 w2
  refine if_d (fun h1 => ?_) (fun h1 => ?_)
  · wtm_at "g_go"
    rename_i t H3 w3
    have e : putF x k i wt = (x, [⟨k, i, wt⟩]) := if_pos h1
    rw [e] at q
    refine q _ t [u] (Own.swap (Own.big1 ?_))
    wtm_at "g_own"
  obtain ⟨dx, l, fs, w4⟩ := qu_out (w2.pick (.next .here))
  have hlen := (w4.pick (.next (.next .here))).bigLen
  have hne : ∀ f ∈ x.fs, f.rows ≠ [] := fun f hf => (wf.fs f hf).ne
  have hfl := fs_cnt hne
  wtm_at "g_go"
  refine ⟨p, dx, l, ka, fs, x, k, WtP K u ⟨k, i, wt⟩ :: R, rfl, hk, fun f hf => (wf.fs f hf).k, by wtm_at "g_own", fun H3 w5 v hv => ?_⟩
  wtm_at "g_go"
  refine w_cut (fun σ H' => ∃ a f L0, σ = [some (.ref p), some (.ref ka), some i, some (.int wt), some (.ref u), some (.ref a), none] ∧ f.rows.length ≤ 1000000 ∧ f.k = k ∧ Own (FlP K a f :: WtP K u ⟨k, i, wt⟩ :: L0) H' ∧
    ∀ H2, Own (FlP K a (f.wr (f.rows ++ [(i, wt)])) :: L0) H2 → Own (QuP K p { x with fs := addF x.fs k (i, wt) } :: R) H2) ?_ ?_
  · wtm_at "g_go"
    refine if_d (fun h2 => ?_) (fun h2 => ?_)
    · have hn : fnd x.fs k = none := by
        rcases hv with ⟨_, e⟩ | ⟨j, a, e, _⟩
        · exact e
        · rw [h2] at e; cases e
      subst h2
      wtm_at "g_go"
      rename_i a da H4 w6 H5 w7 H6 w8
      refine ⟨a, ⟨k, [], 0⟩, pt l (.lst ((fs ++ [a]).map V.ref)) :: pt p (.ins (He.ga K "FairQueue") dx (fFairQueue (.int x.lim) (.int x.q) (.ref l) (.bl x.gr))) :: big (FlP K) fs x.fs :: R, rfl, Nat.zero_le _, rfl, by wtm_at "g_own", fun H2 w9 => ?_⟩
      have w10 : Own (big (FlP K) fs x.fs :: FlP K a ⟨k, [(i, wt)], 0⟩ :: pt p (.ins (He.ga K "FairQueue") dx (fFairQueue (.int x.lim) (.int x.q) (.ref l) (.bl x.gr))) :: pt l (.lst ((fs ++ [a]).map V.ref)) :: R) H2 := by
        change Own (FlP K a ⟨k, [(i, wt)], 0⟩ :: _) H2 at w9
        wtm_at "g_own"
      have ea : addF x.fs k (i, wt) = x.fs ++ [⟨k, [(i, wt)], 0⟩] := by unfold addF; rw [hn]
      rw [ea]
      have w11 := w10.bigSnoc
      exact qu_in (y := { x with fs := x.fs ++ [⟨k, [(i, wt)], 0⟩] }) (l := l) (dx := dx) (fs := fs ++ [a]) (by wtm_at "g_own")
    · obtain ⟨j, a, rfl, hj, ha⟩ : ∃ j a, v = V.ref a ∧ fnd x.fs k = some j ∧ fs[j]? = some a := by
        rcases hv with ⟨e, _⟩ | e
        · exact absurd e h2
        · exact e
      obtain ⟨f, hf, hfk⟩ := fnd_at hj
      have hjl := (List.getElem?_eq_some_iff.mp hf).1
      have hfl2 := len_cnt (List.mem_of_getElem? hf)
      have w6 := (w5.pick (.next (.next .here))).bigOut ha hf
      wtm_at "g_go"
      refine ⟨a, f, big (FlP K) (fs.take j) (x.fs.take j) :: big (FlP K) (fs.drop (j + 1)) (x.fs.drop (j + 1)) :: pt l (.lst (fs.map V.ref)) :: pt p (.ins (He.ga K "FairQueue") dx (fFairQueue (.int x.lim) (.int x.q) (.ref l) (.bl x.gr))) :: R, rfl, by omega, hfk, by wtm_at "g_own", fun H2 w7 => ?_⟩
      have ea : addF x.fs k (i, wt) = x.fs.set j (f.wr (f.rows ++ [(i, wt)])) := by unfold addF; rw [hj]; show x.fs.set j _ = _; rw [getD_some hf]
      rw [ea]
      have w8 := w7.bigBack ha hjl
      exact qu_in (y := { x with fs := x.fs.set j (f.wr (f.rows ++ [(i, wt)])) }) (l := l) (dx := dx) (fs := fs) (by wtm_at "g_own")
  rintro σ H4 ⟨a, f, L0, rfl, hfr, hfk, w6, hfold⟩
  wtm_at "g_go"
  have w7 : Own (FlP K a f :: WtP K u (f.wt (i, wt)) :: L0) H4 := by
    have e : (⟨k, i, wt⟩ : Wt) = f.wt (i, wt) := by rw [← hfk]
    rw [← e]
    exact w6
  refine c_add (f := f) (r := (i, wt)) hfr w7 .here .here fun H5 w8 => ?_
  have w9 := hfold _ w8
  have hwf := wfl_add (r := (i, wt)) hk hwt wf.fs
  have hcn : cnt (addF x.fs k (i, wt)) = cnt x.fs + 1 := cnt_add
  have hp2 : (putF x k i wt) = ({ x with fs := (dropL x.lim (cnt (addF x.fs k (i, wt))) (addF x.fs k (i, wt)) x.gr).1, gr := (dropL x.lim (cnt (addF x.fs k (i, wt))) (addF x.fs k (i, wt)) x.gr).2.1 }, (dropL x.lim (cnt (addF x.fs k (i, wt))) (addF x.fs k (i, wt)) x.gr).2.2) := if_neg h1
  rw [hp2] at q
  generalize addF x.fs k (i, wt) = fs0 at *
  wtm_at "g_go"
  rename_i t H6 w10
  refine w_whileO (m0 := cnt fs0) (fun m σ H' => ∃ (gs : List Fl) (gr : Bool) (ws : List Addr) (ds : List Wt), σ = [some (.ref p), some (.ref ka), some i, some (.int wt), some (.ref u), some (.ref a), some (.ref t)] ∧ m = cnt gs ∧ m ≤ cnt fs0 ∧ ws.length + m = cnt fs0 ∧ (∀ f ∈ gs, WFl f) ∧
    dropL x.lim (cnt fs0) fs0 x.gr = ((dropL x.lim m gs gr).1, (dropL x.lim m gs gr).2.1, ds ++ (dropL x.lim m gs gr).2.2) ∧ Own (pt t (.lst (ws.map V.ref)) :: big (WtP K) ws ds :: QuP K p { x with fs := gs, gr := gr } :: R) H') ⟨fs0, x.gr, [], [], rfl, rfl, Nat.le_refl _, Nat.zero_add _, hwf, rfl, Own.swap (Own.bigNil (by wtm_at "g_ow"))⟩ ?_
  rintro m σ H7 ⟨gs, gr, ws, ds, rfl, hm, hm2, hwl, hw, hd, w11⟩
  have hgl := fs_cnt fun f hf => (hw f hf).ne
  have hgl2 : ({ x with fs := gs, gr := gr } : Qu).fs.length ≤ 1000000 := by show gs.length ≤ _; omega
  wtm_at "g_go"
  refine if_d (fun h2 => ?_) (fun h2 => ?_)
  · have hgn : gs ≠ [] := fun z => by
      subst z
      have := wf.lim
      have : octs [] = 0 := rfl
      simp only at h2
      omega
    wtm_at "g_go"
    refine c_drop (y := { x with fs := gs, gr := gr }) hgn (fun f hf => (hw f hf).ne) (by show cnt gs ≤ _; omega) (by wtm_at "g_own") .here fun H8 b w12 => ?_
    have hcd := cnt_dropS (gr := gr) hgn fun f hf => (hw f hf).ne
    wtm_at "g_go"
    rename_i H9 w13
    obtain ⟨m', rfl⟩ : ∃ m', m = m' + 1 := ⟨m - 1, by omega⟩
    refine ⟨m', Nat.lt_succ_self _, (dropS gs gr).1, (dropS gs gr).2, ws ++ [b], ds ++ [dropW gs], rfl, by omega, by omega, by rw [List.length_append]; simp only [List.length_cons, List.length_nil]; omega, wfl_dropS hgn hw, ?_, ?_⟩
    · rw [hd, dropL, if_neg (by simp only at h2; omega)]
      simp only [List.append_assoc, List.cons_append, List.nil_append]
    · have w14 : Own (big (WtP K) ws ds :: WtP K b (dropW gs) :: pt t (.lst ((ws ++ [b]).map V.ref)) :: QuP K p { x with fs := (dropS gs gr).1, gr := (dropS gs gr).2 } :: R) H9 := by wtm_at "g_own"
      exact w14.bigSnoc.swap
  · wtm_at "g_go"
    refine q _ t ws ?_
    have he : dropL x.lim m gs gr = (gs, gr, []) := by
      cases m with
      | zero => rfl
      | succ n => rw [dropL, if_pos (by simp only at h2; omega)]
    rw [hd, he, List.append_nil]
    wtm_at "g_own"
end
end K81

namespace K81
open PySem PySem.Spec PyProof.Rows L2 G
local macro_rules | `(tactic| wtm_at "g_get") => `(tactic| first
  | ((with_reducible refine' w_fld ?k1 (cl_Waiting (by assumption)) (na_Waiting_key (by assumption)) lk_Waiting_key ?_); (case k1 => wtm_at "g_hp"))
  | ((with_reducible refine' w_fld ?k1 (cl_Waiting (by assumption)) (na_Waiting_item (by assumption)) lk_Waiting_item ?_); (case k1 => wtm_at "g_hp"))
  | ((with_reducible refine' w_fld ?k1 (cl_Waiting (by assumption)) (na_Waiting_weight (by assumption)) lk_Waiting_weight ?_); (case k1 => wtm_at "g_hp"))
  | ((with_reducible refine' w_fld ?k1 (cl_Flow (by assumption)) (na_Flow_key (by assumption)) lk_Flow_key ?_); (case k1 => wtm_at "g_hp"))
  | ((with_reducible refine' w_fld ?k1 (cl_Flow (by assumption)) (na_Flow_rows (by assumption)) lk_Flow_rows ?_); (case k1 => wtm_at "g_hp"))
  | ((with_reducible refine' w_fld ?k1 (cl_Flow (by assumption)) (na_Flow_octets (by assumption)) lk_Flow_octets ?_); (case k1 => wtm_at "g_hp"))
  | ((with_reducible refine' w_fld ?k1 (cl_Flow (by assumption)) (na_Flow_credit (by assumption)) lk_Flow_credit ?_); (case k1 => wtm_at "g_hp"))
  | ((with_reducible refine' w_fld ?k1 (cl_FairQueue (by assumption)) (na_FairQueue_limit (by assumption)) lk_FairQueue_limit ?_); (case k1 => wtm_at "g_hp"))
  | ((with_reducible refine' w_fld ?k1 (cl_FairQueue (by assumption)) (na_FairQueue_quantum (by assumption)) lk_FairQueue_quantum ?_); (case k1 => wtm_at "g_hp"))
  | ((with_reducible refine' w_fld ?k1 (cl_FairQueue (by assumption)) (na_FairQueue_flows (by assumption)) lk_FairQueue_flows ?_); (case k1 => wtm_at "g_hp"))
  | ((with_reducible refine' w_fld ?k1 (cl_FairQueue (by assumption)) (na_FairQueue_granted (by assumption)) lk_FairQueue_granted ?_); (case k1 => wtm_at "g_hp"))
  | fail)
local macro_rules | `(tactic| wtm_at "g_set") => `(tactic| first
  | ((with_reducible refine' k_fld ?k1 ?k2 (cl_Waiting (by assumption)) (na_Waiting_key (by assumption)) pt_Waiting_key rfl ?_); (case k1 => wtm_at "g_own"); (case k2 => wtm_at "g_put"); intro HH ww)
  | ((with_reducible refine' k_fld ?k1 ?k2 (cl_Waiting (by assumption)) (na_Waiting_key (by assumption)) pn_Waiting_key rfl ?_); (case k1 => wtm_at "g_own"); (case k2 => wtm_at "g_put"); intro HH ww)
  | ((with_reducible refine' k_fld ?k1 ?k2 (cl_Waiting (by assumption)) (na_Waiting_item (by assumption)) pt_Waiting_item rfl ?_); (case k1 => wtm_at "g_own"); (case k2 => wtm_at "g_put"); intro HH ww)
  | ((with_reducible refine' k_fld ?k1 ?k2 (cl_Waiting (by assumption)) (na_Waiting_item (by assumption)) pn_Waiting_item rfl ?_); (case k1 => wtm_at "g_own"); (case k2 => wtm_at "g_put"); intro HH ww)
  | ((with_reducible refine' k_fld ?k1 ?k2 (cl_Waiting (by assumption)) (na_Waiting_weight (by assumption)) pt_Waiting_weight rfl ?_); (case k1 => wtm_at "g_own"); (case k2 => wtm_at "g_put"); intro HH ww)
  | ((with_reducible refine' k_fld ?k1 ?k2 (cl_Waiting (by assumption)) (na_Waiting_weight (by assumption)) pn_Waiting_weight rfl ?_); (case k1 => wtm_at "g_own"); (case k2 => wtm_at "g_put"); intro HH ww)
  | ((with_reducible refine' k_fld ?k1 ?k2 (cl_Flow (by assumption)) (na_Flow_key (by assumption)) pt_Flow_key rfl ?_); (case k1 => wtm_at "g_own"); (case k2 => wtm_at "g_put"); intro HH ww)
  | ((with_reducible refine' k_fld ?k1 ?k2 (cl_Flow (by assumption)) (na_Flow_key (by assumption)) pn_Flow_key rfl ?_); (case k1 => wtm_at "g_own"); (case k2 => wtm_at "g_put"); intro HH ww)
  | ((with_reducible refine' k_fld ?k1 ?k2 (cl_Flow (by assumption)) (na_Flow_rows (by assumption)) pt_Flow_rows rfl ?_); (case k1 => wtm_at "g_own"); (case k2 => wtm_at "g_put"); intro HH ww)
  | ((with_reducible refine' k_fld ?k1 ?k2 (cl_Flow (by assumption)) (na_Flow_rows (by assumption)) pn_Flow_rows rfl ?_); (case k1 => wtm_at "g_own"); (case k2 => wtm_at "g_put"); intro HH ww)
  | ((with_reducible refine' k_fld ?k1 ?k2 (cl_Flow (by assumption)) (na_Flow_octets (by assumption)) pt_Flow_octets rfl ?_); (case k1 => wtm_at "g_own"); (case k2 => wtm_at "g_put"); intro HH ww)
  | ((with_reducible refine' k_fld ?k1 ?k2 (cl_Flow (by assumption)) (na_Flow_octets (by assumption)) pn_Flow_octets rfl ?_); (case k1 => wtm_at "g_own"); (case k2 => wtm_at "g_put"); intro HH ww)
  | ((with_reducible refine' k_fld ?k1 ?k2 (cl_Flow (by assumption)) (na_Flow_credit (by assumption)) pt_Flow_credit rfl ?_); (case k1 => wtm_at "g_own"); (case k2 => wtm_at "g_put"); intro HH ww)
  | ((with_reducible refine' k_fld ?k1 ?k2 (cl_Flow (by assumption)) (na_Flow_credit (by assumption)) pn_Flow_credit rfl ?_); (case k1 => wtm_at "g_own"); (case k2 => wtm_at "g_put"); intro HH ww)
  | ((with_reducible refine' k_fld ?k1 ?k2 (cl_FairQueue (by assumption)) (na_FairQueue_limit (by assumption)) pt_FairQueue_limit rfl ?_); (case k1 => wtm_at "g_own"); (case k2 => wtm_at "g_put"); intro HH ww)
  | ((with_reducible refine' k_fld ?k1 ?k2 (cl_FairQueue (by assumption)) (na_FairQueue_limit (by assumption)) pn_FairQueue_limit rfl ?_); (case k1 => wtm_at "g_own"); (case k2 => wtm_at "g_put"); intro HH ww)
  | ((with_reducible refine' k_fld ?k1 ?k2 (cl_FairQueue (by assumption)) (na_FairQueue_quantum (by assumption)) pt_FairQueue_quantum rfl ?_); (case k1 => wtm_at "g_own"); (case k2 => wtm_at "g_put"); intro HH ww)
  | ((with_reducible refine' k_fld ?k1 ?k2 (cl_FairQueue (by assumption)) (na_FairQueue_quantum (by assumption)) pn_FairQueue_quantum rfl ?_); (case k1 => wtm_at "g_own"); (case k2 => wtm_at "g_put"); intro HH ww)
  | ((with_reducible refine' k_fld ?k1 ?k2 (cl_FairQueue (by assumption)) (na_FairQueue_flows (by assumption)) pt_FairQueue_flows rfl ?_); (case k1 => wtm_at "g_own"); (case k2 => wtm_at "g_put"); intro HH ww)
  | ((with_reducible refine' k_fld ?k1 ?k2 (cl_FairQueue (by assumption)) (na_FairQueue_flows (by assumption)) pn_FairQueue_flows rfl ?_); (case k1 => wtm_at "g_own"); (case k2 => wtm_at "g_put"); intro HH ww)
  | ((with_reducible refine' k_fld ?k1 ?k2 (cl_FairQueue (by assumption)) (na_FairQueue_granted (by assumption)) pt_FairQueue_granted rfl ?_); (case k1 => wtm_at "g_own"); (case k2 => wtm_at "g_put"); intro HH ww)
  | ((with_reducible refine' k_fld ?k1 ?k2 (cl_FairQueue (by assumption)) (na_FairQueue_granted (by assumption)) pn_FairQueue_granted rfl ?_); (case k1 => wtm_at "g_own"); (case k2 => wtm_at "g_put"); intro HH ww)
  | fail)
local macro_rules | `(tactic| wtm_at "g_set2") => `(tactic| first
  | ((with_reducible refine' k_fa ?k1 ?k2 pt_Waiting_key rfl ?_); (case k1 => wtm_at "g_own"); (case k2 => wtm_at "g_put"); intro HH ww)
  | ((with_reducible refine' k_fa ?k1 ?k2 pt_Waiting_item rfl ?_); (case k1 => wtm_at "g_own"); (case k2 => wtm_at "g_put"); intro HH ww)
  | ((with_reducible refine' k_fa ?k1 ?k2 pt_Waiting_weight rfl ?_); (case k1 => wtm_at "g_own"); (case k2 => wtm_at "g_put"); intro HH ww)
  | ((with_reducible refine' k_fa ?k1 ?k2 pt_Flow_key rfl ?_); (case k1 => wtm_at "g_own"); (case k2 => wtm_at "g_put"); intro HH ww)
  | ((with_reducible refine' k_fa ?k1 ?k2 pt_Flow_rows rfl ?_); (case k1 => wtm_at "g_own"); (case k2 => wtm_at "g_put"); intro HH ww)
  | ((with_reducible refine' k_fa ?k1 ?k2 pt_Flow_octets rfl ?_); (case k1 => wtm_at "g_own"); (case k2 => wtm_at "g_put"); intro HH ww)
  | ((with_reducible refine' k_fa ?k1 ?k2 pt_Flow_credit rfl ?_); (case k1 => wtm_at "g_own"); (case k2 => wtm_at "g_put"); intro HH ww)
  | ((with_reducible refine' k_fa ?k1 ?k2 pt_FairQueue_limit rfl ?_); (case k1 => wtm_at "g_own"); (case k2 => wtm_at "g_put"); intro HH ww)
  | ((with_reducible refine' k_fa ?k1 ?k2 pt_FairQueue_quantum rfl ?_); (case k1 => wtm_at "g_own"); (case k2 => wtm_at "g_put"); intro HH ww)
  | ((with_reducible refine' k_fa ?k1 ?k2 pt_FairQueue_flows rfl ?_); (case k1 => wtm_at "g_own"); (case k2 => wtm_at "g_put"); intro HH ww)
  | ((with_reducible refine' k_fa ?k1 ?k2 pt_FairQueue_granted rfl ?_); (case k1 => wtm_at "g_own"); (case k2 => wtm_at "g_put"); intro HH ww)
  | fail)
local macro_rules | `(tactic| wtm_at "g_mt") => `(tactic| first
  | ((with_reducible refine' w_mt1 ?k1 ln_Flow_add ?_); (case k1 => wtm_at "g_hp"))
  | ((with_reducible refine' w_mt1 ?k1 ln_Flow_take ?_); (case k1 => wtm_at "g_hp"))
  | ((with_reducible refine' w_mt1 ?k1 ln_Flow_fork ?_); (case k1 => wtm_at "g_hp"))
  | ((with_reducible refine' w_mt1 ?k1 ln_FairQueue_count ?_); (case k1 => wtm_at "g_hp"))
  | ((with_reducible refine' w_mt1 ?k1 ln_FairQueue_octets ?_); (case k1 => wtm_at "g_hp"))
  | ((with_reducible refine' w_mt1 ?k1 ln_FairQueue_octets_of ?_); (case k1 => wtm_at "g_hp"))
  | ((with_reducible refine' w_mt1 ?k1 ln_FairQueue_flow_of ?_); (case k1 => wtm_at "g_hp"))
  | ((with_reducible refine' w_mt1 ?k1 ln_FairQueue_remove_flow ?_); (case k1 => wtm_at "g_hp"))
  | ((with_reducible refine' w_mt1 ?k1 ln_FairQueue_put ?_); (case k1 => wtm_at "g_hp"))
  | ((with_reducible refine' w_mt1 ?k1 ln_FairQueue_drop ?_); (case k1 => wtm_at "g_hp"))
  | ((with_reducible refine' w_mt1 ?k1 ln_FairQueue_turn ?_); (case k1 => wtm_at "g_hp"))
  | ((with_reducible refine' w_mt1 ?k1 ln_FairQueue_next_up ?_); (case k1 => wtm_at "g_hp"))
  | ((with_reducible refine' w_mt1 ?k1 ln_FairQueue_take ?_); (case k1 => wtm_at "g_hp"))
  | ((with_reducible refine' w_mt1 ?k1 ln_FairQueue_take_all ?_); (case k1 => wtm_at "g_hp"))
  | ((with_reducible refine' w_mt1 ?k1 ln_FairQueue_fork ?_); (case k1 => wtm_at "g_hp"))
  | fail)
local macro_rules | `(tactic| wtm_at "g_mkk") => `(tactic| first
  | fail
  | fail)
local macro_rules | `(tactic| wtm_at "g_callf") => `(tactic| first
  | ((with_reducible refine' c_Waiting_init ?k1 ?k2 ?k3 ?_); (case k1 => wtm_at "g_own"); (case k2 => wtm_at "g_pk"); (case k3 => wtm_at "g_pk"); intro HH ww)
  | ((with_reducible refine' c_Flow_init ?k1 ?k2 ?k3 ?_); (case k1 => wtm_at "g_own"); (case k2 => wtm_at "g_pk"); (case k3 => wtm_at "g_pk"); intro HH ww)
  | ((with_reducible refine' c_octets ?k0 ?k1 ?k2 ?_); (case k1 => wtm_at "g_own"); (case k2 => wtm_at "g_pk"); (case k0 => omega); intro HH ww)
  | ((with_reducible refine' w_fldT tell_qu_lim ?k1 ?k2 (cl_FairQueue (by assumption)) (na_FairQueue_limit (by assumption)) ?_); (case k1 => wtm_at "g_own"); (case k2 => wtm_at "g_pk"); intro dz fz; (try clear fz dz))
  | ((with_reducible refine' w_fldT tell_qu_q ?k1 ?k2 (cl_FairQueue (by assumption)) (na_FairQueue_quantum (by assumption)) ?_); (case k1 => wtm_at "g_own"); (case k2 => wtm_at "g_pk"); intro dz fz; (try clear fz dz))
  | ((with_reducible refine' w_fldT tell_wt_w ?k1 ?k2 (cl_Waiting (by assumption)) (na_Waiting_weight (by assumption)) ?_); (case k1 => wtm_at "g_own"); (case k2 => wtm_at "g_pk"); intro dz fz; (try clear fz dz))
  | ((with_reducible refine' w_fldT tell_wt_i ?k1 ?k2 (cl_Waiting (by assumption)) (na_Waiting_item (by assumption)) ?_); (case k1 => wtm_at "g_own"); (case k2 => wtm_at "g_pk"); intro dz fz; (try clear fz dz))
  | ((with_reducible refine' w_mtT (tell_qu_m ln_FairQueue_octets) ?k1 ?k2 ?_); (case k1 => wtm_at "g_own"); (case k2 => wtm_at "g_pk"))
  | ((with_reducible refine' w_mtT (tell_qu_m ln_FairQueue_drop) ?k1 ?k2 ?_); (case k1 => wtm_at "g_own"); (case k2 => wtm_at "g_pk"))
  | ((with_reducible refine' w_mtT (tell_qu_m ln_FairQueue_turn) ?k1 ?k2 ?_); (case k1 => wtm_at "g_own"); (case k2 => wtm_at "g_pk"))
  | ((with_reducible refine' w_mtT (tell_qu_m ln_FairQueue_next_up) ?k1 ?k2 ?_); (case k1 => wtm_at "g_own"); (case k2 => wtm_at "g_pk"))
  | ((with_reducible refine' w_mtT (tell_qu_m ln_FairQueue_remove_flow) ?k1 ?k2 ?_); (case k1 => wtm_at "g_own"); (case k2 => wtm_at "g_pk"))
  | ((with_reducible refine' w_mtT (tell_fl_m ln_Flow_add) ?k1 ?k2 ?_); (case k1 => wtm_at "g_own"); (case k2 => wtm_at "g_pk"))
  | ((with_reducible refine' w_mtT (tell_fl_m ln_Flow_take) ?k1 ?k2 ?_); (case k1 => wtm_at "g_own"); (case k2 => wtm_at "g_pk"))
  | fail)
local macro_rules | `(tactic| wtm_at "g_call") => `(tactic| first
  | wtm_at "g_callf"
  | ((with_reducible refine' w_mtT (tell_qu_m ln_FairQueue_count) ?k1 ?k2 ?_); (case k1 => wtm_at "g_own"); (case k2 => wtm_at "g_pk"))
  | ((with_reducible refine' w_mtT (tell_qu_m ln_FairQueue_octets_of) ?k1 ?k2 ?_); (case k1 => wtm_at "g_own"); (case k2 => wtm_at "g_pk"))
  | ((with_reducible refine' w_mtT (tell_qu_m ln_FairQueue_flow_of) ?k1 ?k2 ?_); (case k1 => wtm_at "g_own"); (case k2 => wtm_at "g_pk"))
  | ((with_reducible refine' w_mtT (tell_qu_m ln_FairQueue_put) ?k1 ?k2 ?_); (case k1 => wtm_at "g_own"); (case k2 => wtm_at "g_pk"))
  | ((with_reducible refine' w_mtT (tell_qu_m ln_FairQueue_take) ?k1 ?k2 ?_); (case k1 => wtm_at "g_own"); (case k2 => wtm_at "g_pk"))
  | ((with_reducible refine' w_mtT (tell_qu_m ln_FairQueue_take_all) ?k1 ?k2 ?_); (case k1 => wtm_at "g_own"); (case k2 => wtm_at "g_pk"))
  | ((with_reducible refine' w_mtT (tell_qu_m ln_FairQueue_fork) ?k1 ?k2 ?_); (case k1 => wtm_at "g_own"); (case k2 => wtm_at "g_pk"))
  | ((with_reducible refine' w_mtT (tell_fl_m ln_Flow_fork) ?k1 ?k2 ?_); (case k1 => wtm_at "g_own"); (case k2 => wtm_at "g_pk"))
  | fail)
local macro_rules | `(tactic| wtm_at "g_own") => `(tactic| first
  | (with_reducible assumption)
  | ((with_reducible refine' Own.newT ?k1 ?k2); (case k1 => with_reducible assumption); (case k2 => wtm_at "g_own"))
  | ((with_reducible refine' Own.new ?k1 ?k2); (case k1 => with_reducible assumption); (case k2 => wtm_at "g_own"))
  | ((with_reducible refine' Own.put ?k1 ?k2); (case k1 => wtm_at "g_own"); (case k2 => wtm_at "g_put"))
  | ((with_reducible refine' Own.sel ?k1 ?k2); (case k1 => with_reducible assumption); (case k2 => wtm_at "g_sel"))
  | fail)
local macro_rules | `(tactic| wtm_at "g_sel") => `(tactic| first
  | (with_reducible exact Sel.rf) | (with_reducible exact Sel.nil)
  | ((with_reducible refine' Sel.cons ?k1 ?k2); (case k1 => wtm_at "g_pk"); (case k2 => wtm_at "g_sel"))
  | ((with_reducible refine' Sel.drop ?k1); (case k1 => wtm_at "g_sel"))
  | fail)
local macro_rules | `(tactic| wtm_at "g_got") => `(tactic| first
  | (with_reducible assumption) | (with_reducible exact Got.here)
  | ((with_reducible refine' Got.next ?k1); (case k1 => wtm_at "g_got"))
  | fail)
local macro_rules | `(tactic| wtm_at "g_gl") => `(tactic| first
  | (with_reducible assumption) | (with_reducible exact GotL.here) | (with_reducible exact GotL.hereS)
  | ((with_reducible refine' GotL.next ?k1); (case k1 => wtm_at "g_gl"))
  | fail)
local macro_rules | `(tactic| wtm_at "g_put") => `(tactic| first
  | (with_reducible assumption) | (with_reducible exact Put.here)
  | ((with_reducible refine' Put.next ?k1); (case k1 => wtm_at "g_put"))
  | fail)
local macro_rules | `(tactic| wtm_at "g_pk") => `(tactic| first
  | (with_reducible assumption) | (with_reducible exact Pick.keep) | (with_reducible exact Pick.here)
  | ((with_reducible refine' Pick.next ?k1); (case k1 => wtm_at "g_pk"))
  | fail)
local macro_rules | `(tactic| wtm_at "g_hp") => `(tactic| first
  | (with_reducible assumption) | (with_reducible exact upd_same)
  | ((with_reducible refine' Own.get ?k1 ?k2); (case k1 => wtm_at "g_own"); (case k2 => wtm_at "g_got"))
  | fail)
local macro_rules | `(tactic| wtm_at "g_sq") => `(tactic| first
  | (with_reducible assumption)
  | ((with_reducible refine' Own.sql ?k1 ?k2); (case k1 => wtm_at "g_own"); (case k2 => wtm_at "g_gl"))
  | ((with_reducible refine' SqL.of ?k1); (case k1 => wtm_at "g_hp"))
  | fail)
local macro_rules | `(tactic| wtm_at "g_sqt") => `(tactic| first
  | (with_reducible assumption) | ((with_reducible refine' SqT.of' ?k1); (case k1 => wtm_at "g_hp"))
  | fail)
local macro_rules | `(tactic| wtm_at "g_sz") => `(tactic| first
  | (with_reducible assumption) | (exact small_le rfl)
  | ((with_reducible refine' small16 ?k1); (case k1 => (try simp only [List.length_append, List.length_map, List.length_cons, List.length_nil, List.length_take, List.length_drop, List.length_set, List.length_range]); omega))
  | ((with_reducible refine' small16l ?k1); (case k1 => (try simp only [List.length_append, List.length_map, List.length_cons, List.length_nil, List.length_take, List.length_drop, List.length_set, List.length_range]); omega))
  | fail)
local macro_rules | `(tactic| wtm_at "g_gd") => `(tactic| first
  | (with_reducible assumption) | (with_reducible exact GotD.here) | (with_reducible exact GotD.hereR) | (with_reducible exact GotD.ints)
  | ((with_reducible refine' GotD.next ?k1); (case k1 => wtm_at "g_gd"))
  | fail)
local macro_rules | `(tactic| wtm_at "g_dp") => `(tactic| first
  | (with_reducible assumption)
  | ((with_reducible refine' Own.dpG ?k1 ?k2); (case k1 => wtm_at "g_own"); (case k2 => wtm_at "g_gd"))
  | fail)
local macro_rules | `(tactic| wtm_at "g_ar") => `(tactic| first
  | decide | (exact ⟨by decide, by decide⟩) | (exact Or.inr ⟨by decide, by decide⟩) | (exact Or.inl ⟨by decide, by decide⟩) | omega | (exact Or.inr ⟨by omega, by omega⟩) | (exact Or.inl ⟨by omega, by omega⟩) | (exact ⟨by omega, by omega⟩)
  | fail)
local macro_rules | `(tactic| wtm_at "g_ow") => `(tactic| first
  | wtm_at "g_own"
  | ((simp only [List.map_cons, List.map_nil]); wtm_at "g_own")
  | fail)
local macro_rules | `(tactic| wtm_at "g_callc") => `(tactic| first
  | ((with_reducible refine' o_digit ?k1 ?k2 ?k3 ?k4 ?_); (case k1 => wtm_at "g_own"); (case k2 => wtm_at "g_pk"); (case k3 => omega); (case k4 => omega); intro d HH d0 d1 ww)
  | ((with_reducible refine' o_start ?k1 ?_); (case k1 => wtm_at "g_own"); intro p HH ww)
  | ((with_reducible refine' c_cell ?k1 ?k2 ?_); (case k1 => wtm_at "g_sq"); (case k2 => omega); intro n)
  | ((with_reducible refine' c_isint ?_))
  | fail)
local macro_rules | `(tactic| wtm_at "g_st") => `(tactic| first
  | (with_reducible first
      | refine w_seq ?_ | refine w_asg ?_ | refine w_nm ?_ | refine w_next ?_ | refine w_if ?_ | refine w_ret ?_ | refine w_retN ?_ | refine w_drop ?_
      | refine w_var rfl ?_ | refine w_c ?_ | refine w_op ?_ | refine w_I0 ?_
      | refine w_eqI ?_ | refine w_neI ?_ | refine w_eqB ?_ | refine w_neB ?_ | refine w_eqS ?_ | refine w_neS ?_ | refine w_isN0 ?_ | refine w_isNi ?_ | refine w_isNr ?_ | refine w_isNb ?_ | refine w_isNs ?_ | refine w_notN0 ?_ | refine w_notNi ?_ | refine w_notNr ?_ | refine w_notNb ?_ | refine w_notNs ?_ | refine w_isN ?_ | refine w_notN ?_ | refine w_isB ?_ | refine w_notB ?_
      | refine w_un ?_ | refine w_U ?_ | refine w_chain ?_ | refine w_k ?_ | refine w_test ?_ | refine w_tB ?_ | refine w_tru ?_ | refine w_not ?_ | refine w_and ?_ | refine w_or ?_
      | refine w_andV ?_ | refine w_orV ?_ | refine w_notV ?_ | refine w_ife ?_ | refine w_nil ?_ | refine w_cons ?_ | refine w_tupK ?_ | refine w_lstK ?_ | refine w_small rfl ?_
      | refine w_call ?_ | refine w_mkQ ?_ | refine w_mt ?_ | refine k_ini ?_ | refine w_cb ?_ | refine w_min2 ?_ | refine w_max2 ?_ | refine w_abs ?_ | refine w_int ?_ | refine w_intb ?_
      | refine w_fld0 ?_ | refine w_bm ?_ | refine w_bm0 ?_ | refine w_sub ?_ | refine w_sfldQ ?_ | refine w_sfaQ ?_ | refine w_delQ ?_ | refine k_whT ?_ | refine w_radd ?_ | refine w_rsub ?_ | refine w_ip ?_ | refine w_rs ?_ | refine w_pr ?_
      | refine w_lcR1 ?_ | refine w_lcR2 ?_ | refine w_lcL ?_ | refine w_lcT ?_ | refine w_yes ?_ | refine w_disp ?_ | refine w_prs ?_ | refine w_prn ?_ | refine w_dget ?_ | refine w_sl ?_ | refine w_nopart ?_ | refine w_part ?_ | refine w_pint ?_
      | refine w_for3 ?_ | refine w_mkKQ ?_ | refine w_forR1 ?_ | refine w_forR2 ?_ | refine w_forL ?_ | refine w_forT ?_ | refine w_aug rfl ?_ | refine w_par ?_ | refine w_brk ?_ | refine w_cont ?_
      | refine w_isi_ii ?_ | refine w_isi_ib ?_ | refine w_isi_bi ?_ | refine w_isi_bb ?_ | refine w_isi_ss ?_ | refine w_isi_is ?_ | refine w_isi_il ?_ | refine w_isi_it ?_ | refine w_isi_sl ?_ | refine w_isi_st ?_ | refine w_isi_nl ?_ | refine w_isi_nt ?_
      | refine if_T ?_ | refine if_F ?_ | refine if_nT ?_ | refine if_nF ?_)
  | ((with_reducible refine' k_tup rfl ?k1 ?_); (case k1 => wtm_at "g_own"); intro p HH ww)
  | ((with_reducible refine' k_lst1R ?k1 ?_); (case k1 => wtm_at "g_own"); intro p HH ww)
  | ((with_reducible refine' k_lst1I ?k1 ?_); (case k1 => wtm_at "g_own"); intro p HH ww)
  | ((with_reducible refine' k_lst rfl ?k1 ?_); (case k1 => wtm_at "g_own"); intro p HH ww)
  | ((with_reducible refine' k_mk ?k1 ?_); (case k1 => wtm_at "g_own"); intro p dx HH ww)
  | wtm_at "g_mkk"
  | ((with_reducible refine' k_listL ?k1 ?k2 ?_); (case k1 => wtm_at "g_own"); (case k2 => wtm_at "g_sq"); intro p HH ww)
  | ((with_reducible refine' k_listT ?k1 ?k2 ?_); (case k1 => wtm_at "g_own"); (case k2 => wtm_at "g_sqt"); intro p HH ww)
  | ((with_reducible refine' k_tupL ?k1 ?k2 ?_); (case k1 => wtm_at "g_own"); (case k2 => wtm_at "g_sq"); intro p HH ww)
  | ((with_reducible refine' k_slfromRs ?k1 ?k2 ?_); (case k1 => wtm_at "g_own"); (case k2 => wtm_at "g_sq"); intro p HH ww)
  | ((with_reducible refine' k_slfromR1 ?k1 ?k2 ?_); (case k1 => wtm_at "g_own"); (case k2 => wtm_at "g_sq"); intro p HH ww)
  | ((with_reducible refine' k_slfromRn ?k1 ?k2 ?_); (case k1 => wtm_at "g_own"); (case k2 => wtm_at "g_sq"); intro p HH ww)
  | ((with_reducible refine' k_sltoR1 ?k1 ?k2 ?_); (case k1 => wtm_at "g_own"); (case k2 => wtm_at "g_sq"); intro p HH ww)
  | ((with_reducible refine' k_sltoRn ?k1 ?k2 ?_); (case k1 => wtm_at "g_own"); (case k2 => wtm_at "g_sq"); intro p HH ww)
  | ((with_reducible refine' k_slfromIs ?k1 ?k2 ?_); (case k1 => wtm_at "g_own"); (case k2 => wtm_at "g_sq"); intro p HH ww)
  | ((with_reducible refine' k_slfromI1 ?k1 ?k2 ?_); (case k1 => wtm_at "g_own"); (case k2 => wtm_at "g_sq"); intro p HH ww)
  | ((with_reducible refine' k_slfromIn ?k1 ?k2 ?_); (case k1 => wtm_at "g_own"); (case k2 => wtm_at "g_sq"); intro p HH ww)
  | ((with_reducible refine' k_sltoI1 ?k1 ?k2 ?_); (case k1 => wtm_at "g_own"); (case k2 => wtm_at "g_sq"); intro p HH ww)
  | ((with_reducible refine' k_sltoIn ?k1 ?k2 ?_); (case k1 => wtm_at "g_own"); (case k2 => wtm_at "g_sq"); intro p HH ww)
  | ((with_reducible refine' k_slfromI ?k1 ?k2 ?k3 ?_); (case k1 => wtm_at "g_own"); (case k2 => wtm_at "g_sq"); (case k3 => omega); intro p HH ww)
  | ((with_reducible refine' k_sltoI ?k1 ?k2 ?k3 ?_); (case k1 => wtm_at "g_own"); (case k2 => wtm_at "g_sq"); (case k3 => omega); intro p HH ww)
  | ((with_reducible refine' k_slmidI ?k1 ?k2 ?k3 ?k4 ?_); (case k1 => wtm_at "g_own"); (case k2 => wtm_at "g_sq"); (case k3 => omega); (case k4 => omega); intro p HH ww)
  | ((with_reducible refine' k_catI ?k1 ?k2 ?k3 ?k4 ?_); (case k1 => wtm_at "g_own"); (case k2 => wtm_at "g_got"); (case k3 => wtm_at "g_got"); (case k4 => wtm_at "g_sz"); intro p HH ww)
  | ((with_reducible refine' k_catR ?k1 ?k2 ?k3 ?k4 ?_); (case k1 => wtm_at "g_own"); (case k2 => wtm_at "g_got"); (case k3 => wtm_at "g_got"); (case k4 => wtm_at "g_sz"); intro p HH ww)
  | ((with_reducible refine' k_slfromR ?k1 ?k2 ?k3 ?_); (case k1 => wtm_at "g_own"); (case k2 => wtm_at "g_sq"); (case k3 => omega); intro p HH ww)
  | ((with_reducible refine' k_sltoR ?k1 ?k2 ?k3 ?_); (case k1 => wtm_at "g_own"); (case k2 => wtm_at "g_sq"); (case k3 => omega); intro p HH ww)
  | ((with_reducible refine' k_appI ?k1 ?k2 ?k3 ?_); (case k1 => wtm_at "g_own"); (case k2 => wtm_at "g_put"); (case k3 => wtm_at "g_sz"); intro HH ww)
  | ((with_reducible refine' k_appR ?k1 ?k2 ?k3 ?_); (case k1 => wtm_at "g_own"); (case k2 => wtm_at "g_put"); (case k3 => wtm_at "g_sz"); intro HH ww)
  | ((with_reducible refine' k_extendI ?k1 ?k2 ?k3 ?k4 ?_); (case k1 => wtm_at "g_own"); (case k2 => wtm_at "g_put"); (case k3 => wtm_at "g_got"); (case k4 => wtm_at "g_sz"); intro HH ww)
  | ((with_reducible refine' k_slfrom ?k1 ?k2 ?k3 ?_); (case k1 => wtm_at "g_own"); (case k2 => wtm_at "g_sq"); (case k3 => omega); intro p HH ww)
  | ((with_reducible refine' k_slto ?k1 ?k2 ?k3 ?_); (case k1 => wtm_at "g_own"); (case k2 => wtm_at "g_sq"); (case k3 => omega); intro p HH ww)
  | ((with_reducible refine' k_slmid ?k1 ?k2 ?k3 ?k4 ?_); (case k1 => wtm_at "g_own"); (case k2 => wtm_at "g_sq"); (case k3 => omega); (case k4 => omega); intro p HH ww)
  | ((with_reducible refine' k_cat ?k1 ?k2 ?k3 ?k4 ?_); (case k1 => wtm_at "g_own"); (case k2 => wtm_at "g_got"); (case k3 => wtm_at "g_got"); (case k4 => wtm_at "g_sz"); intro p HH ww)
  | ((with_reducible refine' k_app ?k1 ?k2 ?k3 ?_); (case k1 => wtm_at "g_own"); (case k2 => wtm_at "g_put"); (case k3 => wtm_at "g_sz"); intro HH ww)
  | ((with_reducible refine' ty_list ?k1 ?_); (case k1 => wtm_at "g_hp"))
  | ((with_reducible refine' k_truR ?k1 ?_); (case k1 => wtm_at "g_sq"))
  | ((with_reducible refine' k_truI ?k1 ?_); (case k1 => wtm_at "g_sq"))
  | ((with_reducible refine' k_truL ?k1 ?_); (case k1 => wtm_at "g_sq"))
  | ((with_reducible refine' w_lenLI ?k1 ?_); (case k1 => wtm_at "g_sq"))
  | ((with_reducible refine' w_lenLR ?k1 ?_); (case k1 => wtm_at "g_sq"))
  | ((with_reducible refine' w_ixT ?k1 ?k2 ?_); (case k1 => wtm_at "g_sqt"); (case k2 => first | rfl | fail))
  | ((with_reducible refine' w_ixRc ?k1 ?_); (case k1 => wtm_at "g_sq"))
  | ((with_reducible refine' w_ixR0 ?k1 ?k2 ?_); (case k1 => wtm_at "g_sq"); (case k2 => with_reducible assumption))
  | ((with_reducible refine' w_ixR ?k1 ?k2 ?_); (case k1 => wtm_at "g_sq"); (case k2 => with_reducible assumption))
  | ((with_reducible refine' w_ixLastR ?k1 ?k2 ?_); (case k1 => wtm_at "g_sq"); (case k2 => with_reducible assumption))
  | ((with_reducible refine' k_slinitR ?k1 ?k2 ?_); (case k1 => wtm_at "g_own"); (case k2 => wtm_at "g_sq"); intro p HH ww)
  | ((with_reducible refine' w_gTup ?k1 ?k2 ?_); (case k1 => wtm_at "g_sqt"); (case k2 => rfl))
  | (with_reducible refine w_gCons ?_)
  | (with_reducible refine w_gNil ?_)
  | ((with_reducible refine' w_ixI ?k1 ?k2 ?k3 ?_); (case k1 => wtm_at "g_sq"); (case k2 => omega); (case k3 => omega))
  | ((with_reducible refine' w_I ?k1 ?_); (case k1 => wtm_at "g_ar"))
  | ((with_reducible refine' k_reverse ?k1 ?k2 ?_); (case k1 => wtm_at "g_own"); (case k2 => wtm_at "g_put"); intro HH ww)
  | ((with_reducible refine' w_lenL ?k1 ?_); (case k1 => wtm_at "g_sq"))
  | ((with_reducible refine' w_lenT ?k1 ?_); (case k1 => wtm_at "g_sqt"))
  | ((with_reducible refine' w_isi_ll ?k1 ?_); (case k1 => wtm_at "g_hp"))
  | ((with_reducible refine' w_isi_tt ?k1 ?_); (case k1 => wtm_at "g_hp"))
  | ((with_reducible refine' w_isi_lt ?k1 ?_); (case k1 => wtm_at "g_hp"))
  | ((with_reducible refine' w_isi_tl ?k1 ?_); (case k1 => wtm_at "g_hp"))
  | ((with_reducible refine' w_ll ?k1 ?k2 ?_); (case k1 => rfl); (case k2 => rfl))
  | wtm_at "g_get"
  | wtm_at "g_mt"
  | wtm_at "g_set"
  | wtm_at "g_set2"
  | wtm_at "g_call"
  | wtm_at "g_callc"
  | fail)
local macro_rules | `(tactic| wtm_at "g_go") => `(tactic| repeat wtm_at "g_st")
local macro_rules | `(tactic| wtm_at "g_ifo") => `(tactic| first
  | (refine if_nno rfl ?_) | (refine if_yes rfl ?_)
  | (refine if_no (by omega) ?_)
  | (refine if_yes (by omega) ?_)
  | (refine if_nno (by omega) ?_)
  | (refine if_nyes (by omega) ?_)
  | (refine if_nno (decide_eq_false (by omega)).symm ?_)
  | (refine if_nno (decide_eq_true (by omega)).symm ?_)
  | fail)
local macro_rules | `(tactic| wtm_at "g_goo") => `(tactic| repeat (first | wtm_at "g_st" | wtm_at "g_ifo"))
section
variable {K : PySem.W.Frag} {mg : Str → Option Value} {base : Heap}
theorem want_cons {f : Fl} {r : List Fl} : want (f :: r) = (f.w0 - f.cr).toNat + want r := by
  unfold want
  rw [List.map_cons, List.sum_cons]
theorem want_snoc {f : Fl} {r : List Fl} : want (r ++ [f]) = want r + (f.w0 - f.cr).toNat := by
  unfold want
  rw [List.map_append, List.sum_append]
  simp
theorem cnt_cons {f : Fl} {r : List Fl} : cnt (f :: r) = f.rows.length + cnt r := by
  unfold cnt
  rw [List.map_cons, List.sum_cons]
theorem wfl_wc {f : Fl} {c : Int} (h : WFl f) : WFl (f.wc c) := ⟨h.k, h.ne, h.w⟩
theorem oct_wc {f : Fl} {c : Int} : (f.wc c).oct = f.oct := rfl
theorem pure_FairQueue_turn (T : TX K mg base) (vs : List V) (H : Hp) (Q : VK) (E : XK) (h : sp_FairQueue_turn K vs H Q E) : t_FairQueue_turn K E { nx := fun _ H' => Q .non H', rt := Q } (start N_FairQueue_turn vs) H := by
  obtain ⟨p, x, R, rfl, wf, hc, w, q⟩ := h
  unfold t_FairQueue_turn
  have hq := wf.q
  refine w_whileO (m0 := mu x.fs x.gr) (fun m σ H' => ∃ gs gr v1 n, σ = [some (.ref p), v1] ∧ m = mu gs gr ∧ mu gs gr ≤ n ∧ turnL x.q (n + 1) gs gr = turnL x.q (mu x.fs x.gr + 1) x.fs x.gr ∧ (∀ f ∈ gs, WFl f) ∧ cnt gs = cnt x.fs ∧ Own (QuP K p { x with fs := gs, gr := gr } :: R) H')
    ⟨x.fs, x.gr, _, _, rfl, rfl, Nat.le_refl _, rfl, wf.fs, rfl, w⟩ ?_
  rintro m σ H1 ⟨gs, gr, v1, n, rfl, hm, hn, ht, hw, hcn, w1⟩
  obtain ⟨dx, l, as, w1⟩ := qu_out w1
  have hlen := (w1.pick (.next (.next .here))).bigLen
  have hgl := fs_cnt fun f hf => (hw f hf).ne
  wtm_at "g_go"
  refine if_d (fun h1 => ?_) (fun h1 => ?_)
  rotate_left
  · have hg : gs = [] := List.length_eq_zero_iff.mp (by show gs.length = 0; simp only at hlen; omega)
    subst hg
    refine q _ ?_
    have e : turnF x = { x with fs := [], gr := gr } := by
      unfold turnF
      rw [← ht]
      rfl
    rw [e]
    exact qu_in w1
  obtain ⟨f, r, rfl⟩ : ∃ f r, gs = f :: r := by
    cases gs with
    | nil => simp only [List.length_nil] at hlen; omega
    | cons f r => exact ⟨f, r, rfl⟩
  obtain ⟨a, as', rfl⟩ : ∃ a as', as = a :: as' := by
    cases as with
    | nil => simp at h1
    | cons a as' => exact ⟨a, as', rfl⟩
  have hwf := hw f List.mem_cons_self
  obtain ⟨r0, rs, hrows⟩ : ∃ r0 rs, f.rows = r0 :: rs := by
    cases hr : f.rows with
    | nil => exact absurd hr hwf.ne
    | cons r0 rs => exact ⟨r0, rs, rfl⟩
  obtain ⟨da, ka, la, us, w2⟩ := fl_out ((w1.pick (.next (.next .here))).bigUncons)
  have hus := (w2.pick (.next (.next (.next .here)))).bigLen
  rw [List.length_map, hrows] at hus
  obtain ⟨u0, us', rfl⟩ : ∃ u0 us', us = u0 :: us' := by
    cases us with
    | nil => simp at hus
    | cons u0 us' => exact ⟨u0, us', rfl⟩
  have w3 := (w2.pick (.next (.next (.next .here)))).bigAt (i := 0) (x := u0) (y := f.wt r0) rfl (by rw [hrows]; rfl)
  have hcnt := cnt_cons (f := f) (r := r)
  have hf0 : f.w0 = r0.2 := by unfold Fl.w0; rw [hrows]; rfl
  wtm_at "g_go"
  refine w_cut (fun σ H' => σ = [some (.ref p), some (.ref a)] ∧ Own (pt a (.ins (He.ga K "Flow") da (fFlow (.ref ka) (.ref la) (.int f.oct) (.int (if gr then f.cr else f.cr + x.q)))) :: KyP ka f.k :: pt la (.lst ((u0 :: us').map V.ref)) :: big (WtP K) (u0 :: us') (f.rows.map f.wt) :: WtP K u0 (f.wt r0) ::
    pt p (.ins (He.ga K "FairQueue") dx (fFairQueue (.int x.lim) (.int x.q) (.ref l) (.bl true))) :: pt l (.lst ((a :: as').map V.ref)) :: big (FlP K) as' r :: R) H') ?_ ?_
  · cases gr with
    | true =>
      wtm_at "g_go"
      exact ⟨rfl, by rw [if_pos rfl]; wtm_at "g_own"⟩
    | false =>
      wtm_at "g_go"
      exact ⟨rfl, by rw [if_neg Bool.false_ne_true]; wtm_at "g_own"⟩
  rintro σ H2 ⟨rfl, w4⟩
  generalize hcr : (if gr = true then f.cr else f.cr + x.q) = c at *
  wtm_at "g_go"
  have ht1 : turnL x.q (n + 1) (f :: r) gr = if f.w0 ≤ c then (f.wc c :: r, true) else turnL x.q n (r ++ [f.wc c]) false := by
    rw [turnL, hcr]
  refine if_d (fun h2 => ?_) (fun h2 => ?_)
  · wtm_at "g_go"
    refine q _ ?_
    have e : turnF x = { x with fs := f.wc c :: r, gr := true } := by
      unfold turnF
      rw [← ht, ht1, if_pos (by rw [hf0]; exact h2)]
    rw [e]
    have w5 : Own (pt a (.ins (He.ga K "Flow") da (fFlow (.ref ka) (.ref la) (.int f.oct) (.int c))) :: KyP ka f.k :: pt la (.lst ((u0 :: us').map V.ref)) :: big (WtP K) (u0 :: us') (f.rows.map f.wt) :: big (FlP K) as' r ::
      pt p (.ins (He.ga K "FairQueue") dx (fFairQueue (.int x.lim) (.int x.q) (.ref l) (.bl true))) :: pt l (.lst ((a :: as').map V.ref)) :: R) H2 := by wtm_at "g_own"
    have w6 := Own.bigCons (fl_in (f := f.wc c) w5)
    exact qu_in (y := { x with fs := f.wc c :: r, gr := true }) (by wtm_at "g_own")
  wtm_at "g_go"
  have hlen2 : as'.length = r.length := by simpa using hlen
  have hrl : r.length ≤ 200000 := by
    have : (f :: r).length ≤ 200000 := by omega
    simp only [List.length_cons] at this
    omega
  refine k_popAtR (ps := a :: as') (j := 0) (by wtm_at "g_own") rfl (by simp only [List.length_cons]; omega) rfl (by wtm_at "g_put") fun H3 w5 => ?_
  rw [List.eraseIdx_cons_zero] at w5
  wtm_at "g_go"
  rename_i H5 w7
  have hmu : mu (r ++ [f.wc c]) false < mu (f :: r) gr := by
    unfold mu
    rw [want_cons, want_snoc]
    have e0 : (f.wc c).w0 = r0.2 := hf0
    have h2' : ¬ r0.2 ≤ c := h2
    cases gr with
    | true =>
      have hc' : f.cr = c := hcr
      show want r + ((f.wc c).w0 - c).toNat + 0 < (f.w0 - f.cr).toNat + want r + 1
      rw [e0, hf0]
      omega
    | false =>
      have hc' : f.cr + x.q = c := hcr
      show want r + ((f.wc c).w0 - c).toNat + 0 < (f.w0 - f.cr).toNat + want r + 0
      rw [e0, hf0]
      omega
  refine ⟨mu (r ++ [f.wc c]) false, by omega, r ++ [f.wc c], false, _, n - 1, rfl, rfl, by omega, ?_, ?_, ?_, ?_⟩
  · rw [← ht, ht1, if_neg (by rw [hf0]; exact h2)]
    rw [show n - 1 + 1 = n by omega]
  · intro g hg
    rcases List.mem_append.mp hg with hg | hg
    · exact hw g (List.mem_cons_of_mem _ hg)
    · rw [List.mem_singleton.mp hg]
      exact wfl_wc hwf
  · rw [cnt_app, ← hcn, hcnt]
    show cnt r + (f.rows.length + 0) = _
    omega
  · have w8 : Own (pt a (.ins (He.ga K "Flow") da (fFlow (.ref ka) (.ref la) (.int f.oct) (.int c))) :: KyP ka f.k :: pt la (.lst ((u0 :: us').map V.ref)) :: big (WtP K) (u0 :: us') (f.rows.map f.wt) :: big (FlP K) as' r ::
      pt p (.ins (He.ga K "FairQueue") dx (fFairQueue (.int x.lim) (.int x.q) (.ref l) (.bl false))) :: pt l (.lst ((as' ++ [a]).map V.ref)) :: R) H5 := by wtm_at "g_own"
    have w9 := Own.bigSnoc (Own.swap (fl_in (f := f.wc c) w8))
    exact qu_in (y := { x with fs := r ++ [f.wc c], gr := false }) (fs := as' ++ [a]) (l := l) (dx := dx) (by wtm_at "g_own")
theorem wfl_turn {q : Int} : ∀ (n : Nat) (fs : List Fl) (gr : Bool), (∀ f ∈ fs, WFl f) → (∀ f ∈ (turnL q n fs gr).1, WFl f) ∧ cnt (turnL q n fs gr).1 = cnt fs
  | 0, fs, gr, h => ⟨h, rfl⟩
  | n + 1, [], gr, h => ⟨h, rfl⟩
  | n + 1, f :: r, gr, h => by
    rw [turnL]
    by_cases hw : f.w0 ≤ (if gr = true then f.cr else f.cr + q)
    · rw [if_pos hw]
      refine ⟨fun g hg => ?_, ?_⟩
      · rcases List.mem_cons.mp hg with rfl | hg
        · exact wfl_wc (h f List.mem_cons_self)
        · exact h g (List.mem_cons_of_mem _ hg)
      · rw [cnt_cons, cnt_cons]
    · rw [if_neg hw]
      have ih := wfl_turn (q := q) n (r ++ [f.wc (if gr = true then f.cr else f.cr + q)]) false (fun g hg => by
        rcases List.mem_append.mp hg with hg | hg
        · exact h g (List.mem_cons_of_mem _ hg)
        · rw [List.mem_singleton.mp hg]
          exact wfl_wc (h f List.mem_cons_self))
      refine ⟨ih.1, ih.2.trans ?_⟩
      rw [cnt_app, cnt_cons (f := f) (r := r)]
      show cnt r + (f.rows.length + 0) = _
      omega
theorem wf_turn {x : Qu} (h : WF x) : WF (turnF x) := ⟨h.lim, h.q, (wfl_turn _ _ _ h.fs).1⟩
theorem cnt_turn {x : Qu} (h : WF x) : cnt (turnF x).fs = cnt x.fs := (wfl_turn _ _ _ h.fs).2
theorem pure_FairQueue_next_up (T : TX K mg base) (vs : List V) (H : Hp) (Q : VK) (E : XK) (h : sp_FairQueue_next_up K vs H Q E) : t_FairQueue_next_up K E { nx := fun _ H' => Q .non H', rt := Q } (start N_FairQueue_next_up vs) H := by
  obtain ⟨p, x, R, rfl, wf, hc, w, q1, q2⟩ := h
  unfold t_FairQueue_next_up
  wtm_at "g_go"
  refine c_turn wf hc w .here fun H1 w1 => ?_
  have wf' := wf_turn wf
  generalize turnF x = y at *
  obtain ⟨dx, l, as, w2⟩ := qu_out w1
  have hlen := (w2.pick (.next (.next .here))).bigLen
  wtm_at "g_go"
  refine if_nd (fun h1 => ?_) (fun h1 => ?_)
  · have hg : y.fs = [] := List.length_eq_zero_iff.mp (by omega)
    wtm_at "g_go"
    exact q1 (by unfold firstF; rw [hg]) _ w1
  obtain ⟨f, r, hfs⟩ : ∃ f r, y.fs = f :: r := by
    cases hy : y.fs with
    | nil => rw [hy] at hlen; simp at hlen; simp [hlen] at h1
    | cons f r => exact ⟨f, r, rfl⟩
  obtain ⟨a, as', rfl⟩ : ∃ a as', as = a :: as' := by
    cases as with
    | nil => simp at h1
    | cons a as' => exact ⟨a, as', rfl⟩
  have hwf := wf'.fs f (by rw [hfs]; exact List.mem_cons_self)
  obtain ⟨r0, rs, hrows⟩ : ∃ r0 rs, f.rows = r0 :: rs := by
    cases hr : f.rows with
    | nil => exact absurd hr hwf.ne
    | cons r0 rs => exact ⟨r0, rs, rfl⟩
  have w3 : Own (big (FlP K) (a :: as') (f :: r) :: pt p (.ins (He.ga K "FairQueue") dx (fFairQueue (.int y.lim) (.int y.q) (.ref l) (.bl y.gr))) :: pt l (.lst ((a :: as').map V.ref)) :: R) H1 := by rw [← hfs]; wtm_at "g_own"
  obtain ⟨da, ka, la, us, w4⟩ := fl_out w3.bigUncons
  have hus := (w4.pick (.next (.next (.next .here)))).bigLen
  rw [List.length_map, hrows] at hus
  obtain ⟨u0, us', rfl⟩ : ∃ u0 us', us = u0 :: us' := by
    cases us with
    | nil => simp at hus
    | cons u0 us' => exact ⟨u0, us', rfl⟩
  have w5 := (w4.pick (.next (.next (.next .here)))).bigAt (i := 0) (x := u0) (y := f.wt r0) rfl (by rw [hrows]; rfl)
  wtm_at "g_go"
  refine q2 (f.wt r0) (by unfold firstF; rw [hfs]; show some (f.wt (f.rows.headD _)) = _; rw [hrows]; rfl) _ _ ?_
  have w6 : Own (pt a (.ins (He.ga K "Flow") da (fFlow (.ref ka) (.ref la) (.int f.oct) (.int f.cr))) :: KyP ka f.k :: pt la (.lst ((u0 :: us').map V.ref)) :: big (WtP K) (u0 :: us') (f.rows.map f.wt) :: big (FlP K) as' r :: WtP K u0 (f.wt r0) :: pt p (.ins (He.ga K "FairQueue") dx (fFairQueue (.int y.lim) (.int y.q) (.ref l) (.bl y.gr))) :: pt l (.lst ((a :: as').map V.ref)) :: R) H1 := by wtm_at "g_own"
  have w7 := (fl_in w6).bigCons
  rw [← hfs] at w7
  exact Own.swap (qu_in (fs := a :: as') (l := l) (dx := dx) (by wtm_at "g_own"))
theorem pure_FairQueue_take (T : TX K mg base) (vs : List V) (H : Hp) (Q : VK) (E : XK) (h : sp_FairQueue_take K vs H Q E) : t_FairQueue_take K E { nx := fun _ H' => Q .non H', rt := Q } (start N_FairQueue_take vs) H := by
  obtain ⟨p, x, R, rfl, wf, hc, w, q1, q2⟩ := h
  unfold t_FairQueue_take
  have wf' := wf_turn wf
  have hc' := cnt_turn wf
  wtm_at "g_go"
  refine ⟨p, x, R, rfl, wf, hc, w, fun hn H1 w1 => ?_, fun y hy H1 u w1 => ?_⟩
  · wtm_at "g_go"
    exact q1 hn _ w1
  have q2 := q2 y hy
  rw [← hc'] at hc
  generalize turnF x = z at *
  obtain ⟨f, r, hfs⟩ : ∃ f r, z.fs = f :: r := by
    cases hz : z.fs with
    | nil => rw [firstF, hz] at hy; cases hy
    | cons f r => exact ⟨f, r, rfl⟩
  have hyf : y = f.wt (f.rows.headD (.non, 0)) := by
    rw [firstF, hfs] at hy
    cases hy
    rfl
  have hwf := wf'.fs f (by rw [hfs]; exact List.mem_cons_self)
  obtain ⟨r0, rs, hrows⟩ : ∃ r0 rs, f.rows = r0 :: rs := by
    cases hr : f.rows with
    | nil => exact absurd hr hwf.ne
    | cons r0 rs => exact ⟨r0, rs, rfl⟩
  have hyf : y = f.wt r0 := by rw [hyf, hrows]; rfl
  subst hyf
  obtain ⟨dx, l, as, w2⟩ := qu_out w1.swap
  have hlen := (w2.pick (.next (.next .here))).bigLen
  rw [hfs] at hlen
  obtain ⟨a, as', rfl⟩ : ∃ a as', as = a :: as' := by
    cases as with
    | nil => simp at hlen
    | cons a as' => exact ⟨a, as', rfl⟩
  have hrl : f.rows.length ≤ 200000 := by
    have := len_cnt (fs := z.fs) (f := f) (by rw [hfs]; exact List.mem_cons_self)
    omega
  have hfl : z.fs.length ≤ 200000 := by
    have := fs_cnt (fs := z.fs) fun g hg => (wf'.fs g hg).ne
    omega
  have w3 : Own (big (FlP K) (a :: as') (f :: r) :: WtP K u (f.wt r0) :: pt p (.ins (He.ga K "FairQueue") dx (fFairQueue (.int z.lim) (.int z.q) (.ref l) (.bl z.gr))) :: pt l (.lst ((a :: as').map V.ref)) :: R) H1 := by rw [← hfs]; wtm_at "g_own"
  have w4 := w3.bigUncons
  wtm_at "g_go"
  refine c_take (f := f) (j := 0) rfl (by rw [hrows]; rfl) (by omega) w4 .here fun H2 u2 w5 => ?_
  have er : f.rows.eraseIdx 0 = rs := by rw [hrows]; rfl
  rw [er] at w5
  obtain ⟨da, ka, la, us, w6⟩ := fl_out w5.swap
  have hus := (w6.pick (.next (.next (.next .here)))).bigLen
  rw [List.length_map] at hus
  wtm_at "g_go"
  rename_i H3 w7
  have ew : (f.wt r0).w = f.w0 := by unfold Fl.w0; rw [hrows]; rfl
  rw [ew] at w7
  refine if_nd (fun h1 => ?_) (fun h1 => ?_)
  · have hrs : rs = [] := List.length_eq_zero_iff.mp (by show rs.length = 0; simp only at hus; omega)
    have eg : goneF z = { z with fs := r, gr := false } := by
      unfold goneF
      rw [hfs]
      show ({ z with fs := (outAt _ z.gr 0).1, gr := (outAt _ z.gr 0).2 } : Qu) = _
      unfold outAt
      rw [if_pos (by show f.rows.tail = []; rw [hrows]; exact hrs)]
      rfl
    have w8 : Own (pt a (.ins (He.ga K "Flow") da (fFlow (.ref ka) (.ref la) (.int (f.wr rs).oct) (.int (f.cr - f.w0)))) :: KyP ka f.k :: pt la (.lst (us.map V.ref)) :: big (WtP K) us (rs.map f.wt) :: big (FlP K) as' r :: WtP K u (f.wt r0) :: pt p (.ins (He.ga K "FairQueue") dx (fFairQueue (.int z.lim) (.int z.q) (.ref l) (.bl z.gr))) :: pt l (.lst ((a :: as').map V.ref)) :: R) H3 := by wtm_at "g_own"
    have w9 := (fl_in (f := ⟨f.k, rs, f.cr - f.w0⟩) w8).bigCons
    have w10 : Own (QuP K p { z with fs := ⟨f.k, rs, f.cr - f.w0⟩ :: r } :: WtP K u (f.wt r0) :: R) H3 := qu_in (y := { z with fs := ⟨f.k, rs, f.cr - f.w0⟩ :: r }) (fs := a :: as') (l := l) (dx := dx) (by wtm_at "g_own")
    wtm_at "g_go"
    refine c_remove (y := { z with fs := ⟨f.k, rs, f.cr - f.w0⟩ :: r }) (j := 0) rfl (Nat.succ_pos _) (by show r.length + 1 ≤ _; rw [hfs] at hfl; simp only [List.length_cons] at hfl; omega) w10 .here fun H4 w11 => ?_
    wtm_at "g_go"
    refine q2 _ _ (Own.swap ?_)
    rw [eg]
    exact w11
  · have hrs : rs ≠ [] := fun e => by
      rw [e] at hus
      simp at hus
      rw [hus] at h1
      simp at h1
    have eg : goneF z = { z with fs := ⟨f.k, rs, f.cr - f.w0⟩ :: r } := by
      unfold goneF
      rw [hfs]
      show ({ z with fs := (outAt _ z.gr 0).1, gr := (outAt _ z.gr 0).2 } : Qu) = _
      unfold outAt
      rw [if_neg (by show ¬ f.rows.tail = []; rw [hrows]; exact hrs)]
      show ({ z with fs := ⟨f.k, f.rows.tail, f.cr - f.w0⟩ :: r } : Qu) = _
      rw [hrows]
      rfl
    wtm_at "g_go"
    refine q2 _ _ (Own.swap ?_)
    rw [eg]
    have w8 : Own (pt a (.ins (He.ga K "Flow") da (fFlow (.ref ka) (.ref la) (.int (f.wr rs).oct) (.int (f.cr - f.w0)))) :: KyP ka f.k :: pt la (.lst (us.map V.ref)) :: big (WtP K) us (rs.map f.wt) :: big (FlP K) as' r :: WtP K u (f.wt r0) :: pt p (.ins (He.ga K "FairQueue") dx (fFairQueue (.int z.lim) (.int z.q) (.ref l) (.bl z.gr))) :: pt l (.lst ((a :: as').map V.ref)) :: R) H3 := by wtm_at "g_own"
    have w9 := (fl_in (f := ⟨f.k, rs, f.cr - f.w0⟩) w8).bigCons
    exact qu_in (y := { z with fs := ⟨f.k, rs, f.cr - f.w0⟩ :: r }) (fs := a :: as') (l := l) (dx := dx) (by wtm_at "g_own")
end
section
variable {K : PySem.W.Frag} {mg : Str → Option Value} {base : Heap}
theorem pure_Flow_fork (T : TX K mg base) (vs : List V) (H : Hp) (Q : VK) (E : XK) (h : sp_Flow_fork K vs H Q E) : t_Flow_fork K E { nx := fun _ H' => Q .non H', rt := Q } (start N_Flow_fork vs) H := by
  obtain ⟨p, f, R, rfl, w, q⟩ := h
  obtain ⟨dx, ka, l, ws, w⟩ := fl_out w
  unfold t_Flow_fork
  wtm_at "g_go"
  rename_i d dx' H1 w1 H2 w2 c H3 w3
  obtain ⟨dy, kb, l2, ws2, w4⟩ := fl_out (w3.swap)
  wtm_at "g_go"
  rename_i H5 w5
  refine q _ _ (fl_in (f := f) (l := c) (ws := ws) (dx := dy) (ka := kb) ?_)
  have w6 : Own (pt p (.ins (He.ga K "Flow") dx (fFlow (.ref ka) (.ref l) (.int f.oct) (.int f.cr))) :: KyP ka f.k :: pt l (.lst (ws.map V.ref)) :: big (WtP K) ws (f.rows.map f.wt) :: pt d (.ins (He.ga K "Flow") dy (fFlow (.ref kb) (.ref c) (.int f.oct) (.int f.cr))) :: KyP kb f.k :: pt c (.lst (ws.map V.ref)) :: big (WtP K) ws (f.rows.map f.wt) :: R) H5 := by wtm_at "g_own"
  have w7 := fl_in w6
  wtm_at "g_own"
theorem flat_len {fs : List Fl} : (allW fs).length = cnt fs := by
  unfold allW cnt
  rw [List.length_flatten, List.map_map]
  congr 1
  refine List.map_congr_left fun f _ => ?_
  show (f.rows.map f.wt).length = _
  rw [List.length_map]
theorem allW_s {fs : List Fl} {i : Nat} {f : Fl} (h : fs[i]? = some f) : allW (fs.take (i + 1)) = allW (fs.take i) ++ f.rows.map f.wt := by
  unfold allW
  rw [take_map_s h, List.flatten_append]
  simp
theorem cnt_take {fs : List Fl} (i : Nat) : cnt (fs.take i) ≤ cnt fs := by
  have : cnt fs = cnt (fs.take i) + cnt (fs.drop i) := by rw [← cnt_app, List.take_append_drop]
  omega
theorem pure_FairQueue_take_all (T : TX K mg base) (vs : List V) (H : Hp) (Q : VK) (E : XK) (h : sp_FairQueue_take_all K vs H Q E) : t_FairQueue_take_all K E { nx := fun _ H' => Q .non H', rt := Q } (start N_FairQueue_take_all vs) H := by
  obtain ⟨p, x, R, rfl, hc, w, q⟩ := h
  obtain ⟨dx, l, fs, w⟩ := qu_out w
  have hlen := (w.pick (.next (.next .here))).bigLen
  unfold t_FairQueue_take_all
  wtm_at "g_go"
  rename_i t H1 w1
  refine loopL (xs := fs.map V.ref) (fun i σ H' => ∃ t v2 ws, σ = [some (.ref p), some (.ref t), v2] ∧ Own (pt t (.lst (ws.map V.ref)) :: big (WtP K) ws (allW (x.fs.take i)) :: pt p (.ins (He.ga K "FairQueue") dx (fFairQueue (.int x.lim) (.int x.q) (.ref l) (.bl x.gr))) :: pt l (.lst (fs.map V.ref)) :: big (FlP K) fs x.fs :: R) H') (by wtm_at "g_sq") ⟨t, _, [], rfl, Own.swap (Own.bigNil (by wtm_at "g_ow"))⟩ ?_ ?_ ?_
  · rintro i σ H' hi ⟨t, v2, ws, rfl, w'⟩
    wtm_at "g_sq"
  · rintro i y σ H2 hy ⟨t, v2, ws, rfl, w2⟩
    obtain ⟨a, ha, rfl⟩ := map_ref_at hy
    obtain ⟨f, hf⟩ := at_of_len ha hlen
    have hil := (List.getElem?_eq_some_iff.mp ha).1
    have hws : ws.length = cnt (x.fs.take i) := by
      have := w2.swap.bigLen
      rw [flat_len] at this
      exact this
    have hct := cnt_take (fs := x.fs) i
    have hfr := len_cnt (List.mem_of_getElem? hf)
    obtain ⟨da, ka, la, us, w3⟩ := fl_out ((w2.pick (.next (.next (.next (.next .here))))).bigOut ha hf)
    have hus := (w3.pick (.next (.next (.next .here)))).bigLen
    rw [List.length_map] at hus
    wtm_at "g_go"
    rename_i t2 H3 w4
    refine ⟨_, _, ws ++ us, rfl, ?_⟩
    have w5 : Own (pt a (.ins (He.ga K "Flow") da (fFlow (.ref ka) (.ref la) (.int f.oct) (.int f.cr))) :: KyP ka f.k :: pt la (.lst (us.map V.ref)) :: big (WtP K) us (f.rows.map f.wt) :: big (FlP K) (fs.take i) (x.fs.take i) :: big (FlP K) (fs.drop (i + 1)) (x.fs.drop (i + 1)) :: big (WtP K) us (f.rows.map f.wt) :: big (WtP K) ws (allW (x.fs.take i)) :: pt t2 (.lst ((ws ++ us).map V.ref)) :: pt p (.ins (He.ga K "FairQueue") dx (fFairQueue (.int x.lim) (.int x.q) (.ref l) (.bl x.gr))) :: pt l (.lst (fs.map V.ref)) :: R) H3 := by wtm_at "g_own"
    have w6 := (fl_in w5).bigBack ha (by omega)
    have ef : x.fs.set i f = x.fs := by
      obtain ⟨h1, rfl⟩ := List.getElem?_eq_some_iff.mp hf
      exact List.set_getElem_self h1
    rw [ef] at w6
    have w7 : Own (big (WtP K) ws (allW (x.fs.take i)) :: big (WtP K) us (f.rows.map f.wt) :: pt t2 (.lst ((ws ++ us).map V.ref)) :: pt p (.ins (He.ga K "FairQueue") dx (fFairQueue (.int x.lim) (.int x.q) (.ref l) (.bl x.gr))) :: pt l (.lst (fs.map V.ref)) :: big (FlP K) fs x.fs :: R) H3 := by wtm_at "g_own"
    rw [allW_s hf]
    exact w7.bigApp.swap
  · rintro σ H2 ⟨t, v2, ws, rfl, w2⟩
    wtm_at "g_go"
    rename_i l2 H3 w3 H4 w4 H5 w5
    rw [List.length_map, hlen, List.take_length] at w5
    refine q _ t ws ?_
    have w6 := Own.bigNil (f := FlP K) w5
    have w7 : Own (pt p (.ins (He.ga K "FairQueue") dx (fFairQueue (.int x.lim) (.int x.q) (.ref l2) (.bl false))) :: pt l2 (.lst (([] : List Addr).map V.ref)) :: big (FlP K) [] [] :: pt t (.lst (ws.map V.ref)) :: big (WtP K) ws (allW x.fs) :: R) H5 := by wtm_at "g_ow"
    have w8 := qu_in (y := { x with fs := [], gr := false }) w7
    wtm_at "g_own"
theorem pure_FairQueue_fork (T : TX K mg base) (vs : List V) (H : Hp) (Q : VK) (E : XK) (h : sp_FairQueue_fork K vs H Q E) : t_FairQueue_fork K E { nx := fun _ H' => Q .non H', rt := Q } (start N_FairQueue_fork vs) H := by
  obtain ⟨p, x, R, rfl, h1, h2, hl, w, q⟩ := h
  unfold t_FairQueue_fork
  wtm_at "g_go"
  rename_i d dx' H1 w1
  refine ⟨d, dx', x.lim, x.q, QuP K p x :: R, rfl, w1, fun z => by omega, fun _ _ H2 w2 => ?_⟩
  obtain ⟨dd, ld, fd, w3⟩ := qu_out w2
  have hfd := (w3.pick (.next (.next .here))).bigLen
  obtain ⟨dx, l, fs, w4⟩ := qu_out (w3.pick (.next (.next (.next .here))))
  have hlen := (w4.pick (.next (.next .here))).bigLen
  wtm_at "g_go"
  refine lcLO (fun i A L => ∃ ps : List Addr, A = ps.map V.ref ∧ ps.length = i ∧ L = big (FlP K) ps (x.fs.take i) :: big (FlP K) fs x.fs :: pt p (.ins (He.ga K "FairQueue") dx (fFairQueue (.int x.lim) (.int x.q) (.ref l) (.bl x.gr))) :: pt l (.lst (fs.map V.ref)) :: pt d (.ins (He.ga K "FairQueue") dd (fFairQueue (.int x.lim) (.int x.q) (.ref ld) (.bl false))) :: R)
    (Own.bigNil (f := FlP K) (by wtm_at "g_own")) ⟨[], rfl, rfl, rfl⟩ ?_ (by wtm_at "g_sq") ?_ ?_
  · rintro i A L D H' ⟨ps, rfl, hps, rfl⟩ w'
    wtm_at "g_sq"
  · rintro i y D A L H3 hy ⟨ps, rfl, hps, rfl⟩ w5
    obtain ⟨a, ha, rfl⟩ := map_ref_at hy
    obtain ⟨f, hf⟩ := at_of_len ha hlen
    have hil := (List.getElem?_eq_some_iff.mp ha).1
    have w6 := (w5.pick (.next (.next .here))).bigOut ha hf
    wtm_at "g_go"
    refine ⟨a, f, _, rfl, w6, fun H4 b w7 => ?_⟩
    have w8 : Own (FlP K a f :: big (FlP K) (fs.take i) (x.fs.take i) :: big (FlP K) (fs.drop (i + 1)) (x.fs.drop (i + 1)) :: big (FlP K) ps (x.fs.take i) :: FlP K b f :: pt D (.lst (ps.map V.ref)) :: pt p (.ins (He.ga K "FairQueue") dx (fFairQueue (.int x.lim) (.int x.q) (.ref l) (.bl x.gr))) :: pt l (.lst (fs.map V.ref)) :: pt d (.ins (He.ga K "FairQueue") dd (fFairQueue (.int x.lim) (.int x.q) (.ref ld) (.bl false))) :: R) H4 := by wtm_at "g_own"
    have w9 := w8.bigBack ha (by omega)
    have ef : x.fs.set i f = x.fs := by
      obtain ⟨h1, rfl⟩ := List.getElem?_eq_some_iff.mp hf
      exact List.set_getElem_self h1
    rw [ef] at w9
    have w10 := (w9.pick (.next .here)).rest (M := FlP K b f :: big (FlP K) fs x.fs :: pt D (.lst (ps.map V.ref)) :: pt p (.ins (He.ga K "FairQueue") dx (fFairQueue (.int x.lim) (.int x.q) (.ref l) (.bl x.gr))) :: pt l (.lst (fs.map V.ref)) :: pt d (.ins (He.ga K "FairQueue") dd (fFairQueue (.int x.lim) (.int x.q) (.ref ld) (.bl false))) :: R) (by exact Sel.cons (.next .here) (by wtm_at "g_sel"))
    have w11 := w10.bigSnoc
    refine lc_addO (A := ps.map V.ref) (R := big (FlP K) (ps ++ [b]) (x.fs.take (i + 1)) :: big (FlP K) fs x.fs :: pt p (.ins (He.ga K "FairQueue") dx (fFairQueue (.int x.lim) (.int x.q) (.ref l) (.bl x.gr))) :: pt l (.lst (fs.map V.ref)) :: pt d (.ins (He.ga K "FairQueue") dd (fFairQueue (.int x.lim) (.int x.q) (.ref ld) (.bl false))) :: R) (L := pt D (.lst (ps.map V.ref)) :: big (FlP K) (ps ++ [b]) (x.fs.take (i + 1)) :: big (FlP K) fs x.fs :: pt p (.ins (He.ga K "FairQueue") dx (fFairQueue (.int x.lim) (.int x.q) (.ref l) (.bl x.gr))) :: pt l (.lst (fs.map V.ref)) :: pt d (.ins (He.ga K "FairQueue") dd (fFairQueue (.int x.lim) (.int x.q) (.ref ld) (.bl false))) :: R) ?_ .here (by rw [List.length_map]; exact small16l (by omega)) ⟨ps ++ [b], by rw [List.map_append]; rfl, by rw [List.length_append, hps]; rfl, rfl⟩
    rw [List.take_add_one, hf]
    exact Own.sel w11 (Sel.cons (.next (.next .here)) (Sel.cons .here (by wtm_at "g_sel")))
  · rintro D A L H3 ⟨ps, rfl, hps, rfl⟩ w5
    rw [List.length_map, hlen, List.take_length] at w5
    wtm_at "g_go"
    rename_i H4 w6 H5 w7
    refine q _ d ?_
    have w8 : Own (pt p (.ins (He.ga K "FairQueue") dx (fFairQueue (.int x.lim) (.int x.q) (.ref l) (.bl x.gr))) :: pt l (.lst (fs.map V.ref)) :: big (FlP K) fs x.fs :: pt d (.ins (He.ga K "FairQueue") dd (fFairQueue (.int x.lim) (.int x.q) (.ref D) (.bl x.gr))) :: pt D (.lst (ps.map V.ref)) :: big (FlP K) ps x.fs :: R) H5 := by wtm_at "g_own"
    have w9 := qu_in w8
    exact qu_in (fs := ps) (l := D) (dx := dd) (by wtm_at "g_own")
end
end K81

namespace K81
open PySem PySem.Spec PyProof.Rows L2 G
local macro_rules | `(tactic| wtm_at "g_get") => `(tactic| first
  | ((with_reducible refine' w_fld ?k1 (cl_Waiting (by assumption)) (na_Waiting_key (by assumption)) lk_Waiting_key ?_); (case k1 => wtm_at "g_hp"))
  | ((with_reducible refine' w_fld ?k1 (cl_Waiting (by assumption)) (na_Waiting_item (by assumption)) lk_Waiting_item ?_); (case k1 => wtm_at "g_hp"))
  | ((with_reducible refine' w_fld ?k1 (cl_Waiting (by assumption)) (na_Waiting_weight (by assumption)) lk_Waiting_weight ?_); (case k1 => wtm_at "g_hp"))
  | ((with_reducible refine' w_fld ?k1 (cl_Flow (by assumption)) (na_Flow_key (by assumption)) lk_Flow_key ?_); (case k1 => wtm_at "g_hp"))
  | ((with_reducible refine' w_fld ?k1 (cl_Flow (by assumption)) (na_Flow_rows (by assumption)) lk_Flow_rows ?_); (case k1 => wtm_at "g_hp"))
  | ((with_reducible refine' w_fld ?k1 (cl_Flow (by assumption)) (na_Flow_octets (by assumption)) lk_Flow_octets ?_); (case k1 => wtm_at "g_hp"))
  | ((with_reducible refine' w_fld ?k1 (cl_Flow (by assumption)) (na_Flow_credit (by assumption)) lk_Flow_credit ?_); (case k1 => wtm_at "g_hp"))
  | ((with_reducible refine' w_fld ?k1 (cl_FairQueue (by assumption)) (na_FairQueue_limit (by assumption)) lk_FairQueue_limit ?_); (case k1 => wtm_at "g_hp"))
  | ((with_reducible refine' w_fld ?k1 (cl_FairQueue (by assumption)) (na_FairQueue_quantum (by assumption)) lk_FairQueue_quantum ?_); (case k1 => wtm_at "g_hp"))
  | ((with_reducible refine' w_fld ?k1 (cl_FairQueue (by assumption)) (na_FairQueue_flows (by assumption)) lk_FairQueue_flows ?_); (case k1 => wtm_at "g_hp"))
  | ((with_reducible refine' w_fld ?k1 (cl_FairQueue (by assumption)) (na_FairQueue_granted (by assumption)) lk_FairQueue_granted ?_); (case k1 => wtm_at "g_hp"))
  | fail)
local macro_rules | `(tactic| wtm_at "g_set") => `(tactic| first
  | ((with_reducible refine' k_fld ?k1 ?k2 (cl_Waiting (by assumption)) (na_Waiting_key (by assumption)) pt_Waiting_key rfl ?_); (case k1 => wtm_at "g_own"); (case k2 => wtm_at "g_put"); intro HH ww)
  | ((with_reducible refine' k_fld ?k1 ?k2 (cl_Waiting (by assumption)) (na_Waiting_key (by assumption)) pn_Waiting_key rfl ?_); (case k1 => wtm_at "g_own"); (case k2 => wtm_at "g_put"); intro HH ww)
  | ((with_reducible refine' k_fld ?k1 ?k2 (cl_Waiting (by assumption)) (na_Waiting_item (by assumption)) pt_Waiting_item rfl ?_); (case k1 => wtm_at "g_own"); (case k2 => wtm_at "g_put"); intro HH ww)
  | ((with_reducible refine' k_fld ?k1 ?k2 (cl_Waiting (by assumption)) (na_Waiting_item (by assumption)) pn_Waiting_item rfl ?_); (case k1 => wtm_at "g_own"); (case k2 => wtm_at "g_put"); intro HH ww)
  | ((with_reducible refine' k_fld ?k1 ?k2 (cl_Waiting (by assumption)) (na_Waiting_weight (by assumption)) pt_Waiting_weight rfl ?_); (case k1 => wtm_at "g_own"); (case k2 => wtm_at "g_put"); intro HH ww)
  | ((with_reducible refine' k_fld ?k1 ?k2 (cl_Waiting (by assumption)) (na_Waiting_weight (by assumption)) pn_Waiting_weight rfl ?_); (case k1 => wtm_at "g_own"); (case k2 => wtm_at "g_put"); intro HH ww)
  | ((with_reducible refine' k_fld ?k1 ?k2 (cl_Flow (by assumption)) (na_Flow_key (by assumption)) pt_Flow_key rfl ?_); (case k1 => wtm_at "g_own"); (case k2 => wtm_at "g_put"); intro HH ww)
  | ((with_reducible refine' k_fld ?k1 ?k2 (cl_Flow (by assumption)) (na_Flow_key (by assumption)) pn_Flow_key rfl ?_); (case k1 => wtm_at "g_own"); (case k2 => wtm_at "g_put"); intro HH ww)
  | ((with_reducible refine' k_fld ?k1 ?k2 (cl_Flow (by assumption)) (na_Flow_rows (by assumption)) pt_Flow_rows rfl ?_); (case k1 => wtm_at "g_own"); (case k2 => wtm_at "g_put"); intro HH ww)
  | ((with_reducible refine' k_fld ?k1 ?k2 (cl_Flow (by assumption)) (na_Flow_rows (by assumption)) pn_Flow_rows rfl ?_); (case k1 => wtm_at "g_own"); (case k2 => wtm_at "g_put"); intro HH ww)
  | ((with_reducible refine' k_fld ?k1 ?k2 (cl_Flow (by assumption)) (na_Flow_octets (by assumption)) pt_Flow_octets rfl ?_); (case k1 => wtm_at "g_own"); (case k2 => wtm_at "g_put"); intro HH ww)
  | ((with_reducible refine' k_fld ?k1 ?k2 (cl_Flow (by assumption)) (na_Flow_octets (by assumption)) pn_Flow_octets rfl ?_); (case k1 => wtm_at "g_own"); (case k2 => wtm_at "g_put"); intro HH ww)
  | ((with_reducible refine' k_fld ?k1 ?k2 (cl_Flow (by assumption)) (na_Flow_credit (by assumption)) pt_Flow_credit rfl ?_); (case k1 => wtm_at "g_own"); (case k2 => wtm_at "g_put"); intro HH ww)
  | ((with_reducible refine' k_fld ?k1 ?k2 (cl_Flow (by assumption)) (na_Flow_credit (by assumption)) pn_Flow_credit rfl ?_); (case k1 => wtm_at "g_own"); (case k2 => wtm_at "g_put"); intro HH ww)
  | ((with_reducible refine' k_fld ?k1 ?k2 (cl_FairQueue (by assumption)) (na_FairQueue_limit (by assumption)) pt_FairQueue_limit rfl ?_); (case k1 => wtm_at "g_own"); (case k2 => wtm_at "g_put"); intro HH ww)
  | ((with_reducible refine' k_fld ?k1 ?k2 (cl_FairQueue (by assumption)) (na_FairQueue_limit (by assumption)) pn_FairQueue_limit rfl ?_); (case k1 => wtm_at "g_own"); (case k2 => wtm_at "g_put"); intro HH ww)
  | ((with_reducible refine' k_fld ?k1 ?k2 (cl_FairQueue (by assumption)) (na_FairQueue_quantum (by assumption)) pt_FairQueue_quantum rfl ?_); (case k1 => wtm_at "g_own"); (case k2 => wtm_at "g_put"); intro HH ww)
  | ((with_reducible refine' k_fld ?k1 ?k2 (cl_FairQueue (by assumption)) (na_FairQueue_quantum (by assumption)) pn_FairQueue_quantum rfl ?_); (case k1 => wtm_at "g_own"); (case k2 => wtm_at "g_put"); intro HH ww)
  | ((with_reducible refine' k_fld ?k1 ?k2 (cl_FairQueue (by assumption)) (na_FairQueue_flows (by assumption)) pt_FairQueue_flows rfl ?_); (case k1 => wtm_at "g_own"); (case k2 => wtm_at "g_put"); intro HH ww)
  | ((with_reducible refine' k_fld ?k1 ?k2 (cl_FairQueue (by assumption)) (na_FairQueue_flows (by assumption)) pn_FairQueue_flows rfl ?_); (case k1 => wtm_at "g_own"); (case k2 => wtm_at "g_put"); intro HH ww)
  | ((with_reducible refine' k_fld ?k1 ?k2 (cl_FairQueue (by assumption)) (na_FairQueue_granted (by assumption)) pt_FairQueue_granted rfl ?_); (case k1 => wtm_at "g_own"); (case k2 => wtm_at "g_put"); intro HH ww)
  | ((with_reducible refine' k_fld ?k1 ?k2 (cl_FairQueue (by assumption)) (na_FairQueue_granted (by assumption)) pn_FairQueue_granted rfl ?_); (case k1 => wtm_at "g_own"); (case k2 => wtm_at "g_put"); intro HH ww)
  | fail)
local macro_rules | `(tactic| wtm_at "g_set2") => `(tactic| first
  | ((with_reducible refine' k_fa ?k1 ?k2 pt_Waiting_key rfl ?_); (case k1 => wtm_at "g_own"); (case k2 => wtm_at "g_put"); intro HH ww)
  | ((with_reducible refine' k_fa ?k1 ?k2 pt_Waiting_item rfl ?_); (case k1 => wtm_at "g_own"); (case k2 => wtm_at "g_put"); intro HH ww)
  | ((with_reducible refine' k_fa ?k1 ?k2 pt_Waiting_weight rfl ?_); (case k1 => wtm_at "g_own"); (case k2 => wtm_at "g_put"); intro HH ww)
  | ((with_reducible refine' k_fa ?k1 ?k2 pt_Flow_key rfl ?_); (case k1 => wtm_at "g_own"); (case k2 => wtm_at "g_put"); intro HH ww)
  | ((with_reducible refine' k_fa ?k1 ?k2 pt_Flow_rows rfl ?_); (case k1 => wtm_at "g_own"); (case k2 => wtm_at "g_put"); intro HH ww)
  | ((with_reducible refine' k_fa ?k1 ?k2 pt_Flow_octets rfl ?_); (case k1 => wtm_at "g_own"); (case k2 => wtm_at "g_put"); intro HH ww)
  | ((with_reducible refine' k_fa ?k1 ?k2 pt_Flow_credit rfl ?_); (case k1 => wtm_at "g_own"); (case k2 => wtm_at "g_put"); intro HH ww)
  | ((with_reducible refine' k_fa ?k1 ?k2 pt_FairQueue_limit rfl ?_); (case k1 => wtm_at "g_own"); (case k2 => wtm_at "g_put"); intro HH ww)
  | ((with_reducible refine' k_fa ?k1 ?k2 pt_FairQueue_quantum rfl ?_); (case k1 => wtm_at "g_own"); (case k2 => wtm_at "g_put"); intro HH ww)
  | ((with_reducible refine' k_fa ?k1 ?k2 pt_FairQueue_flows rfl ?_); (case k1 => wtm_at "g_own"); (case k2 => wtm_at "g_put"); intro HH ww)
  | ((with_reducible refine' k_fa ?k1 ?k2 pt_FairQueue_granted rfl ?_); (case k1 => wtm_at "g_own"); (case k2 => wtm_at "g_put"); intro HH ww)
  | fail)
local macro_rules | `(tactic| wtm_at "g_mt") => `(tactic| first
  | ((with_reducible refine' w_mt1 ?k1 ln_Flow_add ?_); (case k1 => wtm_at "g_hp"))
  | ((with_reducible refine' w_mt1 ?k1 ln_Flow_take ?_); (case k1 => wtm_at "g_hp"))
  | ((with_reducible refine' w_mt1 ?k1 ln_Flow_fork ?_); (case k1 => wtm_at "g_hp"))
  | ((with_reducible refine' w_mt1 ?k1 ln_FairQueue_count ?_); (case k1 => wtm_at "g_hp"))
  | ((with_reducible refine' w_mt1 ?k1 ln_FairQueue_octets ?_); (case k1 => wtm_at "g_hp"))
  | ((with_reducible refine' w_mt1 ?k1 ln_FairQueue_octets_of ?_); (case k1 => wtm_at "g_hp"))
  | ((with_reducible refine' w_mt1 ?k1 ln_FairQueue_flow_of ?_); (case k1 => wtm_at "g_hp"))
  | ((with_reducible refine' w_mt1 ?k1 ln_FairQueue_remove_flow ?_); (case k1 => wtm_at "g_hp"))
  | ((with_reducible refine' w_mt1 ?k1 ln_FairQueue_put ?_); (case k1 => wtm_at "g_hp"))
  | ((with_reducible refine' w_mt1 ?k1 ln_FairQueue_drop ?_); (case k1 => wtm_at "g_hp"))
  | ((with_reducible refine' w_mt1 ?k1 ln_FairQueue_turn ?_); (case k1 => wtm_at "g_hp"))
  | ((with_reducible refine' w_mt1 ?k1 ln_FairQueue_next_up ?_); (case k1 => wtm_at "g_hp"))
  | ((with_reducible refine' w_mt1 ?k1 ln_FairQueue_take ?_); (case k1 => wtm_at "g_hp"))
  | ((with_reducible refine' w_mt1 ?k1 ln_FairQueue_take_all ?_); (case k1 => wtm_at "g_hp"))
  | ((with_reducible refine' w_mt1 ?k1 ln_FairQueue_fork ?_); (case k1 => wtm_at "g_hp"))
  | fail)
local macro_rules | `(tactic| wtm_at "g_mkk") => `(tactic| first
  | fail
  | fail)
local macro_rules | `(tactic| wtm_at "g_callf") => `(tactic| first
  | ((with_reducible refine' c_Waiting_init ?k1 ?k2 ?k3 ?_); (case k1 => wtm_at "g_own"); (case k2 => wtm_at "g_pk"); (case k3 => wtm_at "g_pk"); intro HH ww)
  | ((with_reducible refine' c_Flow_init ?k1 ?k2 ?k3 ?_); (case k1 => wtm_at "g_own"); (case k2 => wtm_at "g_pk"); (case k3 => wtm_at "g_pk"); intro HH ww)
  | ((with_reducible refine' c_octets ?k0 ?k1 ?k2 ?_); (case k1 => wtm_at "g_own"); (case k2 => wtm_at "g_pk"); (case k0 => omega); intro HH ww)
  | ((with_reducible refine' w_fldT tell_qu_lim ?k1 ?k2 (cl_FairQueue (by assumption)) (na_FairQueue_limit (by assumption)) ?_); (case k1 => wtm_at "g_own"); (case k2 => wtm_at "g_pk"); intro dz fz; (try clear fz dz))
  | ((with_reducible refine' w_fldT tell_qu_q ?k1 ?k2 (cl_FairQueue (by assumption)) (na_FairQueue_quantum (by assumption)) ?_); (case k1 => wtm_at "g_own"); (case k2 => wtm_at "g_pk"); intro dz fz; (try clear fz dz))
  | ((with_reducible refine' w_fldT tell_wt_w ?k1 ?k2 (cl_Waiting (by assumption)) (na_Waiting_weight (by assumption)) ?_); (case k1 => wtm_at "g_own"); (case k2 => wtm_at "g_pk"); intro dz fz; (try clear fz dz))
  | ((with_reducible refine' w_fldT tell_wt_i ?k1 ?k2 (cl_Waiting (by assumption)) (na_Waiting_item (by assumption)) ?_); (case k1 => wtm_at "g_own"); (case k2 => wtm_at "g_pk"); intro dz fz; (try clear fz dz))
  | ((with_reducible refine' w_mtT (tell_qu_m ln_FairQueue_octets) ?k1 ?k2 ?_); (case k1 => wtm_at "g_own"); (case k2 => wtm_at "g_pk"))
  | ((with_reducible refine' w_mtT (tell_qu_m ln_FairQueue_drop) ?k1 ?k2 ?_); (case k1 => wtm_at "g_own"); (case k2 => wtm_at "g_pk"))
  | ((with_reducible refine' w_mtT (tell_qu_m ln_FairQueue_turn) ?k1 ?k2 ?_); (case k1 => wtm_at "g_own"); (case k2 => wtm_at "g_pk"))
  | ((with_reducible refine' w_mtT (tell_qu_m ln_FairQueue_next_up) ?k1 ?k2 ?_); (case k1 => wtm_at "g_own"); (case k2 => wtm_at "g_pk"))
  | ((with_reducible refine' w_mtT (tell_qu_m ln_FairQueue_remove_flow) ?k1 ?k2 ?_); (case k1 => wtm_at "g_own"); (case k2 => wtm_at "g_pk"))
  | ((with_reducible refine' w_mtT (tell_fl_m ln_Flow_add) ?k1 ?k2 ?_); (case k1 => wtm_at "g_own"); (case k2 => wtm_at "g_pk"))
  | ((with_reducible refine' w_mtT (tell_fl_m ln_Flow_take) ?k1 ?k2 ?_); (case k1 => wtm_at "g_own"); (case k2 => wtm_at "g_pk"))
  | fail)
local macro_rules | `(tactic| wtm_at "g_call") => `(tactic| first
  | wtm_at "g_callf"
  | ((with_reducible refine' w_mtT (tell_qu_m ln_FairQueue_count) ?k1 ?k2 ?_); (case k1 => wtm_at "g_own"); (case k2 => wtm_at "g_pk"))
  | ((with_reducible refine' w_mtT (tell_qu_m ln_FairQueue_octets_of) ?k1 ?k2 ?_); (case k1 => wtm_at "g_own"); (case k2 => wtm_at "g_pk"))
  | ((with_reducible refine' w_mtT (tell_qu_m ln_FairQueue_flow_of) ?k1 ?k2 ?_); (case k1 => wtm_at "g_own"); (case k2 => wtm_at "g_pk"))
  | ((with_reducible refine' w_mtT (tell_qu_m ln_FairQueue_put) ?k1 ?k2 ?_); (case k1 => wtm_at "g_own"); (case k2 => wtm_at "g_pk"))
  | ((with_reducible refine' w_mtT (tell_qu_m ln_FairQueue_take) ?k1 ?k2 ?_); (case k1 => wtm_at "g_own"); (case k2 => wtm_at "g_pk"))
  | ((with_reducible refine' w_mtT (tell_qu_m ln_FairQueue_take_all) ?k1 ?k2 ?_); (case k1 => wtm_at "g_own"); (case k2 => wtm_at "g_pk"))
  | ((with_reducible refine' w_mtT (tell_qu_m ln_FairQueue_fork) ?k1 ?k2 ?_); (case k1 => wtm_at "g_own"); (case k2 => wtm_at "g_pk"))
  | ((with_reducible refine' w_mtT (tell_fl_m ln_Flow_fork) ?k1 ?k2 ?_); (case k1 => wtm_at "g_own"); (case k2 => wtm_at "g_pk"))
  | fail)
local macro_rules | `(tactic| wtm_at "g_own") => `(tactic| first
  | (with_reducible assumption)
  | ((with_reducible refine' Own.newT ?k1 ?k2); (case k1 => with_reducible assumption); (case k2 => wtm_at "g_own"))
  | ((with_reducible refine' Own.new ?k1 ?k2); (case k1 => with_reducible assumption); (case k2 => wtm_at "g_own"))
  | ((with_reducible refine' Own.put ?k1 ?k2); (case k1 => wtm_at "g_own"); (case k2 => wtm_at "g_put"))
  | ((with_reducible refine' Own.sel ?k1 ?k2); (case k1 => with_reducible assumption); (case k2 => wtm_at "g_sel"))
  | fail)
local macro_rules | `(tactic| wtm_at "g_sel") => `(tactic| first
  | (with_reducible exact Sel.rf) | (with_reducible exact Sel.nil)
  | ((with_reducible refine' Sel.cons ?k1 ?k2); (case k1 => wtm_at "g_pk"); (case k2 => wtm_at "g_sel"))
  | ((with_reducible refine' Sel.drop ?k1); (case k1 => wtm_at "g_sel"))
  | fail)
local macro_rules | `(tactic| wtm_at "g_got") => `(tactic| first
  | (with_reducible assumption) | (with_reducible exact Got.here)
  | ((with_reducible refine' Got.next ?k1); (case k1 => wtm_at "g_got"))
  | fail)
local macro_rules | `(tactic| wtm_at "g_gl") => `(tactic| first
  | (with_reducible assumption) | (with_reducible exact GotL.here) | (with_reducible exact GotL.hereS)
  | ((with_reducible refine' GotL.next ?k1); (case k1 => wtm_at "g_gl"))
  | fail)
local macro_rules | `(tactic| wtm_at "g_put") => `(tactic| first
  | (with_reducible assumption) | (with_reducible exact Put.here)
  | ((with_reducible refine' Put.next ?k1); (case k1 => wtm_at "g_put"))
  | fail)
local macro_rules | `(tactic| wtm_at "g_pk") => `(tactic| first
  | (with_reducible assumption) | (with_reducible exact Pick.keep) | (with_reducible exact Pick.here)
  | ((with_reducible refine' Pick.next ?k1); (case k1 => wtm_at "g_pk"))
  | fail)
local macro_rules | `(tactic| wtm_at "g_hp") => `(tactic| first
  | (with_reducible assumption) | (with_reducible exact upd_same)
  | ((with_reducible refine' Own.get ?k1 ?k2); (case k1 => wtm_at "g_own"); (case k2 => wtm_at "g_got"))
  | fail)
local macro_rules | `(tactic| wtm_at "g_sq") => `(tactic| first
  | (with_reducible assumption)
  | ((with_reducible refine' Own.sql ?k1 ?k2); (case k1 => wtm_at "g_own"); (case k2 => wtm_at "g_gl"))
  | ((with_reducible refine' SqL.of ?k1); (case k1 => wtm_at "g_hp"))
  | fail)
local macro_rules | `(tactic| wtm_at "g_sqt") => `(tactic| first
  | (with_reducible assumption) | ((with_reducible refine' SqT.of' ?k1); (case k1 => wtm_at "g_hp"))
  | fail)
local macro_rules | `(tactic| wtm_at "g_sz") => `(tactic| first
  | (with_reducible assumption) | (exact small_le rfl)
  | ((with_reducible refine' small16 ?k1); (case k1 => (try simp only [List.length_append, List.length_map, List.length_cons, List.length_nil, List.length_take, List.length_drop, List.length_set, List.length_range]); omega))
  | ((with_reducible refine' small16l ?k1); (case k1 => (try simp only [List.length_append, List.length_map, List.length_cons, List.length_nil, List.length_take, List.length_drop, List.length_set, List.length_range]); omega))
  | fail)
local macro_rules | `(tactic| wtm_at "g_gd") => `(tactic| first
  | (with_reducible assumption) | (with_reducible exact GotD.here) | (with_reducible exact GotD.hereR) | (with_reducible exact GotD.ints)
  | ((with_reducible refine' GotD.next ?k1); (case k1 => wtm_at "g_gd"))
  | fail)
local macro_rules | `(tactic| wtm_at "g_dp") => `(tactic| first
  | (with_reducible assumption)
  | ((with_reducible refine' Own.dpG ?k1 ?k2); (case k1 => wtm_at "g_own"); (case k2 => wtm_at "g_gd"))
  | fail)
local macro_rules | `(tactic| wtm_at "g_ar") => `(tactic| first
  | decide | (exact ⟨by decide, by decide⟩) | (exact Or.inr ⟨by decide, by decide⟩) | (exact Or.inl ⟨by decide, by decide⟩) | omega | (exact Or.inr ⟨by omega, by omega⟩) | (exact Or.inl ⟨by omega, by omega⟩) | (exact ⟨by omega, by omega⟩)
  | fail)
local macro_rules | `(tactic| wtm_at "g_ow") => `(tactic| first
  | wtm_at "g_own"
  | ((simp only [List.map_cons, List.map_nil]); wtm_at "g_own")
  | fail)
local macro_rules | `(tactic| wtm_at "g_callc") => `(tactic| first
  | ((with_reducible refine' o_digit ?k1 ?k2 ?k3 ?k4 ?_); (case k1 => wtm_at "g_own"); (case k2 => wtm_at "g_pk"); (case k3 => omega); (case k4 => omega); intro d HH d0 d1 ww)
  | ((with_reducible refine' o_start ?k1 ?_); (case k1 => wtm_at "g_own"); intro p HH ww)
  | ((with_reducible refine' c_cell ?k1 ?k2 ?_); (case k1 => wtm_at "g_sq"); (case k2 => omega); intro n)
  | ((with_reducible refine' c_isint ?_))
  | fail)
local macro_rules | `(tactic| wtm_at "g_st") => `(tactic| first
  | (with_reducible first
      | refine w_seq ?_ | refine w_asg ?_ | refine w_nm ?_ | refine w_next ?_ | refine w_if ?_ | refine w_ret ?_ | refine w_retN ?_ | refine w_drop ?_
      | refine w_var rfl ?_ | refine w_c ?_ | refine w_op ?_ | refine w_I0 ?_
      | refine w_eqI ?_ | refine w_neI ?_ | refine w_eqB ?_ | refine w_neB ?_ | refine w_eqS ?_ | refine w_neS ?_ | refine w_isN0 ?_ | refine w_isNi ?_ | refine w_isNr ?_ | refine w_isNb ?_ | refine w_isNs ?_ | refine w_notN0 ?_ | refine w_notNi ?_ | refine w_notNr ?_ | refine w_notNb ?_ | refine w_notNs ?_ | refine w_isN ?_ | refine w_notN ?_ | refine w_isB ?_ | refine w_notB ?_
      | refine w_un ?_ | refine w_U ?_ | refine w_chain ?_ | refine w_k ?_ | refine w_test ?_ | refine w_tB ?_ | refine w_tru ?_ | refine w_not ?_ | refine w_and ?_ | refine w_or ?_
      | refine w_andV ?_ | refine w_orV ?_ | refine w_notV ?_ | refine w_ife ?_ | refine w_nil ?_ | refine w_cons ?_ | refine w_tupK ?_ | refine w_lstK ?_ | refine w_small rfl ?_
      | refine w_call ?_ | refine w_mkQ ?_ | refine w_mt ?_ | refine k_ini ?_ | refine w_cb ?_ | refine w_min2 ?_ | refine w_max2 ?_ | refine w_abs ?_ | refine w_int ?_ | refine w_intb ?_
      | refine w_fld0 ?_ | refine w_bm ?_ | refine w_bm0 ?_ | refine w_sub ?_ | refine w_sfldQ ?_ | refine w_sfaQ ?_ | refine w_delQ ?_ | refine k_whT ?_ | refine w_radd ?_ | refine w_rsub ?_ | refine w_ip ?_ | refine w_rs ?_ | refine w_pr ?_
      | refine w_lcR1 ?_ | refine w_lcR2 ?_ | refine w_lcL ?_ | refine w_lcT ?_ | refine w_yes ?_ | refine w_disp ?_ | refine w_prs ?_ | refine w_prn ?_ | refine w_dget ?_ | refine w_sl ?_ | refine w_nopart ?_ | refine w_part ?_ | refine w_pint ?_
      | refine w_for3 ?_ | refine w_mkKQ ?_ | refine w_forR1 ?_ | refine w_forR2 ?_ | refine w_forL ?_ | refine w_forT ?_ | refine w_aug rfl ?_ | refine w_par ?_ | refine w_brk ?_ | refine w_cont ?_
      | refine w_isi_ii ?_ | refine w_isi_ib ?_ | refine w_isi_bi ?_ | refine w_isi_bb ?_ | refine w_isi_ss ?_ | refine w_isi_is ?_ | refine w_isi_il ?_ | refine w_isi_it ?_ | refine w_isi_sl ?_ | refine w_isi_st ?_ | refine w_isi_nl ?_ | refine w_isi_nt ?_
      | refine if_T ?_ | refine if_F ?_ | refine if_nT ?_ | refine if_nF ?_)
  | ((with_reducible refine' k_tup rfl ?k1 ?_); (case k1 => wtm_at "g_own"); intro p HH ww)
  | ((with_reducible refine' k_lst1R ?k1 ?_); (case k1 => wtm_at "g_own"); intro p HH ww)
  | ((with_reducible refine' k_lst1I ?k1 ?_); (case k1 => wtm_at "g_own"); intro p HH ww)
  | ((with_reducible refine' k_lst rfl ?k1 ?_); (case k1 => wtm_at "g_own"); intro p HH ww)
  | ((with_reducible refine' k_mk ?k1 ?_); (case k1 => wtm_at "g_own"); intro p dx HH ww)
  | wtm_at "g_mkk"
  | ((with_reducible refine' k_listL ?k1 ?k2 ?_); (case k1 => wtm_at "g_own"); (case k2 => wtm_at "g_sq"); intro p HH ww)
  | ((with_reducible refine' k_listT ?k1 ?k2 ?_); (case k1 => wtm_at "g_own"); (case k2 => wtm_at "g_sqt"); intro p HH ww)
  | ((with_reducible refine' k_tupL ?k1 ?k2 ?_); (case k1 => wtm_at "g_own"); (case k2 => wtm_at "g_sq"); intro p HH ww)
  | ((with_reducible refine' k_slfromRs ?k1 ?k2 ?_); (case k1 => wtm_at "g_own"); (case k2 => wtm_at "g_sq"); intro p HH ww)
  | ((with_reducible refine' k_slfromR1 ?k1 ?k2 ?_); (case k1 => wtm_at "g_own"); (case k2 => wtm_at "g_sq"); intro p HH ww)
  | ((with_reducible refine' k_slfromRn ?k1 ?k2 ?_); (case k1 => wtm_at "g_own"); (case k2 => wtm_at "g_sq"); intro p HH ww)
  | ((with_reducible refine' k_sltoR1 ?k1 ?k2 ?_); (case k1 => wtm_at "g_own"); (case k2 => wtm_at "g_sq"); intro p HH ww)
  | ((with_reducible refine' k_sltoRn ?k1 ?k2 ?_); (case k1 => wtm_at "g_own"); (case k2 => wtm_at "g_sq"); intro p HH ww)
  | ((with_reducible refine' k_slfromIs ?k1 ?k2 ?_); (case k1 => wtm_at "g_own"); (case k2 => wtm_at "g_sq"); intro p HH ww)
  | ((with_reducible refine' k_slfromI1 ?k1 ?k2 ?_); (case k1 => wtm_at "g_own"); (case k2 => wtm_at "g_sq"); intro p HH ww)
  | ((with_reducible refine' k_slfromIn ?k1 ?k2 ?_); (case k1 => wtm_at "g_own"); (case k2 => wtm_at "g_sq"); intro p HH ww)
  | ((with_reducible refine' k_sltoI1 ?k1 ?k2 ?_); (case k1 => wtm_at "g_own"); (case k2 => wtm_at "g_sq"); intro p HH ww)
  | ((with_reducible refine' k_sltoIn ?k1 ?k2 ?_); (case k1 => wtm_at "g_own"); (case k2 => wtm_at "g_sq"); intro p HH ww)
  | ((with_reducible refine' k_slfromI ?k1 ?k2 ?k3 ?_); (case k1 => wtm_at "g_own"); (case k2 => wtm_at "g_sq"); (case k3 => omega); intro p HH ww)
  | ((with_reducible refine' k_sltoI ?k1 ?k2 ?k3 ?_); (case k1 => wtm_at "g_own"); (case k2 => wtm_at "g_sq"); (case k3 => omega); intro p HH ww)
  | ((with_reducible refine' k_slmidI ?k1 ?k2 ?k3 ?k4 ?_); (case k1 => wtm_at "g_own"); (case k2 => wtm_at "g_sq"); (case k3 => omega); (case k4 => omega); intro p HH ww)
  | ((with_reducible refine' k_catI ?k1 ?k2 ?k3 ?k4 ?_); (case k1 => wtm_at "g_own"); (case k2 => wtm_at "g_got"); (case k3 => wtm_at "g_got"); (case k4 => wtm_at "g_sz"); intro p HH ww)
  | ((with_reducible refine' k_catR ?k1 ?k2 ?k3 ?k4 ?_); (case k1 => wtm_at "g_own"); (case k2 => wtm_at "g_got"); (case k3 => wtm_at "g_got"); (case k4 => wtm_at "g_sz"); intro p HH ww)
  | ((with_reducible refine' k_slfromR ?k1 ?k2 ?k3 ?_); (case k1 => wtm_at "g_own"); (case k2 => wtm_at "g_sq"); (case k3 => omega); intro p HH ww)
  | ((with_reducible refine' k_sltoR ?k1 ?k2 ?k3 ?_); (case k1 => wtm_at "g_own"); (case k2 => wtm_at "g_sq"); (case k3 => omega); intro p HH ww)
  | ((with_reducible refine' k_appI ?k1 ?k2 ?k3 ?_); (case k1 => wtm_at "g_own"); (case k2 => wtm_at "g_put"); (case k3 => wtm_at "g_sz"); intro HH ww)
  | ((with_reducible refine' k_appR ?k1 ?k2 ?k3 ?_); (case k1 => wtm_at "g_own"); (case k2 => wtm_at "g_put"); (case k3 => wtm_at "g_sz"); intro HH ww)
  | ((with_reducible refine' k_extendI ?k1 ?k2 ?k3 ?k4 ?_); (case k1 => wtm_at "g_own"); (case k2 => wtm_at "g_put"); (case k3 => wtm_at "g_got"); (case k4 => wtm_at "g_sz"); intro HH ww)
  | ((with_reducible refine' k_slfrom ?k1 ?k2 ?k3 ?_); (case k1 => wtm_at "g_own"); (case k2 => wtm_at "g_sq"); (case k3 => omega); intro p HH ww)
  | ((with_reducible refine' k_slto ?k1 ?k2 ?k3 ?_); (case k1 => wtm_at "g_own"); (case k2 => wtm_at "g_sq"); (case k3 => omega); intro p HH ww)
  | ((with_reducible refine' k_slmid ?k1 ?k2 ?k3 ?k4 ?_); (case k1 => wtm_at "g_own"); (case k2 => wtm_at "g_sq"); (case k3 => omega); (case k4 => omega); intro p HH ww)
  | ((with_reducible refine' k_cat ?k1 ?k2 ?k3 ?k4 ?_); (case k1 => wtm_at "g_own"); (case k2 => wtm_at "g_got"); (case k3 => wtm_at "g_got"); (case k4 => wtm_at "g_sz"); intro p HH ww)
  | ((with_reducible refine' k_app ?k1 ?k2 ?k3 ?_); (case k1 => wtm_at "g_own"); (case k2 => wtm_at "g_put"); (case k3 => wtm_at "g_sz"); intro HH ww)
  | ((with_reducible refine' ty_list ?k1 ?_); (case k1 => wtm_at "g_hp"))
  | ((with_reducible refine' k_truR ?k1 ?_); (case k1 => wtm_at "g_sq"))
  | ((with_reducible refine' k_truI ?k1 ?_); (case k1 => wtm_at "g_sq"))
  | ((with_reducible refine' k_truL ?k1 ?_); (case k1 => wtm_at "g_sq"))
  | ((with_reducible refine' w_lenLI ?k1 ?_); (case k1 => wtm_at "g_sq"))
  | ((with_reducible refine' w_lenLR ?k1 ?_); (case k1 => wtm_at "g_sq"))
  | ((with_reducible refine' w_ixT ?k1 ?k2 ?_); (case k1 => wtm_at "g_sqt"); (case k2 => first | rfl | fail))
  | ((with_reducible refine' w_ixRc ?k1 ?_); (case k1 => wtm_at "g_sq"))
  | ((with_reducible refine' w_ixR0 ?k1 ?k2 ?_); (case k1 => wtm_at "g_sq"); (case k2 => with_reducible assumption))
  | ((with_reducible refine' w_ixR ?k1 ?k2 ?_); (case k1 => wtm_at "g_sq"); (case k2 => with_reducible assumption))
  | ((with_reducible refine' w_ixLastR ?k1 ?k2 ?_); (case k1 => wtm_at "g_sq"); (case k2 => with_reducible assumption))
  | ((with_reducible refine' k_slinitR ?k1 ?k2 ?_); (case k1 => wtm_at "g_own"); (case k2 => wtm_at "g_sq"); intro p HH ww)
  | ((with_reducible refine' w_gTup ?k1 ?k2 ?_); (case k1 => wtm_at "g_sqt"); (case k2 => rfl))
  | (with_reducible refine w_gCons ?_)
  | (with_reducible refine w_gNil ?_)
  | ((with_reducible refine' w_ixI ?k1 ?k2 ?k3 ?_); (case k1 => wtm_at "g_sq"); (case k2 => omega); (case k3 => omega))
  | ((with_reducible refine' w_I ?k1 ?_); (case k1 => wtm_at "g_ar"))
  | ((with_reducible refine' k_reverse ?k1 ?k2 ?_); (case k1 => wtm_at "g_own"); (case k2 => wtm_at "g_put"); intro HH ww)
  | ((with_reducible refine' w_lenL ?k1 ?_); (case k1 => wtm_at "g_sq"))
  | ((with_reducible refine' w_lenT ?k1 ?_); (case k1 => wtm_at "g_sqt"))
  | ((with_reducible refine' w_isi_ll ?k1 ?_); (case k1 => wtm_at "g_hp"))
  | ((with_reducible refine' w_isi_tt ?k1 ?_); (case k1 => wtm_at "g_hp"))
  | ((with_reducible refine' w_isi_lt ?k1 ?_); (case k1 => wtm_at "g_hp"))
  | ((with_reducible refine' w_isi_tl ?k1 ?_); (case k1 => wtm_at "g_hp"))
  | ((with_reducible refine' w_ll ?k1 ?k2 ?_); (case k1 => rfl); (case k2 => rfl))
  | wtm_at "g_get"
  | wtm_at "g_mt"
  | wtm_at "g_set"
  | wtm_at "g_set2"
  | wtm_at "g_call"
  | wtm_at "g_callc"
  | fail)
local macro_rules | `(tactic| wtm_at "g_go") => `(tactic| repeat wtm_at "g_st")
local macro_rules | `(tactic| wtm_at "g_ifo") => `(tactic| first
  | (refine if_nno rfl ?_) | (refine if_yes rfl ?_)
  | (refine if_no (by omega) ?_)
  | (refine if_yes (by omega) ?_)
  | (refine if_nno (by omega) ?_)
  | (refine if_nyes (by omega) ?_)
  | (refine if_nno (decide_eq_false (by omega)).symm ?_)
  | (refine if_nno (decide_eq_true (by omega)).symm ?_)
  | fail)
local macro_rules | `(tactic| wtm_at "g_goo") => `(tactic| repeat (first | wtm_at "g_st" | wtm_at "g_ifo"))
section
variable {K : PySem.W.Frag} {mg : Str → Option Value} {base : Heap}
theorem tell_fl_l {p : Addr} {f : Fl} : Tell (FlP K p f) (fun H => ∃ (dx ka l : Addr) (ws : List Addr), H p = some (.ins (He.ga K "Flow") dx (fFlow (.ref ka) (.ref l) (.int f.oct) (.int f.cr))) ∧ H l = some (.lst (ws.map V.ref)) ∧ ws.length = f.rows.length) :=
  fun h ⟨dx, ka, l, ws, h1, h2, d, s1, s2, p, h3, h4, _, s3, s4, q, h5, h6, _, s5, s6, r, h7, h8, _, s7, s8, b, _⟩ H e => ⟨dx, ka, l, ws, e _ _ _ (s1 _ _ p), e _ _ _ (s2 _ _ (s4 _ _ (s5 _ _ r))), by have := big_len_h b; rw [List.length_map] at this; exact this⟩
theorem pure_FairQueue_count (T : TX K mg base) (vs : List V) (H : Hp) (Q : VK) (E : XK) (h : sp_FairQueue_count K vs H Q E) : t_FairQueue_count K E { nx := fun _ H' => Q .non H', rt := Q } (start N_FairQueue_count vs) H := by
  obtain ⟨p, x, R, rfl, hc, hl, w, q⟩ := h
  obtain ⟨dx, l, fs, w⟩ := qu_out w
  have hlen := (w.pick (.next (.next .here))).bigLen
  unfold t_FairQueue_count
  wtm_at "g_go"
  refine lcLO (fun i A L => A = (x.fs.take i).map (fun f => V.int (f.rows.length : Nat)) ∧ L = pt p (.ins (He.ga K "FairQueue") dx (fFairQueue (.int x.lim) (.int x.q) (.ref l) (.bl x.gr))) :: pt l (.lst (fs.map V.ref)) :: big (FlP K) fs x.fs :: R) w ⟨rfl, rfl⟩ ?_ (by wtm_at "g_sq") ?_ ?_
  · rintro i A L D H' ⟨rfl, rfl⟩ w'
    wtm_at "g_sq"
  · rintro i y D A L H1 hy ⟨rfl, rfl⟩ w'
    obtain ⟨a, ha, rfl⟩ := map_ref_at hy
    obtain ⟨f, hf⟩ := at_of_len ha hlen
    obtain ⟨dy, ka, lf, ws, hp, hq, hwl⟩ := (w'.pick (.next (.next (.next .here)))).bigTell ha hf tell_fl_l
    have hr := len_cnt (List.mem_of_getElem? hf)
    wtm_at "g_go"
    rw [hwl]
    refine lc_addO w' .here (small16l ?_) ⟨?_, rfl⟩
    · rw [List.length_map, List.length_take]; omega
    · rw [take_map_s hf]
  · rintro D A L H1 ⟨rfl, rfl⟩ w'
    wtm_at "g_go"
    have e : (List.take (fs.map V.ref).length x.fs).map (fun f => V.int (f.rows.length : Nat)) = (x.fs.map (fun f => ((f.rows.length : Nat) : Int))).map V.int := by
      rw [List.length_map, hlen, List.take_length, List.map_map]
      rfl
    rw [e] at w'
    refine w_sum (ns := x.fs.map (fun f => ((f.rows.length : Nat) : Int))) (by wtm_at "g_sq") ?_
    have e2 : (x.fs.map (fun f => ((f.rows.length : Nat) : Int))).sum = ((cnt x.fs : Nat) : Int) := by
      unfold cnt
      generalize x.fs = fs
      induction fs with
      | nil => rfl
      | cons f r ih => rw [List.map_cons, List.sum_cons, List.map_cons, List.sum_cons, ih]; omega
    rw [e2]
    exact q _ (qu_in (by wtm_at "g_own"))
theorem pure_FairQueue_octets_of (T : TX K mg base) (vs : List V) (H : Hp) (Q : VK) (E : XK) (h : sp_FairQueue_octets_of K vs H Q E) : t_FairQueue_octets_of K E { nx := fun _ H' => Q .non H', rt := Q } (start N_FairQueue_octets_of vs) H := by
  obtain ⟨p, ka, x, k, R, rfl, hk, hks, w, q⟩ := h
  obtain ⟨dx, l, fs, w⟩ := qu_out w
  have hlen := (w.pick (.next (.next .here))).bigLen
  unfold t_FairQueue_octets_of
  wtm_at "g_go"
  refine ⟨p, dx, l, ka, fs, x, k, R, rfl, hk, hks, w, fun H1 w1 v hv => ?_⟩
  wtm_at "g_go"
  rcases hv with ⟨rfl, hf⟩ | ⟨j, a, rfl, hj, ha⟩
  · wtm_at "g_go"
    have := q H1 (qu_in (by wtm_at "g_own"))
    unfold octOf at this
    rw [hf] at this
    exact this
  · obtain ⟨f, hf⟩ := at_of_len ha hlen
    obtain ⟨dy, kb, lf, hp, _⟩ := (w1.pick (.next (.next .here))).bigTell ha hf tell_fl
    wtm_at "g_go"
    refine if_d (fun z => by cases z) (fun _ => ?_)
    wtm_at "g_go"
    have := q H1 (qu_in (by wtm_at "g_own"))
    unfold octOf at this
    rw [hj] at this
    dsimp only at this
    rw [getD_some hf] at this
    exact this
theorem pure_law_row (T : TX K mg base) (vs : List V) (H : Hp) (Q : VK) (E : XK) (h : sp_law_row K vs H Q E) : t_law_row K E { nx := fun _ H' => Q .non H', rt := Q } (start N_law_row vs) H := by
  obtain ⟨p, x, R, rfl, w, q⟩ := h
  obtain ⟨dx, ka, w⟩ := wt_out w
  unfold t_law_row
  wtm_at "g_go"
  exact q _ _ (rt_in (x := x) (ka := ka) (by unfold KyP at *; wtm_at "g_own"))
theorem pure_law_size (T : TX K mg base) (vs : List V) (H : Hp) (Q : VK) (E : XK) (h : sp_law_size K vs H Q E) : t_law_size K E { nx := fun _ H' => Q .non H', rt := Q } (start N_law_size vs) H := by
  obtain ⟨s, R, rfl, w, q⟩ := h
  unfold t_law_size
  wtm_at "g_go"
  rename_i tp H1 w1 d H2 d0 d1 w2
  obtain ⟨m, hm, m0, m1⟩ : ∃ m : Int, atI [V.int 30, V.int 5, V.int 60] d = some (.int m) ∧ 0 < m ∧ m ≤ 60 := by
    have : d = 0 ∨ d = 1 ∨ d = 2 := by omega
    rcases this with rfl | rfl | rfl
    · exact ⟨30, rfl, by omega, by omega⟩
    · exact ⟨5, rfl, by omega, by omega⟩
    · exact ⟨60, rfl, by omega, by omega⟩
  refine w_ixT (xs := [V.int 30, V.int 5, V.int 60]) (by wtm_at "g_sqt") hm ?_
  wtm_at "g_go"
  exact q _ _ (by omega) (by wtm_at "g_own")
theorem pure_law_refused (T : TX K mg base) (vs : List V) (H : Hp) (Q : VK) (E : XK) (h : sp_law_refused K vs H Q E) : t_law_refused K E { nx := fun _ H' => Q .non H', rt := Q } (start N_law_refused vs) H := by
  obtain ⟨a, b, R, rfl, w, q⟩ := h
  unfold t_law_refused
  wtm_at "g_go"
  rename_i p dx H1 w1
  refine ⟨p, dx, a, b, R, rfl, w1, fun h1 H' w' => ⟨true, T.exm 0, fun _ x hx => ?_, fun z => Bool.noConfusion z⟩, fun h1 h2 H' w' => ?_⟩
  · wtm_at "g_go"
    have := q _ w'
    rw [decide_eq_true h1] at this
    exact this
  · wtm_at "g_go"
    have := q H' w'.tail
    rw [decide_eq_false (by omega)] at this
    exact this
end
end K81

namespace K81
open PySem PySem.Spec PyProof.Rows L2 G
local macro_rules | `(tactic| wtm_at "g_get") => `(tactic| first
  | ((with_reducible refine' w_fld ?k1 (cl_Waiting (by assumption)) (na_Waiting_key (by assumption)) lk_Waiting_key ?_); (case k1 => wtm_at "g_hp"))
  | ((with_reducible refine' w_fld ?k1 (cl_Waiting (by assumption)) (na_Waiting_item (by assumption)) lk_Waiting_item ?_); (case k1 => wtm_at "g_hp"))
  | ((with_reducible refine' w_fld ?k1 (cl_Waiting (by assumption)) (na_Waiting_weight (by assumption)) lk_Waiting_weight ?_); (case k1 => wtm_at "g_hp"))
  | ((with_reducible refine' w_fld ?k1 (cl_Flow (by assumption)) (na_Flow_key (by assumption)) lk_Flow_key ?_); (case k1 => wtm_at "g_hp"))
  | ((with_reducible refine' w_fld ?k1 (cl_Flow (by assumption)) (na_Flow_rows (by assumption)) lk_Flow_rows ?_); (case k1 => wtm_at "g_hp"))
  | ((with_reducible refine' w_fld ?k1 (cl_Flow (by assumption)) (na_Flow_octets (by assumption)) lk_Flow_octets ?_); (case k1 => wtm_at "g_hp"))
  | ((with_reducible refine' w_fld ?k1 (cl_Flow (by assumption)) (na_Flow_credit (by assumption)) lk_Flow_credit ?_); (case k1 => wtm_at "g_hp"))
  | ((with_reducible refine' w_fld ?k1 (cl_FairQueue (by assumption)) (na_FairQueue_limit (by assumption)) lk_FairQueue_limit ?_); (case k1 => wtm_at "g_hp"))
  | ((with_reducible refine' w_fld ?k1 (cl_FairQueue (by assumption)) (na_FairQueue_quantum (by assumption)) lk_FairQueue_quantum ?_); (case k1 => wtm_at "g_hp"))
  | ((with_reducible refine' w_fld ?k1 (cl_FairQueue (by assumption)) (na_FairQueue_flows (by assumption)) lk_FairQueue_flows ?_); (case k1 => wtm_at "g_hp"))
  | ((with_reducible refine' w_fld ?k1 (cl_FairQueue (by assumption)) (na_FairQueue_granted (by assumption)) lk_FairQueue_granted ?_); (case k1 => wtm_at "g_hp"))
  | fail)
local macro_rules | `(tactic| wtm_at "g_set") => `(tactic| first
  | ((with_reducible refine' k_fld ?k1 ?k2 (cl_Waiting (by assumption)) (na_Waiting_key (by assumption)) pt_Waiting_key rfl ?_); (case k1 => wtm_at "g_own"); (case k2 => wtm_at "g_put"); intro HH ww)
  | ((with_reducible refine' k_fld ?k1 ?k2 (cl_Waiting (by assumption)) (na_Waiting_key (by assumption)) pn_Waiting_key rfl ?_); (case k1 => wtm_at "g_own"); (case k2 => wtm_at "g_put"); intro HH ww)
  | ((with_reducible refine' k_fld ?k1 ?k2 (cl_Waiting (by assumption)) (na_Waiting_item (by assumption)) pt_Waiting_item rfl ?_); (case k1 => wtm_at "g_own"); (case k2 => wtm_at "g_put"); intro HH ww)
  | ((with_reducible refine' k_fld ?k1 ?k2 (cl_Waiting (by assumption)) (na_Waiting_item (by assumption)) pn_Waiting_item rfl ?_); (case k1 => wtm_at "g_own"); (case k2 => wtm_at "g_put"); intro HH ww)
  | ((with_reducible refine' k_fld ?k1 ?k2 (cl_Waiting (by assumption)) (na_Waiting_weight (by assumption)) pt_Waiting_weight rfl ?_); (case k1 => wtm_at "g_own"); (case k2 => wtm_at "g_put"); intro HH ww)
  | ((with_reducible refine' k_fld ?k1 ?k2 (cl_Waiting (by assumption)) (na_Waiting_weight (by assumption)) pn_Waiting_weight rfl ?_); (case k1 => wtm_at "g_own"); (case k2 => wtm_at "g_put"); intro HH ww)
  | ((with_reducible refine' k_fld ?k1 ?k2 (cl_Flow (by assumption)) (na_Flow_key (by assumption)) pt_Flow_key rfl ?_); (case k1 => wtm_at "g_own"); (case k2 => wtm_at "g_put"); intro HH ww)
  | ((with_reducible refine' k_fld ?k1 ?k2 (cl_Flow (by assumption)) (na_Flow_key (by assumption)) pn_Flow_key rfl ?_); (case k1 => wtm_at "g_own"); (case k2 => wtm_at "g_put"); intro HH ww)
  | ((with_reducible refine' k_fld ?k1 ?k2 (cl_Flow (by assumption)) (na_Flow_rows (by assumption)) pt_Flow_rows rfl ?_); (case k1 => wtm_at "g_own"); (case k2 => wtm_at "g_put"); intro HH ww)
  | ((with_reducible refine' k_fld ?k1 ?k2 (cl_Flow (by assumption)) (na_Flow_rows (by assumption)) pn_Flow_rows rfl ?_); (case k1 => wtm_at "g_own"); (case k2 => wtm_at "g_put"); intro HH ww)
  | ((with_reducible refine' k_fld ?k1 ?k2 (cl_Flow (by assumption)) (na_Flow_octets (by assumption)) pt_Flow_octets rfl ?_); (case k1 => wtm_at "g_own"); (case k2 => wtm_at "g_put"); intro HH ww)
  | ((with_reducible refine' k_fld ?k1 ?k2 (cl_Flow (by assumption)) (na_Flow_octets (by assumption)) pn_Flow_octets rfl ?_); (case k1 => wtm_at "g_own"); (case k2 => wtm_at "g_put"); intro HH ww)
  | ((with_reducible refine' k_fld ?k1 ?k2 (cl_Flow (by assumption)) (na_Flow_credit (by assumption)) pt_Flow_credit rfl ?_); (case k1 => wtm_at "g_own"); (case k2 => wtm_at "g_put"); intro HH ww)
  | ((with_reducible refine' k_fld ?k1 ?k2 (cl_Flow (by assumption)) (na_Flow_credit (by assumption)) pn_Flow_credit rfl ?_); (case k1 => wtm_at "g_own"); (case k2 => wtm_at "g_put"); intro HH ww)
  | ((with_reducible refine' k_fld ?k1 ?k2 (cl_FairQueue (by assumption)) (na_FairQueue_limit (by assumption)) pt_FairQueue_limit rfl ?_); (case k1 => wtm_at "g_own"); (case k2 => wtm_at "g_put"); intro HH ww)
  | ((with_reducible refine' k_fld ?k1 ?k2 (cl_FairQueue (by assumption)) (na_FairQueue_limit (by assumption)) pn_FairQueue_limit rfl ?_); (case k1 => wtm_at "g_own"); (case k2 => wtm_at "g_put"); intro HH ww)
  | ((with_reducible refine' k_fld ?k1 ?k2 (cl_FairQueue (by assumption)) (na_FairQueue_quantum (by assumption)) pt_FairQueue_quantum rfl ?_); (case k1 => wtm_at "g_own"); (case k2 => wtm_at "g_put"); intro HH ww)
  | ((with_reducible refine' k_fld ?k1 ?k2 (cl_FairQueue (by assumption)) (na_FairQueue_quantum (by assumption)) pn_FairQueue_quantum rfl ?_); (case k1 => wtm_at "g_own"); (case k2 => wtm_at "g_put"); intro HH ww)
  | ((with_reducible refine' k_fld ?k1 ?k2 (cl_FairQueue (by assumption)) (na_FairQueue_flows (by assumption)) pt_FairQueue_flows rfl ?_); (case k1 => wtm_at "g_own"); (case k2 => wtm_at "g_put"); intro HH ww)
  | ((with_reducible refine' k_fld ?k1 ?k2 (cl_FairQueue (by assumption)) (na_FairQueue_flows (by assumption)) pn_FairQueue_flows rfl ?_); (case k1 => wtm_at "g_own"); (case k2 => wtm_at "g_put"); intro HH ww)
  | ((with_reducible refine' k_fld ?k1 ?k2 (cl_FairQueue (by assumption)) (na_FairQueue_granted (by assumption)) pt_FairQueue_granted rfl ?_); (case k1 => wtm_at "g_own"); (case k2 => wtm_at "g_put"); intro HH ww)
  | ((with_reducible refine' k_fld ?k1 ?k2 (cl_FairQueue (by assumption)) (na_FairQueue_granted (by assumption)) pn_FairQueue_granted rfl ?_); (case k1 => wtm_at "g_own"); (case k2 => wtm_at "g_put"); intro HH ww)
  | fail)
local macro_rules | `(tactic| wtm_at "g_set2") => `(tactic| first
  | ((with_reducible refine' k_fa ?k1 ?k2 pt_Waiting_key rfl ?_); (case k1 => wtm_at "g_own"); (case k2 => wtm_at "g_put"); intro HH ww)
  | ((with_reducible refine' k_fa ?k1 ?k2 pt_Waiting_item rfl ?_); (case k1 => wtm_at "g_own"); (case k2 => wtm_at "g_put"); intro HH ww)
  | ((with_reducible refine' k_fa ?k1 ?k2 pt_Waiting_weight rfl ?_); (case k1 => wtm_at "g_own"); (case k2 => wtm_at "g_put"); intro HH ww)
  | ((with_reducible refine' k_fa ?k1 ?k2 pt_Flow_key rfl ?_); (case k1 => wtm_at "g_own"); (case k2 => wtm_at "g_put"); intro HH ww)
  | ((with_reducible refine' k_fa ?k1 ?k2 pt_Flow_rows rfl ?_); (case k1 => wtm_at "g_own"); (case k2 => wtm_at "g_put"); intro HH ww)
  | ((with_reducible refine' k_fa ?k1 ?k2 pt_Flow_octets rfl ?_); (case k1 => wtm_at "g_own"); (case k2 => wtm_at "g_put"); intro HH ww)
  | ((with_reducible refine' k_fa ?k1 ?k2 pt_Flow_credit rfl ?_); (case k1 => wtm_at "g_own"); (case k2 => wtm_at "g_put"); intro HH ww)
  | ((with_reducible refine' k_fa ?k1 ?k2 pt_FairQueue_limit rfl ?_); (case k1 => wtm_at "g_own"); (case k2 => wtm_at "g_put"); intro HH ww)
  | ((with_reducible refine' k_fa ?k1 ?k2 pt_FairQueue_quantum rfl ?_); (case k1 => wtm_at "g_own"); (case k2 => wtm_at "g_put"); intro HH ww)
  | ((with_reducible refine' k_fa ?k1 ?k2 pt_FairQueue_flows rfl ?_); (case k1 => wtm_at "g_own"); (case k2 => wtm_at "g_put"); intro HH ww)
  | ((with_reducible refine' k_fa ?k1 ?k2 pt_FairQueue_granted rfl ?_); (case k1 => wtm_at "g_own"); (case k2 => wtm_at "g_put"); intro HH ww)
  | fail)
local macro_rules | `(tactic| wtm_at "g_mt") => `(tactic| first
  | ((with_reducible refine' w_mt1 ?k1 ln_Flow_add ?_); (case k1 => wtm_at "g_hp"))
  | ((with_reducible refine' w_mt1 ?k1 ln_Flow_take ?_); (case k1 => wtm_at "g_hp"))
  | ((with_reducible refine' w_mt1 ?k1 ln_Flow_fork ?_); (case k1 => wtm_at "g_hp"))
  | ((with_reducible refine' w_mt1 ?k1 ln_FairQueue_count ?_); (case k1 => wtm_at "g_hp"))
  | ((with_reducible refine' w_mt1 ?k1 ln_FairQueue_octets ?_); (case k1 => wtm_at "g_hp"))
  | ((with_reducible refine' w_mt1 ?k1 ln_FairQueue_octets_of ?_); (case k1 => wtm_at "g_hp"))
  | ((with_reducible refine' w_mt1 ?k1 ln_FairQueue_flow_of ?_); (case k1 => wtm_at "g_hp"))
  | ((with_reducible refine' w_mt1 ?k1 ln_FairQueue_remove_flow ?_); (case k1 => wtm_at "g_hp"))
  | ((with_reducible refine' w_mt1 ?k1 ln_FairQueue_put ?_); (case k1 => wtm_at "g_hp"))
  | ((with_reducible refine' w_mt1 ?k1 ln_FairQueue_drop ?_); (case k1 => wtm_at "g_hp"))
  | ((with_reducible refine' w_mt1 ?k1 ln_FairQueue_turn ?_); (case k1 => wtm_at "g_hp"))
  | ((with_reducible refine' w_mt1 ?k1 ln_FairQueue_next_up ?_); (case k1 => wtm_at "g_hp"))
  | ((with_reducible refine' w_mt1 ?k1 ln_FairQueue_take ?_); (case k1 => wtm_at "g_hp"))
  | ((with_reducible refine' w_mt1 ?k1 ln_FairQueue_take_all ?_); (case k1 => wtm_at "g_hp"))
  | ((with_reducible refine' w_mt1 ?k1 ln_FairQueue_fork ?_); (case k1 => wtm_at "g_hp"))
  | fail)
local macro_rules | `(tactic| wtm_at "g_mkk") => `(tactic| first
  | fail
  | fail)
local macro_rules | `(tactic| wtm_at "g_callf") => `(tactic| first
  | ((with_reducible refine' c_Waiting_init ?k1 ?k2 ?k3 ?_); (case k1 => wtm_at "g_own"); (case k2 => wtm_at "g_pk"); (case k3 => wtm_at "g_pk"); intro HH ww)
  | ((with_reducible refine' c_Flow_init ?k1 ?k2 ?k3 ?_); (case k1 => wtm_at "g_own"); (case k2 => wtm_at "g_pk"); (case k3 => wtm_at "g_pk"); intro HH ww)
  | ((with_reducible refine' c_octets ?k0 ?k1 ?k2 ?_); (case k1 => wtm_at "g_own"); (case k2 => wtm_at "g_pk"); (case k0 => omega); intro HH ww)
  | ((with_reducible refine' w_fldT tell_qu_lim ?k1 ?k2 (cl_FairQueue (by assumption)) (na_FairQueue_limit (by assumption)) ?_); (case k1 => wtm_at "g_own"); (case k2 => wtm_at "g_pk"); intro dz fz; (try clear fz dz))
  | ((with_reducible refine' w_fldT tell_qu_q ?k1 ?k2 (cl_FairQueue (by assumption)) (na_FairQueue_quantum (by assumption)) ?_); (case k1 => wtm_at "g_own"); (case k2 => wtm_at "g_pk"); intro dz fz; (try clear fz dz))
  | ((with_reducible refine' w_fldT tell_wt_w ?k1 ?k2 (cl_Waiting (by assumption)) (na_Waiting_weight (by assumption)) ?_); (case k1 => wtm_at "g_own"); (case k2 => wtm_at "g_pk"); intro dz fz; (try clear fz dz))
  | ((with_reducible refine' w_fldT tell_wt_i ?k1 ?k2 (cl_Waiting (by assumption)) (na_Waiting_item (by assumption)) ?_); (case k1 => wtm_at "g_own"); (case k2 => wtm_at "g_pk"); intro dz fz; (try clear fz dz))
  | ((with_reducible refine' w_mtT (tell_qu_m ln_FairQueue_octets) ?k1 ?k2 ?_); (case k1 => wtm_at "g_own"); (case k2 => wtm_at "g_pk"))
  | ((with_reducible refine' w_mtT (tell_qu_m ln_FairQueue_drop) ?k1 ?k2 ?_); (case k1 => wtm_at "g_own"); (case k2 => wtm_at "g_pk"))
  | ((with_reducible refine' w_mtT (tell_qu_m ln_FairQueue_turn) ?k1 ?k2 ?_); (case k1 => wtm_at "g_own"); (case k2 => wtm_at "g_pk"))
  | ((with_reducible refine' w_mtT (tell_qu_m ln_FairQueue_next_up) ?k1 ?k2 ?_); (case k1 => wtm_at "g_own"); (case k2 => wtm_at "g_pk"))
  | ((with_reducible refine' w_mtT (tell_qu_m ln_FairQueue_remove_flow) ?k1 ?k2 ?_); (case k1 => wtm_at "g_own"); (case k2 => wtm_at "g_pk"))
  | ((with_reducible refine' w_mtT (tell_fl_m ln_Flow_add) ?k1 ?k2 ?_); (case k1 => wtm_at "g_own"); (case k2 => wtm_at "g_pk"))
  | ((with_reducible refine' w_mtT (tell_fl_m ln_Flow_take) ?k1 ?k2 ?_); (case k1 => wtm_at "g_own"); (case k2 => wtm_at "g_pk"))
  | fail)
local macro_rules | `(tactic| wtm_at "g_call") => `(tactic| first
  | wtm_at "g_callf"
  | ((with_reducible refine' w_mtT (tell_qu_m ln_FairQueue_count) ?k1 ?k2 ?_); (case k1 => wtm_at "g_own"); (case k2 => wtm_at "g_pk"))
  | ((with_reducible refine' w_mtT (tell_qu_m ln_FairQueue_octets_of) ?k1 ?k2 ?_); (case k1 => wtm_at "g_own"); (case k2 => wtm_at "g_pk"))
  | ((with_reducible refine' w_mtT (tell_qu_m ln_FairQueue_flow_of) ?k1 ?k2 ?_); (case k1 => wtm_at "g_own"); (case k2 => wtm_at "g_pk"))
  | ((with_reducible refine' w_mtT (tell_qu_m ln_FairQueue_put) ?k1 ?k2 ?_); (case k1 => wtm_at "g_own"); (case k2 => wtm_at "g_pk"))
  | ((with_reducible refine' w_mtT (tell_qu_m ln_FairQueue_take) ?k1 ?k2 ?_); (case k1 => wtm_at "g_own"); (case k2 => wtm_at "g_pk"))
  | ((with_reducible refine' w_mtT (tell_qu_m ln_FairQueue_take_all) ?k1 ?k2 ?_); (case k1 => wtm_at "g_own"); (case k2 => wtm_at "g_pk"))
  | ((with_reducible refine' w_mtT (tell_qu_m ln_FairQueue_fork) ?k1 ?k2 ?_); (case k1 => wtm_at "g_own"); (case k2 => wtm_at "g_pk"))
  | ((with_reducible refine' w_mtT (tell_fl_m ln_Flow_fork) ?k1 ?k2 ?_); (case k1 => wtm_at "g_own"); (case k2 => wtm_at "g_pk"))
  | fail)
local macro_rules | `(tactic| wtm_at "g_own") => `(tactic| first
  | (with_reducible assumption)
  | ((with_reducible refine' Own.newT ?k1 ?k2); (case k1 => with_reducible assumption); (case k2 => wtm_at "g_own"))
  | ((with_reducible refine' Own.new ?k1 ?k2); (case k1 => with_reducible assumption); (case k2 => wtm_at "g_own"))
  | ((with_reducible refine' Own.put ?k1 ?k2); (case k1 => wtm_at "g_own"); (case k2 => wtm_at "g_put"))
  | ((with_reducible refine' Own.sel ?k1 ?k2); (case k1 => with_reducible assumption); (case k2 => wtm_at "g_sel"))
  | fail)
local macro_rules | `(tactic| wtm_at "g_sel") => `(tactic| first
  | (with_reducible exact Sel.rf) | (with_reducible exact Sel.nil)
  | ((with_reducible refine' Sel.cons ?k1 ?k2); (case k1 => wtm_at "g_pk"); (case k2 => wtm_at "g_sel"))
  | ((with_reducible refine' Sel.drop ?k1); (case k1 => wtm_at "g_sel"))
  | fail)
local macro_rules | `(tactic| wtm_at "g_got") => `(tactic| first
  | (with_reducible assumption) | (with_reducible exact Got.here)
  | ((with_reducible refine' Got.next ?k1); (case k1 => wtm_at "g_got"))
  | fail)
local macro_rules | `(tactic| wtm_at "g_gl") => `(tactic| first
  | (with_reducible assumption) | (with_reducible exact GotL.here) | (with_reducible exact GotL.hereS)
  | ((with_reducible refine' GotL.next ?k1); (case k1 => wtm_at "g_gl"))
  | fail)
local macro_rules | `(tactic| wtm_at "g_put") => `(tactic| first
  | (with_reducible assumption) | (with_reducible exact Put.here)
  | ((with_reducible refine' Put.next ?k1); (case k1 => wtm_at "g_put"))
  | fail)
local macro_rules | `(tactic| wtm_at "g_pk") => `(tactic| first
  | (with_reducible assumption) | (with_reducible exact Pick.keep) | (with_reducible exact Pick.here)
  | ((with_reducible refine' Pick.next ?k1); (case k1 => wtm_at "g_pk"))
  | fail)
local macro_rules | `(tactic| wtm_at "g_hp") => `(tactic| first
  | (with_reducible assumption) | (with_reducible exact upd_same)
  | ((with_reducible refine' Own.get ?k1 ?k2); (case k1 => wtm_at "g_own"); (case k2 => wtm_at "g_got"))
  | fail)
local macro_rules | `(tactic| wtm_at "g_sq") => `(tactic| first
  | (with_reducible assumption)
  | ((with_reducible refine' Own.sql ?k1 ?k2); (case k1 => wtm_at "g_own"); (case k2 => wtm_at "g_gl"))
  | ((with_reducible refine' SqL.of ?k1); (case k1 => wtm_at "g_hp"))
  | fail)
local macro_rules | `(tactic| wtm_at "g_sqt") => `(tactic| first
  | (with_reducible assumption) | ((with_reducible refine' SqT.of' ?k1); (case k1 => wtm_at "g_hp"))
  | fail)
local macro_rules | `(tactic| wtm_at "g_sz") => `(tactic| first
  | (with_reducible assumption) | (exact small_le rfl)
  | ((with_reducible refine' small16 ?k1); (case k1 => (try simp only [List.length_append, List.length_map, List.length_cons, List.length_nil, List.length_take, List.length_drop, List.length_set, List.length_range]); omega))
  | ((with_reducible refine' small16l ?k1); (case k1 => (try simp only [List.length_append, List.length_map, List.length_cons, List.length_nil, List.length_take, List.length_drop, List.length_set, List.length_range]); omega))
  | fail)
local macro_rules | `(tactic| wtm_at "g_gd") => `(tactic| first
  | (with_reducible assumption) | (with_reducible exact GotD.here) | (with_reducible exact GotD.hereR) | (with_reducible exact GotD.ints)
  | ((with_reducible refine' GotD.next ?k1); (case k1 => wtm_at "g_gd"))
  | fail)
local macro_rules | `(tactic| wtm_at "g_dp") => `(tactic| first
  | (with_reducible assumption)
  | ((with_reducible refine' Own.dpG ?k1 ?k2); (case k1 => wtm_at "g_own"); (case k2 => wtm_at "g_gd"))
  | fail)
local macro_rules | `(tactic| wtm_at "g_ar") => `(tactic| first
  | decide | (exact ⟨by decide, by decide⟩) | (exact Or.inr ⟨by decide, by decide⟩) | (exact Or.inl ⟨by decide, by decide⟩) | omega | (exact Or.inr ⟨by omega, by omega⟩) | (exact Or.inl ⟨by omega, by omega⟩) | (exact ⟨by omega, by omega⟩)
  | fail)
local macro_rules | `(tactic| wtm_at "g_ow") => `(tactic| first
  | wtm_at "g_own"
  | ((simp only [List.map_cons, List.map_nil]); wtm_at "g_own")
  | fail)
local macro_rules | `(tactic| wtm_at "g_callc") => `(tactic| first
  | ((with_reducible refine' o_digit ?k1 ?k2 ?k3 ?k4 ?_); (case k1 => wtm_at "g_own"); (case k2 => wtm_at "g_pk"); (case k3 => omega); (case k4 => omega); intro d HH d0 d1 ww)
  | ((with_reducible refine' o_start ?k1 ?_); (case k1 => wtm_at "g_own"); intro p HH ww)
  | ((with_reducible refine' c_cell ?k1 ?k2 ?_); (case k1 => wtm_at "g_sq"); (case k2 => omega); intro n)
  | ((with_reducible refine' c_isint ?_))
  | fail)
local macro_rules | `(tactic| wtm_at "g_st") => `(tactic| first
  | (with_reducible first
      | refine w_seq ?_ | refine w_asg ?_ | refine w_nm ?_ | refine w_next ?_ | refine w_if ?_ | refine w_ret ?_ | refine w_retN ?_ | refine w_drop ?_
      | refine w_var rfl ?_ | refine w_c ?_ | refine w_op ?_ | refine w_I0 ?_
      | refine w_eqI ?_ | refine w_neI ?_ | refine w_eqB ?_ | refine w_neB ?_ | refine w_eqS ?_ | refine w_neS ?_ | refine w_isN0 ?_ | refine w_isNi ?_ | refine w_isNr ?_ | refine w_isNb ?_ | refine w_isNs ?_ | refine w_notN0 ?_ | refine w_notNi ?_ | refine w_notNr ?_ | refine w_notNb ?_ | refine w_notNs ?_ | refine w_isN ?_ | refine w_notN ?_ | refine w_isB ?_ | refine w_notB ?_
      | refine w_un ?_ | refine w_U ?_ | refine w_chain ?_ | refine w_k ?_ | refine w_test ?_ | refine w_tB ?_ | refine w_tru ?_ | refine w_not ?_ | refine w_and ?_ | refine w_or ?_
      | refine w_andV ?_ | refine w_orV ?_ | refine w_notV ?_ | refine w_ife ?_ | refine w_nil ?_ | refine w_cons ?_ | refine w_tupK ?_ | refine w_lstK ?_ | refine w_small rfl ?_
      | refine w_call ?_ | refine w_mkQ ?_ | refine w_mt ?_ | refine k_ini ?_ | refine w_cb ?_ | refine w_min2 ?_ | refine w_max2 ?_ | refine w_abs ?_ | refine w_int ?_ | refine w_intb ?_
      | refine w_fld0 ?_ | refine w_bm ?_ | refine w_bm0 ?_ | refine w_sub ?_ | refine w_sfldQ ?_ | refine w_sfaQ ?_ | refine w_delQ ?_ | refine k_whT ?_ | refine w_radd ?_ | refine w_rsub ?_ | refine w_ip ?_ | refine w_rs ?_ | refine w_pr ?_
      | refine w_lcR1 ?_ | refine w_lcR2 ?_ | refine w_lcL ?_ | refine w_lcT ?_ | refine w_yes ?_ | refine w_disp ?_ | refine w_prs ?_ | refine w_prn ?_ | refine w_dget ?_ | refine w_sl ?_ | refine w_nopart ?_ | refine w_part ?_ | refine w_pint ?_
      | refine w_for3 ?_ | refine w_mkKQ ?_ | refine w_forR1 ?_ | refine w_forR2 ?_ | refine w_forL ?_ | refine w_forT ?_ | refine w_aug rfl ?_ | refine w_par ?_ | refine w_brk ?_ | refine w_cont ?_
      | refine w_isi_ii ?_ | refine w_isi_ib ?_ | refine w_isi_bi ?_ | refine w_isi_bb ?_ | refine w_isi_ss ?_ | refine w_isi_is ?_ | refine w_isi_il ?_ | refine w_isi_it ?_ | refine w_isi_sl ?_ | refine w_isi_st ?_ | refine w_isi_nl ?_ | refine w_isi_nt ?_
      | refine if_T ?_ | refine if_F ?_ | refine if_nT ?_ | refine if_nF ?_)
  | ((with_reducible refine' k_tup rfl ?k1 ?_); (case k1 => wtm_at "g_own"); intro p HH ww)
  | ((with_reducible refine' k_lst1R ?k1 ?_); (case k1 => wtm_at "g_own"); intro p HH ww)
  | ((with_reducible refine' k_lst1I ?k1 ?_); (case k1 => wtm_at "g_own"); intro p HH ww)
  | ((with_reducible refine' k_lst rfl ?k1 ?_); (case k1 => wtm_at "g_own"); intro p HH ww)
  | ((with_reducible refine' k_mk ?k1 ?_); (case k1 => wtm_at "g_own"); intro p dx HH ww)
  | wtm_at "g_mkk"
  | ((with_reducible refine' k_listL ?k1 ?k2 ?_); (case k1 => wtm_at "g_own"); (case k2 => wtm_at "g_sq"); intro p HH ww)
  | ((with_reducible refine' k_listT ?k1 ?k2 ?_); (case k1 => wtm_at "g_own"); (case k2 => wtm_at "g_sqt"); intro p HH ww)
  | ((with_reducible refine' k_tupL ?k1 ?k2 ?_); (case k1 => wtm_at "g_own"); (case k2 => wtm_at "g_sq"); intro p HH ww)
  | ((with_reducible refine' k_slfromRs ?k1 ?k2 ?_); (case k1 => wtm_at "g_own"); (case k2 => wtm_at "g_sq"); intro p HH ww)
  | ((with_reducible refine' k_slfromR1 ?k1 ?k2 ?_); (case k1 => wtm_at "g_own"); (case k2 => wtm_at "g_sq"); intro p HH ww)
  | ((with_reducible refine' k_slfromRn ?k1 ?k2 ?_); (case k1 => wtm_at "g_own"); (case k2 => wtm_at "g_sq"); intro p HH ww)
  | ((with_reducible refine' k_sltoR1 ?k1 ?k2 ?_); (case k1 => wtm_at "g_own"); (case k2 => wtm_at "g_sq"); intro p HH ww)
  | ((with_reducible refine' k_sltoRn ?k1 ?k2 ?_); (case k1 => wtm_at "g_own"); (case k2 => wtm_at "g_sq"); intro p HH ww)
  | ((with_reducible refine' k_slfromIs ?k1 ?k2 ?_); (case k1 => wtm_at "g_own"); (case k2 => wtm_at "g_sq"); intro p HH ww)
  | ((with_reducible refine' k_slfromI1 ?k1 ?k2 ?_); (case k1 => wtm_at "g_own"); (case k2 => wtm_at "g_sq"); intro p HH ww)
  | ((with_reducible refine' k_slfromIn ?k1 ?k2 ?_); (case k1 => wtm_at "g_own"); (case k2 => wtm_at "g_sq"); intro p HH ww)
  | ((with_reducible refine' k_sltoI1 ?k1 ?k2 ?_); (case k1 => wtm_at "g_own"); (case k2 => wtm_at "g_sq"); intro p HH ww)
  | ((with_reducible refine' k_sltoIn ?k1 ?k2 ?_); (case k1 => wtm_at "g_own"); (case k2 => wtm_at "g_sq"); intro p HH ww)
  | ((with_reducible refine' k_slfromI ?k1 ?k2 ?k3 ?_); (case k1 => wtm_at "g_own"); (case k2 => wtm_at "g_sq"); (case k3 => omega); intro p HH ww)
  | ((with_reducible refine' k_sltoI ?k1 ?k2 ?k3 ?_); (case k1 => wtm_at "g_own"); (case k2 => wtm_at "g_sq"); (case k3 => omega); intro p HH ww)
  | ((with_reducible refine' k_slmidI ?k1 ?k2 ?k3 ?k4 ?_); (case k1 => wtm_at "g_own"); (case k2 => wtm_at "g_sq"); (case k3 => omega); (case k4 => omega); intro p HH ww)
  | ((with_reducible refine' k_catI ?k1 ?k2 ?k3 ?k4 ?_); (case k1 => wtm_at "g_own"); (case k2 => wtm_at "g_got"); (case k3 => wtm_at "g_got"); (case k4 => wtm_at "g_sz"); intro p HH ww)
  | ((with_reducible refine' k_catR ?k1 ?k2 ?k3 ?k4 ?_); (case k1 => wtm_at "g_own"); (case k2 => wtm_at "g_got"); (case k3 => wtm_at "g_got"); (case k4 => wtm_at "g_sz"); intro p HH ww)
  | ((with_reducible refine' k_slfromR ?k1 ?k2 ?k3 ?_); (case k1 => wtm_at "g_own"); (case k2 => wtm_at "g_sq"); (case k3 => omega); intro p HH ww)
  | ((with_reducible refine' k_sltoR ?k1 ?k2 ?k3 ?_); (case k1 => wtm_at "g_own"); (case k2 => wtm_at "g_sq"); (case k3 => omega); intro p HH ww)
  | ((with_reducible refine' k_appI ?k1 ?k2 ?k3 ?_); (case k1 => wtm_at "g_own"); (case k2 => wtm_at "g_put"); (case k3 => wtm_at "g_sz"); intro HH ww)
  | ((with_reducible refine' k_appR ?k1 ?k2 ?k3 ?_); (case k1 => wtm_at "g_own"); (case k2 => wtm_at "g_put"); (case k3 => wtm_at "g_sz"); intro HH ww)
  | ((with_reducible refine' k_extendI ?k1 ?k2 ?k3 ?k4 ?_); (case k1 => wtm_at "g_own"); (case k2 => wtm_at "g_put"); (case k3 => wtm_at "g_got"); (case k4 => wtm_at "g_sz"); intro HH ww)
  | ((with_reducible refine' k_slfrom ?k1 ?k2 ?k3 ?_); (case k1 => wtm_at "g_own"); (case k2 => wtm_at "g_sq"); (case k3 => omega); intro p HH ww)
  | ((with_reducible refine' k_slto ?k1 ?k2 ?k3 ?_); (case k1 => wtm_at "g_own"); (case k2 => wtm_at "g_sq"); (case k3 => omega); intro p HH ww)
  | ((with_reducible refine' k_slmid ?k1 ?k2 ?k3 ?k4 ?_); (case k1 => wtm_at "g_own"); (case k2 => wtm_at "g_sq"); (case k3 => omega); (case k4 => omega); intro p HH ww)
  | ((with_reducible refine' k_cat ?k1 ?k2 ?k3 ?k4 ?_); (case k1 => wtm_at "g_own"); (case k2 => wtm_at "g_got"); (case k3 => wtm_at "g_got"); (case k4 => wtm_at "g_sz"); intro p HH ww)
  | ((with_reducible refine' k_app ?k1 ?k2 ?k3 ?_); (case k1 => wtm_at "g_own"); (case k2 => wtm_at "g_put"); (case k3 => wtm_at "g_sz"); intro HH ww)
  | ((with_reducible refine' ty_list ?k1 ?_); (case k1 => wtm_at "g_hp"))
  | ((with_reducible refine' k_truR ?k1 ?_); (case k1 => wtm_at "g_sq"))
  | ((with_reducible refine' k_truI ?k1 ?_); (case k1 => wtm_at "g_sq"))
  | ((with_reducible refine' k_truL ?k1 ?_); (case k1 => wtm_at "g_sq"))
  | ((with_reducible refine' w_lenLI ?k1 ?_); (case k1 => wtm_at "g_sq"))
  | ((with_reducible refine' w_lenLR ?k1 ?_); (case k1 => wtm_at "g_sq"))
  | ((with_reducible refine' w_ixT ?k1 ?k2 ?_); (case k1 => wtm_at "g_sqt"); (case k2 => first | rfl | fail))
  | ((with_reducible refine' w_ixRc ?k1 ?_); (case k1 => wtm_at "g_sq"))
  | ((with_reducible refine' w_ixR0 ?k1 ?k2 ?_); (case k1 => wtm_at "g_sq"); (case k2 => with_reducible assumption))
  | ((with_reducible refine' w_ixR ?k1 ?k2 ?_); (case k1 => wtm_at "g_sq"); (case k2 => with_reducible assumption))
  | ((with_reducible refine' w_ixLastR ?k1 ?k2 ?_); (case k1 => wtm_at "g_sq"); (case k2 => with_reducible assumption))
  | ((with_reducible refine' k_slinitR ?k1 ?k2 ?_); (case k1 => wtm_at "g_own"); (case k2 => wtm_at "g_sq"); intro p HH ww)
  | ((with_reducible refine' w_gTup ?k1 ?k2 ?_); (case k1 => wtm_at "g_sqt"); (case k2 => rfl))
  | (with_reducible refine w_gCons ?_)
  | (with_reducible refine w_gNil ?_)
  | ((with_reducible refine' w_ixI ?k1 ?k2 ?k3 ?_); (case k1 => wtm_at "g_sq"); (case k2 => omega); (case k3 => omega))
  | ((with_reducible refine' w_I ?k1 ?_); (case k1 => wtm_at "g_ar"))
  | ((with_reducible refine' k_reverse ?k1 ?k2 ?_); (case k1 => wtm_at "g_own"); (case k2 => wtm_at "g_put"); intro HH ww)
  | ((with_reducible refine' w_lenL ?k1 ?_); (case k1 => wtm_at "g_sq"))
  | ((with_reducible refine' w_lenT ?k1 ?_); (case k1 => wtm_at "g_sqt"))
  | ((with_reducible refine' w_isi_ll ?k1 ?_); (case k1 => wtm_at "g_hp"))
  | ((with_reducible refine' w_isi_tt ?k1 ?_); (case k1 => wtm_at "g_hp"))
  | ((with_reducible refine' w_isi_lt ?k1 ?_); (case k1 => wtm_at "g_hp"))
  | ((with_reducible refine' w_isi_tl ?k1 ?_); (case k1 => wtm_at "g_hp"))
  | ((with_reducible refine' w_ll ?k1 ?k2 ?_); (case k1 => rfl); (case k2 => rfl))
  | wtm_at "g_get"
  | wtm_at "g_mt"
  | wtm_at "g_set"
  | wtm_at "g_set2"
  | wtm_at "g_call"
  | wtm_at "g_callc"
  | fail)
local macro_rules | `(tactic| wtm_at "g_go") => `(tactic| repeat wtm_at "g_st")
local macro_rules | `(tactic| wtm_at "g_ifo") => `(tactic| first
  | (refine if_nno rfl ?_) | (refine if_yes rfl ?_)
  | (refine if_no (by omega) ?_)
  | (refine if_yes (by omega) ?_)
  | (refine if_nno (by omega) ?_)
  | (refine if_nyes (by omega) ?_)
  | (refine if_nno (decide_eq_false (by omega)).symm ?_)
  | (refine if_nno (decide_eq_true (by omega)).symm ?_)
  | fail)
local macro_rules | `(tactic| wtm_at "g_goo") => `(tactic| repeat (first | wtm_at "g_st" | wtm_at "g_ifo"))
section
def kr (f : Fl) : Ky × List (V × Int) := (f.k, f.rows)
theorem turn_perm {q : Int} : ∀ (n : Nat) (fs : List Fl) (gr : Bool), ((turnL q n fs gr).1.map kr).Perm (fs.map kr)
  | 0, fs, gr => .refl _
  | n + 1, [], gr => .refl _
  | n + 1, f :: r, gr => by
    rw [turnL]
    by_cases hc : f.w0 ≤ (if gr = true then f.cr else f.cr + q)
    · rw [if_pos hc]
      exact .refl _
    · rw [if_neg hc]
      refine (turn_perm n _ false).trans ?_
      rw [List.map_append]
      exact List.perm_append_singleton _ _
/-- the first one may go -/
theorem turn_head {q : Int} (hq : 1 ≤ q) : ∀ (n : Nat) (fs : List Fl) (gr : Bool), mu fs gr < n → fs ≠ [] → ∃ f r, turnL q n fs gr = (f :: r, true) ∧ f.w0 ≤ f.cr
  | 0, fs, gr, h, _ => absurd h (Nat.not_lt_zero _)
  | n + 1, [], gr, _, h => absurd rfl h
  | n + 1, f :: r, gr, h, _ => by
    rw [turnL]
    by_cases hc : f.w0 ≤ (if gr = true then f.cr else f.cr + q)
    · rw [if_pos hc]
      exact ⟨_, r, rfl, hc⟩
    · rw [if_neg hc]
      refine turn_head hq n _ false ?_ (by simp)
      have h1 : mu (f :: r) gr = (f.w0 - f.cr).toNat + want r + if gr then 1 else 0 := by unfold mu; rw [want_cons]
      have h2 : mu (r ++ [f.wc (if gr = true then f.cr else f.cr + q)]) false = want r + (f.w0 - (if gr = true then f.cr else f.cr + q)).toNat := by unfold mu; rw [want_snoc]; rfl
      rw [h2]
      rw [h1] at h
      cases gr with
      | true => simp at hc h ⊢; omega
      | false => simp at hc h ⊢; omega
theorem turn_again {x : Qu} (hq : 1 ≤ x.q) : turnF (turnF x) = turnF x := by
  by_cases he : x.fs = []
  · have : turnF x = x := by
      unfold turnF
      cases x
      dsimp only at he
      rw [he]
      rfl
    rw [this, this]
  · obtain ⟨f, r, e, hc⟩ := turn_head hq (mu x.fs x.gr + 1) x.fs x.gr (Nat.lt_succ_self _) he
    have e1 : turnF x = { x with fs := f :: r, gr := true } := by unfold turnF; rw [e]
    rw [e1]
    unfold turnF
    show ({ x with fs := (turnL x.q (mu (f :: r) true + 1) (f :: r) true).1, gr := (turnL x.q (mu (f :: r) true + 1) (f :: r) true).2 } : Qu) = _
    rw [turnL, if_pos (by rw [if_pos rfl]; exact hc)]
    rfl
theorem turn_none {x : Qu} (hq : 1 ≤ x.q) (h : firstF (turnF x) = none) : x.fs = [] := by
  by_cases he : x.fs = []
  · exact he
  · obtain ⟨f, r, e, hc⟩ := turn_head hq (mu x.fs x.gr + 1) x.fs x.gr (Nat.lt_succ_self _) he
    have e1 : turnF x = { x with fs := f :: r, gr := true } := by unfold turnF; rw [e]
    rw [e1] at h
    cases h
/-! ### the rows of one flow -/
theorem own_app {a b : List Wt} {k : Ky} : own (a ++ b) k = own a k ++ own b k := List.filter_append ..
theorem own_fl {f : Fl} {k : Ky} : own (f.rows.map f.wt) k = if f.k = k then f.rows.map f.wt else [] := by
  unfold own
  split
  · rename_i h
    refine List.filter_eq_self.mpr fun r hr => ?_
    obtain ⟨z, _, rfl⟩ := List.mem_map.mp hr
    exact decide_eq_true h
  · rename_i h
    refine List.filter_eq_nil_iff.mpr fun r hr => ?_
    obtain ⟨z, _, rfl⟩ := List.mem_map.mp hr
    rw [decide_eq_true_eq]
    exact h
theorem allW_cons {f : Fl} {r : List Fl} : allW (f :: r) = f.rows.map f.wt ++ allW r := by unfold allW; rw [List.map_cons, List.flatten_cons]
theorem allW_app {a b : List Fl} : allW (a ++ b) = allW a ++ allW b := by unfold allW; rw [List.map_append, List.flatten_append]
theorem own_none : ∀ {fs : List Fl} {k : Ky}, (∀ f ∈ fs, f.k ≠ k) → own (allW fs) k = []
  | [], _, _ => rfl
  | f :: r, k, h => by
    rw [allW_cons, own_app, own_fl, if_neg (h f List.mem_cons_self), own_none fun g hg => h g (List.mem_cons_of_mem _ hg)]
    rfl
theorem split_at {fs : List Fl} {j : Nat} {f : Fl} (h : fs[j]? = some f) : ∃ A B, fs = A ++ f :: B ∧ A.length = j := by
  obtain ⟨q, rfl⟩ := List.getElem?_eq_some_iff.mp h
  exact ⟨fs.take j, fs.drop (j + 1), by rw [List.getElem_cons_drop, List.take_append_drop], List.length_take_of_le (by omega)⟩
theorem set_at {A B : List Fl} {f g : Fl} : (A ++ f :: B).set A.length g = A ++ g :: B := by
  rw [List.set_append_right _ _ (Nat.le_refl _), Nat.sub_self]
  rfl
theorem erase_at {A B : List Fl} {f : Fl} : (A ++ f :: B).eraseIdx A.length = A ++ B := by
  rw [List.eraseIdx_append_of_length_le (Nat.le_refl _), Nat.sub_self]
  rfl
theorem nodup_at {A B : List Fl} {f : Fl} (h : ((A ++ f :: B).map (·.k)).Nodup) : (∀ g ∈ A, g.k ≠ f.k) ∧ ∀ g ∈ B, g.k ≠ f.k := by
  rw [List.map_append, List.map_cons] at h
  obtain ⟨h1, h2, h3⟩ := List.nodup_append.mp h
  refine ⟨fun g hg e => h3 g.k (List.mem_map.mpr ⟨g, hg, rfl⟩) f.k List.mem_cons_self e, fun g hg e => ?_⟩
  exact (List.nodup_cons.mp h2).1 (List.mem_map.mpr ⟨g, hg, e⟩)
theorem own_here {A B : List Fl} {f : Fl} {k : Ky} (h : ((A ++ f :: B).map (·.k)).Nodup) : own (allW (A ++ f :: B)) k = if f.k = k then f.rows.map f.wt else own (allW (A ++ B)) k := by
  obtain ⟨h1, h2⟩ := nodup_at h
  rw [allW_app, allW_app, own_app, own_app, allW_cons, own_app, own_fl]
  split
  · rename_i e
    subst e
    rw [own_none h1, own_none h2]
    simp
  · simp
theorem ky_set {fs : List Fl} {j : Nat} {f g : Fl} (h : fs[j]? = some f) (e : g.k = f.k) : (fs.set j g).map (·.k) = fs.map (·.k) := by
  obtain ⟨A, B, rfl, rfl⟩ := split_at h
  rw [set_at, List.map_append, List.map_append, List.map_cons, List.map_cons, e]
theorem own_perm {k : Ky} : ∀ {gs fs : List Fl}, (gs.map kr).Perm (fs.map kr) → (fs.map (·.k)).Nodup → own (allW gs) k = own (allW fs) k := by
  have main : ∀ {as bs : List (Ky × List (V × Int))}, as.Perm bs → (bs.map (·.1)).Nodup → (as.map (fun z => if z.1 = k then z.2.map (fun r => (⟨z.1, r.1, r.2⟩ : Wt)) else [])).flatten = (bs.map (fun z => if z.1 = k then z.2.map (fun r => (⟨z.1, r.1, r.2⟩ : Wt)) else [])).flatten := by
    intro as bs p
    induction p with
    | nil => intro _; rfl
    | cons x _ ih =>
      intro hn
      rw [List.map_cons] at hn
      rw [List.map_cons, List.map_cons, List.flatten_cons, List.flatten_cons, ih (List.nodup_cons.mp hn).2]
    | swap x y l =>
      intro hn
      simp only [List.map_cons, List.flatten_cons]
      simp only [List.map_cons, List.nodup_cons, List.mem_cons, not_or] at hn
      have hxy : ¬ (y.1 = k ∧ x.1 = k) := fun ⟨e1, e2⟩ => hn.1.1 (e2.trans e1.symm)
      by_cases e1 : y.1 = k
      · rw [if_pos e1, if_neg (fun e2 => hxy ⟨e1, e2⟩)]
        rfl
      · rw [if_neg e1]
        rfl
    | trans p1 p2 ih1 ih2 =>
      intro hn
      rw [ih1 ((p2.map (·.1)).nodup_iff.mpr hn), ih2 hn]
  have conv : ∀ fs : List Fl, own (allW fs) k = ((fs.map kr).map (fun z => if z.1 = k then z.2.map (fun r => (⟨z.1, r.1, r.2⟩ : Wt)) else [])).flatten := fun fs => by
    induction fs with
    | nil => rfl
    | cons f r ih =>
      rw [allW_cons, own_app, own_fl, ih, List.map_cons, List.map_cons, List.flatten_cons]
      rfl
  intro gs fs p hn
  rw [conv, conv]
  refine main p ?_
  rw [List.map_map]
  exact hn
end
end K81

namespace K81
open PySem PySem.Spec PyProof.Rows L2 G
local macro_rules | `(tactic| wtm_at "g_get") => `(tactic| first
  | ((with_reducible refine' w_fld ?k1 (cl_Waiting (by assumption)) (na_Waiting_key (by assumption)) lk_Waiting_key ?_); (case k1 => wtm_at "g_hp"))
  | ((with_reducible refine' w_fld ?k1 (cl_Waiting (by assumption)) (na_Waiting_item (by assumption)) lk_Waiting_item ?_); (case k1 => wtm_at "g_hp"))
  | ((with_reducible refine' w_fld ?k1 (cl_Waiting (by assumption)) (na_Waiting_weight (by assumption)) lk_Waiting_weight ?_); (case k1 => wtm_at "g_hp"))
  | ((with_reducible refine' w_fld ?k1 (cl_Flow (by assumption)) (na_Flow_key (by assumption)) lk_Flow_key ?_); (case k1 => wtm_at "g_hp"))
  | ((with_reducible refine' w_fld ?k1 (cl_Flow (by assumption)) (na_Flow_rows (by assumption)) lk_Flow_rows ?_); (case k1 => wtm_at "g_hp"))
  | ((with_reducible refine' w_fld ?k1 (cl_Flow (by assumption)) (na_Flow_octets (by assumption)) lk_Flow_octets ?_); (case k1 => wtm_at "g_hp"))
  | ((with_reducible refine' w_fld ?k1 (cl_Flow (by assumption)) (na_Flow_credit (by assumption)) lk_Flow_credit ?_); (case k1 => wtm_at "g_hp"))
  | ((with_reducible refine' w_fld ?k1 (cl_FairQueue (by assumption)) (na_FairQueue_limit (by assumption)) lk_FairQueue_limit ?_); (case k1 => wtm_at "g_hp"))
  | ((with_reducible refine' w_fld ?k1 (cl_FairQueue (by assumption)) (na_FairQueue_quantum (by assumption)) lk_FairQueue_quantum ?_); (case k1 => wtm_at "g_hp"))
  | ((with_reducible refine' w_fld ?k1 (cl_FairQueue (by assumption)) (na_FairQueue_flows (by assumption)) lk_FairQueue_flows ?_); (case k1 => wtm_at "g_hp"))
  | ((with_reducible refine' w_fld ?k1 (cl_FairQueue (by assumption)) (na_FairQueue_granted (by assumption)) lk_FairQueue_granted ?_); (case k1 => wtm_at "g_hp"))
  | fail)
local macro_rules | `(tactic| wtm_at "g_set") => `(tactic| first
  | ((with_reducible refine' k_fld ?k1 ?k2 (cl_Waiting (by assumption)) (na_Waiting_key (by assumption)) pt_Waiting_key rfl ?_); (case k1 => wtm_at "g_own"); (case k2 => wtm_at "g_put"); intro HH ww)
  | ((with_reducible refine' k_fld ?k1 ?k2 (cl_Waiting (by assumption)) (na_Waiting_key (by assumption)) pn_Waiting_key rfl ?_); (case k1 => wtm_at "g_own"); (case k2 => wtm_at "g_put"); intro HH ww)
  | ((with_reducible refine' k_fld ?k1 ?k2 (cl_Waiting (by assumption)) (na_Waiting_item (by assumption)) pt_Waiting_item rfl ?_); (case k1 => wtm_at "g_own"); (case k2 => wtm_at "g_put"); intro HH ww)
  | ((with_reducible refine' k_fld ?k1 ?k2 (cl_Waiting (by assumption)) (na_Waiting_item (by assumption)) pn_Waiting_item rfl ?_); (case k1 => wtm_at "g_own"); (case k2 => wtm_at "g_put"); intro HH ww)
  | ((with_reducible refine' k_fld ?k1 ?k2 (cl_Waiting (by assumption)) (na_Waiting_weight (by assumption)) pt_Waiting_weight rfl ?_); (case k1 => wtm_at "g_own"); (case k2 => wtm_at "g_put"); intro HH ww)
  | ((with_reducible refine' k_fld ?k1 ?k2 (cl_Waiting (by assumption)) (na_Waiting_weight (by assumption)) pn_Waiting_weight rfl ?_); (case k1 => wtm_at "g_own"); (case k2 => wtm_at "g_put"); intro HH ww)
  | ((with_reducible refine' k_fld ?k1 ?k2 (cl_Flow (by assumption)) (na_Flow_key (by assumption)) pt_Flow_key rfl ?_); (case k1 => wtm_at "g_own"); (case k2 => wtm_at "g_put"); intro HH ww)
  | ((with_reducible refine' k_fld ?k1 ?k2 (cl_Flow (by assumption)) (na_Flow_key (by assumption)) pn_Flow_key rfl ?_); (case k1 => wtm_at "g_own"); (case k2 => wtm_at "g_put"); intro HH ww)
  | ((with_reducible refine' k_fld ?k1 ?k2 (cl_Flow (by assumption)) (na_Flow_rows (by assumption)) pt_Flow_rows rfl ?_); (case k1 => wtm_at "g_own"); (case k2 => wtm_at "g_put"); intro HH ww)
  | ((with_reducible refine' k_fld ?k1 ?k2 (cl_Flow (by assumption)) (na_Flow_rows (by assumption)) pn_Flow_rows rfl ?_); (case k1 => wtm_at "g_own"); (case k2 => wtm_at "g_put"); intro HH ww)
  | ((with_reducible refine' k_fld ?k1 ?k2 (cl_Flow (by assumption)) (na_Flow_octets (by assumption)) pt_Flow_octets rfl ?_); (case k1 => wtm_at "g_own"); (case k2 => wtm_at "g_put"); intro HH ww)
  | ((with_reducible refine' k_fld ?k1 ?k2 (cl_Flow (by assumption)) (na_Flow_octets (by assumption)) pn_Flow_octets rfl ?_); (case k1 => wtm_at "g_own"); (case k2 => wtm_at "g_put"); intro HH ww)
  | ((with_reducible refine' k_fld ?k1 ?k2 (cl_Flow (by assumption)) (na_Flow_credit (by assumption)) pt_Flow_credit rfl ?_); (case k1 => wtm_at "g_own"); (case k2 => wtm_at "g_put"); intro HH ww)
  | ((with_reducible refine' k_fld ?k1 ?k2 (cl_Flow (by assumption)) (na_Flow_credit (by assumption)) pn_Flow_credit rfl ?_); (case k1 => wtm_at "g_own"); (case k2 => wtm_at "g_put"); intro HH ww)
  | ((with_reducible refine' k_fld ?k1 ?k2 (cl_FairQueue (by assumption)) (na_FairQueue_limit (by assumption)) pt_FairQueue_limit rfl ?_); (case k1 => wtm_at "g_own"); (case k2 => wtm_at "g_put"); intro HH ww)
  | ((with_reducible refine' k_fld ?k1 ?k2 (cl_FairQueue (by assumption)) (na_FairQueue_limit (by assumption)) pn_FairQueue_limit rfl ?_); (case k1 => wtm_at "g_own"); (case k2 => wtm_at "g_put"); intro HH ww)
  | ((with_reducible refine' k_fld ?k1 ?k2 (cl_FairQueue (by assumption)) (na_FairQueue_quantum (by assumption)) pt_FairQueue_quantum rfl ?_); (case k1 => wtm_at "g_own"); (case k2 => wtm_at "g_put"); intro HH ww)
  | ((with_reducible refine' k_fld ?k1 ?k2 (cl_FairQueue (by assumption)) (na_FairQueue_quantum (by assumption)) pn_FairQueue_quantum rfl ?_); (case k1 => wtm_at "g_own"); (case k2 => wtm_at "g_put"); intro HH ww)
  | ((with_reducible refine' k_fld ?k1 ?k2 (cl_FairQueue (by assumption)) (na_FairQueue_flows (by assumption)) pt_FairQueue_flows rfl ?_); (case k1 => wtm_at "g_own"); (case k2 => wtm_at "g_put"); intro HH ww)
  | ((with_reducible refine' k_fld ?k1 ?k2 (cl_FairQueue (by assumption)) (na_FairQueue_flows (by assumption)) pn_FairQueue_flows rfl ?_); (case k1 => wtm_at "g_own"); (case k2 => wtm_at "g_put"); intro HH ww)
  | ((with_reducible refine' k_fld ?k1 ?k2 (cl_FairQueue (by assumption)) (na_FairQueue_granted (by assumption)) pt_FairQueue_granted rfl ?_); (case k1 => wtm_at "g_own"); (case k2 => wtm_at "g_put"); intro HH ww)
  | ((with_reducible refine' k_fld ?k1 ?k2 (cl_FairQueue (by assumption)) (na_FairQueue_granted (by assumption)) pn_FairQueue_granted rfl ?_); (case k1 => wtm_at "g_own"); (case k2 => wtm_at "g_put"); intro HH ww)
  | fail)
local macro_rules | `(tactic| wtm_at "g_set2") => `(tactic| first
  | ((with_reducible refine' k_fa ?k1 ?k2 pt_Waiting_key rfl ?_); (case k1 => wtm_at "g_own"); (case k2 => wtm_at "g_put"); intro HH ww)
  | ((with_reducible refine' k_fa ?k1 ?k2 pt_Waiting_item rfl ?_); (case k1 => wtm_at "g_own"); (case k2 => wtm_at "g_put"); intro HH ww)
  | ((with_reducible refine' k_fa ?k1 ?k2 pt_Waiting_weight rfl ?_); (case k1 => wtm_at "g_own"); (case k2 => wtm_at "g_put"); intro HH ww)
  | ((with_reducible refine' k_fa ?k1 ?k2 pt_Flow_key rfl ?_); (case k1 => wtm_at "g_own"); (case k2 => wtm_at "g_put"); intro HH ww)
  | ((with_reducible refine' k_fa ?k1 ?k2 pt_Flow_rows rfl ?_); (case k1 => wtm_at "g_own"); (case k2 => wtm_at "g_put"); intro HH ww)
  | ((with_reducible refine' k_fa ?k1 ?k2 pt_Flow_octets rfl ?_); (case k1 => wtm_at "g_own"); (case k2 => wtm_at "g_put"); intro HH ww)
  | ((with_reducible refine' k_fa ?k1 ?k2 pt_Flow_credit rfl ?_); (case k1 => wtm_at "g_own"); (case k2 => wtm_at "g_put"); intro HH ww)
  | ((with_reducible refine' k_fa ?k1 ?k2 pt_FairQueue_limit rfl ?_); (case k1 => wtm_at "g_own"); (case k2 => wtm_at "g_put"); intro HH ww)
  | ((with_reducible refine' k_fa ?k1 ?k2 pt_FairQueue_quantum rfl ?_); (case k1 => wtm_at "g_own"); (case k2 => wtm_at "g_put"); intro HH ww)
  | ((with_reducible refine' k_fa ?k1 ?k2 pt_FairQueue_flows rfl ?_); (case k1 => wtm_at "g_own"); (case k2 => wtm_at "g_put"); intro HH ww)
  | ((with_reducible refine' k_fa ?k1 ?k2 pt_FairQueue_granted rfl ?_); (case k1 => wtm_at "g_own"); (case k2 => wtm_at "g_put"); intro HH ww)
  | fail)
local macro_rules | `(tactic| wtm_at "g_mt") => `(tactic| first
  | ((with_reducible refine' w_mt1 ?k1 ln_Flow_add ?_); (case k1 => wtm_at "g_hp"))
  | ((with_reducible refine' w_mt1 ?k1 ln_Flow_take ?_); (case k1 => wtm_at "g_hp"))
  | ((with_reducible refine' w_mt1 ?k1 ln_Flow_fork ?_); (case k1 => wtm_at "g_hp"))
  | ((with_reducible refine' w_mt1 ?k1 ln_FairQueue_count ?_); (case k1 => wtm_at "g_hp"))
  | ((with_reducible refine' w_mt1 ?k1 ln_FairQueue_octets ?_); (case k1 => wtm_at "g_hp"))
  | ((with_reducible refine' w_mt1 ?k1 ln_FairQueue_octets_of ?_); (case k1 => wtm_at "g_hp"))
  | ((with_reducible refine' w_mt1 ?k1 ln_FairQueue_flow_of ?_); (case k1 => wtm_at "g_hp"))
  | ((with_reducible refine' w_mt1 ?k1 ln_FairQueue_remove_flow ?_); (case k1 => wtm_at "g_hp"))
  | ((with_reducible refine' w_mt1 ?k1 ln_FairQueue_put ?_); (case k1 => wtm_at "g_hp"))
  | ((with_reducible refine' w_mt1 ?k1 ln_FairQueue_drop ?_); (case k1 => wtm_at "g_hp"))
  | ((with_reducible refine' w_mt1 ?k1 ln_FairQueue_turn ?_); (case k1 => wtm_at "g_hp"))
  | ((with_reducible refine' w_mt1 ?k1 ln_FairQueue_next_up ?_); (case k1 => wtm_at "g_hp"))
  | ((with_reducible refine' w_mt1 ?k1 ln_FairQueue_take ?_); (case k1 => wtm_at "g_hp"))
  | ((with_reducible refine' w_mt1 ?k1 ln_FairQueue_take_all ?_); (case k1 => wtm_at "g_hp"))
  | ((with_reducible refine' w_mt1 ?k1 ln_FairQueue_fork ?_); (case k1 => wtm_at "g_hp"))
  | fail)
local macro_rules | `(tactic| wtm_at "g_mkk") => `(tactic| first
  | fail
  | fail)
local macro_rules | `(tactic| wtm_at "g_callf") => `(tactic| first
  | ((with_reducible refine' c_Waiting_init ?k1 ?k2 ?k3 ?_); (case k1 => wtm_at "g_own"); (case k2 => wtm_at "g_pk"); (case k3 => wtm_at "g_pk"); intro HH ww)
  | ((with_reducible refine' c_Flow_init ?k1 ?k2 ?k3 ?_); (case k1 => wtm_at "g_own"); (case k2 => wtm_at "g_pk"); (case k3 => wtm_at "g_pk"); intro HH ww)
  | ((with_reducible refine' c_octets ?k0 ?k1 ?k2 ?_); (case k1 => wtm_at "g_own"); (case k2 => wtm_at "g_pk"); (case k0 => omega); intro HH ww)
  | ((with_reducible refine' w_fldT tell_qu_lim ?k1 ?k2 (cl_FairQueue (by assumption)) (na_FairQueue_limit (by assumption)) ?_); (case k1 => wtm_at "g_own"); (case k2 => wtm_at "g_pk"); intro dz fz; (try clear fz dz))
  | ((with_reducible refine' w_fldT tell_qu_q ?k1 ?k2 (cl_FairQueue (by assumption)) (na_FairQueue_quantum (by assumption)) ?_); (case k1 => wtm_at "g_own"); (case k2 => wtm_at "g_pk"); intro dz fz; (try clear fz dz))
  | ((with_reducible refine' w_fldT tell_wt_w ?k1 ?k2 (cl_Waiting (by assumption)) (na_Waiting_weight (by assumption)) ?_); (case k1 => wtm_at "g_own"); (case k2 => wtm_at "g_pk"); intro dz fz; (try clear fz dz))
  | ((with_reducible refine' w_fldT tell_wt_i ?k1 ?k2 (cl_Waiting (by assumption)) (na_Waiting_item (by assumption)) ?_); (case k1 => wtm_at "g_own"); (case k2 => wtm_at "g_pk"); intro dz fz; (try clear fz dz))
  | ((with_reducible refine' w_mtT (tell_qu_m ln_FairQueue_octets) ?k1 ?k2 ?_); (case k1 => wtm_at "g_own"); (case k2 => wtm_at "g_pk"))
  | ((with_reducible refine' w_mtT (tell_qu_m ln_FairQueue_drop) ?k1 ?k2 ?_); (case k1 => wtm_at "g_own"); (case k2 => wtm_at "g_pk"))
  | ((with_reducible refine' w_mtT (tell_qu_m ln_FairQueue_turn) ?k1 ?k2 ?_); (case k1 => wtm_at "g_own"); (case k2 => wtm_at "g_pk"))
  | ((with_reducible refine' w_mtT (tell_qu_m ln_FairQueue_next_up) ?k1 ?k2 ?_); (case k1 => wtm_at "g_own"); (case k2 => wtm_at "g_pk"))
  | ((with_reducible refine' w_mtT (tell_qu_m ln_FairQueue_remove_flow) ?k1 ?k2 ?_); (case k1 => wtm_at "g_own"); (case k2 => wtm_at "g_pk"))
  | ((with_reducible refine' w_mtT (tell_fl_m ln_Flow_add) ?k1 ?k2 ?_); (case k1 => wtm_at "g_own"); (case k2 => wtm_at "g_pk"))
  | ((with_reducible refine' w_mtT (tell_fl_m ln_Flow_take) ?k1 ?k2 ?_); (case k1 => wtm_at "g_own"); (case k2 => wtm_at "g_pk"))
  | fail)
local macro_rules | `(tactic| wtm_at "g_call") => `(tactic| first
  | wtm_at "g_callf"
  | ((with_reducible refine' w_mtT (tell_qu_m ln_FairQueue_count) ?k1 ?k2 ?_); (case k1 => wtm_at "g_own"); (case k2 => wtm_at "g_pk"))
  | ((with_reducible refine' w_mtT (tell_qu_m ln_FairQueue_octets_of) ?k1 ?k2 ?_); (case k1 => wtm_at "g_own"); (case k2 => wtm_at "g_pk"))
  | ((with_reducible refine' w_mtT (tell_qu_m ln_FairQueue_flow_of) ?k1 ?k2 ?_); (case k1 => wtm_at "g_own"); (case k2 => wtm_at "g_pk"))
  | ((with_reducible refine' w_mtT (tell_qu_m ln_FairQueue_put) ?k1 ?k2 ?_); (case k1 => wtm_at "g_own"); (case k2 => wtm_at "g_pk"))
  | ((with_reducible refine' w_mtT (tell_qu_m ln_FairQueue_take) ?k1 ?k2 ?_); (case k1 => wtm_at "g_own"); (case k2 => wtm_at "g_pk"))
  | ((with_reducible refine' w_mtT (tell_qu_m ln_FairQueue_take_all) ?k1 ?k2 ?_); (case k1 => wtm_at "g_own"); (case k2 => wtm_at "g_pk"))
  | ((with_reducible refine' w_mtT (tell_qu_m ln_FairQueue_fork) ?k1 ?k2 ?_); (case k1 => wtm_at "g_own"); (case k2 => wtm_at "g_pk"))
  | ((with_reducible refine' w_mtT (tell_fl_m ln_Flow_fork) ?k1 ?k2 ?_); (case k1 => wtm_at "g_own"); (case k2 => wtm_at "g_pk"))
  | fail)
local macro_rules | `(tactic| wtm_at "g_own") => `(tactic| first
  | (with_reducible assumption)
  | ((with_reducible refine' Own.newT ?k1 ?k2); (case k1 => with_reducible assumption); (case k2 => wtm_at "g_own"))
  | ((with_reducible refine' Own.new ?k1 ?k2); (case k1 => with_reducible assumption); (case k2 => wtm_at "g_own"))
  | ((with_reducible refine' Own.put ?k1 ?k2); (case k1 => wtm_at "g_own"); (case k2 => wtm_at "g_put"))
  | ((with_reducible refine' Own.sel ?k1 ?k2); (case k1 => with_reducible assumption); (case k2 => wtm_at "g_sel"))
  | fail)
local macro_rules | `(tactic| wtm_at "g_sel") => `(tactic| first
  | (with_reducible exact Sel.rf) | (with_reducible exact Sel.nil)
  | ((with_reducible refine' Sel.cons ?k1 ?k2); (case k1 => wtm_at "g_pk"); (case k2 => wtm_at "g_sel"))
  | ((with_reducible refine' Sel.drop ?k1); (case k1 => wtm_at "g_sel"))
  | fail)
local macro_rules | `(tactic| wtm_at "g_got") => `(tactic| first
  | (with_reducible assumption) | (with_reducible exact Got.here)
  | ((with_reducible refine' Got.next ?k1); (case k1 => wtm_at "g_got"))
  | fail)
local macro_rules | `(tactic| wtm_at "g_gl") => `(tactic| first
  | (with_reducible assumption) | (with_reducible exact GotL.here) | (with_reducible exact GotL.hereS)
  | ((with_reducible refine' GotL.next ?k1); (case k1 => wtm_at "g_gl"))
  | fail)
local macro_rules | `(tactic| wtm_at "g_put") => `(tactic| first
  | (with_reducible assumption) | (with_reducible exact Put.here)
  | ((with_reducible refine' Put.next ?k1); (case k1 => wtm_at "g_put"))
  | fail)
local macro_rules | `(tactic| wtm_at "g_pk") => `(tactic| first
  | (with_reducible assumption) | (with_reducible exact Pick.keep) | (with_reducible exact Pick.here)
  | ((with_reducible refine' Pick.next ?k1); (case k1 => wtm_at "g_pk"))
  | fail)
local macro_rules | `(tactic| wtm_at "g_hp") => `(tactic| first
  | (with_reducible assumption) | (with_reducible exact upd_same)
  | ((with_reducible refine' Own.get ?k1 ?k2); (case k1 => wtm_at "g_own"); (case k2 => wtm_at "g_got"))
  | fail)
local macro_rules | `(tactic| wtm_at "g_sq") => `(tactic| first
  | (with_reducible assumption)
  | ((with_reducible refine' Own.sql ?k1 ?k2); (case k1 => wtm_at "g_own"); (case k2 => wtm_at "g_gl"))
  | ((with_reducible refine' SqL.of ?k1); (case k1 => wtm_at "g_hp"))
  | fail)
local macro_rules | `(tactic| wtm_at "g_sqt") => `(tactic| first
  | (with_reducible assumption) | ((with_reducible refine' SqT.of' ?k1); (case k1 => wtm_at "g_hp"))
  | fail)
local macro_rules | `(tactic| wtm_at "g_sz") => `(tactic| first
  | (with_reducible assumption) | (exact small_le rfl)
  | ((with_reducible refine' small16 ?k1); (case k1 => (try simp only [List.length_append, List.length_map, List.length_cons, List.length_nil, List.length_take, List.length_drop, List.length_set, List.length_range]); omega))
  | ((with_reducible refine' small16l ?k1); (case k1 => (try simp only [List.length_append, List.length_map, List.length_cons, List.length_nil, List.length_take, List.length_drop, List.length_set, List.length_range]); omega))
  | fail)
local macro_rules | `(tactic| wtm_at "g_gd") => `(tactic| first
  | (with_reducible assumption) | (with_reducible exact GotD.here) | (with_reducible exact GotD.hereR) | (with_reducible exact GotD.ints)
  | ((with_reducible refine' GotD.next ?k1); (case k1 => wtm_at "g_gd"))
  | fail)
local macro_rules | `(tactic| wtm_at "g_dp") => `(tactic| first
  | (with_reducible assumption)
  | ((with_reducible refine' Own.dpG ?k1 ?k2); (case k1 => wtm_at "g_own"); (case k2 => wtm_at "g_gd"))
  | fail)
local macro_rules | `(tactic| wtm_at "g_ar") => `(tactic| first
  | decide | (exact ⟨by decide, by decide⟩) | (exact Or.inr ⟨by decide, by decide⟩) | (exact Or.inl ⟨by decide, by decide⟩) | omega | (exact Or.inr ⟨by omega, by omega⟩) | (exact Or.inl ⟨by omega, by omega⟩) | (exact ⟨by omega, by omega⟩)
  | fail)
local macro_rules | `(tactic| wtm_at "g_ow") => `(tactic| first
  | wtm_at "g_own"
  | ((simp only [List.map_cons, List.map_nil]); wtm_at "g_own")
  | fail)
local macro_rules | `(tactic| wtm_at "g_callc") => `(tactic| first
  | ((with_reducible refine' o_digit ?k1 ?k2 ?k3 ?k4 ?_); (case k1 => wtm_at "g_own"); (case k2 => wtm_at "g_pk"); (case k3 => omega); (case k4 => omega); intro d HH d0 d1 ww)
  | ((with_reducible refine' o_start ?k1 ?_); (case k1 => wtm_at "g_own"); intro p HH ww)
  | ((with_reducible refine' c_cell ?k1 ?k2 ?_); (case k1 => wtm_at "g_sq"); (case k2 => omega); intro n)
  | ((with_reducible refine' c_isint ?_))
  | fail)
local macro_rules | `(tactic| wtm_at "g_st") => `(tactic| first
  | (with_reducible first
      | refine w_seq ?_ | refine w_asg ?_ | refine w_nm ?_ | refine w_next ?_ | refine w_if ?_ | refine w_ret ?_ | refine w_retN ?_ | refine w_drop ?_
      | refine w_var rfl ?_ | refine w_c ?_ | refine w_op ?_ | refine w_I0 ?_
      | refine w_eqI ?_ | refine w_neI ?_ | refine w_eqB ?_ | refine w_neB ?_ | refine w_eqS ?_ | refine w_neS ?_ | refine w_isN0 ?_ | refine w_isNi ?_ | refine w_isNr ?_ | refine w_isNb ?_ | refine w_isNs ?_ | refine w_notN0 ?_ | refine w_notNi ?_ | refine w_notNr ?_ | refine w_notNb ?_ | refine w_notNs ?_ | refine w_isN ?_ | refine w_notN ?_ | refine w_isB ?_ | refine w_notB ?_
      | refine w_un ?_ | refine w_U ?_ | refine w_chain ?_ | refine w_k ?_ | refine w_test ?_ | refine w_tB ?_ | refine w_tru ?_ | refine w_not ?_ | refine w_and ?_ | refine w_or ?_
      | refine w_andV ?_ | refine w_orV ?_ | refine w_notV ?_ | refine w_ife ?_ | refine w_nil ?_ | refine w_cons ?_ | refine w_tupK ?_ | refine w_lstK ?_ | refine w_small rfl ?_
      | refine w_call ?_ | refine w_mkQ ?_ | refine w_mt ?_ | refine k_ini ?_ | refine w_cb ?_ | refine w_min2 ?_ | refine w_max2 ?_ | refine w_abs ?_ | refine w_int ?_ | refine w_intb ?_
      | refine w_fld0 ?_ | refine w_bm ?_ | refine w_bm0 ?_ | refine w_sub ?_ | refine w_sfldQ ?_ | refine w_sfaQ ?_ | refine w_delQ ?_ | refine k_whT ?_ | refine w_radd ?_ | refine w_rsub ?_ | refine w_ip ?_ | refine w_rs ?_ | refine w_pr ?_
      | refine w_lcR1 ?_ | refine w_lcR2 ?_ | refine w_lcL ?_ | refine w_lcT ?_ | refine w_yes ?_ | refine w_disp ?_ | refine w_prs ?_ | refine w_prn ?_ | refine w_dget ?_ | refine w_sl ?_ | refine w_nopart ?_ | refine w_part ?_ | refine w_pint ?_
      | refine w_for3 ?_ | refine w_mkKQ ?_ | refine w_forR1 ?_ | refine w_forR2 ?_ | refine w_forL ?_ | refine w_forT ?_ | refine w_aug rfl ?_ | refine w_par ?_ | refine w_brk ?_ | refine w_cont ?_
      | refine w_isi_ii ?_ | refine w_isi_ib ?_ | refine w_isi_bi ?_ | refine w_isi_bb ?_ | refine w_isi_ss ?_ | refine w_isi_is ?_ | refine w_isi_il ?_ | refine w_isi_it ?_ | refine w_isi_sl ?_ | refine w_isi_st ?_ | refine w_isi_nl ?_ | refine w_isi_nt ?_
      | refine if_T ?_ | refine if_F ?_ | refine if_nT ?_ | refine if_nF ?_)
  | ((with_reducible refine' k_tup rfl ?k1 ?_); (case k1 => wtm_at "g_own"); intro p HH ww)
  | ((with_reducible refine' k_lst1R ?k1 ?_); (case k1 => wtm_at "g_own"); intro p HH ww)
  | ((with_reducible refine' k_lst1I ?k1 ?_); (case k1 => wtm_at "g_own"); intro p HH ww)
  | ((with_reducible refine' k_lst rfl ?k1 ?_); (case k1 => wtm_at "g_own"); intro p HH ww)
  | ((with_reducible refine' k_mk ?k1 ?_); (case k1 => wtm_at "g_own"); intro p dx HH ww)
  | wtm_at "g_mkk"
  | ((with_reducible refine' k_listL ?k1 ?k2 ?_); (case k1 => wtm_at "g_own"); (case k2 => wtm_at "g_sq"); intro p HH ww)
  | ((with_reducible refine' k_listT ?k1 ?k2 ?_); (case k1 => wtm_at "g_own"); (case k2 => wtm_at "g_sqt"); intro p HH ww)
  | ((with_reducible refine' k_tupL ?k1 ?k2 ?_); (case k1 => wtm_at "g_own"); (case k2 => wtm_at "g_sq"); intro p HH ww)
  | ((with_reducible refine' k_slfromRs ?k1 ?k2 ?_); (case k1 => wtm_at "g_own"); (case k2 => wtm_at "g_sq"); intro p HH ww)
  | ((with_reducible refine' k_slfromR1 ?k1 ?k2 ?_); (case k1 => wtm_at "g_own"); (case k2 => wtm_at "g_sq"); intro p HH ww)
  | ((with_reducible refine' k_slfromRn ?k1 ?k2 ?_); (case k1 => wtm_at "g_own"); (case k2 => wtm_at "g_sq"); intro p HH ww)
  | ((with_reducible refine' k_sltoR1 ?k1 ?k2 ?_); (case k1 => wtm_at "g_own"); (case k2 => wtm_at "g_sq"); intro p HH ww)
  | ((with_reducible refine' k_sltoRn ?k1 ?k2 ?_); (case k1 => wtm_at "g_own"); (case k2 => wtm_at "g_sq"); intro p HH ww)
  | ((with_reducible refine' k_slfromIs ?k1 ?k2 ?_); (case k1 => wtm_at "g_own"); (case k2 => wtm_at "g_sq"); intro p HH ww)
  | ((with_reducible refine' k_slfromI1 ?k1 ?k2 ?_); (case k1 => wtm_at "g_own"); (case k2 => wtm_at "g_sq"); intro p HH ww)
  | ((with_reducible refine' k_slfromIn ?k1 ?k2 ?_); (case k1 => wtm_at "g_own"); (case k2 => wtm_at "g_sq"); intro p HH ww)
  | ((with_reducible refine' k_sltoI1 ?k1 ?k2 ?_); (case k1 => wtm_at "g_own"); (case k2 => wtm_at "g_sq"); intro p HH ww)
  | ((with_reducible refine' k_sltoIn ?k1 ?k2 ?_); (case k1 => wtm_at "g_own"); (case k2 => wtm_at "g_sq"); intro p HH ww)
  | ((with_reducible refine' k_slfromI ?k1 ?k2 ?k3 ?_); (case k1 => wtm_at "g_own"); (case k2 => wtm_at "g_sq"); (case k3 => omega); intro p HH ww)
  | ((with_reducible refine' k_sltoI ?k1 ?k2 ?k3 ?_); (case k1 => wtm_at "g_own"); (case k2 => wtm_at "g_sq"); (case k3 => omega); intro p HH ww)
  | ((with_reducible refine' k_slmidI ?k1 ?k2 ?k3 ?k4 ?_); (case k1 => wtm_at "g_own"); (case k2 => wtm_at "g_sq"); (case k3 => omega); (case k4 => omega); intro p HH ww)
  | ((with_reducible refine' k_catI ?k1 ?k2 ?k3 ?k4 ?_); (case k1 => wtm_at "g_own"); (case k2 => wtm_at "g_got"); (case k3 => wtm_at "g_got"); (case k4 => wtm_at "g_sz"); intro p HH ww)
  | ((with_reducible refine' k_catR ?k1 ?k2 ?k3 ?k4 ?_); (case k1 => wtm_at "g_own"); (case k2 => wtm_at "g_got"); (case k3 => wtm_at "g_got"); (case k4 => wtm_at "g_sz"); intro p HH ww)
  | ((with_reducible refine' k_slfromR ?k1 ?k2 ?k3 ?_); (case k1 => wtm_at "g_own"); (case k2 => wtm_at "g_sq"); (case k3 => omega); intro p HH ww)
  | ((with_reducible refine' k_sltoR ?k1 ?k2 ?k3 ?_); (case k1 => wtm_at "g_own"); (case k2 => wtm_at "g_sq"); (case k3 => omega); intro p HH ww)
  | ((with_reducible refine' k_appI ?k1 ?k2 ?k3 ?_); (case k1 => wtm_at "g_own"); (case k2 => wtm_at "g_put"); (case k3 => wtm_at "g_sz"); intro HH ww)
  | ((with_reducible refine' k_appR ?k1 ?k2 ?k3 ?_); (case k1 => wtm_at "g_own"); (case k2 => wtm_at "g_put"); (case k3 => wtm_at "g_sz"); intro HH ww)
  | ((with_reducible refine' k_extendI ?k1 ?k2 ?k3 ?k4 ?_); (case k1 => wtm_at "g_own"); (case k2 => wtm_at "g_put"); (case k3 => wtm_at "g_got"); (case k4 => wtm_at "g_sz"); intro HH ww)
  | ((with_reducible refine' k_slfrom ?k1 ?k2 ?k3 ?_); (case k1 => wtm_at "g_own"); (case k2 => wtm_at "g_sq"); (case k3 => omega); intro p HH ww)
  | ((with_reducible refine' k_slto ?k1 ?k2 ?k3 ?_); (case k1 => wtm_at "g_own"); (case k2 => wtm_at "g_sq"); (case k3 => omega); intro p HH ww)
  | ((with_reducible refine' k_slmid ?k1 ?k2 ?k3 ?k4 ?_); (case k1 => wtm_at "g_own"); (case k2 => wtm_at "g_sq"); (case k3 => omega); (case k4 => omega); intro p HH ww)
  | ((with_reducible refine' k_cat ?k1 ?k2 ?k3 ?k4 ?_); (case k1 => wtm_at "g_own"); (case k2 => wtm_at "g_got"); (case k3 => wtm_at "g_got"); (case k4 => wtm_at "g_sz"); intro p HH ww)
  | ((with_reducible refine' k_app ?k1 ?k2 ?k3 ?_); (case k1 => wtm_at "g_own"); (case k2 => wtm_at "g_put"); (case k3 => wtm_at "g_sz"); intro HH ww)
  | ((with_reducible refine' ty_list ?k1 ?_); (case k1 => wtm_at "g_hp"))
  | ((with_reducible refine' k_truR ?k1 ?_); (case k1 => wtm_at "g_sq"))
  | ((with_reducible refine' k_truI ?k1 ?_); (case k1 => wtm_at "g_sq"))
  | ((with_reducible refine' k_truL ?k1 ?_); (case k1 => wtm_at "g_sq"))
  | ((with_reducible refine' w_lenLI ?k1 ?_); (case k1 => wtm_at "g_sq"))
  | ((with_reducible refine' w_lenLR ?k1 ?_); (case k1 => wtm_at "g_sq"))
  | ((with_reducible refine' w_ixT ?k1 ?k2 ?_); (case k1 => wtm_at "g_sqt"); (case k2 => first | rfl | fail))
  | ((with_reducible refine' w_ixRc ?k1 ?_); (case k1 => wtm_at "g_sq"))
  | ((with_reducible refine' w_ixR0 ?k1 ?k2 ?_); (case k1 => wtm_at "g_sq"); (case k2 => with_reducible assumption))
  | ((with_reducible refine' w_ixR ?k1 ?k2 ?_); (case k1 => wtm_at "g_sq"); (case k2 => with_reducible assumption))
  | ((with_reducible refine' w_ixLastR ?k1 ?k2 ?_); (case k1 => wtm_at "g_sq"); (case k2 => with_reducible assumption))
  | ((with_reducible refine' k_slinitR ?k1 ?k2 ?_); (case k1 => wtm_at "g_own"); (case k2 => wtm_at "g_sq"); intro p HH ww)
  | ((with_reducible refine' w_gTup ?k1 ?k2 ?_); (case k1 => wtm_at "g_sqt"); (case k2 => rfl))
  | (with_reducible refine w_gCons ?_)
  | (with_reducible refine w_gNil ?_)
  | ((with_reducible refine' w_ixI ?k1 ?k2 ?k3 ?_); (case k1 => wtm_at "g_sq"); (case k2 => omega); (case k3 => omega))
  | ((with_reducible refine' w_I ?k1 ?_); (case k1 => wtm_at "g_ar"))
  | ((with_reducible refine' k_reverse ?k1 ?k2 ?_); (case k1 => wtm_at "g_own"); (case k2 => wtm_at "g_put"); intro HH ww)
  | ((with_reducible refine' w_lenL ?k1 ?_); (case k1 => wtm_at "g_sq"))
  | ((with_reducible refine' w_lenT ?k1 ?_); (case k1 => wtm_at "g_sqt"))
  | ((with_reducible refine' w_isi_ll ?k1 ?_); (case k1 => wtm_at "g_hp"))
  | ((with_reducible refine' w_isi_tt ?k1 ?_); (case k1 => wtm_at "g_hp"))
  | ((with_reducible refine' w_isi_lt ?k1 ?_); (case k1 => wtm_at "g_hp"))
  | ((with_reducible refine' w_isi_tl ?k1 ?_); (case k1 => wtm_at "g_hp"))
  | ((with_reducible refine' w_ll ?k1 ?k2 ?_); (case k1 => rfl); (case k2 => rfl))
  | wtm_at "g_get"
  | wtm_at "g_mt"
  | wtm_at "g_set"
  | wtm_at "g_set2"
  | wtm_at "g_call"
  | wtm_at "g_callc"
  | fail)
local macro_rules | `(tactic| wtm_at "g_go") => `(tactic| repeat wtm_at "g_st")
local macro_rules | `(tactic| wtm_at "g_ifo") => `(tactic| first
  | (refine if_nno rfl ?_) | (refine if_yes rfl ?_)
  | (refine if_no (by omega) ?_)
  | (refine if_yes (by omega) ?_)
  | (refine if_nno (by omega) ?_)
  | (refine if_nyes (by omega) ?_)
  | (refine if_nno (decide_eq_false (by omega)).symm ?_)
  | (refine if_nno (decide_eq_true (by omega)).symm ?_)
  | fail)
local macro_rules | `(tactic| wtm_at "g_goo") => `(tactic| repeat (first | wtm_at "g_st" | wtm_at "g_ifo"))
section
def out (g : Wt) (rows : List Wt) : List Wt := rows.filter (fun r => decide (num r ≠ num g))
theorem fnd_no {fs : List Fl} {k : Ky} (h : fnd fs k = none) : ∀ f ∈ fs, f.k ≠ k := fun f hf e => by
  have := List.findIdx?_eq_none_iff.mp h f hf
  rw [decide_eq_true e] at this
  cases this
theorem JX.inj {fs : List Fl} {rows : List Wt} (h : JX fs rows) {a b : Wt} (ha : a ∈ rows) (hb : b ∈ rows) (e : num a = num b) : a = b := by
  have := h.asc
  clear h
  induction rows with
  | nil => cases ha
  | cons x l ih =>
    obtain ⟨h1, h2⟩ := List.pairwise_cons.mp this
    rcases List.mem_cons.mp ha with e1 | ha'
    · rcases List.mem_cons.mp hb with e2 | hb'
      · rw [e1, e2]
      · have := h1 b hb'; rw [← e1] at this; omega
    · rcases List.mem_cons.mp hb with e2 | hb'
      · have := h1 a ha'; rw [← e2] at this; omega
      · exact ih ha' hb' h2
theorem own_out {rows : List Wt} {g : Wt} {k : Ky} : own (out g rows) k = (own rows k).filter (fun r => decide (num r ≠ num g)) := by
  unfold own out
  rw [List.filter_filter, List.filter_filter]
  congr 1
  funext r
  exact Bool.and_comm _ _
theorem own_sub {rows : List Wt} {k : Ky} : (own rows k).Sublist rows := List.filter_sublist
theorem mem_own {rows : List Wt} {k : Ky} {r : Wt} (h : r ∈ own rows k) : r ∈ rows ∧ r.k = k := by
  obtain ⟨h1, h2⟩ := List.mem_filter.mp h
  exact ⟨h1, of_decide_eq_true h2⟩
theorem own_last {fs : List Fl} {rows L : List Wt} {g : Wt} (h : JX fs rows) (e : own rows g.k = L ++ [g]) : own (out g rows) g.k = L := by
  have hp : (L ++ [g]).Pairwise (fun a b => num a < num b) := by rw [← e]; exact h.asc.sublist own_sub
  obtain ⟨_, _, h3⟩ := List.pairwise_append.mp hp
  rw [own_out, e, List.filter_append]
  have e1 : [g].filter (fun r => decide (num r ≠ num g)) = [] := by
    rw [List.filter_cons, if_neg (by simp)]
    rfl
  rw [e1, List.append_nil]
  refine List.filter_eq_self.mpr fun r hr => decide_eq_true ?_
  have := h3 r hr g List.mem_cons_self
  omega
theorem own_first {fs : List Fl} {rows L : List Wt} {g : Wt} (h : JX fs rows) (e : own rows g.k = g :: L) : own (out g rows) g.k = L := by
  have hp : (g :: L).Pairwise (fun a b => num a < num b) := by rw [← e]; exact h.asc.sublist own_sub
  obtain ⟨h3, _⟩ := List.pairwise_cons.mp hp
  rw [own_out, e, List.filter_cons, if_neg (by simp)]
  refine List.filter_eq_self.mpr fun r hr => decide_eq_true ?_
  have := h3 r hr
  omega
theorem own_other {fs : List Fl} {rows : List Wt} {g : Wt} {k : Ky} (h : JX fs rows) (hg : g ∈ rows) (hk : g.k ≠ k) : own (out g rows) k = own rows k := by
  rw [own_out]
  refine List.filter_eq_self.mpr fun r hr => decide_eq_true fun e => ?_
  obtain ⟨h1, h2⟩ := mem_own hr
  rw [h.inj h1 hg e] at h2
  exact hk h2
theorem JX.less {fs gs : List Fl} {rows : List Wt} {g : Wt} (h : JX fs rows) (hg : g ∈ rows) (h1 : ∀ f ∈ gs, WFl f) (h2 : (gs.map (·.k)).Nodup) (h3 : own (out g rows) g.k = own (allW gs) g.k) (h4 : ∀ k, g.k ≠ k → own (allW fs) k = own (allW gs) k) : JX gs (out g rows) := by
  have hs : (out g rows).Sublist rows := List.filter_sublist
  refine ⟨h1, h2, fun k => ?_, h.asc.sublist hs, fun r hr => h.it r (hs.mem hr), fun r hr => h.rk r (hs.mem hr)⟩
  by_cases e : g.k = k
  · subst e; exact h3
  · rw [own_other h hg e, h.key, h4 k e]
theorem JX.turn {x : Qu} {rows : List Wt} (hw : WF x) (h : JX x.fs rows) : JX (turnF x).fs rows := by
  have hp := turn_perm (q := x.q) (mu x.fs x.gr + 1) x.fs x.gr
  refine ⟨(wf_turn hw).fs, ?_, fun k => ?_, h.asc, h.it, h.rk⟩
  · have : ((turnF x).fs.map (·.k)).Perm (x.fs.map (·.k)) := by
      have := hp.map (·.1)
      rw [List.map_map, List.map_map] at this
      exact this
    exact this.nodup_iff.mpr h.ky
  · rw [h.key k]
    exact (own_perm hp h.ky).symm
/-- the last item of a flow goes -/
theorem JX.drop {fs : List Fl} {gr : Bool} {rows : List Wt} (h : JX fs rows) (hn : fs ≠ []) : dropW fs ∈ rows ∧ (∃ L, own rows (dropW fs).k = L ++ [dropW fs]) ∧ JX (dropS fs gr).1 (out (dropW fs) rows) := by
  have hm := most_lt hn
  obtain ⟨f, hf⟩ : ∃ f, fs[most fs]? = some f := ⟨_, List.getElem?_eq_getElem hm⟩
  have hwf := h.wf f (List.mem_of_getElem? hf)
  obtain ⟨ini, z, hr⟩ : ∃ ini z, f.rows = ini ++ [z] := ⟨f.rows.dropLast, f.rows.getLast hwf.ne, (List.dropLast_concat_getLast hwf.ne).symm⟩
  have hg : dropW fs = f.wt z := by
    unfold dropW
    rw [getD_some hf, hr, List.getLastD_concat]
  have hS : (dropS fs gr).1 = if ini = [] then (fs.set (most fs) (f.wr ini)).eraseIdx (most fs) else fs.set (most fs) (f.wr ini) := by
    unfold dropS outAt
    rw [getD_some hf, hr, List.dropLast_concat, getD_some (List.getElem?_set_self hm)]
    show (if ini = [] then _ else _ : List Fl × Bool).1 = _
    split <;> rfl
  have hfl : f.rows.map f.wt = ini.map f.wt ++ [f.wt z] := by rw [hr, List.map_append]; rfl
  obtain ⟨A, B, e, hA⟩ := split_at hf
  have hky := h.ky
  rw [e] at hky
  have hown : ∀ k, own (allW fs) k = if f.k = k then f.rows.map f.wt else own (allW (A ++ B)) k := fun k => by rw [e]; exact own_here hky
  have hl : own rows (dropW fs).k = ini.map f.wt ++ [dropW fs] := by
    rw [hg, h.key, hown, if_pos rfl, hfl]
  have hmem : dropW fs ∈ rows := (mem_own (k := (dropW fs).k) (by rw [hl]; exact List.mem_append_right _ List.mem_cons_self)).1
  refine ⟨hmem, ⟨_, hl⟩, ?_⟩
  have hset : fs.set (most fs) (f.wr ini) = A ++ f.wr ini :: B := by rw [← hA, e]; exact set_at
  have hab : ∀ k, own (allW (dropS fs gr).1) k = if f.k = k then ini.map f.wt else own (allW (A ++ B)) k := fun k => by
    rw [hS]
    split
    · rename_i hi
      rw [hset, ← hA, erase_at]
      split
      · rename_i ek
        subst ek
        rw [hi]
        obtain ⟨n1, n2⟩ := nodup_at hky
        refine own_none fun g hg => ?_
        rcases List.mem_append.mp hg with hg | hg
        · exact n1 g hg
        · exact n2 g hg
      · rfl
    · rw [hset, own_here (f := f.wr ini) (by rw [List.map_append, List.map_cons] at hky ⊢; exact hky)]
  refine h.less hmem ?_ ?_ ?_ ?_
  · rw [hS]
    intro g hg
    have h2 : ∀ g ∈ fs, WFl g := h.wf
    rw [e] at h2
    split at hg
    · rw [hset, ← hA, erase_at] at hg
      rcases List.mem_append.mp hg with hg | hg
      · exact h2 g (List.mem_append_left _ hg)
      · exact h2 g (List.mem_append_right _ (List.mem_cons_of_mem _ hg))
    · rename_i hi
      rw [hset] at hg
      rcases List.mem_append.mp hg with hg | hg
      · exact h2 g (List.mem_append_left _ hg)
      · rcases List.mem_cons.mp hg with rfl | hg
        · exact ⟨hwf.k, hi, fun r hr' => hwf.w r (by rw [hr]; exact List.mem_append_left _ hr')⟩
        · exact h2 g (List.mem_append_right _ (List.mem_cons_of_mem _ hg))
  · rw [hS]
    split
    · rw [hset, ← hA, erase_at]
      refine hky.sublist ?_
      exact ((List.sublist_cons_self f B).append_left A).map _
    · rw [ky_set (g := f.wr ini) hf rfl]
      exact h.ky
  · rw [own_last h hl, hab, if_pos (by rw [hg])]
  · intro k hk
    rw [hown, hab]
    rw [hg] at hk
    rw [if_neg hk, if_neg hk]
/-- the first item goes -/
theorem JX.gone {x : Qu} {rows : List Wt} {y : Wt} (h : JX x.fs rows) (hy : firstF x = some y) : y ∈ rows ∧ (∃ L, own rows y.k = y :: L) ∧ JX (goneF x).fs (out y rows) := by
  obtain ⟨f, r, e⟩ : ∃ f r, x.fs = f :: r := by
    unfold firstF at hy
    split at hy
    · cases hy
    · exact ⟨_, _, by assumption⟩
  have hwf := h.wf f (by rw [e]; exact List.mem_cons_self)
  obtain ⟨z, T, hr⟩ : ∃ z T, f.rows = z :: T := by
    cases hq : f.rows with
    | nil => exact absurd hq hwf.ne
    | cons z T => exact ⟨z, T, rfl⟩
  obtain rfl : f.wt z = y := by
    unfold firstF at hy
    rw [e] at hy
    dsimp only at hy
    rw [hr] at hy
    exact Option.some.inj hy
  have hG : (goneF x).fs = if T = [] then r else ⟨f.k, T, f.cr - f.w0⟩ :: r := by
    unfold goneF
    rw [e]
    show (outAt (⟨f.k, f.rows.tail, f.cr - f.w0⟩ :: r) x.gr 0).1 = _
    unfold outAt
    rw [hr]
    by_cases ht : T = []
    · rw [if_pos (show ((⟨f.k, (z :: T).tail, f.cr - f.w0⟩ :: r : List Fl).getD 0 fl0).rows = [] from ht), if_pos ht]
      rfl
    · rw [if_neg (show ¬ ((⟨f.k, (z :: T).tail, f.cr - f.w0⟩ :: r : List Fl).getD 0 fl0).rows = [] from ht), if_neg ht]
      rfl
  have hfl : f.rows.map f.wt = f.wt z :: T.map f.wt := by rw [hr]; rfl
  have hky := h.ky
  rw [e] at hky
  have hown : ∀ k, own (allW x.fs) k = if f.k = k then f.rows.map f.wt else own (allW r) k := fun k => by rw [e]; exact own_here (A := []) hky
  have hl : own rows (f.wt z).k = f.wt z :: T.map f.wt := by rw [h.key, hown, if_pos rfl, hfl]
  have hmem : f.wt z ∈ rows := (mem_own (k := (f.wt z).k) (by rw [hl]; exact List.mem_cons_self)).1
  refine ⟨hmem, ⟨_, hl⟩, ?_⟩
  have hab : ∀ k, own (allW (goneF x).fs) k = if f.k = k then T.map f.wt else own (allW r) k := fun k => by
    rw [hG]
    split
    · rename_i hi
      split
      · rename_i ek
        subst ek
        rw [hi]
        exact own_none fun g hg => (nodup_at (A := []) hky).2 g hg
      · rfl
    · exact own_here (A := []) (f := ⟨f.k, T, f.cr - f.w0⟩) hky
  refine h.less hmem ?_ ?_ ?_ ?_
  · rw [hG]
    have h2 : ∀ g ∈ x.fs, WFl g := h.wf
    rw [e] at h2
    intro g hg
    split at hg
    · exact h2 g (List.mem_cons_of_mem _ hg)
    · rename_i hi
      rcases List.mem_cons.mp hg with rfl | hg
      · exact ⟨hwf.k, hi, fun r hr' => hwf.w r (by rw [hr]; exact List.mem_cons_of_mem _ hr')⟩
      · exact h2 g (List.mem_cons_of_mem _ hg)
  · rw [hG]
    split
    · exact (List.nodup_cons.mp hky).2
    · exact hky
  · rw [own_first h hl, hab, if_pos rfl]
  · intro k hk
    rw [hown, hab, if_neg hk, if_neg hk]
/-- an item comes -/
theorem JX.add {fs : List Fl} {rows : List Wt} {d n w : Int} (h : JX fs rows) (hk : kOk [.inr "flow", .inl d]) (hw : 1 ≤ w) (hn : ∀ r ∈ rows, num r < n) : JX (addF fs [.inr "flow", .inl d] (.int n, w)) (rows ++ [⟨[.inr "flow", .inl d], .int n, w⟩]) := by
  refine ⟨wfl_add hk hw h.wf, ?_, fun k => ?_, ?_, fun r hr => ?_, fun r hr => ?_⟩
  · unfold addF
    split
    · rename_i j hj
      obtain ⟨f, hf, e⟩ := fnd_at hj
      rw [ky_set hf (by rw [getD_some hf])]
      exact h.ky
    · rename_i hj
      rw [List.map_append, List.nodup_append]
      refine ⟨h.ky, by simp, fun a ha b hb => ?_⟩
      rw [List.mem_singleton.mp hb]
      obtain ⟨f, hf, rfl⟩ := List.mem_map.mp ha
      exact fnd_no hj f hf
  · rw [own_app, h.key]
    have e0 : ∀ k, own [⟨[.inr "flow", .inl d], .int n, w⟩] k = if ([.inr "flow", .inl d] : Ky) = k then [⟨[.inr "flow", .inl d], .int n, w⟩] else [] := fun k => by
      unfold own
      rw [List.filter_cons]
      by_cases e : ([.inr "flow", .inl d] : Ky) = k
      · rw [if_pos e, if_pos (decide_eq_true e)]; rfl
      · rw [if_neg e, if_neg (by rw [decide_eq_false e]; decide)]; rfl
    unfold addF
    split
    · rename_i j hj
      obtain ⟨f, hf, e⟩ := fnd_at hj
      obtain ⟨A, B, e2, hA⟩ := split_at hf
      have hky := h.ky
      rw [e2] at hky
      rw [getD_some hf, e2, ← hA, set_at, own_here hky, own_here (f := f.wr (f.rows ++ [(V.int n, w)])) (by rw [List.map_append, List.map_cons] at hky ⊢; exact hky), e0, ← e]
      by_cases ek : f.k = k
      · rw [if_pos ek, if_pos ek, if_pos ek, List.map_append]; rfl
      · rw [if_neg ek, if_neg ek, if_neg ek, List.append_nil]
    · rename_i hj
      rw [allW_app, own_app]
      rfl
  · refine List.pairwise_append.mpr ⟨h.asc, List.pairwise_singleton _ _, fun a ha b hb => ?_⟩
    rw [List.mem_singleton.mp hb]
    exact hn a ha
  · rcases List.mem_append.mp hr with hr | hr
    · exact h.it r hr
    · rw [List.mem_singleton.mp hr]; rfl
  · rcases List.mem_append.mp hr with hr | hr
    · exact h.rk r hr
    · rw [List.mem_singleton.mp hr]; exact ⟨d, rfl⟩
end
end K81

namespace K81
open PySem PySem.Spec PyProof.Rows L2 G
local macro_rules | `(tactic| wtm_at "g_get") => `(tactic| first
  | ((with_reducible refine' w_fld ?k1 (cl_Waiting (by assumption)) (na_Waiting_key (by assumption)) lk_Waiting_key ?_); (case k1 => wtm_at "g_hp"))
  | ((with_reducible refine' w_fld ?k1 (cl_Waiting (by assumption)) (na_Waiting_item (by assumption)) lk_Waiting_item ?_); (case k1 => wtm_at "g_hp"))
  | ((with_reducible refine' w_fld ?k1 (cl_Waiting (by assumption)) (na_Waiting_weight (by assumption)) lk_Waiting_weight ?_); (case k1 => wtm_at "g_hp"))
  | ((with_reducible refine' w_fld ?k1 (cl_Flow (by assumption)) (na_Flow_key (by assumption)) lk_Flow_key ?_); (case k1 => wtm_at "g_hp"))
  | ((with_reducible refine' w_fld ?k1 (cl_Flow (by assumption)) (na_Flow_rows (by assumption)) lk_Flow_rows ?_); (case k1 => wtm_at "g_hp"))
  | ((with_reducible refine' w_fld ?k1 (cl_Flow (by assumption)) (na_Flow_octets (by assumption)) lk_Flow_octets ?_); (case k1 => wtm_at "g_hp"))
  | ((with_reducible refine' w_fld ?k1 (cl_Flow (by assumption)) (na_Flow_credit (by assumption)) lk_Flow_credit ?_); (case k1 => wtm_at "g_hp"))
  | ((with_reducible refine' w_fld ?k1 (cl_FairQueue (by assumption)) (na_FairQueue_limit (by assumption)) lk_FairQueue_limit ?_); (case k1 => wtm_at "g_hp"))
  | ((with_reducible refine' w_fld ?k1 (cl_FairQueue (by assumption)) (na_FairQueue_quantum (by assumption)) lk_FairQueue_quantum ?_); (case k1 => wtm_at "g_hp"))
  | ((with_reducible refine' w_fld ?k1 (cl_FairQueue (by assumption)) (na_FairQueue_flows (by assumption)) lk_FairQueue_flows ?_); (case k1 => wtm_at "g_hp"))
  | ((with_reducible refine' w_fld ?k1 (cl_FairQueue (by assumption)) (na_FairQueue_granted (by assumption)) lk_FairQueue_granted ?_); (case k1 => wtm_at "g_hp"))
  | fail)
local macro_rules | `(tactic| wtm_at "g_set") => `(tactic| first
  | ((with_reducible refine' k_fld ?k1 ?k2 (cl_Waiting (by assumption)) (na_Waiting_key (by assumption)) pt_Waiting_key rfl ?_); (case k1 => wtm_at "g_own"); (case k2 => wtm_at "g_put"); intro HH ww)
  | ((with_reducible refine' k_fld ?k1 ?k2 (cl_Waiting (by assumption)) (na_Waiting_key (by assumption)) pn_Waiting_key rfl ?_); (case k1 => wtm_at "g_own"); (case k2 => wtm_at "g_put"); intro HH ww)
  | ((with_reducible refine' k_fld ?k1 ?k2 (cl_Waiting (by assumption)) (na_Waiting_item (by assumption)) pt_Waiting_item rfl ?_); (case k1 => wtm_at "g_own"); (case k2 => wtm_at "g_put"); intro HH ww)
  | ((with_reducible refine' k_fld ?k1 ?k2 (cl_Waiting (by assumption)) (na_Waiting_item (by assumption)) pn_Waiting_item rfl ?_); (case k1 => wtm_at "g_own"); (case k2 => wtm_at "g_put"); intro HH ww)
  | ((with_reducible refine' k_fld ?k1 ?k2 (cl_Waiting (by assumption)) (na_Waiting_weight (by assumption)) pt_Waiting_weight rfl ?_); (case k1 => wtm_at "g_own"); (case k2 => wtm_at "g_put"); intro HH ww)
  | ((with_reducible refine' k_fld ?k1 ?k2 (cl_Waiting (by assumption)) (na_Waiting_weight (by assumption)) pn_Waiting_weight rfl ?_); (case k1 => wtm_at "g_own"); (case k2 => wtm_at "g_put"); intro HH ww)
  | ((with_reducible refine' k_fld ?k1 ?k2 (cl_Flow (by assumption)) (na_Flow_key (by assumption)) pt_Flow_key rfl ?_); (case k1 => wtm_at "g_own"); (case k2 => wtm_at "g_put"); intro HH ww)
  | ((with_reducible refine' k_fld ?k1 ?k2 (cl_Flow (by assumption)) (na_Flow_key (by assumption)) pn_Flow_key rfl ?_); (case k1 => wtm_at "g_own"); (case k2 => wtm_at "g_put"); intro HH ww)
  | ((with_reducible refine' k_fld ?k1 ?k2 (cl_Flow (by assumption)) (na_Flow_rows (by assumption)) pt_Flow_rows rfl ?_); (case k1 => wtm_at "g_own"); (case k2 => wtm_at "g_put"); intro HH ww)
  | ((with_reducible refine' k_fld ?k1 ?k2 (cl_Flow (by assumption)) (na_Flow_rows (by assumption)) pn_Flow_rows rfl ?_); (case k1 => wtm_at "g_own"); (case k2 => wtm_at "g_put"); intro HH ww)
  | ((with_reducible refine' k_fld ?k1 ?k2 (cl_Flow (by assumption)) (na_Flow_octets (by assumption)) pt_Flow_octets rfl ?_); (case k1 => wtm_at "g_own"); (case k2 => wtm_at "g_put"); intro HH ww)
  | ((with_reducible refine' k_fld ?k1 ?k2 (cl_Flow (by assumption)) (na_Flow_octets (by assumption)) pn_Flow_octets rfl ?_); (case k1 => wtm_at "g_own"); (case k2 => wtm_at "g_put"); intro HH ww)
  | ((with_reducible refine' k_fld ?k1 ?k2 (cl_Flow (by assumption)) (na_Flow_credit (by assumption)) pt_Flow_credit rfl ?_); (case k1 => wtm_at "g_own"); (case k2 => wtm_at "g_put"); intro HH ww)
  | ((with_reducible refine' k_fld ?k1 ?k2 (cl_Flow (by assumption)) (na_Flow_credit (by assumption)) pn_Flow_credit rfl ?_); (case k1 => wtm_at "g_own"); (case k2 => wtm_at "g_put"); intro HH ww)
  | ((with_reducible refine' k_fld ?k1 ?k2 (cl_FairQueue (by assumption)) (na_FairQueue_limit (by assumption)) pt_FairQueue_limit rfl ?_); (case k1 => wtm_at "g_own"); (case k2 => wtm_at "g_put"); intro HH ww)
  | ((with_reducible refine' k_fld ?k1 ?k2 (cl_FairQueue (by assumption)) (na_FairQueue_limit (by assumption)) pn_FairQueue_limit rfl ?_); (case k1 => wtm_at "g_own"); (case k2 => wtm_at "g_put"); intro HH ww)
  | ((with_reducible refine' k_fld ?k1 ?k2 (cl_FairQueue (by assumption)) (na_FairQueue_quantum (by assumption)) pt_FairQueue_quantum rfl ?_); (case k1 => wtm_at "g_own"); (case k2 => wtm_at "g_put"); intro HH ww)
  | ((with_reducible refine' k_fld ?k1 ?k2 (cl_FairQueue (by assumption)) (na_FairQueue_quantum (by assumption)) pn_FairQueue_quantum rfl ?_); (case k1 => wtm_at "g_own"); (case k2 => wtm_at "g_put"); intro HH ww)
  | ((with_reducible refine' k_fld ?k1 ?k2 (cl_FairQueue (by assumption)) (na_FairQueue_flows (by assumption)) pt_FairQueue_flows rfl ?_); (case k1 => wtm_at "g_own"); (case k2 => wtm_at "g_put"); intro HH ww)
  | ((with_reducible refine' k_fld ?k1 ?k2 (cl_FairQueue (by assumption)) (na_FairQueue_flows (by assumption)) pn_FairQueue_flows rfl ?_); (case k1 => wtm_at "g_own"); (case k2 => wtm_at "g_put"); intro HH ww)
  | ((with_reducible refine' k_fld ?k1 ?k2 (cl_FairQueue (by assumption)) (na_FairQueue_granted (by assumption)) pt_FairQueue_granted rfl ?_); (case k1 => wtm_at "g_own"); (case k2 => wtm_at "g_put"); intro HH ww)
  | ((with_reducible refine' k_fld ?k1 ?k2 (cl_FairQueue (by assumption)) (na_FairQueue_granted (by assumption)) pn_FairQueue_granted rfl ?_); (case k1 => wtm_at "g_own"); (case k2 => wtm_at "g_put"); intro HH ww)
  | fail)
local macro_rules | `(tactic| wtm_at "g_set2") => `(tactic| first
  | ((with_reducible refine' k_fa ?k1 ?k2 pt_Waiting_key rfl ?_); (case k1 => wtm_at "g_own"); (case k2 => wtm_at "g_put"); intro HH ww)
  | ((with_reducible refine' k_fa ?k1 ?k2 pt_Waiting_item rfl ?_); (case k1 => wtm_at "g_own"); (case k2 => wtm_at "g_put"); intro HH ww)
  | ((with_reducible refine' k_fa ?k1 ?k2 pt_Waiting_weight rfl ?_); (case k1 => wtm_at "g_own"); (case k2 => wtm_at "g_put"); intro HH ww)
  | ((with_reducible refine' k_fa ?k1 ?k2 pt_Flow_key rfl ?_); (case k1 => wtm_at "g_own"); (case k2 => wtm_at "g_put"); intro HH ww)
  | ((with_reducible refine' k_fa ?k1 ?k2 pt_Flow_rows rfl ?_); (case k1 => wtm_at "g_own"); (case k2 => wtm_at "g_put"); intro HH ww)
  | ((with_reducible refine' k_fa ?k1 ?k2 pt_Flow_octets rfl ?_); (case k1 => wtm_at "g_own"); (case k2 => wtm_at "g_put"); intro HH ww)
  | ((with_reducible refine' k_fa ?k1 ?k2 pt_Flow_credit rfl ?_); (case k1 => wtm_at "g_own"); (case k2 => wtm_at "g_put"); intro HH ww)
  | ((with_reducible refine' k_fa ?k1 ?k2 pt_FairQueue_limit rfl ?_); (case k1 => wtm_at "g_own"); (case k2 => wtm_at "g_put"); intro HH ww)
  | ((with_reducible refine' k_fa ?k1 ?k2 pt_FairQueue_quantum rfl ?_); (case k1 => wtm_at "g_own"); (case k2 => wtm_at "g_put"); intro HH ww)
  | ((with_reducible refine' k_fa ?k1 ?k2 pt_FairQueue_flows rfl ?_); (case k1 => wtm_at "g_own"); (case k2 => wtm_at "g_put"); intro HH ww)
  | ((with_reducible refine' k_fa ?k1 ?k2 pt_FairQueue_granted rfl ?_); (case k1 => wtm_at "g_own"); (case k2 => wtm_at "g_put"); intro HH ww)
  | fail)
local macro_rules | `(tactic| wtm_at "g_mt") => `(tactic| first
  | ((with_reducible refine' w_mt1 ?k1 ln_Flow_add ?_); (case k1 => wtm_at "g_hp"))
  | ((with_reducible refine' w_mt1 ?k1 ln_Flow_take ?_); (case k1 => wtm_at "g_hp"))
  | ((with_reducible refine' w_mt1 ?k1 ln_Flow_fork ?_); (case k1 => wtm_at "g_hp"))
  | ((with_reducible refine' w_mt1 ?k1 ln_FairQueue_count ?_); (case k1 => wtm_at "g_hp"))
  | ((with_reducible refine' w_mt1 ?k1 ln_FairQueue_octets ?_); (case k1 => wtm_at "g_hp"))
  | ((with_reducible refine' w_mt1 ?k1 ln_FairQueue_octets_of ?_); (case k1 => wtm_at "g_hp"))
  | ((with_reducible refine' w_mt1 ?k1 ln_FairQueue_flow_of ?_); (case k1 => wtm_at "g_hp"))
  | ((with_reducible refine' w_mt1 ?k1 ln_FairQueue_remove_flow ?_); (case k1 => wtm_at "g_hp"))
  | ((with_reducible refine' w_mt1 ?k1 ln_FairQueue_put ?_); (case k1 => wtm_at "g_hp"))
  | ((with_reducible refine' w_mt1 ?k1 ln_FairQueue_drop ?_); (case k1 => wtm_at "g_hp"))
  | ((with_reducible refine' w_mt1 ?k1 ln_FairQueue_turn ?_); (case k1 => wtm_at "g_hp"))
  | ((with_reducible refine' w_mt1 ?k1 ln_FairQueue_next_up ?_); (case k1 => wtm_at "g_hp"))
  | ((with_reducible refine' w_mt1 ?k1 ln_FairQueue_take ?_); (case k1 => wtm_at "g_hp"))
  | ((with_reducible refine' w_mt1 ?k1 ln_FairQueue_take_all ?_); (case k1 => wtm_at "g_hp"))
  | ((with_reducible refine' w_mt1 ?k1 ln_FairQueue_fork ?_); (case k1 => wtm_at "g_hp"))
  | fail)
local macro_rules | `(tactic| wtm_at "g_mkk") => `(tactic| first
  | fail
  | fail)
local macro_rules | `(tactic| wtm_at "g_callf") => `(tactic| first
  | ((with_reducible refine' c_Waiting_init ?k1 ?k2 ?k3 ?_); (case k1 => wtm_at "g_own"); (case k2 => wtm_at "g_pk"); (case k3 => wtm_at "g_pk"); intro HH ww)
  | ((with_reducible refine' c_Flow_init ?k1 ?k2 ?k3 ?_); (case k1 => wtm_at "g_own"); (case k2 => wtm_at "g_pk"); (case k3 => wtm_at "g_pk"); intro HH ww)
  | ((with_reducible refine' c_octets ?k0 ?k1 ?k2 ?_); (case k1 => wtm_at "g_own"); (case k2 => wtm_at "g_pk"); (case k0 => omega); intro HH ww)
  | ((with_reducible refine' w_fldT tell_qu_lim ?k1 ?k2 (cl_FairQueue (by assumption)) (na_FairQueue_limit (by assumption)) ?_); (case k1 => wtm_at "g_own"); (case k2 => wtm_at "g_pk"); intro dz fz; (try clear fz dz))
  | ((with_reducible refine' w_fldT tell_qu_q ?k1 ?k2 (cl_FairQueue (by assumption)) (na_FairQueue_quantum (by assumption)) ?_); (case k1 => wtm_at "g_own"); (case k2 => wtm_at "g_pk"); intro dz fz; (try clear fz dz))
  | ((with_reducible refine' w_fldT tell_wt_w ?k1 ?k2 (cl_Waiting (by assumption)) (na_Waiting_weight (by assumption)) ?_); (case k1 => wtm_at "g_own"); (case k2 => wtm_at "g_pk"); intro dz fz; (try clear fz dz))
  | ((with_reducible refine' w_fldT tell_wt_i ?k1 ?k2 (cl_Waiting (by assumption)) (na_Waiting_item (by assumption)) ?_); (case k1 => wtm_at "g_own"); (case k2 => wtm_at "g_pk"); intro dz fz; (try clear fz dz))
  | ((with_reducible refine' w_mtT (tell_qu_m ln_FairQueue_octets) ?k1 ?k2 ?_); (case k1 => wtm_at "g_own"); (case k2 => wtm_at "g_pk"))
  | ((with_reducible refine' w_mtT (tell_qu_m ln_FairQueue_drop) ?k1 ?k2 ?_); (case k1 => wtm_at "g_own"); (case k2 => wtm_at "g_pk"))
  | ((with_reducible refine' w_mtT (tell_qu_m ln_FairQueue_turn) ?k1 ?k2 ?_); (case k1 => wtm_at "g_own"); (case k2 => wtm_at "g_pk"))
  | ((with_reducible refine' w_mtT (tell_qu_m ln_FairQueue_next_up) ?k1 ?k2 ?_); (case k1 => wtm_at "g_own"); (case k2 => wtm_at "g_pk"))
  | ((with_reducible refine' w_mtT (tell_qu_m ln_FairQueue_remove_flow) ?k1 ?k2 ?_); (case k1 => wtm_at "g_own"); (case k2 => wtm_at "g_pk"))
  | ((with_reducible refine' w_mtT (tell_fl_m ln_Flow_add) ?k1 ?k2 ?_); (case k1 => wtm_at "g_own"); (case k2 => wtm_at "g_pk"))
  | ((with_reducible refine' w_mtT (tell_fl_m ln_Flow_take) ?k1 ?k2 ?_); (case k1 => wtm_at "g_own"); (case k2 => wtm_at "g_pk"))
  | fail)
local macro_rules | `(tactic| wtm_at "g_call") => `(tactic| first
  | wtm_at "g_callf"
  | ((with_reducible refine' w_mtT (tell_qu_m ln_FairQueue_count) ?k1 ?k2 ?_); (case k1 => wtm_at "g_own"); (case k2 => wtm_at "g_pk"))
  | ((with_reducible refine' w_mtT (tell_qu_m ln_FairQueue_octets_of) ?k1 ?k2 ?_); (case k1 => wtm_at "g_own"); (case k2 => wtm_at "g_pk"))
  | ((with_reducible refine' w_mtT (tell_qu_m ln_FairQueue_flow_of) ?k1 ?k2 ?_); (case k1 => wtm_at "g_own"); (case k2 => wtm_at "g_pk"))
  | ((with_reducible refine' w_mtT (tell_qu_m ln_FairQueue_put) ?k1 ?k2 ?_); (case k1 => wtm_at "g_own"); (case k2 => wtm_at "g_pk"))
  | ((with_reducible refine' w_mtT (tell_qu_m ln_FairQueue_take) ?k1 ?k2 ?_); (case k1 => wtm_at "g_own"); (case k2 => wtm_at "g_pk"))
  | ((with_reducible refine' w_mtT (tell_qu_m ln_FairQueue_take_all) ?k1 ?k2 ?_); (case k1 => wtm_at "g_own"); (case k2 => wtm_at "g_pk"))
  | ((with_reducible refine' w_mtT (tell_qu_m ln_FairQueue_fork) ?k1 ?k2 ?_); (case k1 => wtm_at "g_own"); (case k2 => wtm_at "g_pk"))
  | ((with_reducible refine' w_mtT (tell_fl_m ln_Flow_fork) ?k1 ?k2 ?_); (case k1 => wtm_at "g_own"); (case k2 => wtm_at "g_pk"))
  | fail)
local macro_rules | `(tactic| wtm_at "g_own") => `(tactic| first
  | (with_reducible assumption)
  | ((with_reducible refine' Own.newT ?k1 ?k2); (case k1 => with_reducible assumption); (case k2 => wtm_at "g_own"))
  | ((with_reducible refine' Own.new ?k1 ?k2); (case k1 => with_reducible assumption); (case k2 => wtm_at "g_own"))
  | ((with_reducible refine' Own.put ?k1 ?k2); (case k1 => wtm_at "g_own"); (case k2 => wtm_at "g_put"))
  | ((with_reducible refine' Own.sel ?k1 ?k2); (case k1 => with_reducible assumption); (case k2 => wtm_at "g_sel"))
  | fail)
local macro_rules | `(tactic| wtm_at "g_sel") => `(tactic| first
  | (with_reducible exact Sel.rf) | (with_reducible exact Sel.nil)
  | ((with_reducible refine' Sel.cons ?k1 ?k2); (case k1 => wtm_at "g_pk"); (case k2 => wtm_at "g_sel"))
  | ((with_reducible refine' Sel.drop ?k1); (case k1 => wtm_at "g_sel"))
  | fail)
local macro_rules | `(tactic| wtm_at "g_got") => `(tactic| first
  | (with_reducible assumption) | (with_reducible exact Got.here)
  | ((with_reducible refine' Got.next ?k1); (case k1 => wtm_at "g_got"))
  | fail)
local macro_rules | `(tactic| wtm_at "g_gl") => `(tactic| first
  | (with_reducible assumption) | (with_reducible exact GotL.here) | (with_reducible exact GotL.hereS)
  | ((with_reducible refine' GotL.next ?k1); (case k1 => wtm_at "g_gl"))
  | fail)
local macro_rules | `(tactic| wtm_at "g_put") => `(tactic| first
  | (with_reducible assumption) | (with_reducible exact Put.here)
  | ((with_reducible refine' Put.next ?k1); (case k1 => wtm_at "g_put"))
  | fail)
local macro_rules | `(tactic| wtm_at "g_pk") => `(tactic| first
  | (with_reducible assumption) | (with_reducible exact Pick.keep) | (with_reducible exact Pick.here)
  | ((with_reducible refine' Pick.next ?k1); (case k1 => wtm_at "g_pk"))
  | fail)
local macro_rules | `(tactic| wtm_at "g_hp") => `(tactic| first
  | (with_reducible assumption) | (with_reducible exact upd_same)
  | ((with_reducible refine' Own.get ?k1 ?k2); (case k1 => wtm_at "g_own"); (case k2 => wtm_at "g_got"))
  | fail)
local macro_rules | `(tactic| wtm_at "g_sq") => `(tactic| first
  | (with_reducible assumption)
  | ((with_reducible refine' Own.sql ?k1 ?k2); (case k1 => wtm_at "g_own"); (case k2 => wtm_at "g_gl"))
  | ((with_reducible refine' SqL.of ?k1); (case k1 => wtm_at "g_hp"))
  | fail)
local macro_rules | `(tactic| wtm_at "g_sqt") => `(tactic| first
  | (with_reducible assumption) | ((with_reducible refine' SqT.of' ?k1); (case k1 => wtm_at "g_hp"))
  | fail)
local macro_rules | `(tactic| wtm_at "g_sz") => `(tactic| first
  | (with_reducible assumption) | (exact small_le rfl)
  | ((with_reducible refine' small16 ?k1); (case k1 => (try simp only [List.length_append, List.length_map, List.length_cons, List.length_nil, List.length_take, List.length_drop, List.length_set, List.length_range]); omega))
  | ((with_reducible refine' small16l ?k1); (case k1 => (try simp only [List.length_append, List.length_map, List.length_cons, List.length_nil, List.length_take, List.length_drop, List.length_set, List.length_range]); omega))
  | fail)
local macro_rules | `(tactic| wtm_at "g_gd") => `(tactic| first
  | (with_reducible assumption) | (with_reducible exact GotD.here) | (with_reducible exact GotD.hereR) | (with_reducible exact GotD.ints)
  | ((with_reducible refine' GotD.next ?k1); (case k1 => wtm_at "g_gd"))
  | fail)
local macro_rules | `(tactic| wtm_at "g_dp") => `(tactic| first
  | (with_reducible assumption)
  | ((with_reducible refine' Own.dpG ?k1 ?k2); (case k1 => wtm_at "g_own"); (case k2 => wtm_at "g_gd"))
  | fail)
local macro_rules | `(tactic| wtm_at "g_ar") => `(tactic| first
  | decide | (exact ⟨by decide, by decide⟩) | (exact Or.inr ⟨by decide, by decide⟩) | (exact Or.inl ⟨by decide, by decide⟩) | omega | (exact Or.inr ⟨by omega, by omega⟩) | (exact Or.inl ⟨by omega, by omega⟩) | (exact ⟨by omega, by omega⟩)
  | fail)
local macro_rules | `(tactic| wtm_at "g_ow") => `(tactic| first
  | wtm_at "g_own"
  | ((simp only [List.map_cons, List.map_nil]); wtm_at "g_own")
  | fail)
local macro_rules | `(tactic| wtm_at "g_callc") => `(tactic| first
  | ((with_reducible refine' o_digit ?k1 ?k2 ?k3 ?k4 ?_); (case k1 => wtm_at "g_own"); (case k2 => wtm_at "g_pk"); (case k3 => omega); (case k4 => omega); intro d HH d0 d1 ww)
  | ((with_reducible refine' o_start ?k1 ?_); (case k1 => wtm_at "g_own"); intro p HH ww)
  | ((with_reducible refine' c_cell ?k1 ?k2 ?_); (case k1 => wtm_at "g_sq"); (case k2 => omega); intro n)
  | ((with_reducible refine' c_isint ?_))
  | fail)
local macro_rules | `(tactic| wtm_at "g_st") => `(tactic| first
  | (with_reducible first
      | refine w_seq ?_ | refine w_asg ?_ | refine w_nm ?_ | refine w_next ?_ | refine w_if ?_ | refine w_ret ?_ | refine w_retN ?_ | refine w_drop ?_
      | refine w_var rfl ?_ | refine w_c ?_ | refine w_op ?_ | refine w_I0 ?_
      | refine w_eqI ?_ | refine w_neI ?_ | refine w_eqB ?_ | refine w_neB ?_ | refine w_eqS ?_ | refine w_neS ?_ | refine w_isN0 ?_ | refine w_isNi ?_ | refine w_isNr ?_ | refine w_isNb ?_ | refine w_isNs ?_ | refine w_notN0 ?_ | refine w_notNi ?_ | refine w_notNr ?_ | refine w_notNb ?_ | refine w_notNs ?_ | refine w_isN ?_ | refine w_notN ?_ | refine w_isB ?_ | refine w_notB ?_
      | refine w_un ?_ | refine w_U ?_ | refine w_chain ?_ | refine w_k ?_ | refine w_test ?_ | refine w_tB ?_ | refine w_tru ?_ | refine w_not ?_ | refine w_and ?_ | refine w_or ?_
      | refine w_andV ?_ | refine w_orV ?_ | refine w_notV ?_ | refine w_ife ?_ | refine w_nil ?_ | refine w_cons ?_ | refine w_tupK ?_ | refine w_lstK ?_ | refine w_small rfl ?_
      | refine w_call ?_ | refine w_mkQ ?_ | refine w_mt ?_ | refine k_ini ?_ | refine w_cb ?_ | refine w_min2 ?_ | refine w_max2 ?_ | refine w_abs ?_ | refine w_int ?_ | refine w_intb ?_
      | refine w_fld0 ?_ | refine w_bm ?_ | refine w_bm0 ?_ | refine w_sub ?_ | refine w_sfldQ ?_ | refine w_sfaQ ?_ | refine w_delQ ?_ | refine k_whT ?_ | refine w_radd ?_ | refine w_rsub ?_ | refine w_ip ?_ | refine w_rs ?_ | refine w_pr ?_
      | refine w_lcR1 ?_ | refine w_lcR2 ?_ | refine w_lcL ?_ | refine w_lcT ?_ | refine w_yes ?_ | refine w_disp ?_ | refine w_prs ?_ | refine w_prn ?_ | refine w_dget ?_ | refine w_sl ?_ | refine w_nopart ?_ | refine w_part ?_ | refine w_pint ?_
      | refine w_for3 ?_ | refine w_mkKQ ?_ | refine w_forR1 ?_ | refine w_forR2 ?_ | refine w_forL ?_ | refine w_forT ?_ | refine w_aug rfl ?_ | refine w_par ?_ | refine w_brk ?_ | refine w_cont ?_
      | refine w_isi_ii ?_ | refine w_isi_ib ?_ | refine w_isi_bi ?_ | refine w_isi_bb ?_ | refine w_isi_ss ?_ | refine w_isi_is ?_ | refine w_isi_il ?_ | refine w_isi_it ?_ | refine w_isi_sl ?_ | refine w_isi_st ?_ | refine w_isi_nl ?_ | refine w_isi_nt ?_
      | refine if_T ?_ | refine if_F ?_ | refine if_nT ?_ | refine if_nF ?_)
  | ((with_reducible refine' k_tup rfl ?k1 ?_); (case k1 => wtm_at "g_own"); intro p HH ww)
  | ((with_reducible refine' k_lst1R ?k1 ?_); (case k1 => wtm_at "g_own"); intro p HH ww)
  | ((with_reducible refine' k_lst1I ?k1 ?_); (case k1 => wtm_at "g_own"); intro p HH ww)
  | ((with_reducible refine' k_lst rfl ?k1 ?_); (case k1 => wtm_at "g_own"); intro p HH ww)
  | ((with_reducible refine' k_mk ?k1 ?_); (case k1 => wtm_at "g_own"); intro p dx HH ww)
  | wtm_at "g_mkk"
  | ((with_reducible refine' k_listL ?k1 ?k2 ?_); (case k1 => wtm_at "g_own"); (case k2 => wtm_at "g_sq"); intro p HH ww)
  | ((with_reducible refine' k_listT ?k1 ?k2 ?_); (case k1 => wtm_at "g_own"); (case k2 => wtm_at "g_sqt"); intro p HH ww)
  | ((with_reducible refine' k_tupL ?k1 ?k2 ?_); (case k1 => wtm_at "g_own"); (case k2 => wtm_at "g_sq"); intro p HH ww)
  | ((with_reducible refine' k_slfromRs ?k1 ?k2 ?_); (case k1 => wtm_at "g_own"); (case k2 => wtm_at "g_sq"); intro p HH ww)
  | ((with_reducible refine' k_slfromR1 ?k1 ?k2 ?_); (case k1 => wtm_at "g_own"); (case k2 => wtm_at "g_sq"); intro p HH ww)
  | ((with_reducible refine' k_slfromRn ?k1 ?k2 ?_); (case k1 => wtm_at "g_own"); (case k2 => wtm_at "g_sq"); intro p HH ww)
  | ((with_reducible refine' k_sltoR1 ?k1 ?k2 ?_); (case k1 => wtm_at "g_own"); (case k2 => wtm_at "g_sq"); intro p HH ww)
  | ((with_reducible refine' k_sltoRn ?k1 ?k2 ?_); (case k1 => wtm_at "g_own"); (case k2 => wtm_at "g_sq"); intro p HH ww)
  | ((with_reducible refine' k_slfromIs ?k1 ?k2 ?_); (case k1 => wtm_at "g_own"); (case k2 => wtm_at "g_sq"); intro p HH ww)
  | ((with_reducible refine' k_slfromI1 ?k1 ?k2 ?_); (case k1 => wtm_at "g_own"); (case k2 => wtm_at "g_sq"); intro p HH ww)
  | ((with_reducible refine' k_slfromIn ?k1 ?k2 ?_); (case k1 => wtm_at "g_own"); (case k2 => wtm_at "g_sq"); intro p HH ww)
  | ((with_reducible refine' k_sltoI1 ?k1 ?k2 ?_); (case k1 => wtm_at "g_own"); (case k2 => wtm_at "g_sq"); intro p HH ww)
  | ((with_reducible refine' k_sltoIn ?k1 ?k2 ?_); (case k1 => wtm_at "g_own"); (case k2 => wtm_at "g_sq"); intro p HH ww)
  | ((with_reducible refine' k_slfromI ?k1 ?k2 ?k3 ?_); (case k1 => wtm_at "g_own"); (case k2 => wtm_at "g_sq"); (case k3 => omega); intro p HH ww)
  | ((with_reducible refine' k_sltoI ?k1 ?k2 ?k3 ?_); (case k1 => wtm_at "g_own"); (case k2 => wtm_at "g_sq"); (case k3 => omega); intro p HH ww)
  | ((with_reducible refine' k_slmidI ?k1 ?k2 ?k3 ?k4 ?_); (case k1 => wtm_at "g_own"); (case k2 => wtm_at "g_sq"); (case k3 => omega); (case k4 => omega); intro p HH ww)
  | ((with_reducible refine' k_catI ?k1 ?k2 ?k3 ?k4 ?_); (case k1 => wtm_at "g_own"); (case k2 => wtm_at "g_got"); (case k3 => wtm_at "g_got"); (case k4 => wtm_at "g_sz"); intro p HH ww)
  | ((with_reducible refine' k_catR ?k1 ?k2 ?k3 ?k4 ?_); (case k1 => wtm_at "g_own"); (case k2 => wtm_at "g_got"); (case k3 => wtm_at "g_got"); (case k4 => wtm_at "g_sz"); intro p HH ww)
  | ((with_reducible refine' k_slfromR ?k1 ?k2 ?k3 ?_); (case k1 => wtm_at "g_own"); (case k2 => wtm_at "g_sq"); (case k3 => omega); intro p HH ww)
  | ((with_reducible refine' k_sltoR ?k1 ?k2 ?k3 ?_); (case k1 => wtm_at "g_own"); (case k2 => wtm_at "g_sq"); (case k3 => omega); intro p HH ww)
  | ((with_reducible refine' k_appI ?k1 ?k2 ?k3 ?_); (case k1 => wtm_at "g_own"); (case k2 => wtm_at "g_put"); (case k3 => wtm_at "g_sz"); intro HH ww)
  | ((with_reducible refine' k_appR ?k1 ?k2 ?k3 ?_); (case k1 => wtm_at "g_own"); (case k2 => wtm_at "g_put"); (case k3 => wtm_at "g_sz"); intro HH ww)
  | ((with_reducible refine' k_extendI ?k1 ?k2 ?k3 ?k4 ?_); (case k1 => wtm_at "g_own"); (case k2 => wtm_at "g_put"); (case k3 => wtm_at "g_got"); (case k4 => wtm_at "g_sz"); intro HH ww)
  | ((with_reducible refine' k_slfrom ?k1 ?k2 ?k3 ?_); (case k1 => wtm_at "g_own"); (case k2 => wtm_at "g_sq"); (case k3 => omega); intro p HH ww)
  | ((with_reducible refine' k_slto ?k1 ?k2 ?k3 ?_); (case k1 => wtm_at "g_own"); (case k2 => wtm_at "g_sq"); (case k3 => omega); intro p HH ww)
  | ((with_reducible refine' k_slmid ?k1 ?k2 ?k3 ?k4 ?_); (case k1 => wtm_at "g_own"); (case k2 => wtm_at "g_sq"); (case k3 => omega); (case k4 => omega); intro p HH ww)
  | ((with_reducible refine' k_cat ?k1 ?k2 ?k3 ?k4 ?_); (case k1 => wtm_at "g_own"); (case k2 => wtm_at "g_got"); (case k3 => wtm_at "g_got"); (case k4 => wtm_at "g_sz"); intro p HH ww)
  | ((with_reducible refine' k_app ?k1 ?k2 ?k3 ?_); (case k1 => wtm_at "g_own"); (case k2 => wtm_at "g_put"); (case k3 => wtm_at "g_sz"); intro HH ww)
  | ((with_reducible refine' ty_list ?k1 ?_); (case k1 => wtm_at "g_hp"))
  | ((with_reducible refine' k_truR ?k1 ?_); (case k1 => wtm_at "g_sq"))
  | ((with_reducible refine' k_truI ?k1 ?_); (case k1 => wtm_at "g_sq"))
  | ((with_reducible refine' k_truL ?k1 ?_); (case k1 => wtm_at "g_sq"))
  | ((with_reducible refine' w_lenLI ?k1 ?_); (case k1 => wtm_at "g_sq"))
  | ((with_reducible refine' w_lenLR ?k1 ?_); (case k1 => wtm_at "g_sq"))
  | ((with_reducible refine' w_ixT ?k1 ?k2 ?_); (case k1 => wtm_at "g_sqt"); (case k2 => first | rfl | fail))
  | ((with_reducible refine' w_ixRc ?k1 ?_); (case k1 => wtm_at "g_sq"))
  | ((with_reducible refine' w_ixR0 ?k1 ?k2 ?_); (case k1 => wtm_at "g_sq"); (case k2 => with_reducible assumption))
  | ((with_reducible refine' w_ixR ?k1 ?k2 ?_); (case k1 => wtm_at "g_sq"); (case k2 => with_reducible assumption))
  | ((with_reducible refine' w_ixLastR ?k1 ?k2 ?_); (case k1 => wtm_at "g_sq"); (case k2 => with_reducible assumption))
  | ((with_reducible refine' k_slinitR ?k1 ?k2 ?_); (case k1 => wtm_at "g_own"); (case k2 => wtm_at "g_sq"); intro p HH ww)
  | ((with_reducible refine' w_gTup ?k1 ?k2 ?_); (case k1 => wtm_at "g_sqt"); (case k2 => rfl))
  | (with_reducible refine w_gCons ?_)
  | (with_reducible refine w_gNil ?_)
  | ((with_reducible refine' w_ixI ?k1 ?k2 ?k3 ?_); (case k1 => wtm_at "g_sq"); (case k2 => omega); (case k3 => omega))
  | ((with_reducible refine' w_I ?k1 ?_); (case k1 => wtm_at "g_ar"))
  | ((with_reducible refine' k_reverse ?k1 ?k2 ?_); (case k1 => wtm_at "g_own"); (case k2 => wtm_at "g_put"); intro HH ww)
  | ((with_reducible refine' w_lenL ?k1 ?_); (case k1 => wtm_at "g_sq"))
  | ((with_reducible refine' w_lenT ?k1 ?_); (case k1 => wtm_at "g_sqt"))
  | ((with_reducible refine' w_isi_ll ?k1 ?_); (case k1 => wtm_at "g_hp"))
  | ((with_reducible refine' w_isi_tt ?k1 ?_); (case k1 => wtm_at "g_hp"))
  | ((with_reducible refine' w_isi_lt ?k1 ?_); (case k1 => wtm_at "g_hp"))
  | ((with_reducible refine' w_isi_tl ?k1 ?_); (case k1 => wtm_at "g_hp"))
  | ((with_reducible refine' w_ll ?k1 ?k2 ?_); (case k1 => rfl); (case k2 => rfl))
  | wtm_at "g_get"
  | wtm_at "g_mt"
  | wtm_at "g_set"
  | wtm_at "g_set2"
  | wtm_at "g_call"
  | wtm_at "g_callc"
  | fail)
local macro_rules | `(tactic| wtm_at "g_go") => `(tactic| repeat wtm_at "g_st")
local macro_rules | `(tactic| wtm_at "g_ifo") => `(tactic| first
  | (refine if_nno rfl ?_) | (refine if_yes rfl ?_)
  | (refine if_no (by omega) ?_)
  | (refine if_yes (by omega) ?_)
  | (refine if_nno (by omega) ?_)
  | (refine if_nyes (by omega) ?_)
  | (refine if_nno (decide_eq_false (by omega)).symm ?_)
  | (refine if_nno (decide_eq_true (by omega)).symm ?_)
  | fail)
local macro_rules | `(tactic| wtm_at "g_goo") => `(tactic| repeat (first | wtm_at "g_st" | wtm_at "g_ifo"))
section
variable {K : PySem.W.Frag} {mg : Str → Option Value} {base : Heap}
theorem flt_take {α : Type} {P : α → Bool} {xs : List α} {i : Nat} {x : α} (h : xs[i]? = some x) : (xs.take (i + 1)).filter P = (xs.take i).filter P ++ if P x = true then [x] else [] := by
  rw [List.take_add_one, h, List.filter_append]
  congr 1
  show [x].filter P = _
  rw [List.filter_cons, List.filter_nil]
theorem keep_comp {σ : L2.St} {H : Hp} {Q : VK} {v0 : Nat} {tt : TT} {l : Addr} {ts : List Addr} {xs : List Wt} {P : Wt → Bool} {L L1 R : List HP} {c : Bool} (hv : v0 < σ.length) (hn : xs.length ≤ 1000000) (w : Own L H) (p1 : Pick L (cell c l (.lst (ts.map V.ref))) L1) (p2 : Pick L1 (big RtP ts xs) R)
    (ht : ∀ (a : Addr) (x : Wt) (X1 X2 : HP) (H1 : Hp) (B : Bool → Hp → Prop), x ∈ xs → Own (RtP a x :: X1 :: X2 :: cell c l (.lst (ts.map V.ref)) :: big RtP ts xs :: R) H1 → (∀ H2, Own (X1 :: X2 :: cell c l (.lst (ts.map V.ref)) :: big RtP ts xs :: R) H2 → B (P x) H2) → tt ((σ.set v0 none).set v0 (some (.ref a))) H1 B)
    (q : ∀ D ts' H', Own (pt D (.lst (ts'.map V.ref)) :: big RtP ts' (xs.filter P) :: cell c l (.lst (ts.map V.ref)) :: big RtP ts xs :: R) H' → Q (.ref D) H') : rLcL K (gName v0) tt (tVar v0) [v0] σ Q (.ref l) H := by
  have w1 := w.take2 p1 p2
  have hlen := w1.swap.bigLen
  refine lcLFO (fun i A L => ∃ ts' : List Addr, A = ts'.map V.ref ∧ ts'.length ≤ i ∧ L = big RtP ts' ((xs.take i).filter P) :: cell c l (.lst (ts.map V.ref)) :: big RtP ts xs :: R) (Own.bigNil w1) ⟨[], rfl, Nat.le_refl _, rfl⟩ ?_ (w1.sql .here) ?_ ?_
  · rintro i A L D H' ⟨ts', rfl, hts, rfl⟩ w'
    exact w'.sql (.next (.next .here))
  · rintro i y D A L H1 hy ⟨ts', rfl, hts, rfl⟩ w'
    obtain ⟨a, ha, rfl⟩ := map_ref_at hy
    obtain ⟨x, hx⟩ := at_of_len ha hlen
    have hil := (List.getElem?_eq_some_iff.mp ha).1
    have w2 := (w'.pick (.next (.next (.next .here)))).bigAt ha hx
    refine ht a x (pt D (.lst (ts'.map V.ref))) (big RtP ts' ((xs.take i).filter P)) H1 _ (List.mem_of_getElem? hx) (Own.sel w2 (Sel.cons .here (Sel.cons (.next .here) (Sel.cons (.next .here) (Sel.cons (.next .here) (Sel.cons .here .rf)))))) fun H2 w3 => ?_
    cases hP : P x with
    | true =>
      rw [if_pos rfl]
      have w4 := (w3.pick (.next (.next (.next .here)))).bigAt ha hx
      have w5 : Own (big RtP ts' ((xs.take i).filter P) :: RtP a x :: pt D (.lst (ts'.map V.ref)) :: cell c l (.lst (ts.map V.ref)) :: big RtP ts xs :: R) H2 := Own.sel w4 (Sel.cons (.next (.next (.next .here))) (Sel.cons .here (Sel.cons (.next .here) (Sel.cons (.next .here) (Sel.cons .here .rf)))))
      have w6 := w5.bigSnoc
      refine w_var (v := V.ref a) (by rw [List.getElem?_set_self (by rw [List.length_set]; exact hv)]) ?_
      refine lc_addO (A := ts'.map V.ref) (R := big RtP (ts' ++ [a]) ((xs.take (i + 1)).filter P) :: cell c l (.lst (ts.map V.ref)) :: big RtP ts xs :: R) (L := pt D (.lst (ts'.map V.ref)) :: big RtP (ts' ++ [a]) ((xs.take (i + 1)).filter P) :: cell c l (.lst (ts.map V.ref)) :: big RtP ts xs :: R) ?_ .here (by rw [List.length_map]; exact small16l (by omega)) ⟨ts' ++ [a], by rw [List.map_append]; rfl, by rw [List.length_append]; simp only [List.length_cons, List.length_nil]; omega, rfl⟩
      rw [flt_take hx, if_pos hP]
      exact w6.swap
    | false =>
      rw [if_neg (by simp)]
      refine lc_skipO w3 .here ⟨ts', rfl, by omega, ?_⟩
      rw [flt_take hx, if_neg (by rw [hP]; decide), List.append_nil]
  · rintro D A L H1 ⟨ts', rfl, hts, rfl⟩ w'
    rw [List.length_map, hlen, List.take_length] at w'
    exact q D ts' H1 w'
theorem sum_comp {σ : L2.St} {H : Hp} {Q : VK} {v0 : Nat} {tt : TT} {l : Addr} {ts : List Addr} {xs : List Wt} {P : Wt → Bool} {L L1 R : List HP} {c : Bool} (hv : v0 < σ.length) (hn : xs.length ≤ 1000000) (w : Own L H) (p1 : Pick L (cell c l (.lst (ts.map V.ref))) L1) (p2 : Pick L1 (big RtP ts xs) R)
    (ht : ∀ (a : Addr) (x : Wt) (X1 X2 : HP) (H1 : Hp) (B : Bool → Hp → Prop), x ∈ xs → Own (RtP a x :: X1 :: X2 :: cell c l (.lst (ts.map V.ref)) :: big RtP ts xs :: R) H1 → (∀ H2, Own (X1 :: X2 :: cell c l (.lst (ts.map V.ref)) :: big RtP ts xs :: R) H2 → B (P x) H2) → tt ((σ.set v0 none).set v0 (some (.ref a))) H1 B)
    (q : ∀ D H', Own (pt D (.lst (((xs.filter P).map (·.w)).map V.int)) :: cell c l (.lst (ts.map V.ref)) :: big RtP ts xs :: R) H' → Q (.ref D) H') : rLcL K (gName v0) tt (tOp (rIxT K) (tVar v0) (tC (.int 2))) [v0] σ Q (.ref l) H := by
  have w1 := w.take2 p1 p2
  have hlen := w1.swap.bigLen
  refine lcLFO (fun i A L => A = (((xs.take i).filter P).map (·.w)).map V.int ∧ L = cell c l (.lst (ts.map V.ref)) :: big RtP ts xs :: R) w1 ⟨rfl, rfl⟩ ?_ (w1.sql .here) ?_ ?_
  · rintro i A L D H' ⟨rfl, rfl⟩ w'
    exact w'.sql (.next .here)
  · rintro i y D A L H1 hy ⟨rfl, rfl⟩ w'
    obtain ⟨a, ha, rfl⟩ := map_ref_at hy
    obtain ⟨x, hx⟩ := at_of_len ha hlen
    have hil := (List.getElem?_eq_some_iff.mp ha).1
    have w2 := (w'.pick (.next (.next .here))).bigAt ha hx
    have w2' := Own.bigNil (f := RtP) w2
    refine ht a x (pt D (.lst ((((xs.take i).filter P).map (·.w)).map V.int))) (big RtP [] []) H1 _ (List.mem_of_getElem? hx) (Own.sel w2' (Sel.cons (.next .here) (Sel.cons (.next (.next .here)) (Sel.cons .here (Sel.cons (.next .here) (Sel.cons .here .rf)))))) fun H2 w3 => ?_
    have hfl : ((xs.take i).filter P).length ≤ i := Nat.le_trans (List.length_filter_le _ _) (by rw [List.length_take]; omega)
    cases hP : P x with
    | true =>
      rw [if_pos rfl]
      obtain ⟨ka, h1, _⟩ := (w3.pick (.next (.next (.next .here)))).bigTell ha hx tell_rt
      refine w_op (w_var (v := V.ref a) (by rw [List.getElem?_set_self (by rw [List.length_set]; exact hv)]) (w_c (w_ixT (SqT.of' h1) rfl ?_)))
      refine lc_addO (w3.restS (M := cell c l (.lst (ts.map V.ref)) :: big RtP ts xs :: R) (.drop .rf)) .here (by rw [List.length_map, List.length_map]; exact small16l (by omega)) ⟨?_, rfl⟩
      rw [flt_take hx, if_pos hP, List.map_append, List.map_append]
      rfl
    | false =>
      rw [if_neg (by simp)]
      refine lc_skipO (w3.restS (M := cell c l (.lst (ts.map V.ref)) :: big RtP ts xs :: R) (.drop .rf)) .here ⟨?_, rfl⟩
      rw [flt_take hx, if_neg (by rw [hP]; decide), List.append_nil]
  · rintro D A L H1 ⟨rfl, rfl⟩ w'
    rw [List.length_map, hlen, List.take_length] at w'
    exact q D H1 w'
/-- the rows of waiting items -/
theorem row_comp {σ : L2.St} {H : Hp} {Q : VK} {v0 : Nat} {l : Addr} {ws : List Addr} {xs : List Wt} {L L1 R : List HP} {c : Bool} (hv : v0 < σ.length) (hn : xs.length ≤ 1000000) (w : Own L H) (p1 : Pick L (cell c l (.lst (ws.map V.ref))) L1) (p2 : Pick L1 (big (WtP K) ws xs) R)
    (q : ∀ D ts H', Own (pt D (.lst (ts.map V.ref)) :: big RtP ts xs :: R) H' → Q (.ref D) H') : rLcL K (gName v0) tYes (tCallS (sp_law_row K) (fun _ => E0) (tCons (tVar v0) tNil)) [v0] σ Q (.ref l) H := by
  have w1 := w.take2 p1 p2
  have hlen := w1.swap.bigLen
  refine lcLO (fun i A L => ∃ ts : List Addr, A = ts.map V.ref ∧ ts.length = i ∧ L = big RtP ts (xs.take i) :: cell c l (.lst (ws.map V.ref)) :: big (WtP K) ws xs :: R) (Own.bigNil w1) ⟨[], rfl, rfl, rfl⟩ ?_ (w1.sql .here) ?_ ?_
  · rintro i A L D H' ⟨ts, rfl, hts, rfl⟩ w'
    exact w'.sql (.next (.next .here))
  · rintro i y D A L H1 hy ⟨ts, rfl, hts, rfl⟩ w'
    obtain ⟨a, ha, rfl⟩ := map_ref_at hy
    obtain ⟨f, hf⟩ := at_of_len ha hlen
    have hil := (List.getElem?_eq_some_iff.mp ha).1
    have w2 := (w'.pick (.next (.next (.next .here)))).bigAt ha hf
    refine ⟨.ref a, ?_, a, f, _, rfl, w2, fun H2 b w3 => ?_⟩
    · rw [List.getElem?_set_self (by rw [List.length_set]; exact hv)]
    · have w4 : Own (big RtP ts (xs.take i) :: RtP b f :: pt D (.lst (ts.map V.ref)) :: cell c l (.lst (ws.map V.ref)) :: big (WtP K) ws xs :: R) H2 := Own.sel w3 (Sel.cons (.next (.next (.next .here))) (Sel.cons .here (Sel.cons (.next .here) (Sel.cons (.next .here) (Sel.cons .here .rf)))))
      have w5 := w4.bigSnoc
      refine lc_addO (A := ts.map V.ref) (R := big RtP (ts ++ [b]) (xs.take (i + 1)) :: cell c l (.lst (ws.map V.ref)) :: big (WtP K) ws xs :: R) (L := pt D (.lst (ts.map V.ref)) :: big RtP (ts ++ [b]) (xs.take (i + 1)) :: cell c l (.lst (ws.map V.ref)) :: big (WtP K) ws xs :: R) ?_ .here (by rw [List.length_map]; exact small16l (by omega)) ⟨ts ++ [b], by rw [List.map_append]; rfl, by rw [List.length_append, hts]; rfl, rfl⟩
      rw [List.take_add_one, hf]
      exact w5.swap
  · rintro D A L H1 ⟨ts, rfl, hts, rfl⟩ w'
    rw [List.length_map, hlen, List.take_length] at w'
    exact q D ts H1 (Own.sel w' (Sel.cons .here (Sel.cons .here (.drop (.drop .rf)))))
/-! ### the rows as data -/
def rwD (x : Wt) : PyData := .tuple [.int (num x), kD x.k, .int x.w]
structure GR (x : Wt) : Prop where
  k : ∃ d, x.k = [.inr "flow", .inl d]
  i : x.i = .int (num x)
theorem key_ok (d : Int) : kOk [.inr "flow", .inl d] := by
  unfold kOk kD SeqAt.shaped
  have : PyData.strOk "flow" = true := by decide +kernel
  simp [kDat, PyData.canLay0, PyData.canLayAll0, PyData.depth, PyData.depthAll, this]
theorem GR.ok {x : Wt} (h : GR x) : kOk x.k := by
  obtain ⟨d, e⟩ := h.k
  rw [e]
  exact key_ok d
theorem JX.gr {fs : List Fl} {rows : List Wt} (h : JX fs rows) : ∀ r ∈ rows, GR r := fun r hr => ⟨h.rk r hr, h.it r hr⟩
theorem rwD_lay {x : Wt} (h : GR x) : (rwD x).canLay0 = true := by
  have := SeqAt.canLay_of_shaped h.ok
  simp [rwD, PyData.canLay0, PyData.canLayAll0, this]
theorem rwD_depth {x : Wt} (h : GR x) : (rwD x).depth ≤ 63 := by
  obtain ⟨d, e⟩ := h.k
  simp [rwD, kD, e, kDat, PyData.depth, PyData.depthAll]
theorem rws_shaped {l : List Wt} (h : ∀ x ∈ l, GR x) : SeqAt.shaped (.list (l.map rwD)) = true := shaped_lm (fun x hx => rwD_lay (h x hx)) (fun x hx => rwD_depth (h x hx))
theorem rw_shaped {x : Wt} (h : GR x) : SeqAt.shaped (rwD x) = true := shaped_of (rwD_lay h) (Nat.le_succ_of_le (rwD_depth h))
theorem tell_rtD {t : Addr} {x : Wt} (h : GR x) : Tell (RtP t x) (fun H => Dp K H (.ref t) (rwD x)) := fun hp z H e => by
  obtain ⟨ka, e1, e2⟩ := tell_rt hp z H e
  rw [h.i] at e1
  exact .tup (SqT.of' e1) (.cons (.int _) (.cons (.tup (SqT.of' e2) (dp_kds _)) (.cons (.int _) .nil)))
theorem dpAll_of {H : Hp} {α β : Type} {f : α → V} {g : β → PyData} : ∀ {as : List α} {bs : List β}, as.length = bs.length → (∀ (i : Nat) a b, as[i]? = some a → bs[i]? = some b → Dp K H (f a) (g b)) → DpAll K H (as.map f) (bs.map g)
  | [], [], _, _ => .nil
  | a :: as, b :: bs, e, h => .cons (h 0 a b rfl rfl) (dpAll_of (Nat.succ.inj e) fun i x y hx hy => h (i + 1) x y hx hy)
  | [], _ :: _, e, _ => nomatch e
  | _ :: _, [], e, _ => nomatch e
theorem rws_dp {L : List HP} {H : Hp} {l : Addr} {c : Bool} {ts : List Addr} {xs : List Wt} (h : ∀ x ∈ xs, GR x) (w : Own (cell c l (.lst (ts.map V.ref)) :: big RtP ts xs :: L) H) : Dp K H (.ref l) (.list (xs.map rwD)) := by
  have hl := w.swap.bigLen
  exact .lst (SqL.of w.get') (dpAll_of hl fun i a b ha hb => w.swap.bigTell ha hb (tell_rtD (h b (List.mem_of_getElem? hb))))
theorem eqv_rw {fs : List Fl} {rows : List Wt} (h : JX fs rows) {a b : Wt} (ha : a ∈ rows) (hb : b ∈ rows) : PyData.eqv (rwD a) (rwD b) = decide (num a = num b) := by
  by_cases e : num a = num b
  · rw [h.inj ha hb e, eqv_self (rw_shaped (h.gr b hb))]
    simp
  · show (PyData.eqv (.int (num a)) (.int (num b)) && _) = _
    rw [decide_eq_false e]
    have : PyData.eqv (.int (num a)) (.int (num b)) = false := by
      show decide (num a = num b) = false
      exact decide_eq_false e
    rw [this]
    rfl
end
end K81

namespace K81
open PySem PySem.Spec PyProof.Rows L2 G
local macro_rules | `(tactic| wtm_at "g_get") => `(tactic| first
  | ((with_reducible refine' w_fld ?k1 (cl_Waiting (by assumption)) (na_Waiting_key (by assumption)) lk_Waiting_key ?_); (case k1 => wtm_at "g_hp"))
  | ((with_reducible refine' w_fld ?k1 (cl_Waiting (by assumption)) (na_Waiting_item (by assumption)) lk_Waiting_item ?_); (case k1 => wtm_at "g_hp"))
  | ((with_reducible refine' w_fld ?k1 (cl_Waiting (by assumption)) (na_Waiting_weight (by assumption)) lk_Waiting_weight ?_); (case k1 => wtm_at "g_hp"))
  | ((with_reducible refine' w_fld ?k1 (cl_Flow (by assumption)) (na_Flow_key (by assumption)) lk_Flow_key ?_); (case k1 => wtm_at "g_hp"))
  | ((with_reducible refine' w_fld ?k1 (cl_Flow (by assumption)) (na_Flow_rows (by assumption)) lk_Flow_rows ?_); (case k1 => wtm_at "g_hp"))
  | ((with_reducible refine' w_fld ?k1 (cl_Flow (by assumption)) (na_Flow_octets (by assumption)) lk_Flow_octets ?_); (case k1 => wtm_at "g_hp"))
  | ((with_reducible refine' w_fld ?k1 (cl_Flow (by assumption)) (na_Flow_credit (by assumption)) lk_Flow_credit ?_); (case k1 => wtm_at "g_hp"))
  | ((with_reducible refine' w_fld ?k1 (cl_FairQueue (by assumption)) (na_FairQueue_limit (by assumption)) lk_FairQueue_limit ?_); (case k1 => wtm_at "g_hp"))
  | ((with_reducible refine' w_fld ?k1 (cl_FairQueue (by assumption)) (na_FairQueue_quantum (by assumption)) lk_FairQueue_quantum ?_); (case k1 => wtm_at "g_hp"))
  | ((with_reducible refine' w_fld ?k1 (cl_FairQueue (by assumption)) (na_FairQueue_flows (by assumption)) lk_FairQueue_flows ?_); (case k1 => wtm_at "g_hp"))
  | ((with_reducible refine' w_fld ?k1 (cl_FairQueue (by assumption)) (na_FairQueue_granted (by assumption)) lk_FairQueue_granted ?_); (case k1 => wtm_at "g_hp"))
  | fail)
local macro_rules | `(tactic| wtm_at "g_set") => `(tactic| first
  | ((with_reducible refine' k_fld ?k1 ?k2 (cl_Waiting (by assumption)) (na_Waiting_key (by assumption)) pt_Waiting_key rfl ?_); (case k1 => wtm_at "g_own"); (case k2 => wtm_at "g_put"); intro HH ww)
  | ((with_reducible refine' k_fld ?k1 ?k2 (cl_Waiting (by assumption)) (na_Waiting_key (by assumption)) pn_Waiting_key rfl ?_); (case k1 => wtm_at "g_own"); (case k2 => wtm_at "g_put"); intro HH ww)
  | ((with_reducible refine' k_fld ?k1 ?k2 (cl_Waiting (by assumption)) (na_Waiting_item (by assumption)) pt_Waiting_item rfl ?_); (case k1 => wtm_at "g_own"); (case k2 => wtm_at "g_put"); intro HH ww)
  | ((with_reducible refine' k_fld ?k1 ?k2 (cl_Waiting (by assumption)) (na_Waiting_item (by assumption)) pn_Waiting_item rfl ?_); (case k1 => wtm_at "g_own"); (case k2 => wtm_at "g_put"); intro HH ww)
  | ((with_reducible refine' k_fld ?k1 ?k2 (cl_Waiting (by assumption)) (na_Waiting_weight (by assumption)) pt_Waiting_weight rfl ?_); (case k1 => wtm_at "g_own"); (case k2 => wtm_at "g_put"); intro HH ww)
  | ((with_reducible refine' k_fld ?k1 ?k2 (cl_Waiting (by assumption)) (na_Waiting_weight (by assumption)) pn_Waiting_weight rfl ?_); (case k1 => wtm_at "g_own"); (case k2 => wtm_at "g_put"); intro HH ww)
  | ((with_reducible refine' k_fld ?k1 ?k2 (cl_Flow (by assumption)) (na_Flow_key (by assumption)) pt_Flow_key rfl ?_); (case k1 => wtm_at "g_own"); (case k2 => wtm_at "g_put"); intro HH ww)
  | ((with_reducible refine' k_fld ?k1 ?k2 (cl_Flow (by assumption)) (na_Flow_key (by assumption)) pn_Flow_key rfl ?_); (case k1 => wtm_at "g_own"); (case k2 => wtm_at "g_put"); intro HH ww)
  | ((with_reducible refine' k_fld ?k1 ?k2 (cl_Flow (by assumption)) (na_Flow_rows (by assumption)) pt_Flow_rows rfl ?_); (case k1 => wtm_at "g_own"); (case k2 => wtm_at "g_put"); intro HH ww)
  | ((with_reducible refine' k_fld ?k1 ?k2 (cl_Flow (by assumption)) (na_Flow_rows (by assumption)) pn_Flow_rows rfl ?_); (case k1 => wtm_at "g_own"); (case k2 => wtm_at "g_put"); intro HH ww)
  | ((with_reducible refine' k_fld ?k1 ?k2 (cl_Flow (by assumption)) (na_Flow_octets (by assumption)) pt_Flow_octets rfl ?_); (case k1 => wtm_at "g_own"); (case k2 => wtm_at "g_put"); intro HH ww)
  | ((with_reducible refine' k_fld ?k1 ?k2 (cl_Flow (by assumption)) (na_Flow_octets (by assumption)) pn_Flow_octets rfl ?_); (case k1 => wtm_at "g_own"); (case k2 => wtm_at "g_put"); intro HH ww)
  | ((with_reducible refine' k_fld ?k1 ?k2 (cl_Flow (by assumption)) (na_Flow_credit (by assumption)) pt_Flow_credit rfl ?_); (case k1 => wtm_at "g_own"); (case k2 => wtm_at "g_put"); intro HH ww)
  | ((with_reducible refine' k_fld ?k1 ?k2 (cl_Flow (by assumption)) (na_Flow_credit (by assumption)) pn_Flow_credit rfl ?_); (case k1 => wtm_at "g_own"); (case k2 => wtm_at "g_put"); intro HH ww)
  | ((with_reducible refine' k_fld ?k1 ?k2 (cl_FairQueue (by assumption)) (na_FairQueue_limit (by assumption)) pt_FairQueue_limit rfl ?_); (case k1 => wtm_at "g_own"); (case k2 => wtm_at "g_put"); intro HH ww)
  | ((with_reducible refine' k_fld ?k1 ?k2 (cl_FairQueue (by assumption)) (na_FairQueue_limit (by assumption)) pn_FairQueue_limit rfl ?_); (case k1 => wtm_at "g_own"); (case k2 => wtm_at "g_put"); intro HH ww)
  | ((with_reducible refine' k_fld ?k1 ?k2 (cl_FairQueue (by assumption)) (na_FairQueue_quantum (by assumption)) pt_FairQueue_quantum rfl ?_); (case k1 => wtm_at "g_own"); (case k2 => wtm_at "g_put"); intro HH ww)
  | ((with_reducible refine' k_fld ?k1 ?k2 (cl_FairQueue (by assumption)) (na_FairQueue_quantum (by assumption)) pn_FairQueue_quantum rfl ?_); (case k1 => wtm_at "g_own"); (case k2 => wtm_at "g_put"); intro HH ww)
  | ((with_reducible refine' k_fld ?k1 ?k2 (cl_FairQueue (by assumption)) (na_FairQueue_flows (by assumption)) pt_FairQueue_flows rfl ?_); (case k1 => wtm_at "g_own"); (case k2 => wtm_at "g_put"); intro HH ww)
  | ((with_reducible refine' k_fld ?k1 ?k2 (cl_FairQueue (by assumption)) (na_FairQueue_flows (by assumption)) pn_FairQueue_flows rfl ?_); (case k1 => wtm_at "g_own"); (case k2 => wtm_at "g_put"); intro HH ww)
  | ((with_reducible refine' k_fld ?k1 ?k2 (cl_FairQueue (by assumption)) (na_FairQueue_granted (by assumption)) pt_FairQueue_granted rfl ?_); (case k1 => wtm_at "g_own"); (case k2 => wtm_at "g_put"); intro HH ww)
  | ((with_reducible refine' k_fld ?k1 ?k2 (cl_FairQueue (by assumption)) (na_FairQueue_granted (by assumption)) pn_FairQueue_granted rfl ?_); (case k1 => wtm_at "g_own"); (case k2 => wtm_at "g_put"); intro HH ww)
  | fail)
local macro_rules | `(tactic| wtm_at "g_set2") => `(tactic| first
  | ((with_reducible refine' k_fa ?k1 ?k2 pt_Waiting_key rfl ?_); (case k1 => wtm_at "g_own"); (case k2 => wtm_at "g_put"); intro HH ww)
  | ((with_reducible refine' k_fa ?k1 ?k2 pt_Waiting_item rfl ?_); (case k1 => wtm_at "g_own"); (case k2 => wtm_at "g_put"); intro HH ww)
  | ((with_reducible refine' k_fa ?k1 ?k2 pt_Waiting_weight rfl ?_); (case k1 => wtm_at "g_own"); (case k2 => wtm_at "g_put"); intro HH ww)
  | ((with_reducible refine' k_fa ?k1 ?k2 pt_Flow_key rfl ?_); (case k1 => wtm_at "g_own"); (case k2 => wtm_at "g_put"); intro HH ww)
  | ((with_reducible refine' k_fa ?k1 ?k2 pt_Flow_rows rfl ?_); (case k1 => wtm_at "g_own"); (case k2 => wtm_at "g_put"); intro HH ww)
  | ((with_reducible refine' k_fa ?k1 ?k2 pt_Flow_octets rfl ?_); (case k1 => wtm_at "g_own"); (case k2 => wtm_at "g_put"); intro HH ww)
  | ((with_reducible refine' k_fa ?k1 ?k2 pt_Flow_credit rfl ?_); (case k1 => wtm_at "g_own"); (case k2 => wtm_at "g_put"); intro HH ww)
  | ((with_reducible refine' k_fa ?k1 ?k2 pt_FairQueue_limit rfl ?_); (case k1 => wtm_at "g_own"); (case k2 => wtm_at "g_put"); intro HH ww)
  | ((with_reducible refine' k_fa ?k1 ?k2 pt_FairQueue_quantum rfl ?_); (case k1 => wtm_at "g_own"); (case k2 => wtm_at "g_put"); intro HH ww)
  | ((with_reducible refine' k_fa ?k1 ?k2 pt_FairQueue_flows rfl ?_); (case k1 => wtm_at "g_own"); (case k2 => wtm_at "g_put"); intro HH ww)
  | ((with_reducible refine' k_fa ?k1 ?k2 pt_FairQueue_granted rfl ?_); (case k1 => wtm_at "g_own"); (case k2 => wtm_at "g_put"); intro HH ww)
  | fail)
local macro_rules | `(tactic| wtm_at "g_mt") => `(tactic| first
  | ((with_reducible refine' w_mt1 ?k1 ln_Flow_add ?_); (case k1 => wtm_at "g_hp"))
  | ((with_reducible refine' w_mt1 ?k1 ln_Flow_take ?_); (case k1 => wtm_at "g_hp"))
  | ((with_reducible refine' w_mt1 ?k1 ln_Flow_fork ?_); (case k1 => wtm_at "g_hp"))
  | ((with_reducible refine' w_mt1 ?k1 ln_FairQueue_count ?_); (case k1 => wtm_at "g_hp"))
  | ((with_reducible refine' w_mt1 ?k1 ln_FairQueue_octets ?_); (case k1 => wtm_at "g_hp"))
  | ((with_reducible refine' w_mt1 ?k1 ln_FairQueue_octets_of ?_); (case k1 => wtm_at "g_hp"))
  | ((with_reducible refine' w_mt1 ?k1 ln_FairQueue_flow_of ?_); (case k1 => wtm_at "g_hp"))
  | ((with_reducible refine' w_mt1 ?k1 ln_FairQueue_remove_flow ?_); (case k1 => wtm_at "g_hp"))
  | ((with_reducible refine' w_mt1 ?k1 ln_FairQueue_put ?_); (case k1 => wtm_at "g_hp"))
  | ((with_reducible refine' w_mt1 ?k1 ln_FairQueue_drop ?_); (case k1 => wtm_at "g_hp"))
  | ((with_reducible refine' w_mt1 ?k1 ln_FairQueue_turn ?_); (case k1 => wtm_at "g_hp"))
  | ((with_reducible refine' w_mt1 ?k1 ln_FairQueue_next_up ?_); (case k1 => wtm_at "g_hp"))
  | ((with_reducible refine' w_mt1 ?k1 ln_FairQueue_take ?_); (case k1 => wtm_at "g_hp"))
  | ((with_reducible refine' w_mt1 ?k1 ln_FairQueue_take_all ?_); (case k1 => wtm_at "g_hp"))
  | ((with_reducible refine' w_mt1 ?k1 ln_FairQueue_fork ?_); (case k1 => wtm_at "g_hp"))
  | fail)
local macro_rules | `(tactic| wtm_at "g_mkk") => `(tactic| first
  | fail
  | fail)
local macro_rules | `(tactic| wtm_at "g_callf") => `(tactic| first
  | ((with_reducible refine' c_Waiting_init ?k1 ?k2 ?k3 ?_); (case k1 => wtm_at "g_own"); (case k2 => wtm_at "g_pk"); (case k3 => wtm_at "g_pk"); intro HH ww)
  | ((with_reducible refine' c_Flow_init ?k1 ?k2 ?k3 ?_); (case k1 => wtm_at "g_own"); (case k2 => wtm_at "g_pk"); (case k3 => wtm_at "g_pk"); intro HH ww)
  | ((with_reducible refine' c_octets ?k0 ?k1 ?k2 ?_); (case k1 => wtm_at "g_own"); (case k2 => wtm_at "g_pk"); (case k0 => omega); intro HH ww)
  | ((with_reducible refine' w_fldT tell_qu_lim ?k1 ?k2 (cl_FairQueue (by assumption)) (na_FairQueue_limit (by assumption)) ?_); (case k1 => wtm_at "g_own"); (case k2 => wtm_at "g_pk"); intro dz fz; (try clear fz dz))
  | ((with_reducible refine' w_fldT tell_qu_q ?k1 ?k2 (cl_FairQueue (by assumption)) (na_FairQueue_quantum (by assumption)) ?_); (case k1 => wtm_at "g_own"); (case k2 => wtm_at "g_pk"); intro dz fz; (try clear fz dz))
  | ((with_reducible refine' w_fldT tell_wt_w ?k1 ?k2 (cl_Waiting (by assumption)) (na_Waiting_weight (by assumption)) ?_); (case k1 => wtm_at "g_own"); (case k2 => wtm_at "g_pk"); intro dz fz; (try clear fz dz))
  | ((with_reducible refine' w_fldT tell_wt_i ?k1 ?k2 (cl_Waiting (by assumption)) (na_Waiting_item (by assumption)) ?_); (case k1 => wtm_at "g_own"); (case k2 => wtm_at "g_pk"); intro dz fz; (try clear fz dz))
  | ((with_reducible refine' w_mtT (tell_qu_m ln_FairQueue_octets) ?k1 ?k2 ?_); (case k1 => wtm_at "g_own"); (case k2 => wtm_at "g_pk"))
  | ((with_reducible refine' w_mtT (tell_qu_m ln_FairQueue_drop) ?k1 ?k2 ?_); (case k1 => wtm_at "g_own"); (case k2 => wtm_at "g_pk"))
  | ((with_reducible refine' w_mtT (tell_qu_m ln_FairQueue_turn) ?k1 ?k2 ?_); (case k1 => wtm_at "g_own"); (case k2 => wtm_at "g_pk"))
  | ((with_reducible refine' w_mtT (tell_qu_m ln_FairQueue_next_up) ?k1 ?k2 ?_); (case k1 => wtm_at "g_own"); (case k2 => wtm_at "g_pk"))
  | ((with_reducible refine' w_mtT (tell_qu_m ln_FairQueue_remove_flow) ?k1 ?k2 ?_); (case k1 => wtm_at "g_own"); (case k2 => wtm_at "g_pk"))
  | ((with_reducible refine' w_mtT (tell_fl_m ln_Flow_add) ?k1 ?k2 ?_); (case k1 => wtm_at "g_own"); (case k2 => wtm_at "g_pk"))
  | ((with_reducible refine' w_mtT (tell_fl_m ln_Flow_take) ?k1 ?k2 ?_); (case k1 => wtm_at "g_own"); (case k2 => wtm_at "g_pk"))
  | fail)
local macro_rules | `(tactic| wtm_at "g_call") => `(tactic| first
  | wtm_at "g_callf"
  | ((with_reducible refine' w_mtT (tell_qu_m ln_FairQueue_count) ?k1 ?k2 ?_); (case k1 => wtm_at "g_own"); (case k2 => wtm_at "g_pk"))
  | ((with_reducible refine' w_mtT (tell_qu_m ln_FairQueue_octets_of) ?k1 ?k2 ?_); (case k1 => wtm_at "g_own"); (case k2 => wtm_at "g_pk"))
  | ((with_reducible refine' w_mtT (tell_qu_m ln_FairQueue_flow_of) ?k1 ?k2 ?_); (case k1 => wtm_at "g_own"); (case k2 => wtm_at "g_pk"))
  | ((with_reducible refine' w_mtT (tell_qu_m ln_FairQueue_put) ?k1 ?k2 ?_); (case k1 => wtm_at "g_own"); (case k2 => wtm_at "g_pk"))
  | ((with_reducible refine' w_mtT (tell_qu_m ln_FairQueue_take) ?k1 ?k2 ?_); (case k1 => wtm_at "g_own"); (case k2 => wtm_at "g_pk"))
  | ((with_reducible refine' w_mtT (tell_qu_m ln_FairQueue_take_all) ?k1 ?k2 ?_); (case k1 => wtm_at "g_own"); (case k2 => wtm_at "g_pk"))
  | ((with_reducible refine' w_mtT (tell_qu_m ln_FairQueue_fork) ?k1 ?k2 ?_); (case k1 => wtm_at "g_own"); (case k2 => wtm_at "g_pk"))
  | ((with_reducible refine' w_mtT (tell_fl_m ln_Flow_fork) ?k1 ?k2 ?_); (case k1 => wtm_at "g_own"); (case k2 => wtm_at "g_pk"))
  | fail)
local macro_rules | `(tactic| wtm_at "g_own") => `(tactic| first
  | (with_reducible assumption)
  | ((with_reducible refine' Own.newT ?k1 ?k2); (case k1 => with_reducible assumption); (case k2 => wtm_at "g_own"))
  | ((with_reducible refine' Own.new ?k1 ?k2); (case k1 => with_reducible assumption); (case k2 => wtm_at "g_own"))
  | ((with_reducible refine' Own.put ?k1 ?k2); (case k1 => wtm_at "g_own"); (case k2 => wtm_at "g_put"))
  | ((with_reducible refine' Own.sel ?k1 ?k2); (case k1 => with_reducible assumption); (case k2 => wtm_at "g_sel"))
  | fail)
local macro_rules | `(tactic| wtm_at "g_sel") => `(tactic| first
  | (with_reducible exact Sel.rf) | (with_reducible exact Sel.nil)
  | ((with_reducible refine' Sel.cons ?k1 ?k2); (case k1 => wtm_at "g_pk"); (case k2 => wtm_at "g_sel"))
  | ((with_reducible refine' Sel.drop ?k1); (case k1 => wtm_at "g_sel"))
  | fail)
local macro_rules | `(tactic| wtm_at "g_got") => `(tactic| first
  | (with_reducible assumption) | (with_reducible exact Got.here)
  | ((with_reducible refine' Got.next ?k1); (case k1 => wtm_at "g_got"))
  | fail)
local macro_rules | `(tactic| wtm_at "g_gl") => `(tactic| first
  | (with_reducible assumption) | (with_reducible exact GotL.here) | (with_reducible exact GotL.hereS)
  | ((with_reducible refine' GotL.next ?k1); (case k1 => wtm_at "g_gl"))
  | fail)
local macro_rules | `(tactic| wtm_at "g_put") => `(tactic| first
  | (with_reducible assumption) | (with_reducible exact Put.here)
  | ((with_reducible refine' Put.next ?k1); (case k1 => wtm_at "g_put"))
  | fail)
local macro_rules | `(tactic| wtm_at "g_pk") => `(tactic| first
  | (with_reducible assumption) | (with_reducible exact Pick.keep) | (with_reducible exact Pick.here)
  | ((with_reducible refine' Pick.next ?k1); (case k1 => wtm_at "g_pk"))
  | fail)
local macro_rules | `(tactic| wtm_at "g_hp") => `(tactic| first
  | (with_reducible assumption) | (with_reducible exact upd_same)
  | ((with_reducible refine' Own.get ?k1 ?k2); (case k1 => wtm_at "g_own"); (case k2 => wtm_at "g_got"))
  | fail)
local macro_rules | `(tactic| wtm_at "g_sq") => `(tactic| first
  | (with_reducible assumption)
  | ((with_reducible refine' Own.sql ?k1 ?k2); (case k1 => wtm_at "g_own"); (case k2 => wtm_at "g_gl"))
  | ((with_reducible refine' SqL.of ?k1); (case k1 => wtm_at "g_hp"))
  | fail)
local macro_rules | `(tactic| wtm_at "g_sqt") => `(tactic| first
  | (with_reducible assumption) | ((with_reducible refine' SqT.of' ?k1); (case k1 => wtm_at "g_hp"))
  | fail)
local macro_rules | `(tactic| wtm_at "g_sz") => `(tactic| first
  | (with_reducible assumption) | (exact small_le rfl)
  | ((with_reducible refine' small16 ?k1); (case k1 => (try simp only [List.length_append, List.length_map, List.length_cons, List.length_nil, List.length_take, List.length_drop, List.length_set, List.length_range]); omega))
  | ((with_reducible refine' small16l ?k1); (case k1 => (try simp only [List.length_append, List.length_map, List.length_cons, List.length_nil, List.length_take, List.length_drop, List.length_set, List.length_range]); omega))
  | fail)
local macro_rules | `(tactic| wtm_at "g_gd") => `(tactic| first
  | (with_reducible assumption) | (with_reducible exact GotD.here) | (with_reducible exact GotD.hereR) | (with_reducible exact GotD.ints)
  | ((with_reducible refine' GotD.next ?k1); (case k1 => wtm_at "g_gd"))
  | fail)
local macro_rules | `(tactic| wtm_at "g_dp") => `(tactic| first
  | (with_reducible assumption)
  | ((with_reducible refine' Own.dpG ?k1 ?k2); (case k1 => wtm_at "g_own"); (case k2 => wtm_at "g_gd"))
  | fail)
local macro_rules | `(tactic| wtm_at "g_ar") => `(tactic| first
  | decide | (exact ⟨by decide, by decide⟩) | (exact Or.inr ⟨by decide, by decide⟩) | (exact Or.inl ⟨by decide, by decide⟩) | omega | (exact Or.inr ⟨by omega, by omega⟩) | (exact Or.inl ⟨by omega, by omega⟩) | (exact ⟨by omega, by omega⟩)
  | fail)
local macro_rules | `(tactic| wtm_at "g_ow") => `(tactic| first
  | wtm_at "g_own"
  | ((simp only [List.map_cons, List.map_nil]); wtm_at "g_own")
  | fail)
local macro_rules | `(tactic| wtm_at "g_callc") => `(tactic| first
  | ((with_reducible refine' o_digit ?k1 ?k2 ?k3 ?k4 ?_); (case k1 => wtm_at "g_own"); (case k2 => wtm_at "g_pk"); (case k3 => omega); (case k4 => omega); intro d HH d0 d1 ww)
  | ((with_reducible refine' o_start ?k1 ?_); (case k1 => wtm_at "g_own"); intro p HH ww)
  | ((with_reducible refine' c_cell ?k1 ?k2 ?_); (case k1 => wtm_at "g_sq"); (case k2 => omega); intro n)
  | ((with_reducible refine' c_isint ?_))
  | fail)
local macro_rules | `(tactic| wtm_at "g_st") => `(tactic| first
  | (with_reducible first
      | refine w_seq ?_ | refine w_asg ?_ | refine w_nm ?_ | refine w_next ?_ | refine w_if ?_ | refine w_ret ?_ | refine w_retN ?_ | refine w_drop ?_
      | refine w_var rfl ?_ | refine w_c ?_ | refine w_op ?_ | refine w_I0 ?_
      | refine w_eqI ?_ | refine w_neI ?_ | refine w_eqB ?_ | refine w_neB ?_ | refine w_eqS ?_ | refine w_neS ?_ | refine w_isN0 ?_ | refine w_isNi ?_ | refine w_isNr ?_ | refine w_isNb ?_ | refine w_isNs ?_ | refine w_notN0 ?_ | refine w_notNi ?_ | refine w_notNr ?_ | refine w_notNb ?_ | refine w_notNs ?_ | refine w_isN ?_ | refine w_notN ?_ | refine w_isB ?_ | refine w_notB ?_
      | refine w_un ?_ | refine w_U ?_ | refine w_chain ?_ | refine w_k ?_ | refine w_test ?_ | refine w_tB ?_ | refine w_tru ?_ | refine w_not ?_ | refine w_and ?_ | refine w_or ?_
      | refine w_andV ?_ | refine w_orV ?_ | refine w_notV ?_ | refine w_ife ?_ | refine w_nil ?_ | refine w_cons ?_ | refine w_tupK ?_ | refine w_lstK ?_ | refine w_small rfl ?_
      | refine w_call ?_ | refine w_mkQ ?_ | refine w_mt ?_ | refine k_ini ?_ | refine w_cb ?_ | refine w_min2 ?_ | refine w_max2 ?_ | refine w_abs ?_ | refine w_int ?_ | refine w_intb ?_
      | refine w_fld0 ?_ | refine w_bm ?_ | refine w_bm0 ?_ | refine w_sub ?_ | refine w_sfldQ ?_ | refine w_sfaQ ?_ | refine w_delQ ?_ | refine k_whT ?_ | refine w_radd ?_ | refine w_rsub ?_ | refine w_ip ?_ | refine w_rs ?_ | refine w_pr ?_
      | refine w_lcR1 ?_ | refine w_lcR2 ?_ | refine w_lcL ?_ | refine w_lcT ?_ | refine w_yes ?_ | refine w_disp ?_ | refine w_prs ?_ | refine w_prn ?_ | refine w_dget ?_ | refine w_sl ?_ | refine w_nopart ?_ | refine w_part ?_ | refine w_pint ?_
      | refine w_for3 ?_ | refine w_mkKQ ?_ | refine w_forR1 ?_ | refine w_forR2 ?_ | refine w_forL ?_ | refine w_forT ?_ | refine w_aug rfl ?_ | refine w_par ?_ | refine w_brk ?_ | refine w_cont ?_
      | refine w_isi_ii ?_ | refine w_isi_ib ?_ | refine w_isi_bi ?_ | refine w_isi_bb ?_ | refine w_isi_ss ?_ | refine w_isi_is ?_ | refine w_isi_il ?_ | refine w_isi_it ?_ | refine w_isi_sl ?_ | refine w_isi_st ?_ | refine w_isi_nl ?_ | refine w_isi_nt ?_
      | refine if_T ?_ | refine if_F ?_ | refine if_nT ?_ | refine if_nF ?_)
  | ((with_reducible refine' k_tup rfl ?k1 ?_); (case k1 => wtm_at "g_own"); intro p HH ww)
  | ((with_reducible refine' k_lst1R ?k1 ?_); (case k1 => wtm_at "g_own"); intro p HH ww)
  | ((with_reducible refine' k_lst1I ?k1 ?_); (case k1 => wtm_at "g_own"); intro p HH ww)
  | ((with_reducible refine' k_lst rfl ?k1 ?_); (case k1 => wtm_at "g_own"); intro p HH ww)
  | ((with_reducible refine' k_mk ?k1 ?_); (case k1 => wtm_at "g_own"); intro p dx HH ww)
  | wtm_at "g_mkk"
  | ((with_reducible refine' k_listL ?k1 ?k2 ?_); (case k1 => wtm_at "g_own"); (case k2 => wtm_at "g_sq"); intro p HH ww)
  | ((with_reducible refine' k_listT ?k1 ?k2 ?_); (case k1 => wtm_at "g_own"); (case k2 => wtm_at "g_sqt"); intro p HH ww)
  | ((with_reducible refine' k_tupL ?k1 ?k2 ?_); (case k1 => wtm_at "g_own"); (case k2 => wtm_at "g_sq"); intro p HH ww)
  | ((with_reducible refine' k_slfromRs ?k1 ?k2 ?_); (case k1 => wtm_at "g_own"); (case k2 => wtm_at "g_sq"); intro p HH ww)
  | ((with_reducible refine' k_slfromR1 ?k1 ?k2 ?_); (case k1 => wtm_at "g_own"); (case k2 => wtm_at "g_sq"); intro p HH ww)
  | ((with_reducible refine' k_slfromRn ?k1 ?k2 ?_); (case k1 => wtm_at "g_own"); (case k2 => wtm_at "g_sq"); intro p HH ww)
  | ((with_reducible refine' k_sltoR1 ?k1 ?k2 ?_); (case k1 => wtm_at "g_own"); (case k2 => wtm_at "g_sq"); intro p HH ww)
  | ((with_reducible refine' k_sltoRn ?k1 ?k2 ?_); (case k1 => wtm_at "g_own"); (case k2 => wtm_at "g_sq"); intro p HH ww)
  | ((with_reducible refine' k_slfromIs ?k1 ?k2 ?_); (case k1 => wtm_at "g_own"); (case k2 => wtm_at "g_sq"); intro p HH ww)
  | ((with_reducible refine' k_slfromI1 ?k1 ?k2 ?_); (case k1 => wtm_at "g_own"); (case k2 => wtm_at "g_sq"); intro p HH ww)
  | ((with_reducible refine' k_slfromIn ?k1 ?k2 ?_); (case k1 => wtm_at "g_own"); (case k2 => wtm_at "g_sq"); intro p HH ww)
  | ((with_reducible refine' k_sltoI1 ?k1 ?k2 ?_); (case k1 => wtm_at "g_own"); (case k2 => wtm_at "g_sq"); intro p HH ww)
  | ((with_reducible refine' k_sltoIn ?k1 ?k2 ?_); (case k1 => wtm_at "g_own"); (case k2 => wtm_at "g_sq"); intro p HH ww)
  | ((with_reducible refine' k_slfromI ?k1 ?k2 ?k3 ?_); (case k1 => wtm_at "g_own"); (case k2 => wtm_at "g_sq"); (case k3 => omega); intro p HH ww)
  | ((with_reducible refine' k_sltoI ?k1 ?k2 ?k3 ?_); (case k1 => wtm_at "g_own"); (case k2 => wtm_at "g_sq"); (case k3 => omega); intro p HH ww)
  | ((with_reducible refine' k_slmidI ?k1 ?k2 ?k3 ?k4 ?_); (case k1 => wtm_at "g_own"); (case k2 => wtm_at "g_sq"); (case k3 => omega); (case k4 => omega); intro p HH ww)
  | ((with_reducible refine' k_catI ?k1 ?k2 ?k3 ?k4 ?_); (case k1 => wtm_at "g_own"); (case k2 => wtm_at "g_got"); (case k3 => wtm_at "g_got"); (case k4 => wtm_at "g_sz"); intro p HH ww)
  | ((with_reducible refine' k_catR ?k1 ?k2 ?k3 ?k4 ?_); (case k1 => wtm_at "g_own"); (case k2 => wtm_at "g_got"); (case k3 => wtm_at "g_got"); (case k4 => wtm_at "g_sz"); intro p HH ww)
  | ((with_reducible refine' k_slfromR ?k1 ?k2 ?k3 ?_); (case k1 => wtm_at "g_own"); (case k2 => wtm_at "g_sq"); (case k3 => omega); intro p HH ww)
  | ((with_reducible refine' k_sltoR ?k1 ?k2 ?k3 ?_); (case k1 => wtm_at "g_own"); (case k2 => wtm_at "g_sq"); (case k3 => omega); intro p HH ww)
  | ((with_reducible refine' k_appI ?k1 ?k2 ?k3 ?_); (case k1 => wtm_at "g_own"); (case k2 => wtm_at "g_put"); (case k3 => wtm_at "g_sz"); intro HH ww)
  | ((with_reducible refine' k_appR ?k1 ?k2 ?k3 ?_); (case k1 => wtm_at "g_own"); (case k2 => wtm_at "g_put"); (case k3 => wtm_at "g_sz"); intro HH ww)
  | ((with_reducible refine' k_extendI ?k1 ?k2 ?k3 ?k4 ?_); (case k1 => wtm_at "g_own"); (case k2 => wtm_at "g_put"); (case k3 => wtm_at "g_got"); (case k4 => wtm_at "g_sz"); intro HH ww)
  | ((with_reducible refine' k_slfrom ?k1 ?k2 ?k3 ?_); (case k1 => wtm_at "g_own"); (case k2 => wtm_at "g_sq"); (case k3 => omega); intro p HH ww)
  | ((with_reducible refine' k_slto ?k1 ?k2 ?k3 ?_); (case k1 => wtm_at "g_own"); (case k2 => wtm_at "g_sq"); (case k3 => omega); intro p HH ww)
  | ((with_reducible refine' k_slmid ?k1 ?k2 ?k3 ?k4 ?_); (case k1 => wtm_at "g_own"); (case k2 => wtm_at "g_sq"); (case k3 => omega); (case k4 => omega); intro p HH ww)
  | ((with_reducible refine' k_cat ?k1 ?k2 ?k3 ?k4 ?_); (case k1 => wtm_at "g_own"); (case k2 => wtm_at "g_got"); (case k3 => wtm_at "g_got"); (case k4 => wtm_at "g_sz"); intro p HH ww)
  | ((with_reducible refine' k_app ?k1 ?k2 ?k3 ?_); (case k1 => wtm_at "g_own"); (case k2 => wtm_at "g_put"); (case k3 => wtm_at "g_sz"); intro HH ww)
  | ((with_reducible refine' ty_list ?k1 ?_); (case k1 => wtm_at "g_hp"))
  | ((with_reducible refine' k_truR ?k1 ?_); (case k1 => wtm_at "g_sq"))
  | ((with_reducible refine' k_truI ?k1 ?_); (case k1 => wtm_at "g_sq"))
  | ((with_reducible refine' k_truL ?k1 ?_); (case k1 => wtm_at "g_sq"))
  | ((with_reducible refine' w_lenLI ?k1 ?_); (case k1 => wtm_at "g_sq"))
  | ((with_reducible refine' w_lenLR ?k1 ?_); (case k1 => wtm_at "g_sq"))
  | ((with_reducible refine' w_ixT ?k1 ?k2 ?_); (case k1 => wtm_at "g_sqt"); (case k2 => first | rfl | fail))
  | ((with_reducible refine' w_ixRc ?k1 ?_); (case k1 => wtm_at "g_sq"))
  | ((with_reducible refine' w_ixR0 ?k1 ?k2 ?_); (case k1 => wtm_at "g_sq"); (case k2 => with_reducible assumption))
  | ((with_reducible refine' w_ixR ?k1 ?k2 ?_); (case k1 => wtm_at "g_sq"); (case k2 => with_reducible assumption))
  | ((with_reducible refine' w_ixLastR ?k1 ?k2 ?_); (case k1 => wtm_at "g_sq"); (case k2 => with_reducible assumption))
  | ((with_reducible refine' k_slinitR ?k1 ?k2 ?_); (case k1 => wtm_at "g_own"); (case k2 => wtm_at "g_sq"); intro p HH ww)
  | ((with_reducible refine' w_gTup ?k1 ?k2 ?_); (case k1 => wtm_at "g_sqt"); (case k2 => rfl))
  | (with_reducible refine w_gCons ?_)
  | (with_reducible refine w_gNil ?_)
  | ((with_reducible refine' w_ixI ?k1 ?k2 ?k3 ?_); (case k1 => wtm_at "g_sq"); (case k2 => omega); (case k3 => omega))
  | ((with_reducible refine' w_I ?k1 ?_); (case k1 => wtm_at "g_ar"))
  | ((with_reducible refine' k_reverse ?k1 ?k2 ?_); (case k1 => wtm_at "g_own"); (case k2 => wtm_at "g_put"); intro HH ww)
  | ((with_reducible refine' w_lenL ?k1 ?_); (case k1 => wtm_at "g_sq"))
  | ((with_reducible refine' w_lenT ?k1 ?_); (case k1 => wtm_at "g_sqt"))
  | ((with_reducible refine' w_isi_ll ?k1 ?_); (case k1 => wtm_at "g_hp"))
  | ((with_reducible refine' w_isi_tt ?k1 ?_); (case k1 => wtm_at "g_hp"))
  | ((with_reducible refine' w_isi_lt ?k1 ?_); (case k1 => wtm_at "g_hp"))
  | ((with_reducible refine' w_isi_tl ?k1 ?_); (case k1 => wtm_at "g_hp"))
  | ((with_reducible refine' w_ll ?k1 ?k2 ?_); (case k1 => rfl); (case k2 => rfl))
  | wtm_at "g_get"
  | wtm_at "g_mt"
  | wtm_at "g_set"
  | wtm_at "g_set2"
  | wtm_at "g_call"
  | wtm_at "g_callc"
  | fail)
local macro_rules | `(tactic| wtm_at "g_go") => `(tactic| repeat wtm_at "g_st")
local macro_rules | `(tactic| wtm_at "g_ifo") => `(tactic| first
  | (refine if_nno rfl ?_) | (refine if_yes rfl ?_)
  | (refine if_no (by omega) ?_)
  | (refine if_yes (by omega) ?_)
  | (refine if_nno (by omega) ?_)
  | (refine if_nyes (by omega) ?_)
  | (refine if_nno (decide_eq_false (by omega)).symm ?_)
  | (refine if_nno (decide_eq_true (by omega)).symm ?_)
  | fail)
local macro_rules | `(tactic| wtm_at "g_goo") => `(tactic| repeat (first | wtm_at "g_st" | wtm_at "g_ifo"))
section
theorem JX.perm {fs : List Fl} {rows : List Wt} (h : JX fs rows) : rows.Perm (allW fs) := by
  classical
  refine List.perm_iff_count.mpr fun a => ?_
  have := congrArg (List.count a) (h.key a.k)
  unfold own at this
  rwa [List.count_filter (by simp), List.count_filter (by simp)] at this
theorem sum_perm {a b : List Int} (p : a.Perm b) : a.sum = b.sum := by
  induction p with
  | nil => rfl
  | cons x _ ih => rw [List.sum_cons, List.sum_cons, ih]
  | swap x y l => simp only [List.sum_cons]; omega
  | trans _ _ h1 h2 => rw [h1, h2]
theorem octs_all : ∀ fs : List Fl, octs fs = ((allW fs).map (·.w)).sum
  | [] => rfl
  | f :: r => by
    have := octs_all r
    have e : octs (f :: r) = f.oct + octs r := by unfold octs; rw [List.map_cons, List.sum_cons]
    rw [e, this, allW_cons, List.map_append, List.sum_append, List.map_map]
    rfl
theorem JX.len {fs : List Fl} {rows : List Wt} (h : JX fs rows) : rows.length = cnt fs := by rw [h.perm.length_eq, flat_len]
theorem JX.octs {fs : List Fl} {rows : List Wt} (h : JX fs rows) : octs fs = (rows.map (·.w)).sum := by rw [octs_all]; exact (sum_perm (h.perm.map (·.w))).symm
theorem JX.oct {fs : List Fl} {rows : List Wt} (h : JX fs rows) (k : Ky) : octOf fs k = ((own rows k).map (·.w)).sum := by
  unfold octOf
  rw [h.key]
  cases e : fnd fs k with
  | none => rw [own_none (fnd_no e)]; rfl
  | some j =>
    obtain ⟨f, hf, ek⟩ := fnd_at e
    obtain ⟨A, B, e2, _⟩ := split_at hf
    have hky := h.ky
    dsimp only
    rw [getD_some hf]
    rw [e2] at hky ⊢
    rw [own_here hky, if_pos ek, List.map_map]
    rfl
theorem JX.fsl {fs : List Fl} {rows : List Wt} (h : JX fs rows) : fs.length ≤ rows.length := by
  rw [h.len]
  exact fs_cnt fun f hf => (h.wf f hf).ne
variable {K : PySem.W.Frag} {mg : Str → Option Value} {base : Heap}
theorem key_test {σ : L2.St} {v0 v3 : Nat} {d : Int} (hv : v0 < σ.length) (h3 : v0 ≠ v3) (e3 : σ[v3]? = some (some (.int d))) {a : Addr} {x : Wt} {M : List HP} {H1 : Hp} {B : Bool → Hp → Prop} (hk : kOk x.k) (w : Own (RtP a x :: M) H1) (k : ∀ H2, Own M H2 → B (decide (x.k = [.inr "flow", .inl d])) H2) :
    tTest (tOp (rEqD K) (tOp (rIxT K) (tVar v0) (tC (.int 1))) (tTup (tCons (tC (.str "flow")) (tCons (tVar v3) tNil)))) ((σ.set v0 none).set v0 (some (.ref a))) H1 B := by
  obtain ⟨ka, w1⟩ := rt_out w
  have e1 : ((σ.set v0 none).set v0 (some (V.ref a)))[v0]? = some (some (V.ref a)) := List.getElem?_set_self (by rw [List.length_set]; exact hv)
  have e2 : ((σ.set v0 none).set v0 (some (V.ref a)))[v3]? = some (some (V.int d)) := by
    rw [List.getElem?_set_ne h3, List.getElem?_set_ne h3]
    exact e3
  refine w_test (w_op (w_op (w_var e1 (w_c (w_ixT (SqT.of' (w1.get Got.here)) rfl ?_)))))
  refine w_tupK (w_cons (w_c (w_cons (w_var e2 (w_nil ?_)))))
  refine k_tup rfl w1 fun p H2 w2 => ?_
  have hka : H2 ka = some (.tup (x.k.map kV)) := w2.get (.next (.next (by unfold KyP; exact Got.here)))
  refine w_eqK (j := [.inr "flow", .inl d]) hka (w2.get Got.here) hk (key_ok d) ⟨_, rfl, k H2 (Own.sel w2 (.drop (.drop (.drop .rf))))⟩
theorem pure_law_counts (T : TX K mg base) (vs : List V) (H : Hp) (Q : VK) (E : XK) (h : sp_law_counts K vs H Q E) : t_law_counts K E { nx := fun _ H' => Q .non H', rt := Q } (start N_law_counts vs) H := by
  obtain ⟨p, l, x, rows, R, rfl, hJ, hn, w, q⟩ := h
  have hl := hJ.jx.len
  have hf := hJ.jx.fsl
  have hoc := hJ.jx.octs
  unfold t_law_counts
  wtm_at "g_go"
  refine ⟨p, x, _, rfl, by omega, by omega, w, fun H1 w1 => ?_⟩
  obtain ⟨ts, w1⟩ := rs_out (w1.pick (P := RsP l rows) (by wtm_at "g_pk"))
  have hlen := w1.swap.bigLen
  have hxl : x.fs.length ≤ 1000000 := by omega
  wtm_at "g_go"
  rw [if_neg (by rw [decide_eq_true (by omega)]; decide)]
  wtm_at "g_go"
  rename_i H2 w2
  refine sum_comp (ts := ts) (xs := rows) (P := fun _ => true) (Nat.le_of_ble_eq_true rfl) (by omega) w2 (by wtm_at "g_pk") (by wtm_at "g_pk") (fun a x X1 X2 H1 B _ w k => k H1 w.tail) fun D H3 w3 => ?_
  rw [List.filter_eq_self.mpr fun _ _ => rfl] at w3
  wtm_at "g_go"
  refine w_sum (ns := rows.map (·.w)) (by wtm_at "g_sq") ?_
  wtm_at "g_go"
  rw [if_neg (by rw [decide_eq_true hoc]; decide)]
  wtm_at "g_go"
  have hks : ∀ f ∈ x.fs, kOk f.k := fun f hf => (hJ.wf.fs f hf).k
  refine loop1 (n := 6) (fun j σ H' => ∃ v3, σ = [some (.ref p), some (.ref l), none, v3] ∧ Own (QuP K p x :: ro l (.lst (ts.map V.ref)) :: big RtP ts rows :: RsP l rows :: R) H') rfl (by omega) ⟨_, rfl, by wtm_at "g_own"⟩ ?_ ?_
  · rintro j σ H4 hj ⟨v3, rfl, w4⟩
    wtm_at "g_go"
    rename_i ka H5 w5
    refine ⟨p, ka, x, [.inr "flow", .inl (j : Int)], _, rfl, key_ok _, hks, Own.take2 (P1 := QuP K p x) (P2 := KyP ka [.inr "flow", .inl (j : Int)]) w5 (by wtm_at "g_pk") (by exact .here), fun H6 w6 => ?_⟩
    show tCB _ _ _ _ _
    wtm_at "g_go"
    refine sum_comp (ts := ts) (xs := rows) (P := fun r => decide (r.k = [.inr "flow", .inl (j : Int)])) (Nat.le_of_ble_eq_true rfl) (by omega) w6 (by wtm_at "g_pk") (by wtm_at "g_pk") (fun a x X1 X2 H1 B hx w k => key_test (Nat.le_of_ble_eq_true rfl) (by decide) rfl (hJ.jx.gr x hx).ok w k) fun D H7 w7 => ?_
    wtm_at "g_go"
    refine w_sum (ns := (rows.filter (fun r => decide (r.k = [.inr "flow", .inl (j : Int)]))).map (·.w)) (by wtm_at "g_sq") ?_
    wtm_at "g_go"
    have ho := hJ.jx.oct [.inr "flow", .inl (j : Int)]
    unfold own at ho
    rw [if_neg (by rw [decide_eq_true ho]; decide)]
    wtm_at "g_go"
    exact ⟨_, rfl, by wtm_at "g_own"⟩
  · rintro σ H4 ⟨v3, rfl, w4⟩
    wtm_at "g_go"
    rename_i H5 w5
    rw [decide_eq_true hJ.oc]
    exact q _ (by wtm_at "g_own")
end
end K81

namespace K81
open PySem PySem.Spec PyProof.Rows L2 G
local macro_rules | `(tactic| wtm_at "g_get") => `(tactic| first
  | ((with_reducible refine' w_fld ?k1 (cl_Waiting (by assumption)) (na_Waiting_key (by assumption)) lk_Waiting_key ?_); (case k1 => wtm_at "g_hp"))
  | ((with_reducible refine' w_fld ?k1 (cl_Waiting (by assumption)) (na_Waiting_item (by assumption)) lk_Waiting_item ?_); (case k1 => wtm_at "g_hp"))
  | ((with_reducible refine' w_fld ?k1 (cl_Waiting (by assumption)) (na_Waiting_weight (by assumption)) lk_Waiting_weight ?_); (case k1 => wtm_at "g_hp"))
  | ((with_reducible refine' w_fld ?k1 (cl_Flow (by assumption)) (na_Flow_key (by assumption)) lk_Flow_key ?_); (case k1 => wtm_at "g_hp"))
  | ((with_reducible refine' w_fld ?k1 (cl_Flow (by assumption)) (na_Flow_rows (by assumption)) lk_Flow_rows ?_); (case k1 => wtm_at "g_hp"))
  | ((with_reducible refine' w_fld ?k1 (cl_Flow (by assumption)) (na_Flow_octets (by assumption)) lk_Flow_octets ?_); (case k1 => wtm_at "g_hp"))
  | ((with_reducible refine' w_fld ?k1 (cl_Flow (by assumption)) (na_Flow_credit (by assumption)) lk_Flow_credit ?_); (case k1 => wtm_at "g_hp"))
  | ((with_reducible refine' w_fld ?k1 (cl_FairQueue (by assumption)) (na_FairQueue_limit (by assumption)) lk_FairQueue_limit ?_); (case k1 => wtm_at "g_hp"))
  | ((with_reducible refine' w_fld ?k1 (cl_FairQueue (by assumption)) (na_FairQueue_quantum (by assumption)) lk_FairQueue_quantum ?_); (case k1 => wtm_at "g_hp"))
  | ((with_reducible refine' w_fld ?k1 (cl_FairQueue (by assumption)) (na_FairQueue_flows (by assumption)) lk_FairQueue_flows ?_); (case k1 => wtm_at "g_hp"))
  | ((with_reducible refine' w_fld ?k1 (cl_FairQueue (by assumption)) (na_FairQueue_granted (by assumption)) lk_FairQueue_granted ?_); (case k1 => wtm_at "g_hp"))
  | fail)
local macro_rules | `(tactic| wtm_at "g_set") => `(tactic| first
  | ((with_reducible refine' k_fld ?k1 ?k2 (cl_Waiting (by assumption)) (na_Waiting_key (by assumption)) pt_Waiting_key rfl ?_); (case k1 => wtm_at "g_own"); (case k2 => wtm_at "g_put"); intro HH ww)
  | ((with_reducible refine' k_fld ?k1 ?k2 (cl_Waiting (by assumption)) (na_Waiting_key (by assumption)) pn_Waiting_key rfl ?_); (case k1 => wtm_at "g_own"); (case k2 => wtm_at "g_put"); intro HH ww)
  | ((with_reducible refine' k_fld ?k1 ?k2 (cl_Waiting (by assumption)) (na_Waiting_item (by assumption)) pt_Waiting_item rfl ?_); (case k1 => wtm_at "g_own"); (case k2 => wtm_at "g_put"); intro HH ww)
  | ((with_reducible refine' k_fld ?k1 ?k2 (cl_Waiting (by assumption)) (na_Waiting_item (by assumption)) pn_Waiting_item rfl ?_); (case k1 => wtm_at "g_own"); (case k2 => wtm_at "g_put"); intro HH ww)
  | ((with_reducible refine' k_fld ?k1 ?k2 (cl_Waiting (by assumption)) (na_Waiting_weight (by assumption)) pt_Waiting_weight rfl ?_); (case k1 => wtm_at "g_own"); (case k2 => wtm_at "g_put"); intro HH ww)
  | ((with_reducible refine' k_fld ?k1 ?k2 (cl_Waiting (by assumption)) (na_Waiting_weight (by assumption)) pn_Waiting_weight rfl ?_); (case k1 => wtm_at "g_own"); (case k2 => wtm_at "g_put"); intro HH ww)
  | ((with_reducible refine' k_fld ?k1 ?k2 (cl_Flow (by assumption)) (na_Flow_key (by assumption)) pt_Flow_key rfl ?_); (case k1 => wtm_at "g_own"); (case k2 => wtm_at "g_put"); intro HH ww)
  | ((with_reducible refine' k_fld ?k1 ?k2 (cl_Flow (by assumption)) (na_Flow_key (by assumption)) pn_Flow_key rfl ?_); (case k1 => wtm_at "g_own"); (case k2 => wtm_at "g_put"); intro HH ww)
  | ((with_reducible refine' k_fld ?k1 ?k2 (cl_Flow (by assumption)) (na_Flow_rows (by assumption)) pt_Flow_rows rfl ?_); (case k1 => wtm_at "g_own"); (case k2 => wtm_at "g_put"); intro HH ww)
  | ((with_reducible refine' k_fld ?k1 ?k2 (cl_Flow (by assumption)) (na_Flow_rows (by assumption)) pn_Flow_rows rfl ?_); (case k1 => wtm_at "g_own"); (case k2 => wtm_at "g_put"); intro HH ww)
  | ((with_reducible refine' k_fld ?k1 ?k2 (cl_Flow (by assumption)) (na_Flow_octets (by assumption)) pt_Flow_octets rfl ?_); (case k1 => wtm_at "g_own"); (case k2 => wtm_at "g_put"); intro HH ww)
  | ((with_reducible refine' k_fld ?k1 ?k2 (cl_Flow (by assumption)) (na_Flow_octets (by assumption)) pn_Flow_octets rfl ?_); (case k1 => wtm_at "g_own"); (case k2 => wtm_at "g_put"); intro HH ww)
  | ((with_reducible refine' k_fld ?k1 ?k2 (cl_Flow (by assumption)) (na_Flow_credit (by assumption)) pt_Flow_credit rfl ?_); (case k1 => wtm_at "g_own"); (case k2 => wtm_at "g_put"); intro HH ww)
  | ((with_reducible refine' k_fld ?k1 ?k2 (cl_Flow (by assumption)) (na_Flow_credit (by assumption)) pn_Flow_credit rfl ?_); (case k1 => wtm_at "g_own"); (case k2 => wtm_at "g_put"); intro HH ww)
  | ((with_reducible refine' k_fld ?k1 ?k2 (cl_FairQueue (by assumption)) (na_FairQueue_limit (by assumption)) pt_FairQueue_limit rfl ?_); (case k1 => wtm_at "g_own"); (case k2 => wtm_at "g_put"); intro HH ww)
  | ((with_reducible refine' k_fld ?k1 ?k2 (cl_FairQueue (by assumption)) (na_FairQueue_limit (by assumption)) pn_FairQueue_limit rfl ?_); (case k1 => wtm_at "g_own"); (case k2 => wtm_at "g_put"); intro HH ww)
  | ((with_reducible refine' k_fld ?k1 ?k2 (cl_FairQueue (by assumption)) (na_FairQueue_quantum (by assumption)) pt_FairQueue_quantum rfl ?_); (case k1 => wtm_at "g_own"); (case k2 => wtm_at "g_put"); intro HH ww)
  | ((with_reducible refine' k_fld ?k1 ?k2 (cl_FairQueue (by assumption)) (na_FairQueue_quantum (by assumption)) pn_FairQueue_quantum rfl ?_); (case k1 => wtm_at "g_own"); (case k2 => wtm_at "g_put"); intro HH ww)
  | ((with_reducible refine' k_fld ?k1 ?k2 (cl_FairQueue (by assumption)) (na_FairQueue_flows (by assumption)) pt_FairQueue_flows rfl ?_); (case k1 => wtm_at "g_own"); (case k2 => wtm_at "g_put"); intro HH ww)
  | ((with_reducible refine' k_fld ?k1 ?k2 (cl_FairQueue (by assumption)) (na_FairQueue_flows (by assumption)) pn_FairQueue_flows rfl ?_); (case k1 => wtm_at "g_own"); (case k2 => wtm_at "g_put"); intro HH ww)
  | ((with_reducible refine' k_fld ?k1 ?k2 (cl_FairQueue (by assumption)) (na_FairQueue_granted (by assumption)) pt_FairQueue_granted rfl ?_); (case k1 => wtm_at "g_own"); (case k2 => wtm_at "g_put"); intro HH ww)
  | ((with_reducible refine' k_fld ?k1 ?k2 (cl_FairQueue (by assumption)) (na_FairQueue_granted (by assumption)) pn_FairQueue_granted rfl ?_); (case k1 => wtm_at "g_own"); (case k2 => wtm_at "g_put"); intro HH ww)
  | fail)
local macro_rules | `(tactic| wtm_at "g_set2") => `(tactic| first
  | ((with_reducible refine' k_fa ?k1 ?k2 pt_Waiting_key rfl ?_); (case k1 => wtm_at "g_own"); (case k2 => wtm_at "g_put"); intro HH ww)
  | ((with_reducible refine' k_fa ?k1 ?k2 pt_Waiting_item rfl ?_); (case k1 => wtm_at "g_own"); (case k2 => wtm_at "g_put"); intro HH ww)
  | ((with_reducible refine' k_fa ?k1 ?k2 pt_Waiting_weight rfl ?_); (case k1 => wtm_at "g_own"); (case k2 => wtm_at "g_put"); intro HH ww)
  | ((with_reducible refine' k_fa ?k1 ?k2 pt_Flow_key rfl ?_); (case k1 => wtm_at "g_own"); (case k2 => wtm_at "g_put"); intro HH ww)
  | ((with_reducible refine' k_fa ?k1 ?k2 pt_Flow_rows rfl ?_); (case k1 => wtm_at "g_own"); (case k2 => wtm_at "g_put"); intro HH ww)
  | ((with_reducible refine' k_fa ?k1 ?k2 pt_Flow_octets rfl ?_); (case k1 => wtm_at "g_own"); (case k2 => wtm_at "g_put"); intro HH ww)
  | ((with_reducible refine' k_fa ?k1 ?k2 pt_Flow_credit rfl ?_); (case k1 => wtm_at "g_own"); (case k2 => wtm_at "g_put"); intro HH ww)
  | ((with_reducible refine' k_fa ?k1 ?k2 pt_FairQueue_limit rfl ?_); (case k1 => wtm_at "g_own"); (case k2 => wtm_at "g_put"); intro HH ww)
  | ((with_reducible refine' k_fa ?k1 ?k2 pt_FairQueue_quantum rfl ?_); (case k1 => wtm_at "g_own"); (case k2 => wtm_at "g_put"); intro HH ww)
  | ((with_reducible refine' k_fa ?k1 ?k2 pt_FairQueue_flows rfl ?_); (case k1 => wtm_at "g_own"); (case k2 => wtm_at "g_put"); intro HH ww)
  | ((with_reducible refine' k_fa ?k1 ?k2 pt_FairQueue_granted rfl ?_); (case k1 => wtm_at "g_own"); (case k2 => wtm_at "g_put"); intro HH ww)
  | fail)
local macro_rules | `(tactic| wtm_at "g_mt") => `(tactic| first
  | ((with_reducible refine' w_mt1 ?k1 ln_Flow_add ?_); (case k1 => wtm_at "g_hp"))
  | ((with_reducible refine' w_mt1 ?k1 ln_Flow_take ?_); (case k1 => wtm_at "g_hp"))
  | ((with_reducible refine' w_mt1 ?k1 ln_Flow_fork ?_); (case k1 => wtm_at "g_hp"))
  | ((with_reducible refine' w_mt1 ?k1 ln_FairQueue_count ?_); (case k1 => wtm_at "g_hp"))
  | ((with_reducible refine' w_mt1 ?k1 ln_FairQueue_octets ?_); (case k1 => wtm_at "g_hp"))
  | ((with_reducible refine' w_mt1 ?k1 ln_FairQueue_octets_of ?_); (case k1 => wtm_at "g_hp"))
  | ((with_reducible refine' w_mt1 ?k1 ln_FairQueue_flow_of ?_); (case k1 => wtm_at "g_hp"))
  | ((with_reducible refine' w_mt1 ?k1 ln_FairQueue_remove_flow ?_); (case k1 => wtm_at "g_hp"))
  | ((with_reducible refine' w_mt1 ?k1 ln_FairQueue_put ?_); (case k1 => wtm_at "g_hp"))
  | ((with_reducible refine' w_mt1 ?k1 ln_FairQueue_drop ?_); (case k1 => wtm_at "g_hp"))
  | ((with_reducible refine' w_mt1 ?k1 ln_FairQueue_turn ?_); (case k1 => wtm_at "g_hp"))
  | ((with_reducible refine' w_mt1 ?k1 ln_FairQueue_next_up ?_); (case k1 => wtm_at "g_hp"))
  | ((with_reducible refine' w_mt1 ?k1 ln_FairQueue_take ?_); (case k1 => wtm_at "g_hp"))
  | ((with_reducible refine' w_mt1 ?k1 ln_FairQueue_take_all ?_); (case k1 => wtm_at "g_hp"))
  | ((with_reducible refine' w_mt1 ?k1 ln_FairQueue_fork ?_); (case k1 => wtm_at "g_hp"))
  | fail)
local macro_rules | `(tactic| wtm_at "g_mkk") => `(tactic| first
  | fail
  | fail)
local macro_rules | `(tactic| wtm_at "g_callf") => `(tactic| first
  | ((with_reducible refine' c_Waiting_init ?k1 ?k2 ?k3 ?_); (case k1 => wtm_at "g_own"); (case k2 => wtm_at "g_pk"); (case k3 => wtm_at "g_pk"); intro HH ww)
  | ((with_reducible refine' c_Flow_init ?k1 ?k2 ?k3 ?_); (case k1 => wtm_at "g_own"); (case k2 => wtm_at "g_pk"); (case k3 => wtm_at "g_pk"); intro HH ww)
  | ((with_reducible refine' c_octets ?k0 ?k1 ?k2 ?_); (case k1 => wtm_at "g_own"); (case k2 => wtm_at "g_pk"); (case k0 => omega); intro HH ww)
  | ((with_reducible refine' w_fldT tell_qu_lim ?k1 ?k2 (cl_FairQueue (by assumption)) (na_FairQueue_limit (by assumption)) ?_); (case k1 => wtm_at "g_own"); (case k2 => wtm_at "g_pk"); intro dz fz; (try clear fz dz))
  | ((with_reducible refine' w_fldT tell_qu_q ?k1 ?k2 (cl_FairQueue (by assumption)) (na_FairQueue_quantum (by assumption)) ?_); (case k1 => wtm_at "g_own"); (case k2 => wtm_at "g_pk"); intro dz fz; (try clear fz dz))
  | ((with_reducible refine' w_fldT tell_wt_w ?k1 ?k2 (cl_Waiting (by assumption)) (na_Waiting_weight (by assumption)) ?_); (case k1 => wtm_at "g_own"); (case k2 => wtm_at "g_pk"); intro dz fz; (try clear fz dz))
  | ((with_reducible refine' w_fldT tell_wt_i ?k1 ?k2 (cl_Waiting (by assumption)) (na_Waiting_item (by assumption)) ?_); (case k1 => wtm_at "g_own"); (case k2 => wtm_at "g_pk"); intro dz fz; (try clear fz dz))
  | ((with_reducible refine' w_mtT (tell_qu_m ln_FairQueue_octets) ?k1 ?k2 ?_); (case k1 => wtm_at "g_own"); (case k2 => wtm_at "g_pk"))
  | ((with_reducible refine' w_mtT (tell_qu_m ln_FairQueue_drop) ?k1 ?k2 ?_); (case k1 => wtm_at "g_own"); (case k2 => wtm_at "g_pk"))
  | ((with_reducible refine' w_mtT (tell_qu_m ln_FairQueue_turn) ?k1 ?k2 ?_); (case k1 => wtm_at "g_own"); (case k2 => wtm_at "g_pk"))
  | ((with_reducible refine' w_mtT (tell_qu_m ln_FairQueue_next_up) ?k1 ?k2 ?_); (case k1 => wtm_at "g_own"); (case k2 => wtm_at "g_pk"))
  | ((with_reducible refine' w_mtT (tell_qu_m ln_FairQueue_remove_flow) ?k1 ?k2 ?_); (case k1 => wtm_at "g_own"); (case k2 => wtm_at "g_pk"))
  | ((with_reducible refine' w_mtT (tell_fl_m ln_Flow_add) ?k1 ?k2 ?_); (case k1 => wtm_at "g_own"); (case k2 => wtm_at "g_pk"))
  | ((with_reducible refine' w_mtT (tell_fl_m ln_Flow_take) ?k1 ?k2 ?_); (case k1 => wtm_at "g_own"); (case k2 => wtm_at "g_pk"))
  | fail)
local macro_rules | `(tactic| wtm_at "g_call") => `(tactic| first
  | wtm_at "g_callf"
  | ((with_reducible refine' w_mtT (tell_qu_m ln_FairQueue_count) ?k1 ?k2 ?_); (case k1 => wtm_at "g_own"); (case k2 => wtm_at "g_pk"))
  | ((with_reducible refine' w_mtT (tell_qu_m ln_FairQueue_octets_of) ?k1 ?k2 ?_); (case k1 => wtm_at "g_own"); (case k2 => wtm_at "g_pk"))
  | ((with_reducible refine' w_mtT (tell_qu_m ln_FairQueue_flow_of) ?k1 ?k2 ?_); (case k1 => wtm_at "g_own"); (case k2 => wtm_at "g_pk"))
  | ((with_reducible refine' w_mtT (tell_qu_m ln_FairQueue_put) ?k1 ?k2 ?_); (case k1 => wtm_at "g_own"); (case k2 => wtm_at "g_pk"))
  | ((with_reducible refine' w_mtT (tell_qu_m ln_FairQueue_take) ?k1 ?k2 ?_); (case k1 => wtm_at "g_own"); (case k2 => wtm_at "g_pk"))
  | ((with_reducible refine' w_mtT (tell_qu_m ln_FairQueue_take_all) ?k1 ?k2 ?_); (case k1 => wtm_at "g_own"); (case k2 => wtm_at "g_pk"))
  | ((with_reducible refine' w_mtT (tell_qu_m ln_FairQueue_fork) ?k1 ?k2 ?_); (case k1 => wtm_at "g_own"); (case k2 => wtm_at "g_pk"))
  | ((with_reducible refine' w_mtT (tell_fl_m ln_Flow_fork) ?k1 ?k2 ?_); (case k1 => wtm_at "g_own"); (case k2 => wtm_at "g_pk"))
  | fail)
local macro_rules | `(tactic| wtm_at "g_own") => `(tactic| first
  | (with_reducible assumption)
  | ((with_reducible refine' Own.newT ?k1 ?k2); (case k1 => with_reducible assumption); (case k2 => wtm_at "g_own"))
  | ((with_reducible refine' Own.new ?k1 ?k2); (case k1 => with_reducible assumption); (case k2 => wtm_at "g_own"))
  | ((with_reducible refine' Own.put ?k1 ?k2); (case k1 => wtm_at "g_own"); (case k2 => wtm_at "g_put"))
  | ((with_reducible refine' Own.sel ?k1 ?k2); (case k1 => with_reducible assumption); (case k2 => wtm_at "g_sel"))
  | fail)
local macro_rules | `(tactic| wtm_at "g_sel") => `(tactic| first
  | (with_reducible exact Sel.rf) | (with_reducible exact Sel.nil)
  | ((with_reducible refine' Sel.cons ?k1 ?k2); (case k1 => wtm_at "g_pk"); (case k2 => wtm_at "g_sel"))
  | ((with_reducible refine' Sel.drop ?k1); (case k1 => wtm_at "g_sel"))
  | fail)
local macro_rules | `(tactic| wtm_at "g_got") => `(tactic| first
  | (with_reducible assumption) | (with_reducible exact Got.here)
  | ((with_reducible refine' Got.next ?k1); (case k1 => wtm_at "g_got"))
  | fail)
local macro_rules | `(tactic| wtm_at "g_gl") => `(tactic| first
  | (with_reducible assumption) | (with_reducible exact GotL.here) | (with_reducible exact GotL.hereS)
  | ((with_reducible refine' GotL.next ?k1); (case k1 => wtm_at "g_gl"))
  | fail)
local macro_rules | `(tactic| wtm_at "g_put") => `(tactic| first
  | (with_reducible assumption) | (with_reducible exact Put.here)
  | ((with_reducible refine' Put.next ?k1); (case k1 => wtm_at "g_put"))
  | fail)
local macro_rules | `(tactic| wtm_at "g_pk") => `(tactic| first
  | (with_reducible assumption) | (with_reducible exact Pick.keep) | (with_reducible exact Pick.here)
  | ((with_reducible refine' Pick.next ?k1); (case k1 => wtm_at "g_pk"))
  | fail)
local macro_rules | `(tactic| wtm_at "g_hp") => `(tactic| first
  | (with_reducible assumption) | (with_reducible exact upd_same)
  | ((with_reducible refine' Own.get ?k1 ?k2); (case k1 => wtm_at "g_own"); (case k2 => wtm_at "g_got"))
  | fail)
local macro_rules | `(tactic| wtm_at "g_sq") => `(tactic| first
  | (with_reducible assumption)
  | ((with_reducible refine' Own.sql ?k1 ?k2); (case k1 => wtm_at "g_own"); (case k2 => wtm_at "g_gl"))
  | ((with_reducible refine' SqL.of ?k1); (case k1 => wtm_at "g_hp"))
  | fail)
local macro_rules | `(tactic| wtm_at "g_sqt") => `(tactic| first
  | (with_reducible assumption) | ((with_reducible refine' SqT.of' ?k1); (case k1 => wtm_at "g_hp"))
  | fail)
local macro_rules | `(tactic| wtm_at "g_sz") => `(tactic| first
  | (with_reducible assumption) | (exact small_le rfl)
  | ((with_reducible refine' small16 ?k1); (case k1 => (try simp only [List.length_append, List.length_map, List.length_cons, List.length_nil, List.length_take, List.length_drop, List.length_set, List.length_range]); omega))
  | ((with_reducible refine' small16l ?k1); (case k1 => (try simp only [List.length_append, List.length_map, List.length_cons, List.length_nil, List.length_take, List.length_drop, List.length_set, List.length_range]); omega))
  | fail)
local macro_rules | `(tactic| wtm_at "g_gd") => `(tactic| first
  | (with_reducible assumption) | (with_reducible exact GotD.here) | (with_reducible exact GotD.hereR) | (with_reducible exact GotD.ints)
  | ((with_reducible refine' GotD.next ?k1); (case k1 => wtm_at "g_gd"))
  | fail)
local macro_rules | `(tactic| wtm_at "g_dp") => `(tactic| first
  | (with_reducible assumption)
  | ((with_reducible refine' Own.dpG ?k1 ?k2); (case k1 => wtm_at "g_own"); (case k2 => wtm_at "g_gd"))
  | fail)
local macro_rules | `(tactic| wtm_at "g_ar") => `(tactic| first
  | decide | (exact ⟨by decide, by decide⟩) | (exact Or.inr ⟨by decide, by decide⟩) | (exact Or.inl ⟨by decide, by decide⟩) | omega | (exact Or.inr ⟨by omega, by omega⟩) | (exact Or.inl ⟨by omega, by omega⟩) | (exact ⟨by omega, by omega⟩)
  | fail)
local macro_rules | `(tactic| wtm_at "g_ow") => `(tactic| first
  | wtm_at "g_own"
  | ((simp only [List.map_cons, List.map_nil]); wtm_at "g_own")
  | fail)
local macro_rules | `(tactic| wtm_at "g_callc") => `(tactic| first
  | ((with_reducible refine' o_digit ?k1 ?k2 ?k3 ?k4 ?_); (case k1 => wtm_at "g_own"); (case k2 => wtm_at "g_pk"); (case k3 => omega); (case k4 => omega); intro d HH d0 d1 ww)
  | ((with_reducible refine' o_start ?k1 ?_); (case k1 => wtm_at "g_own"); intro p HH ww)
  | ((with_reducible refine' c_cell ?k1 ?k2 ?_); (case k1 => wtm_at "g_sq"); (case k2 => omega); intro n)
  | ((with_reducible refine' c_isint ?_))
  | fail)
local macro_rules | `(tactic| wtm_at "g_st") => `(tactic| first
  | (with_reducible first
      | refine w_seq ?_ | refine w_asg ?_ | refine w_nm ?_ | refine w_next ?_ | refine w_if ?_ | refine w_ret ?_ | refine w_retN ?_ | refine w_drop ?_
      | refine w_var rfl ?_ | refine w_c ?_ | refine w_op ?_ | refine w_I0 ?_
      | refine w_eqI ?_ | refine w_neI ?_ | refine w_eqB ?_ | refine w_neB ?_ | refine w_eqS ?_ | refine w_neS ?_ | refine w_isN0 ?_ | refine w_isNi ?_ | refine w_isNr ?_ | refine w_isNb ?_ | refine w_isNs ?_ | refine w_notN0 ?_ | refine w_notNi ?_ | refine w_notNr ?_ | refine w_notNb ?_ | refine w_notNs ?_ | refine w_isN ?_ | refine w_notN ?_ | refine w_isB ?_ | refine w_notB ?_
      | refine w_un ?_ | refine w_U ?_ | refine w_chain ?_ | refine w_k ?_ | refine w_test ?_ | refine w_tB ?_ | refine w_tru ?_ | refine w_not ?_ | refine w_and ?_ | refine w_or ?_
      | refine w_andV ?_ | refine w_orV ?_ | refine w_notV ?_ | refine w_ife ?_ | refine w_nil ?_ | refine w_cons ?_ | refine w_tupK ?_ | refine w_lstK ?_ | refine w_small rfl ?_
      | refine w_call ?_ | refine w_mkQ ?_ | refine w_mt ?_ | refine k_ini ?_ | refine w_cb ?_ | refine w_min2 ?_ | refine w_max2 ?_ | refine w_abs ?_ | refine w_int ?_ | refine w_intb ?_
      | refine w_fld0 ?_ | refine w_bm ?_ | refine w_bm0 ?_ | refine w_sub ?_ | refine w_sfldQ ?_ | refine w_sfaQ ?_ | refine w_delQ ?_ | refine k_whT ?_ | refine w_radd ?_ | refine w_rsub ?_ | refine w_ip ?_ | refine w_rs ?_ | refine w_pr ?_
      | refine w_lcR1 ?_ | refine w_lcR2 ?_ | refine w_lcL ?_ | refine w_lcT ?_ | refine w_yes ?_ | refine w_disp ?_ | refine w_prs ?_ | refine w_prn ?_ | refine w_dget ?_ | refine w_sl ?_ | refine w_nopart ?_ | refine w_part ?_ | refine w_pint ?_
      | refine w_for3 ?_ | refine w_mkKQ ?_ | refine w_forR1 ?_ | refine w_forR2 ?_ | refine w_forL ?_ | refine w_forT ?_ | refine w_aug rfl ?_ | refine w_par ?_ | refine w_brk ?_ | refine w_cont ?_
      | refine w_isi_ii ?_ | refine w_isi_ib ?_ | refine w_isi_bi ?_ | refine w_isi_bb ?_ | refine w_isi_ss ?_ | refine w_isi_is ?_ | refine w_isi_il ?_ | refine w_isi_it ?_ | refine w_isi_sl ?_ | refine w_isi_st ?_ | refine w_isi_nl ?_ | refine w_isi_nt ?_
      | refine if_T ?_ | refine if_F ?_ | refine if_nT ?_ | refine if_nF ?_)
  | ((with_reducible refine' k_tup rfl ?k1 ?_); (case k1 => wtm_at "g_own"); intro p HH ww)
  | ((with_reducible refine' k_lst1R ?k1 ?_); (case k1 => wtm_at "g_own"); intro p HH ww)
  | ((with_reducible refine' k_lst1I ?k1 ?_); (case k1 => wtm_at "g_own"); intro p HH ww)
  | ((with_reducible refine' k_lst rfl ?k1 ?_); (case k1 => wtm_at "g_own"); intro p HH ww)
  | ((with_reducible refine' k_mk ?k1 ?_); (case k1 => wtm_at "g_own"); intro p dx HH ww)
  | wtm_at "g_mkk"
  | ((with_reducible refine' k_listL ?k1 ?k2 ?_); (case k1 => wtm_at "g_own"); (case k2 => wtm_at "g_sq"); intro p HH ww)
  | ((with_reducible refine' k_listT ?k1 ?k2 ?_); (case k1 => wtm_at "g_own"); (case k2 => wtm_at "g_sqt"); intro p HH ww)
  | ((with_reducible refine' k_tupL ?k1 ?k2 ?_); (case k1 => wtm_at "g_own"); (case k2 => wtm_at "g_sq"); intro p HH ww)
  | ((with_reducible refine' k_slfromRs ?k1 ?k2 ?_); (case k1 => wtm_at "g_own"); (case k2 => wtm_at "g_sq"); intro p HH ww)
  | ((with_reducible refine' k_slfromR1 ?k1 ?k2 ?_); (case k1 => wtm_at "g_own"); (case k2 => wtm_at "g_sq"); intro p HH ww)
  | ((with_reducible refine' k_slfromRn ?k1 ?k2 ?_); (case k1 => wtm_at "g_own"); (case k2 => wtm_at "g_sq"); intro p HH ww)
  | ((with_reducible refine' k_sltoR1 ?k1 ?k2 ?_); (case k1 => wtm_at "g_own"); (case k2 => wtm_at "g_sq"); intro p HH ww)
  | ((with_reducible refine' k_sltoRn ?k1 ?k2 ?_); (case k1 => wtm_at "g_own"); (case k2 => wtm_at "g_sq"); intro p HH ww)
  | ((with_reducible refine' k_slfromIs ?k1 ?k2 ?_); (case k1 => wtm_at "g_own"); (case k2 => wtm_at "g_sq"); intro p HH ww)
  | ((with_reducible refine' k_slfromI1 ?k1 ?k2 ?_); (case k1 => wtm_at "g_own"); (case k2 => wtm_at "g_sq"); intro p HH ww)
  | ((with_reducible refine' k_slfromIn ?k1 ?k2 ?_); (case k1 => wtm_at "g_own"); (case k2 => wtm_at "g_sq"); intro p HH ww)
  | ((with_reducible refine' k_sltoI1 ?k1 ?k2 ?_); (case k1 => wtm_at "g_own"); (case k2 => wtm_at "g_sq"); intro p HH ww)
  | ((with_reducible refine' k_sltoIn ?k1 ?k2 ?_); (case k1 => wtm_at "g_own"); (case k2 => wtm_at "g_sq"); intro p HH ww)
  | ((with_reducible refine' k_slfromI ?k1 ?k2 ?k3 ?_); (case k1 => wtm_at "g_own"); (case k2 => wtm_at "g_sq"); (case k3 => omega); intro p HH ww)
  | ((with_reducible refine' k_sltoI ?k1 ?k2 ?k3 ?_); (case k1 => wtm_at "g_own"); (case k2 => wtm_at "g_sq"); (case k3 => omega); intro p HH ww)
  | ((with_reducible refine' k_slmidI ?k1 ?k2 ?k3 ?k4 ?_); (case k1 => wtm_at "g_own"); (case k2 => wtm_at "g_sq"); (case k3 => omega); (case k4 => omega); intro p HH ww)
  | ((with_reducible refine' k_catI ?k1 ?k2 ?k3 ?k4 ?_); (case k1 => wtm_at "g_own"); (case k2 => wtm_at "g_got"); (case k3 => wtm_at "g_got"); (case k4 => wtm_at "g_sz"); intro p HH ww)
  | ((with_reducible refine' k_catR ?k1 ?k2 ?k3 ?k4 ?_); (case k1 => wtm_at "g_own"); (case k2 => wtm_at "g_got"); (case k3 => wtm_at "g_got"); (case k4 => wtm_at "g_sz"); intro p HH ww)
  | ((with_reducible refine' k_slfromR ?k1 ?k2 ?k3 ?_); (case k1 => wtm_at "g_own"); (case k2 => wtm_at "g_sq"); (case k3 => omega); intro p HH ww)
  | ((with_reducible refine' k_sltoR ?k1 ?k2 ?k3 ?_); (case k1 => wtm_at "g_own"); (case k2 => wtm_at "g_sq"); (case k3 => omega); intro p HH ww)
  | ((with_reducible refine' k_appI ?k1 ?k2 ?k3 ?_); (case k1 => wtm_at "g_own"); (case k2 => wtm_at "g_put"); (case k3 => wtm_at "g_sz"); intro HH ww)
  | ((with_reducible refine' k_appR ?k1 ?k2 ?k3 ?_); (case k1 => wtm_at "g_own"); (case k2 => wtm_at "g_put"); (case k3 => wtm_at "g_sz"); intro HH ww)
  | ((with_reducible refine' k_extendI ?k1 ?k2 ?k3 ?k4 ?_); (case k1 => wtm_at "g_own"); (case k2 => wtm_at "g_put"); (case k3 => wtm_at "g_got"); (case k4 => wtm_at "g_sz"); intro HH ww)
  | ((with_reducible refine' k_slfrom ?k1 ?k2 ?k3 ?_); (case k1 => wtm_at "g_own"); (case k2 => wtm_at "g_sq"); (case k3 => omega); intro p HH ww)
  | ((with_reducible refine' k_slto ?k1 ?k2 ?k3 ?_); (case k1 => wtm_at "g_own"); (case k2 => wtm_at "g_sq"); (case k3 => omega); intro p HH ww)
  | ((with_reducible refine' k_slmid ?k1 ?k2 ?k3 ?k4 ?_); (case k1 => wtm_at "g_own"); (case k2 => wtm_at "g_sq"); (case k3 => omega); (case k4 => omega); intro p HH ww)
  | ((with_reducible refine' k_cat ?k1 ?k2 ?k3 ?k4 ?_); (case k1 => wtm_at "g_own"); (case k2 => wtm_at "g_got"); (case k3 => wtm_at "g_got"); (case k4 => wtm_at "g_sz"); intro p HH ww)
  | ((with_reducible refine' k_app ?k1 ?k2 ?k3 ?_); (case k1 => wtm_at "g_own"); (case k2 => wtm_at "g_put"); (case k3 => wtm_at "g_sz"); intro HH ww)
  | ((with_reducible refine' ty_list ?k1 ?_); (case k1 => wtm_at "g_hp"))
  | ((with_reducible refine' k_truR ?k1 ?_); (case k1 => wtm_at "g_sq"))
  | ((with_reducible refine' k_truI ?k1 ?_); (case k1 => wtm_at "g_sq"))
  | ((with_reducible refine' k_truL ?k1 ?_); (case k1 => wtm_at "g_sq"))
  | ((with_reducible refine' w_lenLI ?k1 ?_); (case k1 => wtm_at "g_sq"))
  | ((with_reducible refine' w_lenLR ?k1 ?_); (case k1 => wtm_at "g_sq"))
  | ((with_reducible refine' w_ixT ?k1 ?k2 ?_); (case k1 => wtm_at "g_sqt"); (case k2 => first | rfl | fail))
  | ((with_reducible refine' w_ixRc ?k1 ?_); (case k1 => wtm_at "g_sq"))
  | ((with_reducible refine' w_ixR0 ?k1 ?k2 ?_); (case k1 => wtm_at "g_sq"); (case k2 => with_reducible assumption))
  | ((with_reducible refine' w_ixR ?k1 ?k2 ?_); (case k1 => wtm_at "g_sq"); (case k2 => with_reducible assumption))
  | ((with_reducible refine' w_ixLastR ?k1 ?k2 ?_); (case k1 => wtm_at "g_sq"); (case k2 => with_reducible assumption))
  | ((with_reducible refine' k_slinitR ?k1 ?k2 ?_); (case k1 => wtm_at "g_own"); (case k2 => wtm_at "g_sq"); intro p HH ww)
  | ((with_reducible refine' w_gTup ?k1 ?k2 ?_); (case k1 => wtm_at "g_sqt"); (case k2 => rfl))
  | (with_reducible refine w_gCons ?_)
  | (with_reducible refine w_gNil ?_)
  | ((with_reducible refine' w_ixI ?k1 ?k2 ?k3 ?_); (case k1 => wtm_at "g_sq"); (case k2 => omega); (case k3 => omega))
  | ((with_reducible refine' w_I ?k1 ?_); (case k1 => wtm_at "g_ar"))
  | ((with_reducible refine' k_reverse ?k1 ?k2 ?_); (case k1 => wtm_at "g_own"); (case k2 => wtm_at "g_put"); intro HH ww)
  | ((with_reducible refine' w_lenL ?k1 ?_); (case k1 => wtm_at "g_sq"))
  | ((with_reducible refine' w_lenT ?k1 ?_); (case k1 => wtm_at "g_sqt"))
  | ((with_reducible refine' w_isi_ll ?k1 ?_); (case k1 => wtm_at "g_hp"))
  | ((with_reducible refine' w_isi_tt ?k1 ?_); (case k1 => wtm_at "g_hp"))
  | ((with_reducible refine' w_isi_lt ?k1 ?_); (case k1 => wtm_at "g_hp"))
  | ((with_reducible refine' w_isi_tl ?k1 ?_); (case k1 => wtm_at "g_hp"))
  | ((with_reducible refine' w_ll ?k1 ?k2 ?_); (case k1 => rfl); (case k2 => rfl))
  | wtm_at "g_get"
  | wtm_at "g_mt"
  | wtm_at "g_set"
  | wtm_at "g_set2"
  | wtm_at "g_call"
  | wtm_at "g_callc"
  | fail)
local macro_rules | `(tactic| wtm_at "g_go") => `(tactic| repeat wtm_at "g_st")
local macro_rules | `(tactic| wtm_at "g_ifo") => `(tactic| first
  | (refine if_nno rfl ?_) | (refine if_yes rfl ?_)
  | (refine if_no (by omega) ?_)
  | (refine if_yes (by omega) ?_)
  | (refine if_nno (by omega) ?_)
  | (refine if_nyes (by omega) ?_)
  | (refine if_nno (decide_eq_false (by omega)).symm ?_)
  | (refine if_nno (decide_eq_true (by omega)).symm ?_)
  | fail)
local macro_rules | `(tactic| wtm_at "g_goo") => `(tactic| repeat (first | wtm_at "g_st" | wtm_at "g_ifo"))
section
theorem sum_out {rows : List Wt} {g : Wt} (h : rows.Pairwise (fun a b => num a < num b)) (hg : g ∈ rows) : ((out g rows).map (·.w)).sum = (rows.map (·.w)).sum - g.w := by
  induction rows with
  | nil => cases hg
  | cons x l ih =>
    obtain ⟨h1, h2⟩ := List.pairwise_cons.mp h
    have e : ∀ r, out g (x :: r) = if num x ≠ num g then x :: out g r else out g r := fun r => by
      unfold out
      rw [List.filter_cons]
      by_cases e : num x ≠ num g
      · rw [if_pos (decide_eq_true e), if_pos e]
      · rw [if_neg (by rw [decide_eq_false e]; decide), if_neg e]
    rcases List.mem_cons.mp hg with e1 | hg'
    · subst e1
      have : out g l = l := List.filter_eq_self.mpr fun r hr => decide_eq_true (by have := h1 r hr; omega)
      rw [e, if_neg (by simp), this, List.map_cons, List.sum_cons]
      omega
    · have h3 := h1 g hg'
      rw [e, if_pos (by omega), List.map_cons, List.sum_cons, List.map_cons, List.sum_cons, ih h2 hg']
      omega
theorem dropL_cons {lim : Int} {n : Nat} {fs F : List Fl} {gr G : Bool} {g : Wt} {rest : List Wt} (hl : 1 ≤ lim) (h : dropL lim n fs gr = (F, G, g :: rest)) : ∃ m, lim < octs fs ∧ fs ≠ [] ∧ g = dropW fs ∧ dropL lim m (dropS fs gr).1 (dropS fs gr).2 = (F, G, rest) := by
  cases n with
  | zero => cases h
  | succ m =>
    rw [dropL] at h
    split at h
    · cases h
    · rename_i hc
      refine ⟨m, by omega, ?_, ?_, ?_⟩
      · rintro rfl
        rw [octs_nil] at hc
        omega
      · exact (List.cons.inj (congrArg (fun z => z.2.2) h)).1.symm
      · have h1 := congrArg (fun z => z.1) h
        have h2 := congrArg (fun z => z.2.1) h
        have h3 := (List.cons.inj (congrArg (fun z => z.2.2) h)).2
        dsimp only at h1 h2 h3
        rw [← h1, ← h2, ← h3]
theorem dropL_end {lim : Int} {n : Nat} {fs F : List Fl} {gr G : Bool} (h : dropL lim n fs gr = (F, G, [])) : F = fs := by
  cases n with
  | zero => cases h; rfl
  | succ m =>
    rw [dropL] at h
    split at h
    · cases h; rfl
    · cases h
theorem dropL_lim {lim : Int} (hl : 1 ≤ lim) : ∀ (n : Nat) (fs : List Fl) (gr : Bool), (∀ f ∈ fs, WFl f) → cnt fs ≤ n → octs (dropL lim n fs gr).1 ≤ lim
  | 0, fs, gr, hw, hc => by
    have : fs = [] := by
      have := fs_cnt fun f hf => (hw f hf).ne
      exact List.eq_nil_of_length_eq_zero (by omega)
    subst this
    show octs [] ≤ lim
    rw [octs_nil]
    omega
  | n + 1, fs, gr, hw, hc => by
    rw [dropL]
    split
    · assumption
    · rename_i h
      have hn : fs ≠ [] := by
        rintro rfl
        rw [octs_nil] at h
        omega
      have := cnt_dropS (gr := gr) hn fun f hf => (hw f hf).ne
      exact dropL_lim hl n _ _ (wfl_dropS hn hw) (by omega)
theorem dropL_len {lim : Int} : ∀ (n : Nat) (fs : List Fl) (gr : Bool), (dropL lim n fs gr).2.2.length ≤ n
  | 0, fs, gr => Nat.le_refl 0
  | n + 1, fs, gr => by
    rw [dropL]
    split
    · exact Nat.zero_le _
    · exact Nat.succ_le_succ (dropL_len n _ _)
theorem put_len {x : Qu} {k : Ky} {i : V} {w : Int} : (putF x k i w).2.length ≤ cnt x.fs + 1 := by
  unfold putF
  split
  · exact Nat.succ_le_succ (Nat.zero_le _)
  · have := dropL_len (lim := x.lim) (cnt (addF x.fs k (i, w))) (addF x.fs k (i, w)) x.gr
    have h2 : cnt (addF x.fs k (i, w)) = cnt x.fs + 1 := cnt_add
    show (dropL _ _ _ _).2.2.length ≤ _
    omega
variable {K : PySem.W.Frag} {mg : Str → Option Value} {base : Heap}
theorem key_test2 {σ : L2.St} {v0 v9 : Nat} {b : Addr} {g : Wt} (hv : v0 < σ.length) (h3 : v0 ≠ v9) (e3 : σ[v9]? = some (some (.ref b))) {a : Addr} {x : Wt} {M M' : List HP} {H1 : Hp} {B : Bool → Hp → Prop} (hk : kOk x.k) (hg : kOk g.k) (w : Own (RtP a x :: M) H1) (pk : Pick M (RtP b g) M') (k : ∀ H2, Own M H2 → B (decide (x.k = g.k)) H2) :
    tTest (tOp (rEqD K) (tOp (rIxT K) (tVar v0) (tC (.int 1))) (tOp (rIxT K) (tVar v9) (tC (.int 1)))) ((σ.set v0 none).set v0 (some (.ref a))) H1 B := by
  have e1 : ((σ.set v0 none).set v0 (some (V.ref a)))[v0]? = some (some (V.ref a)) := List.getElem?_set_self (by rw [List.length_set]; exact hv)
  have e2 : ((σ.set v0 none).set v0 (some (V.ref a)))[v9]? = some (some (V.ref b)) := by
    rw [List.getElem?_set_ne h3, List.getElem?_set_ne h3]
    exact e3
  obtain ⟨ka, a1, a2⟩ := w.ent (.here tell_rt)
  obtain ⟨kb, b1, b2⟩ := (w.tail.pick pk).ent (.here tell_rt)
  refine w_test (w_op (w_op (w_var e1 (w_c (w_ixT (SqT.of' a1) rfl ?_)))))
  refine w_op (w_var e2 (w_c (w_ixT (SqT.of' b1) rfl ?_)))
  exact w_eqK a2 b2 hk hg ⟨_, rfl, k _ w.tail⟩
theorem ne_test {σ : L2.St} {v0 v9 : Nat} {b : Addr} {g : Wt} {fs : List Fl} {rows : List Wt} (hJ : JX fs rows) (hg : g ∈ rows) (hv : v0 < σ.length) (h3 : v0 ≠ v9) (e3 : σ[v9]? = some (some (.ref b))) {a : Addr} {x : Wt} {M M' : List HP} {H1 : Hp} {B : Bool → Hp → Prop} (hx : x ∈ rows) (w : Own (RtP a x :: M) H1) (pk : Pick M (RtP b g) M') (k : ∀ H2, Own M H2 → B (decide (num x ≠ num g)) H2) :
    tTest (tOp (rNeD K) (tVar v0) (tVar v9)) ((σ.set v0 none).set v0 (some (.ref a))) H1 B := by
  have e1 : ((σ.set v0 none).set v0 (some (V.ref a)))[v0]? = some (some (V.ref a)) := List.getElem?_set_self (by rw [List.length_set]; exact hv)
  have e2 : ((σ.set v0 none).set v0 (some (V.ref a)))[v9]? = some (some (V.ref b)) := by
    rw [List.getElem?_set_ne h3, List.getElem?_set_ne h3]
    exact e3
  have gx := hJ.gr x hx
  have gg := hJ.gr g hg
  refine w_test (w_op (w_var e1 (w_var e2 ?_)))
  refine w_neD (w.ent (.here (tell_rtD gx))) ((w.tail.pick pk).ent (.here (tell_rtD gg))) (rw_shaped gx) (rw_shaped gg) ⟨_, rfl, ?_⟩
  rw [eqv_rw hJ hx hg]
  have e : (!decide (num x = num g)) = decide (num x ≠ num g) := by by_cases e : num x = num g <;> simp [e]
  rw [e]
  exact k _ w.tail
theorem w_nin {fs : List Fl} {rows : List Wt} {H : Hp} {Q : VK} {L L1 L2 R : List HP} {b l : Addr} {g : Wt} {c : Bool} {ts : List Addr} (hJ : JX fs rows) (hg : g ∈ rows) (w : Own L H) (p0 : Pick L (RtP b g) L1) (p1 : Pick L (cell c l (.lst (ts.map V.ref))) L2) (p2 : Pick L2 (big RtP ts rows) R) (q : Q (.bl false) H) : rNotInD K (.ref b) (.ref l) H Q := by
  have gg := hJ.gr g hg
  refine ⟨rwD g, rows.map rwD, (w.pick p0).ent (.here (tell_rtD gg)), rws_dp hJ.gr (w.take2 p1 p2), rw_shaped gg, rws_shaped hJ.gr, ?_⟩
  have : ((rows.map rwD).any fun z => PyData.eqv z (rwD g)) = true := List.any_eq_true.mpr ⟨rwD g, List.mem_map.mpr ⟨g, hg, rfl⟩, eqv_self (rw_shaped gg)⟩
  rw [this]
  exact q
end
end K81

namespace K81
open PySem PySem.Spec PyProof.Rows L2 G
local macro_rules | `(tactic| wtm_at "g_get") => `(tactic| first
  | ((with_reducible refine' w_fld ?k1 (cl_Waiting (by assumption)) (na_Waiting_key (by assumption)) lk_Waiting_key ?_); (case k1 => wtm_at "g_hp"))
  | ((with_reducible refine' w_fld ?k1 (cl_Waiting (by assumption)) (na_Waiting_item (by assumption)) lk_Waiting_item ?_); (case k1 => wtm_at "g_hp"))
  | ((with_reducible refine' w_fld ?k1 (cl_Waiting (by assumption)) (na_Waiting_weight (by assumption)) lk_Waiting_weight ?_); (case k1 => wtm_at "g_hp"))
  | ((with_reducible refine' w_fld ?k1 (cl_Flow (by assumption)) (na_Flow_key (by assumption)) lk_Flow_key ?_); (case k1 => wtm_at "g_hp"))
  | ((with_reducible refine' w_fld ?k1 (cl_Flow (by assumption)) (na_Flow_rows (by assumption)) lk_Flow_rows ?_); (case k1 => wtm_at "g_hp"))
  | ((with_reducible refine' w_fld ?k1 (cl_Flow (by assumption)) (na_Flow_octets (by assumption)) lk_Flow_octets ?_); (case k1 => wtm_at "g_hp"))
  | ((with_reducible refine' w_fld ?k1 (cl_Flow (by assumption)) (na_Flow_credit (by assumption)) lk_Flow_credit ?_); (case k1 => wtm_at "g_hp"))
  | ((with_reducible refine' w_fld ?k1 (cl_FairQueue (by assumption)) (na_FairQueue_limit (by assumption)) lk_FairQueue_limit ?_); (case k1 => wtm_at "g_hp"))
  | ((with_reducible refine' w_fld ?k1 (cl_FairQueue (by assumption)) (na_FairQueue_quantum (by assumption)) lk_FairQueue_quantum ?_); (case k1 => wtm_at "g_hp"))
  | ((with_reducible refine' w_fld ?k1 (cl_FairQueue (by assumption)) (na_FairQueue_flows (by assumption)) lk_FairQueue_flows ?_); (case k1 => wtm_at "g_hp"))
  | ((with_reducible refine' w_fld ?k1 (cl_FairQueue (by assumption)) (na_FairQueue_granted (by assumption)) lk_FairQueue_granted ?_); (case k1 => wtm_at "g_hp"))
  | fail)
local macro_rules | `(tactic| wtm_at "g_set") => `(tactic| first
  | ((with_reducible refine' k_fld ?k1 ?k2 (cl_Waiting (by assumption)) (na_Waiting_key (by assumption)) pt_Waiting_key rfl ?_); (case k1 => wtm_at "g_own"); (case k2 => wtm_at "g_put"); intro HH ww)
  | ((with_reducible refine' k_fld ?k1 ?k2 (cl_Waiting (by assumption)) (na_Waiting_key (by assumption)) pn_Waiting_key rfl ?_); (case k1 => wtm_at "g_own"); (case k2 => wtm_at "g_put"); intro HH ww)
  | ((with_reducible refine' k_fld ?k1 ?k2 (cl_Waiting (by assumption)) (na_Waiting_item (by assumption)) pt_Waiting_item rfl ?_); (case k1 => wtm_at "g_own"); (case k2 => wtm_at "g_put"); intro HH ww)
  | ((with_reducible refine' k_fld ?k1 ?k2 (cl_Waiting (by assumption)) (na_Waiting_item (by assumption)) pn_Waiting_item rfl ?_); (case k1 => wtm_at "g_own"); (case k2 => wtm_at "g_put"); intro HH ww)
  | ((with_reducible refine' k_fld ?k1 ?k2 (cl_Waiting (by assumption)) (na_Waiting_weight (by assumption)) pt_Waiting_weight rfl ?_); (case k1 => wtm_at "g_own"); (case k2 => wtm_at "g_put"); intro HH ww)
  | ((with_reducible refine' k_fld ?k1 ?k2 (cl_Waiting (by assumption)) (na_Waiting_weight (by assumption)) pn_Waiting_weight rfl ?_); (case k1 => wtm_at "g_own"); (case k2 => wtm_at "g_put"); intro HH ww)
  | ((with_reducible refine' k_fld ?k1 ?k2 (cl_Flow (by assumption)) (na_Flow_key (by assumption)) pt_Flow_key rfl ?_); (case k1 => wtm_at "g_own"); (case k2 => wtm_at "g_put"); intro HH ww)
  | ((with_reducible refine' k_fld ?k1 ?k2 (cl_Flow (by assumption)) (na_Flow_key (by assumption)) pn_Flow_key rfl ?_); (case k1 => wtm_at "g_own"); (case k2 => wtm_at "g_put"); intro HH ww)
  | ((with_reducible refine' k_fld ?k1 ?k2 (cl_Flow (by assumption)) (na_Flow_rows (by assumption)) pt_Flow_rows rfl ?_); (case k1 => wtm_at "g_own"); (case k2 => wtm_at "g_put"); intro HH ww)
  | ((with_reducible refine' k_fld ?k1 ?k2 (cl_Flow (by assumption)) (na_Flow_rows (by assumption)) pn_Flow_rows rfl ?_); (case k1 => wtm_at "g_own"); (case k2 => wtm_at "g_put"); intro HH ww)
  | ((with_reducible refine' k_fld ?k1 ?k2 (cl_Flow (by assumption)) (na_Flow_octets (by assumption)) pt_Flow_octets rfl ?_); (case k1 => wtm_at "g_own"); (case k2 => wtm_at "g_put"); intro HH ww)
  | ((with_reducible refine' k_fld ?k1 ?k2 (cl_Flow (by assumption)) (na_Flow_octets (by assumption)) pn_Flow_octets rfl ?_); (case k1 => wtm_at "g_own"); (case k2 => wtm_at "g_put"); intro HH ww)
  | ((with_reducible refine' k_fld ?k1 ?k2 (cl_Flow (by assumption)) (na_Flow_credit (by assumption)) pt_Flow_credit rfl ?_); (case k1 => wtm_at "g_own"); (case k2 => wtm_at "g_put"); intro HH ww)
  | ((with_reducible refine' k_fld ?k1 ?k2 (cl_Flow (by assumption)) (na_Flow_credit (by assumption)) pn_Flow_credit rfl ?_); (case k1 => wtm_at "g_own"); (case k2 => wtm_at "g_put"); intro HH ww)
  | ((with_reducible refine' k_fld ?k1 ?k2 (cl_FairQueue (by assumption)) (na_FairQueue_limit (by assumption)) pt_FairQueue_limit rfl ?_); (case k1 => wtm_at "g_own"); (case k2 => wtm_at "g_put"); intro HH ww)
  | ((with_reducible refine' k_fld ?k1 ?k2 (cl_FairQueue (by assumption)) (na_FairQueue_limit (by assumption)) pn_FairQueue_limit rfl ?_); (case k1 => wtm_at "g_own"); (case k2 => wtm_at "g_put"); intro HH ww)
  | ((with_reducible refine' k_fld ?k1 ?k2 (cl_FairQueue (by assumption)) (na_FairQueue_quantum (by assumption)) pt_FairQueue_quantum rfl ?_); (case k1 => wtm_at "g_own"); (case k2 => wtm_at "g_put"); intro HH ww)
  | ((with_reducible refine' k_fld ?k1 ?k2 (cl_FairQueue (by assumption)) (na_FairQueue_quantum (by assumption)) pn_FairQueue_quantum rfl ?_); (case k1 => wtm_at "g_own"); (case k2 => wtm_at "g_put"); intro HH ww)
  | ((with_reducible refine' k_fld ?k1 ?k2 (cl_FairQueue (by assumption)) (na_FairQueue_flows (by assumption)) pt_FairQueue_flows rfl ?_); (case k1 => wtm_at "g_own"); (case k2 => wtm_at "g_put"); intro HH ww)
  | ((with_reducible refine' k_fld ?k1 ?k2 (cl_FairQueue (by assumption)) (na_FairQueue_flows (by assumption)) pn_FairQueue_flows rfl ?_); (case k1 => wtm_at "g_own"); (case k2 => wtm_at "g_put"); intro HH ww)
  | ((with_reducible refine' k_fld ?k1 ?k2 (cl_FairQueue (by assumption)) (na_FairQueue_granted (by assumption)) pt_FairQueue_granted rfl ?_); (case k1 => wtm_at "g_own"); (case k2 => wtm_at "g_put"); intro HH ww)
  | ((with_reducible refine' k_fld ?k1 ?k2 (cl_FairQueue (by assumption)) (na_FairQueue_granted (by assumption)) pn_FairQueue_granted rfl ?_); (case k1 => wtm_at "g_own"); (case k2 => wtm_at "g_put"); intro HH ww)
  | fail)
local macro_rules | `(tactic| wtm_at "g_set2") => `(tactic| first
  | ((with_reducible refine' k_fa ?k1 ?k2 pt_Waiting_key rfl ?_); (case k1 => wtm_at "g_own"); (case k2 => wtm_at "g_put"); intro HH ww)
  | ((with_reducible refine' k_fa ?k1 ?k2 pt_Waiting_item rfl ?_); (case k1 => wtm_at "g_own"); (case k2 => wtm_at "g_put"); intro HH ww)
  | ((with_reducible refine' k_fa ?k1 ?k2 pt_Waiting_weight rfl ?_); (case k1 => wtm_at "g_own"); (case k2 => wtm_at "g_put"); intro HH ww)
  | ((with_reducible refine' k_fa ?k1 ?k2 pt_Flow_key rfl ?_); (case k1 => wtm_at "g_own"); (case k2 => wtm_at "g_put"); intro HH ww)
  | ((with_reducible refine' k_fa ?k1 ?k2 pt_Flow_rows rfl ?_); (case k1 => wtm_at "g_own"); (case k2 => wtm_at "g_put"); intro HH ww)
  | ((with_reducible refine' k_fa ?k1 ?k2 pt_Flow_octets rfl ?_); (case k1 => wtm_at "g_own"); (case k2 => wtm_at "g_put"); intro HH ww)
  | ((with_reducible refine' k_fa ?k1 ?k2 pt_Flow_credit rfl ?_); (case k1 => wtm_at "g_own"); (case k2 => wtm_at "g_put"); intro HH ww)
  | ((with_reducible refine' k_fa ?k1 ?k2 pt_FairQueue_limit rfl ?_); (case k1 => wtm_at "g_own"); (case k2 => wtm_at "g_put"); intro HH ww)
  | ((with_reducible refine' k_fa ?k1 ?k2 pt_FairQueue_quantum rfl ?_); (case k1 => wtm_at "g_own"); (case k2 => wtm_at "g_put"); intro HH ww)
  | ((with_reducible refine' k_fa ?k1 ?k2 pt_FairQueue_flows rfl ?_); (case k1 => wtm_at "g_own"); (case k2 => wtm_at "g_put"); intro HH ww)
  | ((with_reducible refine' k_fa ?k1 ?k2 pt_FairQueue_granted rfl ?_); (case k1 => wtm_at "g_own"); (case k2 => wtm_at "g_put"); intro HH ww)
  | fail)
local macro_rules | `(tactic| wtm_at "g_mt") => `(tactic| first
  | ((with_reducible refine' w_mt1 ?k1 ln_Flow_add ?_); (case k1 => wtm_at "g_hp"))
  | ((with_reducible refine' w_mt1 ?k1 ln_Flow_take ?_); (case k1 => wtm_at "g_hp"))
  | ((with_reducible refine' w_mt1 ?k1 ln_Flow_fork ?_); (case k1 => wtm_at "g_hp"))
  | ((with_reducible refine' w_mt1 ?k1 ln_FairQueue_count ?_); (case k1 => wtm_at "g_hp"))
  | ((with_reducible refine' w_mt1 ?k1 ln_FairQueue_octets ?_); (case k1 => wtm_at "g_hp"))
  | ((with_reducible refine' w_mt1 ?k1 ln_FairQueue_octets_of ?_); (case k1 => wtm_at "g_hp"))
  | ((with_reducible refine' w_mt1 ?k1 ln_FairQueue_flow_of ?_); (case k1 => wtm_at "g_hp"))
  | ((with_reducible refine' w_mt1 ?k1 ln_FairQueue_remove_flow ?_); (case k1 => wtm_at "g_hp"))
  | ((with_reducible refine' w_mt1 ?k1 ln_FairQueue_put ?_); (case k1 => wtm_at "g_hp"))
  | ((with_reducible refine' w_mt1 ?k1 ln_FairQueue_drop ?_); (case k1 => wtm_at "g_hp"))
  | ((with_reducible refine' w_mt1 ?k1 ln_FairQueue_turn ?_); (case k1 => wtm_at "g_hp"))
  | ((with_reducible refine' w_mt1 ?k1 ln_FairQueue_next_up ?_); (case k1 => wtm_at "g_hp"))
  | ((with_reducible refine' w_mt1 ?k1 ln_FairQueue_take ?_); (case k1 => wtm_at "g_hp"))
  | ((with_reducible refine' w_mt1 ?k1 ln_FairQueue_take_all ?_); (case k1 => wtm_at "g_hp"))
  | ((with_reducible refine' w_mt1 ?k1 ln_FairQueue_fork ?_); (case k1 => wtm_at "g_hp"))
  | fail)
local macro_rules | `(tactic| wtm_at "g_mkk") => `(tactic| first
  | fail
  | fail)
local macro_rules | `(tactic| wtm_at "g_callf") => `(tactic| first
  | ((with_reducible refine' c_Waiting_init ?k1 ?k2 ?k3 ?_); (case k1 => wtm_at "g_own"); (case k2 => wtm_at "g_pk"); (case k3 => wtm_at "g_pk"); intro HH ww)
  | ((with_reducible refine' c_Flow_init ?k1 ?k2 ?k3 ?_); (case k1 => wtm_at "g_own"); (case k2 => wtm_at "g_pk"); (case k3 => wtm_at "g_pk"); intro HH ww)
  | ((with_reducible refine' c_octets ?k0 ?k1 ?k2 ?_); (case k1 => wtm_at "g_own"); (case k2 => wtm_at "g_pk"); (case k0 => omega); intro HH ww)
  | ((with_reducible refine' w_fldT tell_qu_lim ?k1 ?k2 (cl_FairQueue (by assumption)) (na_FairQueue_limit (by assumption)) ?_); (case k1 => wtm_at "g_own"); (case k2 => wtm_at "g_pk"); intro dz fz; (try clear fz dz))
  | ((with_reducible refine' w_fldT tell_qu_q ?k1 ?k2 (cl_FairQueue (by assumption)) (na_FairQueue_quantum (by assumption)) ?_); (case k1 => wtm_at "g_own"); (case k2 => wtm_at "g_pk"); intro dz fz; (try clear fz dz))
  | ((with_reducible refine' w_fldT tell_wt_w ?k1 ?k2 (cl_Waiting (by assumption)) (na_Waiting_weight (by assumption)) ?_); (case k1 => wtm_at "g_own"); (case k2 => wtm_at "g_pk"); intro dz fz; (try clear fz dz))
  | ((with_reducible refine' w_fldT tell_wt_i ?k1 ?k2 (cl_Waiting (by assumption)) (na_Waiting_item (by assumption)) ?_); (case k1 => wtm_at "g_own"); (case k2 => wtm_at "g_pk"); intro dz fz; (try clear fz dz))
  | ((with_reducible refine' w_mtT (tell_qu_m ln_FairQueue_octets) ?k1 ?k2 ?_); (case k1 => wtm_at "g_own"); (case k2 => wtm_at "g_pk"))
  | ((with_reducible refine' w_mtT (tell_qu_m ln_FairQueue_drop) ?k1 ?k2 ?_); (case k1 => wtm_at "g_own"); (case k2 => wtm_at "g_pk"))
  | ((with_reducible refine' w_mtT (tell_qu_m ln_FairQueue_turn) ?k1 ?k2 ?_); (case k1 => wtm_at "g_own"); (case k2 => wtm_at "g_pk"))
  | ((with_reducible refine' w_mtT (tell_qu_m ln_FairQueue_next_up) ?k1 ?k2 ?_); (case k1 => wtm_at "g_own"); (case k2 => wtm_at "g_pk"))
  | ((with_reducible refine' w_mtT (tell_qu_m ln_FairQueue_remove_flow) ?k1 ?k2 ?_); (case k1 => wtm_at "g_own"); (case k2 => wtm_at "g_pk"))
  | ((with_reducible refine' w_mtT (tell_fl_m ln_Flow_add) ?k1 ?k2 ?_); (case k1 => wtm_at "g_own"); (case k2 => wtm_at "g_pk"))
  | ((with_reducible refine' w_mtT (tell_fl_m ln_Flow_take) ?k1 ?k2 ?_); (case k1 => wtm_at "g_own"); (case k2 => wtm_at "g_pk"))
  | fail)
local macro_rules | `(tactic| wtm_at "g_call") => `(tactic| first
  | wtm_at "g_callf"
  | ((with_reducible refine' w_mtT (tell_qu_m ln_FairQueue_count) ?k1 ?k2 ?_); (case k1 => wtm_at "g_own"); (case k2 => wtm_at "g_pk"))
  | ((with_reducible refine' w_mtT (tell_qu_m ln_FairQueue_octets_of) ?k1 ?k2 ?_); (case k1 => wtm_at "g_own"); (case k2 => wtm_at "g_pk"))
  | ((with_reducible refine' w_mtT (tell_qu_m ln_FairQueue_flow_of) ?k1 ?k2 ?_); (case k1 => wtm_at "g_own"); (case k2 => wtm_at "g_pk"))
  | ((with_reducible refine' w_mtT (tell_qu_m ln_FairQueue_put) ?k1 ?k2 ?_); (case k1 => wtm_at "g_own"); (case k2 => wtm_at "g_pk"))
  | ((with_reducible refine' w_mtT (tell_qu_m ln_FairQueue_take) ?k1 ?k2 ?_); (case k1 => wtm_at "g_own"); (case k2 => wtm_at "g_pk"))
  | ((with_reducible refine' w_mtT (tell_qu_m ln_FairQueue_take_all) ?k1 ?k2 ?_); (case k1 => wtm_at "g_own"); (case k2 => wtm_at "g_pk"))
  | ((with_reducible refine' w_mtT (tell_qu_m ln_FairQueue_fork) ?k1 ?k2 ?_); (case k1 => wtm_at "g_own"); (case k2 => wtm_at "g_pk"))
  | ((with_reducible refine' w_mtT (tell_fl_m ln_Flow_fork) ?k1 ?k2 ?_); (case k1 => wtm_at "g_own"); (case k2 => wtm_at "g_pk"))
  | fail)
local macro_rules | `(tactic| wtm_at "g_own") => `(tactic| first
  | (with_reducible assumption)
  | ((with_reducible refine' Own.newT ?k1 ?k2); (case k1 => with_reducible assumption); (case k2 => wtm_at "g_own"))
  | ((with_reducible refine' Own.new ?k1 ?k2); (case k1 => with_reducible assumption); (case k2 => wtm_at "g_own"))
  | ((with_reducible refine' Own.put ?k1 ?k2); (case k1 => wtm_at "g_own"); (case k2 => wtm_at "g_put"))
  | ((with_reducible refine' Own.sel ?k1 ?k2); (case k1 => with_reducible assumption); (case k2 => wtm_at "g_sel"))
  | fail)
local macro_rules | `(tactic| wtm_at "g_sel") => `(tactic| first
  | (with_reducible exact Sel.rf) | (with_reducible exact Sel.nil)
  | ((with_reducible refine' Sel.cons ?k1 ?k2); (case k1 => wtm_at "g_pk"); (case k2 => wtm_at "g_sel"))
  | ((with_reducible refine' Sel.drop ?k1); (case k1 => wtm_at "g_sel"))
  | fail)
local macro_rules | `(tactic| wtm_at "g_got") => `(tactic| first
  | (with_reducible assumption) | (with_reducible exact Got.here)
  | ((with_reducible refine' Got.next ?k1); (case k1 => wtm_at "g_got"))
  | fail)
local macro_rules | `(tactic| wtm_at "g_gl") => `(tactic| first
  | (with_reducible assumption) | (with_reducible exact GotL.here) | (with_reducible exact GotL.hereS)
  | ((with_reducible refine' GotL.next ?k1); (case k1 => wtm_at "g_gl"))
  | fail)
local macro_rules | `(tactic| wtm_at "g_put") => `(tactic| first
  | (with_reducible assumption) | (with_reducible exact Put.here)
  | ((with_reducible refine' Put.next ?k1); (case k1 => wtm_at "g_put"))
  | fail)
local macro_rules | `(tactic| wtm_at "g_pk") => `(tactic| first
  | (with_reducible assumption) | (with_reducible exact Pick.keep) | (with_reducible exact Pick.here)
  | ((with_reducible refine' Pick.next ?k1); (case k1 => wtm_at "g_pk"))
  | fail)
local macro_rules | `(tactic| wtm_at "g_hp") => `(tactic| first
  | (with_reducible assumption) | (with_reducible exact upd_same)
  | ((with_reducible refine' Own.get ?k1 ?k2); (case k1 => wtm_at "g_own"); (case k2 => wtm_at "g_got"))
  | fail)
local macro_rules | `(tactic| wtm_at "g_sq") => `(tactic| first
  | (with_reducible assumption)
  | ((with_reducible refine' Own.sql ?k1 ?k2); (case k1 => wtm_at "g_own"); (case k2 => wtm_at "g_gl"))
  | ((with_reducible refine' SqL.of ?k1); (case k1 => wtm_at "g_hp"))
  | fail)
local macro_rules | `(tactic| wtm_at "g_sqt") => `(tactic| first
  | (with_reducible assumption) | ((with_reducible refine' SqT.of' ?k1); (case k1 => wtm_at "g_hp"))
  | fail)
local macro_rules | `(tactic| wtm_at "g_sz") => `(tactic| first
  | (with_reducible assumption) | (exact small_le rfl)
  | ((with_reducible refine' small16 ?k1); (case k1 => (try simp only [List.length_append, List.length_map, List.length_cons, List.length_nil, List.length_take, List.length_drop, List.length_set, List.length_range]); omega))
  | ((with_reducible refine' small16l ?k1); (case k1 => (try simp only [List.length_append, List.length_map, List.length_cons, List.length_nil, List.length_take, List.length_drop, List.length_set, List.length_range]); omega))
  | fail)
local macro_rules | `(tactic| wtm_at "g_gd") => `(tactic| first
  | (with_reducible assumption) | (with_reducible exact GotD.here) | (with_reducible exact GotD.hereR) | (with_reducible exact GotD.ints)
  | ((with_reducible refine' GotD.next ?k1); (case k1 => wtm_at "g_gd"))
  | fail)
local macro_rules | `(tactic| wtm_at "g_dp") => `(tactic| first
  | (with_reducible assumption)
  | ((with_reducible refine' Own.dpG ?k1 ?k2); (case k1 => wtm_at "g_own"); (case k2 => wtm_at "g_gd"))
  | fail)
local macro_rules | `(tactic| wtm_at "g_ar") => `(tactic| first
  | decide | (exact ⟨by decide, by decide⟩) | (exact Or.inr ⟨by decide, by decide⟩) | (exact Or.inl ⟨by decide, by decide⟩) | omega | (exact Or.inr ⟨by omega, by omega⟩) | (exact Or.inl ⟨by omega, by omega⟩) | (exact ⟨by omega, by omega⟩)
  | fail)
local macro_rules | `(tactic| wtm_at "g_ow") => `(tactic| first
  | wtm_at "g_own"
  | ((simp only [List.map_cons, List.map_nil]); wtm_at "g_own")
  | fail)
local macro_rules | `(tactic| wtm_at "g_callc") => `(tactic| first
  | ((with_reducible refine' o_digit ?k1 ?k2 ?k3 ?k4 ?_); (case k1 => wtm_at "g_own"); (case k2 => wtm_at "g_pk"); (case k3 => omega); (case k4 => omega); intro d HH d0 d1 ww)
  | ((with_reducible refine' o_start ?k1 ?_); (case k1 => wtm_at "g_own"); intro p HH ww)
  | ((with_reducible refine' c_cell ?k1 ?k2 ?_); (case k1 => wtm_at "g_sq"); (case k2 => omega); intro n)
  | ((with_reducible refine' c_isint ?_))
  | fail)
local macro_rules | `(tactic| wtm_at "g_st") => `(tactic| first
  | (with_reducible first
      | refine w_seq ?_ | refine w_asg ?_ | refine w_nm ?_ | refine w_next ?_ | refine w_if ?_ | refine w_ret ?_ | refine w_retN ?_ | refine w_drop ?_
      | refine w_var rfl ?_ | refine w_c ?_ | refine w_op ?_ | refine w_I0 ?_
      | refine w_eqI ?_ | refine w_neI ?_ | refine w_eqB ?_ | refine w_neB ?_ | refine w_eqS ?_ | refine w_neS ?_ | refine w_isN0 ?_ | refine w_isNi ?_ | refine w_isNr ?_ | refine w_isNb ?_ | refine w_isNs ?_ | refine w_notN0 ?_ | refine w_notNi ?_ | refine w_notNr ?_ | refine w_notNb ?_ | refine w_notNs ?_ | refine w_isN ?_ | refine w_notN ?_ | refine w_isB ?_ | refine w_notB ?_
      | refine w_un ?_ | refine w_U ?_ | refine w_chain ?_ | refine w_k ?_ | refine w_test ?_ | refine w_tB ?_ | refine w_tru ?_ | refine w_not ?_ | refine w_and ?_ | refine w_or ?_
      | refine w_andV ?_ | refine w_orV ?_ | refine w_notV ?_ | refine w_ife ?_ | refine w_nil ?_ | refine w_cons ?_ | refine w_tupK ?_ | refine w_lstK ?_ | refine w_small rfl ?_
      | refine w_call ?_ | refine w_mkQ ?_ | refine w_mt ?_ | refine k_ini ?_ | refine w_cb ?_ | refine w_min2 ?_ | refine w_max2 ?_ | refine w_abs ?_ | refine w_int ?_ | refine w_intb ?_
      | refine w_fld0 ?_ | refine w_bm ?_ | refine w_bm0 ?_ | refine w_sub ?_ | refine w_sfldQ ?_ | refine w_sfaQ ?_ | refine w_delQ ?_ | refine k_whT ?_ | refine w_radd ?_ | refine w_rsub ?_ | refine w_ip ?_ | refine w_rs ?_ | refine w_pr ?_
      | refine w_lcR1 ?_ | refine w_lcR2 ?_ | refine w_lcL ?_ | refine w_lcT ?_ | refine w_yes ?_ | refine w_disp ?_ | refine w_prs ?_ | refine w_prn ?_ | refine w_dget ?_ | refine w_sl ?_ | refine w_nopart ?_ | refine w_part ?_ | refine w_pint ?_
      | refine w_for3 ?_ | refine w_mkKQ ?_ | refine w_forR1 ?_ | refine w_forR2 ?_ | refine w_forL ?_ | refine w_forT ?_ | refine w_aug rfl ?_ | refine w_par ?_ | refine w_brk ?_ | refine w_cont ?_
      | refine w_isi_ii ?_ | refine w_isi_ib ?_ | refine w_isi_bi ?_ | refine w_isi_bb ?_ | refine w_isi_ss ?_ | refine w_isi_is ?_ | refine w_isi_il ?_ | refine w_isi_it ?_ | refine w_isi_sl ?_ | refine w_isi_st ?_ | refine w_isi_nl ?_ | refine w_isi_nt ?_
      | refine if_T ?_ | refine if_F ?_ | refine if_nT ?_ | refine if_nF ?_)
  | ((with_reducible refine' k_tup rfl ?k1 ?_); (case k1 => wtm_at "g_own"); intro p HH ww)
  | ((with_reducible refine' k_lst1R ?k1 ?_); (case k1 => wtm_at "g_own"); intro p HH ww)
  | ((with_reducible refine' k_lst1I ?k1 ?_); (case k1 => wtm_at "g_own"); intro p HH ww)
  | ((with_reducible refine' k_lst rfl ?k1 ?_); (case k1 => wtm_at "g_own"); intro p HH ww)
  | ((with_reducible refine' k_mk ?k1 ?_); (case k1 => wtm_at "g_own"); intro p dx HH ww)
  | wtm_at "g_mkk"
  | ((with_reducible refine' k_listL ?k1 ?k2 ?_); (case k1 => wtm_at "g_own"); (case k2 => wtm_at "g_sq"); intro p HH ww)
  | ((with_reducible refine' k_listT ?k1 ?k2 ?_); (case k1 => wtm_at "g_own"); (case k2 => wtm_at "g_sqt"); intro p HH ww)
  | ((with_reducible refine' k_tupL ?k1 ?k2 ?_); (case k1 => wtm_at "g_own"); (case k2 => wtm_at "g_sq"); intro p HH ww)
  | ((with_reducible refine' k_slfromRs ?k1 ?k2 ?_); (case k1 => wtm_at "g_own"); (case k2 => wtm_at "g_sq"); intro p HH ww)
  | ((with_reducible refine' k_slfromR1 ?k1 ?k2 ?_); (case k1 => wtm_at "g_own"); (case k2 => wtm_at "g_sq"); intro p HH ww)
  | ((with_reducible refine' k_slfromRn ?k1 ?k2 ?_); (case k1 => wtm_at "g_own"); (case k2 => wtm_at "g_sq"); intro p HH ww)
  | ((with_reducible refine' k_sltoR1 ?k1 ?k2 ?_); (case k1 => wtm_at "g_own"); (case k2 => wtm_at "g_sq"); intro p HH ww)
  | ((with_reducible refine' k_sltoRn ?k1 ?k2 ?_); (case k1 => wtm_at "g_own"); (case k2 => wtm_at "g_sq"); intro p HH ww)
  | ((with_reducible refine' k_slfromIs ?k1 ?k2 ?_); (case k1 => wtm_at "g_own"); (case k2 => wtm_at "g_sq"); intro p HH ww)
  | ((with_reducible refine' k_slfromI1 ?k1 ?k2 ?_); (case k1 => wtm_at "g_own"); (case k2 => wtm_at "g_sq"); intro p HH ww)
  | ((with_reducible refine' k_slfromIn ?k1 ?k2 ?_); (case k1 => wtm_at "g_own"); (case k2 => wtm_at "g_sq"); intro p HH ww)
  | ((with_reducible refine' k_sltoI1 ?k1 ?k2 ?_); (case k1 => wtm_at "g_own"); (case k2 => wtm_at "g_sq"); intro p HH ww)
  | ((with_reducible refine' k_sltoIn ?k1 ?k2 ?_); (case k1 => wtm_at "g_own"); (case k2 => wtm_at "g_sq"); intro p HH ww)
  | ((with_reducible refine' k_slfromI ?k1 ?k2 ?k3 ?_); (case k1 => wtm_at "g_own"); (case k2 => wtm_at "g_sq"); (case k3 => omega); intro p HH ww)
  | ((with_reducible refine' k_sltoI ?k1 ?k2 ?k3 ?_); (case k1 => wtm_at "g_own"); (case k2 => wtm_at "g_sq"); (case k3 => omega); intro p HH ww)
  | ((with_reducible refine' k_slmidI ?k1 ?k2 ?k3 ?k4 ?_); (case k1 => wtm_at "g_own"); (case k2 => wtm_at "g_sq"); (case k3 => omega); (case k4 => omega); intro p HH ww)
  | ((with_reducible refine' k_catI ?k1 ?k2 ?k3 ?k4 ?_); (case k1 => wtm_at "g_own"); (case k2 => wtm_at "g_got"); (case k3 => wtm_at "g_got"); (case k4 => wtm_at "g_sz"); intro p HH ww)
  | ((with_reducible refine' k_catR ?k1 ?k2 ?k3 ?k4 ?_); (case k1 => wtm_at "g_own"); (case k2 => wtm_at "g_got"); (case k3 => wtm_at "g_got"); (case k4 => wtm_at "g_sz"); intro p HH ww)
  | ((with_reducible refine' k_slfromR ?k1 ?k2 ?k3 ?_); (case k1 => wtm_at "g_own"); (case k2 => wtm_at "g_sq"); (case k3 => omega); intro p HH ww)
  | ((with_reducible refine' k_sltoR ?k1 ?k2 ?k3 ?_); (case k1 => wtm_at "g_own"); (case k2 => wtm_at "g_sq"); (case k3 => omega); intro p HH ww)
  | ((with_reducible refine' k_appI ?k1 ?k2 ?k3 ?_); (case k1 => wtm_at "g_own"); (case k2 => wtm_at "g_put"); (case k3 => wtm_at "g_sz"); intro HH ww)
  | ((with_reducible refine' k_appR ?k1 ?k2 ?k3 ?_); (case k1 => wtm_at "g_own"); (case k2 => wtm_at "g_put"); (case k3 => wtm_at "g_sz"); intro HH ww)
  | ((with_reducible refine' k_extendI ?k1 ?k2 ?k3 ?k4 ?_); (case k1 => wtm_at "g_own"); (case k2 => wtm_at "g_put"); (case k3 => wtm_at "g_got"); (case k4 => wtm_at "g_sz"); intro HH ww)
  | ((with_reducible refine' k_slfrom ?k1 ?k2 ?k3 ?_); (case k1 => wtm_at "g_own"); (case k2 => wtm_at "g_sq"); (case k3 => omega); intro p HH ww)
  | ((with_reducible refine' k_slto ?k1 ?k2 ?k3 ?_); (case k1 => wtm_at "g_own"); (case k2 => wtm_at "g_sq"); (case k3 => omega); intro p HH ww)
  | ((with_reducible refine' k_slmid ?k1 ?k2 ?k3 ?k4 ?_); (case k1 => wtm_at "g_own"); (case k2 => wtm_at "g_sq"); (case k3 => omega); (case k4 => omega); intro p HH ww)
  | ((with_reducible refine' k_cat ?k1 ?k2 ?k3 ?k4 ?_); (case k1 => wtm_at "g_own"); (case k2 => wtm_at "g_got"); (case k3 => wtm_at "g_got"); (case k4 => wtm_at "g_sz"); intro p HH ww)
  | ((with_reducible refine' k_app ?k1 ?k2 ?k3 ?_); (case k1 => wtm_at "g_own"); (case k2 => wtm_at "g_put"); (case k3 => wtm_at "g_sz"); intro HH ww)
  | ((with_reducible refine' ty_list ?k1 ?_); (case k1 => wtm_at "g_hp"))
  | ((with_reducible refine' k_truR ?k1 ?_); (case k1 => wtm_at "g_sq"))
  | ((with_reducible refine' k_truI ?k1 ?_); (case k1 => wtm_at "g_sq"))
  | ((with_reducible refine' k_truL ?k1 ?_); (case k1 => wtm_at "g_sq"))
  | ((with_reducible refine' w_lenLI ?k1 ?_); (case k1 => wtm_at "g_sq"))
  | ((with_reducible refine' w_lenLR ?k1 ?_); (case k1 => wtm_at "g_sq"))
  | ((with_reducible refine' w_ixT ?k1 ?k2 ?_); (case k1 => wtm_at "g_sqt"); (case k2 => first | rfl | fail))
  | ((with_reducible refine' w_ixRc ?k1 ?_); (case k1 => wtm_at "g_sq"))
  | ((with_reducible refine' w_ixR0 ?k1 ?k2 ?_); (case k1 => wtm_at "g_sq"); (case k2 => with_reducible assumption))
  | ((with_reducible refine' w_ixR ?k1 ?k2 ?_); (case k1 => wtm_at "g_sq"); (case k2 => with_reducible assumption))
  | ((with_reducible refine' w_ixLastR ?k1 ?k2 ?_); (case k1 => wtm_at "g_sq"); (case k2 => with_reducible assumption))
  | ((with_reducible refine' k_slinitR ?k1 ?k2 ?_); (case k1 => wtm_at "g_own"); (case k2 => wtm_at "g_sq"); intro p HH ww)
  | ((with_reducible refine' w_gTup ?k1 ?k2 ?_); (case k1 => wtm_at "g_sqt"); (case k2 => rfl))
  | (with_reducible refine w_gCons ?_)
  | (with_reducible refine w_gNil ?_)
  | ((with_reducible refine' w_ixI ?k1 ?k2 ?k3 ?_); (case k1 => wtm_at "g_sq"); (case k2 => omega); (case k3 => omega))
  | ((with_reducible refine' w_I ?k1 ?_); (case k1 => wtm_at "g_ar"))
  | ((with_reducible refine' k_reverse ?k1 ?k2 ?_); (case k1 => wtm_at "g_own"); (case k2 => wtm_at "g_put"); intro HH ww)
  | ((with_reducible refine' w_lenL ?k1 ?_); (case k1 => wtm_at "g_sq"))
  | ((with_reducible refine' w_lenT ?k1 ?_); (case k1 => wtm_at "g_sqt"))
  | ((with_reducible refine' w_isi_ll ?k1 ?_); (case k1 => wtm_at "g_hp"))
  | ((with_reducible refine' w_isi_tt ?k1 ?_); (case k1 => wtm_at "g_hp"))
  | ((with_reducible refine' w_isi_lt ?k1 ?_); (case k1 => wtm_at "g_hp"))
  | ((with_reducible refine' w_isi_tl ?k1 ?_); (case k1 => wtm_at "g_hp"))
  | ((with_reducible refine' w_ll ?k1 ?k2 ?_); (case k1 => rfl); (case k2 => rfl))
  | wtm_at "g_get"
  | wtm_at "g_mt"
  | wtm_at "g_set"
  | wtm_at "g_set2"
  | wtm_at "g_call"
  | wtm_at "g_callc"
  | fail)
local macro_rules | `(tactic| wtm_at "g_go") => `(tactic| repeat wtm_at "g_st")
local macro_rules | `(tactic| wtm_at "g_ifo") => `(tactic| first
  | (refine if_nno rfl ?_) | (refine if_yes rfl ?_)
  | (refine if_no (by omega) ?_)
  | (refine if_yes (by omega) ?_)
  | (refine if_nno (by omega) ?_)
  | (refine if_nyes (by omega) ?_)
  | (refine if_nno (decide_eq_false (by omega)).symm ?_)
  | (refine if_nno (decide_eq_true (by omega)).symm ?_)
  | fail)
local macro_rules | `(tactic| wtm_at "g_goo") => `(tactic| repeat (first | wtm_at "g_st" | wtm_at "g_ifo"))
section
variable {K : PySem.W.Frag} {mg : Str → Option Value} {base : Heap}
theorem rt_mk {L L1 R : List HP} {H : Hp} {t ka : Addr} {x : Wt} (w : Own L H) (p1 : Pick L (ro t (.tup [x.i, .ref ka, .int x.w])) L1) (p2 : Pick L1 (KyP ka x.k) R) : Own (RtP t x :: R) H := rt_in (w.take2 p1 p2)
theorem rs_mk {L L1 R : List HP} {H : Hp} {l : Addr} {b : Bool} {ts : List Addr} {xs : List Wt} (w : Own L H) (p1 : Pick L (cell b l (.lst (ts.map V.ref))) L1) (p2 : Pick L1 (big RtP ts xs) R) : Own (RsP l xs :: R) H := rs_in (w.take2 p1 p2).cellRo
theorem put_lim {x : Qu} {k : Ky} {i : V} {w : Int} : (putF x k i w).1.lim = x.lim := by
  unfold putF
  split <;> rfl
theorem pure_law_put (T : TX K mg base) (vs : List V) (H : Hp) (Q : VK) (E : XK) (h : sp_law_put K vs H Q E) : t_law_put K E { nx := fun _ H' => Q .non H', rt := Q } (start N_law_put vs) H := by
  obtain ⟨p, l, s, n, x, rows, R, rfl, hJ, hnum, hn, w, q⟩ := h
  have hcl := hJ.jx.len
  unfold t_law_put
  wtm_at "g_go"
  rename_i d H1 d0 d1 w1 ka H2 w2
  refine ⟨s, _, rfl, w2.pick (P := Drw s) (by wtm_at "g_pk"), fun H3 wt hwt w3 => ?_⟩
  wtm_at "g_go"
  rename_i ra H4 w4 rl H5 w5
  have w6 : Own (ro ra (.tup [V.int n, V.ref ka, V.int wt]) :: KyP ka [.inr "flow", .inl d] :: pt rl (.lst (List.map V.ref [ra])) :: Drw s :: QuP K p x :: RsP l rows :: R) H5 := (show Own (ro ra (.tup [V.int n, V.ref ka, V.int wt]) :: ro ka (.tup [V.str "flow", V.int d]) :: pt rl (.lst (List.map V.ref [ra])) :: Drw s :: QuP K p x :: RsP l rows :: R) H5 from by wtm_at "g_own")
  obtain ⟨ts, w7⟩ := rs_out (w6.pick (P := RsP l rows) (by wtm_at "g_pk"))
  have hlen := w7.swap.bigLen
  clear w6
  refine k_catR w7 (by wtm_at "g_got") (by wtm_at "g_got") (small16 (by simp only [List.length_cons, List.length_nil]; omega)) fun l2 H6 w8 => ?_
  wtm_at "g_go"
  have w9 := rt_mk (x := ⟨[.inr "flow", .inl d], .int n, wt⟩) (t := ra) (ka := ka) w8 (.next (.next (.next .keep))) (.next (.next (.next (.next .keep))))
  have w10 := w9.pick (P := big RtP ts rows) (.next (.next (.next .keep)))
  have w11 := ((w10.pick (P := RtP ra ⟨[.inr "flow", .inl d], .int n, wt⟩) (.next .keep)).swap).bigSnoc
  clear w9 w10 w8
  have hg : GR ⟨[.inr "flow", .inl d], .int n, wt⟩ := ⟨⟨d, rfl⟩, rfl⟩
  have hpl := put_len (x := x) (k := [.inr "flow", .inl d]) (i := .int n) (w := wt)
  refine ⟨p, ka, x, [.inr "flow", .inl d], .int n, wt, _, rfl, hJ.wf, by omega, key_ok d, hwt, w11.take2 (P1 := QuP K p x) (P2 := KyP ka [.inr "flow", .inl d]) (by wtm_at "g_pk") (by wtm_at "g_pk"), fun H7 t ws w12 => ?_⟩
  refine row_comp (ws := ws) (xs := (putF x [.inr "flow", .inl d] (.int n) wt).2) (Nat.le_of_ble_eq_true rfl) (by omega) w12 .here .here fun D ts2 H8 w13 => ?_
  clear w12
  wtm_at "g_go"
  rw [put_lim]
  refine if_d (fun h1 => ?_) (fun h1 => ?_)
  · have e : putF x [.inr "flow", .inl d] (.int n) wt = (x, [⟨[.inr "flow", .inl d], .int n, wt⟩]) := if_pos h1
    rw [e] at w13
    have w14 := w13.toRo
    wtm_at "g_go"
    rename_i D2 H9 w15
    have w16 := w15.pick (P := big RtP ts2 [⟨[.inr "flow", .inl d], .int n, wt⟩]) (by wtm_at "g_pk")
    refine w_neS' (d := .list ([(⟨[.inr "flow", .inl d], .int n, wt⟩ : Wt)].map rwD)) (rws_dp (ts := ts2) (fun z hz => by rw [List.mem_singleton.mp hz]; exact hg) (w15.take2 (P1 := ro D (.lst (ts2.map V.ref))) (P2 := big RtP ts2 _) (by wtm_at "g_pk") (by wtm_at "g_pk"))) (rws_dp (ts := [ra]) (fun z hz => by rw [List.mem_singleton.mp hz]; exact hg) (Own.swap (Own.big1 (w15.take2 (P1 := RtP ra ⟨[.inr "flow", .inl d], .int n, wt⟩) (P2 := pt D2 (.lst ([ra].map V.ref))) (by wtm_at "g_pk") (by wtm_at "g_pk"))))) (rws_shaped (fun z hz => by rw [List.mem_singleton.mp hz]; exact hg)) ?_
    clear w16
    wtm_at "g_go"
    refine k_sltoR (ps := ts ++ [ra]) w15 (by wtm_at "g_sq") (by rw [List.length_append]; simp only [List.length_cons, List.length_nil]; omega) fun l3 H10 w17 => ?_
    have et : (ts ++ [ra]).take ((((ts ++ [ra]).length : Nat) : Int) - 1).toNat = ts := by
      rw [List.length_append]
      simp only [List.length_cons, List.length_nil]
      rw [show (((ts.length + (0 + 1) : Nat) : Int) - 1).toNat = ts.length by omega, List.take_left]
    rw [et] at w17
    refine q H10 l3 x rows hJ (fun r hr => by have := hnum r hr; omega) (by omega) ?_
    have w18 := rs_mk (xs := rows) w17 .here (by wtm_at "g_pk")
    wtm_at "g_own"
  · obtain ⟨F, G, ds, hd⟩ : ∃ F G ds, dropL x.lim (cnt (addF x.fs [.inr "flow", .inl d] (.int n, wt))) (addF x.fs [.inr "flow", .inl d] (.int n, wt)) x.gr = (F, G, ds) := ⟨_, _, _, rfl⟩
    have e : putF x [.inr "flow", .inl d] (.int n) wt = ({ x with fs := F, gr := G }, ds) := by
      unfold putF
      rw [if_neg h1, hd]
    rw [e] at w13 hpl
    have hlim := dropL_lim hJ.wf.lim (cnt (addF x.fs [.inr "flow", .inl d] (.int n, wt))) (addF x.fs [.inr "flow", .inl d] (.int n, wt)) x.gr (wfl_add (key_ok d) hwt hJ.wf.fs) (Nat.le_refl _)
    rw [hd] at hlim
    have hA := hJ.jx.add (key_ok d) hwt hnum
    have hlen2 := w13.swap.bigLen
    wtm_at "g_go"
    refine sum_comp (ts := ts ++ [ra]) (xs := rows ++ [⟨[.inr "flow", .inl d], .int n, wt⟩]) (P := fun _ => true) (Nat.le_of_ble_eq_true rfl) (by rw [List.length_append]; simp only [List.length_cons, List.length_nil]; omega) w13 (by wtm_at "g_pk") (by wtm_at "g_pk") (fun a x X1 X2 H1 B _ w k => k H1 w.tail) fun D3 H9 w14 => ?_
    rw [List.filter_eq_self.mpr fun _ _ => rfl] at w14
    wtm_at "g_go"
    refine w_sum (ns := (rows ++ [(⟨[.inr "flow", .inl d], .int n, wt⟩ : Wt)]).map (·.w)) (by wtm_at "g_sq") ?_
    rw [← hA.octs]
    wtm_at "g_go"
    refine loopL (xs := ts2.map V.ref) (fun i σ H' => ∃ li tsi rowsi fsi gri m v9, σ = [some (.ref p), some (.ref li), some (.int n), some (.ref s), some (.ref ra), some (.ref D), none, some (.int (octs fsi)), none, v9] ∧ JX fsi rowsi ∧ dropL x.lim m fsi gri = (F, G, ds.drop i) ∧ rowsi.length ≤ rows.length + 1 ∧ (∀ r ∈ rowsi, num r ≤ n) ∧ Own (pt D (.lst (ts2.map V.ref)) :: big RtP ts2 ds :: pt li (.lst (tsi.map V.ref)) :: big RtP tsi rowsi :: QuP K p { x with fs := F, gr := G } :: Drw s :: R) H') (by wtm_at "g_sq")
      ⟨l2, ts ++ [ra], rows ++ [⟨[.inr "flow", .inl d], .int n, wt⟩], _, _, _, _, rfl, hA, hd, by rw [List.length_append]; exact Nat.le_refl _, fun r hr => ?_, by wtm_at "g_own"⟩ ?_ ?_ ?_
    · rcases List.mem_append.mp hr with hr | hr
      · have := hnum r hr; omega
      · rw [List.mem_singleton.mp hr]; exact Int.le_refl _
    · rintro i σ H' hi ⟨li, tsi, rowsi, fsi, gri, m, v9, rfl, hX, hdi, hli, hni, w15⟩
      wtm_at "g_sq"
    · rintro i y σ H10 hy ⟨li, tsi, rowsi, fsi, gri, m, v9, rfl, hX, hdi, hli, hni, w15⟩
      obtain ⟨a, ha, rfl⟩ := map_ref_at hy
      obtain ⟨g, hgi⟩ := at_of_len ha hlen2
      have hdr : ds.drop i = g :: ds.drop (i + 1) := by
        obtain ⟨hq, rfl⟩ := List.getElem?_eq_some_iff.mp hgi
        exact (List.getElem_cons_drop hq).symm
      rw [hdr] at hdi
      obtain ⟨m', h2, h3, h4, h5⟩ := dropL_cons hJ.wf.lim hdi
      obtain ⟨h6, ⟨Lg, h7⟩, h8⟩ := hX.drop (gr := gri) h3
      rw [← h4] at h6 h7 h8
      have hso := sum_out hX.asc h6
      rw [← hX.octs, ← h8.octs] at hso
      have w16 := (w15.pick (P := big RtP ts2 ds) (.next .here)).bigAt ha hgi
      have hgk := (hX.gr g h6).ok
      have hpos : ¬ (octs fsi ≤ x.lim) := by omega
      have hlx := hX.len
      wtm_at "g_go"
      refine if_d (fun z => absurd z hpos) (fun _ => ?_)
      wtm_at "g_go"
      refine w_nin hX h6 w16 .here (c := false) (ts := tsi) (by wtm_at "g_pk") (by wtm_at "g_pk") ?_
      wtm_at "g_go"
      refine keep_comp (ts := tsi) (xs := rowsi) (P := fun r => decide (r.k = g.k)) (R := RtP a g :: big RtP ts2 ds :: pt D (.lst (ts2.map V.ref)) :: QuP K p { x with fs := F, gr := G } :: Drw s :: R) (Nat.le_of_ble_eq_true rfl) (by omega) w16 (by wtm_at "g_pk") (by wtm_at "g_pk") (fun a' r X1 X2 H1 B hr w k => key_test2 (Nat.le_of_ble_eq_true rfl) (by decide) rfl (hX.gr r hr).ok hgk w (.next (.next (.next (.next .here)))) k) fun D4 ts4 H11 w17 => ?_
      have e4 : rowsi.filter (fun r => decide (r.k = g.k)) = Lg ++ [g] := h7
      rw [e4] at w17
      have hl4 := w17.swap.bigLen
      rw [List.length_append] at hl4
      simp only [List.length_cons, List.length_nil] at hl4
      obtain ⟨a4, ha4⟩ : ∃ a4, ts4[Lg.length]? = some a4 := ⟨_, List.getElem?_eq_getElem (by omega)⟩
      wtm_at "g_go"
      refine w_ixLastR (ps := ts4) (by wtm_at "g_sq") (by rw [List.getLast?_eq_getElem?, show ts4.length - 1 = Lg.length by omega]; exact ha4) ?_
      have gg := hX.gr g h6
      refine w_neS' ((w17.pick (P := RtP a g) (by wtm_at "g_pk")).ent (.here (tell_rtD gg))) (w17.swap.bigTell ha4 (by rw [List.getElem?_append_right (Nat.le_refl _), Nat.sub_self]; rfl) (tell_rtD gg)) (rw_shaped gg) ?_
      wtm_at "g_go"
      obtain ⟨kg, hag, _⟩ := (w17.pick (P := RtP a g) (by wtm_at "g_pk")).ent (.here tell_rt)
      refine w_ixT (xs := [g.i, .ref kg, .int g.w]) (SqT.of' hag) rfl ?_
      wtm_at "g_go"
      refine keep_comp (ts := tsi) (xs := rowsi) (P := fun r => decide (num r ≠ num g)) (R := RtP a g :: big RtP ts2 ds :: pt D (.lst (ts2.map V.ref)) :: QuP K p { x with fs := F, gr := G } :: Drw s :: R) (Nat.le_of_ble_eq_true rfl) (by omega) w17.tail.tail .here .here (fun a' r X1 X2 H1 B hr w k => ne_test hX h6 (Nat.le_of_ble_eq_true rfl) (by decide) rfl hr w (.next (.next (.next (.next .here)))) k) fun D5 ts5 H12 w18 => ?_
      wtm_at "g_go"
      refine ⟨D5, ts5, out g rowsi, (dropS fsi gri).1, (dropS fsi gri).2, m', _, by rw [hso]; rfl, h8, h5, ?_, fun r hr => hni r (List.mem_filter.mp hr).1, ?_⟩
      · have : (out g rowsi).length ≤ rowsi.length := List.length_filter_le _ _
        omega
      · show Own (_ :: _ :: _ :: big RtP ts5 (rowsi.filter (fun r => decide (num r ≠ num g))) :: _) H12
        wtm_at "g_own"
    · rintro σ H10 ⟨li, tsi, rowsi, fsi, gri, m, v9, rfl, hX, hdi, hli, hni, w15⟩
      rw [List.length_map, hlen2, List.drop_length] at hdi
      have hF := dropL_end hdi
      wtm_at "g_go"
      refine q H10 li { x with fs := F, gr := G } rowsi ⟨⟨hJ.wf.lim, hJ.wf.q, by rw [hF]; exact hX.wf⟩, by rw [hF]; exact hX, hlim⟩ hni hli ?_
      have w16 := rs_mk (xs := rowsi) w15 (.next (.next .here)) (.next (.next .here))
      wtm_at "g_own"
end
end K81

namespace K81
open PySem PySem.Spec PyProof.Rows L2 G
local macro_rules | `(tactic| wtm_at "g_get") => `(tactic| first
  | ((with_reducible refine' w_fld ?k1 (cl_Waiting (by assumption)) (na_Waiting_key (by assumption)) lk_Waiting_key ?_); (case k1 => wtm_at "g_hp"))
  | ((with_reducible refine' w_fld ?k1 (cl_Waiting (by assumption)) (na_Waiting_item (by assumption)) lk_Waiting_item ?_); (case k1 => wtm_at "g_hp"))
  | ((with_reducible refine' w_fld ?k1 (cl_Waiting (by assumption)) (na_Waiting_weight (by assumption)) lk_Waiting_weight ?_); (case k1 => wtm_at "g_hp"))
  | ((with_reducible refine' w_fld ?k1 (cl_Flow (by assumption)) (na_Flow_key (by assumption)) lk_Flow_key ?_); (case k1 => wtm_at "g_hp"))
  | ((with_reducible refine' w_fld ?k1 (cl_Flow (by assumption)) (na_Flow_rows (by assumption)) lk_Flow_rows ?_); (case k1 => wtm_at "g_hp"))
  | ((with_reducible refine' w_fld ?k1 (cl_Flow (by assumption)) (na_Flow_octets (by assumption)) lk_Flow_octets ?_); (case k1 => wtm_at "g_hp"))
  | ((with_reducible refine' w_fld ?k1 (cl_Flow (by assumption)) (na_Flow_credit (by assumption)) lk_Flow_credit ?_); (case k1 => wtm_at "g_hp"))
  | ((with_reducible refine' w_fld ?k1 (cl_FairQueue (by assumption)) (na_FairQueue_limit (by assumption)) lk_FairQueue_limit ?_); (case k1 => wtm_at "g_hp"))
  | ((with_reducible refine' w_fld ?k1 (cl_FairQueue (by assumption)) (na_FairQueue_quantum (by assumption)) lk_FairQueue_quantum ?_); (case k1 => wtm_at "g_hp"))
  | ((with_reducible refine' w_fld ?k1 (cl_FairQueue (by assumption)) (na_FairQueue_flows (by assumption)) lk_FairQueue_flows ?_); (case k1 => wtm_at "g_hp"))
  | ((with_reducible refine' w_fld ?k1 (cl_FairQueue (by assumption)) (na_FairQueue_granted (by assumption)) lk_FairQueue_granted ?_); (case k1 => wtm_at "g_hp"))
  | fail)
local macro_rules | `(tactic| wtm_at "g_set") => `(tactic| first
  | ((with_reducible refine' k_fld ?k1 ?k2 (cl_Waiting (by assumption)) (na_Waiting_key (by assumption)) pt_Waiting_key rfl ?_); (case k1 => wtm_at "g_own"); (case k2 => wtm_at "g_put"); intro HH ww)
  | ((with_reducible refine' k_fld ?k1 ?k2 (cl_Waiting (by assumption)) (na_Waiting_key (by assumption)) pn_Waiting_key rfl ?_); (case k1 => wtm_at "g_own"); (case k2 => wtm_at "g_put"); intro HH ww)
  | ((with_reducible refine' k_fld ?k1 ?k2 (cl_Waiting (by assumption)) (na_Waiting_item (by assumption)) pt_Waiting_item rfl ?_); (case k1 => wtm_at "g_own"); (case k2 => wtm_at "g_put"); intro HH ww)
  | ((with_reducible refine' k_fld ?k1 ?k2 (cl_Waiting (by assumption)) (na_Waiting_item (by assumption)) pn_Waiting_item rfl ?_); (case k1 => wtm_at "g_own"); (case k2 => wtm_at "g_put"); intro HH ww)
  | ((with_reducible refine' k_fld ?k1 ?k2 (cl_Waiting (by assumption)) (na_Waiting_weight (by assumption)) pt_Waiting_weight rfl ?_); (case k1 => wtm_at "g_own"); (case k2 => wtm_at "g_put"); intro HH ww)
  | ((with_reducible refine' k_fld ?k1 ?k2 (cl_Waiting (by assumption)) (na_Waiting_weight (by assumption)) pn_Waiting_weight rfl ?_); (case k1 => wtm_at "g_own"); (case k2 => wtm_at "g_put"); intro HH ww)
  | ((with_reducible refine' k_fld ?k1 ?k2 (cl_Flow (by assumption)) (na_Flow_key (by assumption)) pt_Flow_key rfl ?_); (case k1 => wtm_at "g_own"); (case k2 => wtm_at "g_put"); intro HH ww)
  | ((with_reducible refine' k_fld ?k1 ?k2 (cl_Flow (by assumption)) (na_Flow_key (by assumption)) pn_Flow_key rfl ?_); (case k1 => wtm_at "g_own"); (case k2 => wtm_at "g_put"); intro HH ww)
  | ((with_reducible refine' k_fld ?k1 ?k2 (cl_Flow (by assumption)) (na_Flow_rows (by assumption)) pt_Flow_rows rfl ?_); (case k1 => wtm_at "g_own"); (case k2 => wtm_at "g_put"); intro HH ww)
  | ((with_reducible refine' k_fld ?k1 ?k2 (cl_Flow (by assumption)) (na_Flow_rows (by assumption)) pn_Flow_rows rfl ?_); (case k1 => wtm_at "g_own"); (case k2 => wtm_at "g_put"); intro HH ww)
  | ((with_reducible refine' k_fld ?k1 ?k2 (cl_Flow (by assumption)) (na_Flow_octets (by assumption)) pt_Flow_octets rfl ?_); (case k1 => wtm_at "g_own"); (case k2 => wtm_at "g_put"); intro HH ww)
  | ((with_reducible refine' k_fld ?k1 ?k2 (cl_Flow (by assumption)) (na_Flow_octets (by assumption)) pn_Flow_octets rfl ?_); (case k1 => wtm_at "g_own"); (case k2 => wtm_at "g_put"); intro HH ww)
  | ((with_reducible refine' k_fld ?k1 ?k2 (cl_Flow (by assumption)) (na_Flow_credit (by assumption)) pt_Flow_credit rfl ?_); (case k1 => wtm_at "g_own"); (case k2 => wtm_at "g_put"); intro HH ww)
  | ((with_reducible refine' k_fld ?k1 ?k2 (cl_Flow (by assumption)) (na_Flow_credit (by assumption)) pn_Flow_credit rfl ?_); (case k1 => wtm_at "g_own"); (case k2 => wtm_at "g_put"); intro HH ww)
  | ((with_reducible refine' k_fld ?k1 ?k2 (cl_FairQueue (by assumption)) (na_FairQueue_limit (by assumption)) pt_FairQueue_limit rfl ?_); (case k1 => wtm_at "g_own"); (case k2 => wtm_at "g_put"); intro HH ww)
  | ((with_reducible refine' k_fld ?k1 ?k2 (cl_FairQueue (by assumption)) (na_FairQueue_limit (by assumption)) pn_FairQueue_limit rfl ?_); (case k1 => wtm_at "g_own"); (case k2 => wtm_at "g_put"); intro HH ww)
  | ((with_reducible refine' k_fld ?k1 ?k2 (cl_FairQueue (by assumption)) (na_FairQueue_quantum (by assumption)) pt_FairQueue_quantum rfl ?_); (case k1 => wtm_at "g_own"); (case k2 => wtm_at "g_put"); intro HH ww)
  | ((with_reducible refine' k_fld ?k1 ?k2 (cl_FairQueue (by assumption)) (na_FairQueue_quantum (by assumption)) pn_FairQueue_quantum rfl ?_); (case k1 => wtm_at "g_own"); (case k2 => wtm_at "g_put"); intro HH ww)
  | ((with_reducible refine' k_fld ?k1 ?k2 (cl_FairQueue (by assumption)) (na_FairQueue_flows (by assumption)) pt_FairQueue_flows rfl ?_); (case k1 => wtm_at "g_own"); (case k2 => wtm_at "g_put"); intro HH ww)
  | ((with_reducible refine' k_fld ?k1 ?k2 (cl_FairQueue (by assumption)) (na_FairQueue_flows (by assumption)) pn_FairQueue_flows rfl ?_); (case k1 => wtm_at "g_own"); (case k2 => wtm_at "g_put"); intro HH ww)
  | ((with_reducible refine' k_fld ?k1 ?k2 (cl_FairQueue (by assumption)) (na_FairQueue_granted (by assumption)) pt_FairQueue_granted rfl ?_); (case k1 => wtm_at "g_own"); (case k2 => wtm_at "g_put"); intro HH ww)
  | ((with_reducible refine' k_fld ?k1 ?k2 (cl_FairQueue (by assumption)) (na_FairQueue_granted (by assumption)) pn_FairQueue_granted rfl ?_); (case k1 => wtm_at "g_own"); (case k2 => wtm_at "g_put"); intro HH ww)
  | fail)
local macro_rules | `(tactic| wtm_at "g_set2") => `(tactic| first
  | ((with_reducible refine' k_fa ?k1 ?k2 pt_Waiting_key rfl ?_); (case k1 => wtm_at "g_own"); (case k2 => wtm_at "g_put"); intro HH ww)
  | ((with_reducible refine' k_fa ?k1 ?k2 pt_Waiting_item rfl ?_); (case k1 => wtm_at "g_own"); (case k2 => wtm_at "g_put"); intro HH ww)
  | ((with_reducible refine' k_fa ?k1 ?k2 pt_Waiting_weight rfl ?_); (case k1 => wtm_at "g_own"); (case k2 => wtm_at "g_put"); intro HH ww)
  | ((with_reducible refine' k_fa ?k1 ?k2 pt_Flow_key rfl ?_); (case k1 => wtm_at "g_own"); (case k2 => wtm_at "g_put"); intro HH ww)
  | ((with_reducible refine' k_fa ?k1 ?k2 pt_Flow_rows rfl ?_); (case k1 => wtm_at "g_own"); (case k2 => wtm_at "g_put"); intro HH ww)
  | ((with_reducible refine' k_fa ?k1 ?k2 pt_Flow_octets rfl ?_); (case k1 => wtm_at "g_own"); (case k2 => wtm_at "g_put"); intro HH ww)
  | ((with_reducible refine' k_fa ?k1 ?k2 pt_Flow_credit rfl ?_); (case k1 => wtm_at "g_own"); (case k2 => wtm_at "g_put"); intro HH ww)
  | ((with_reducible refine' k_fa ?k1 ?k2 pt_FairQueue_limit rfl ?_); (case k1 => wtm_at "g_own"); (case k2 => wtm_at "g_put"); intro HH ww)
  | ((with_reducible refine' k_fa ?k1 ?k2 pt_FairQueue_quantum rfl ?_); (case k1 => wtm_at "g_own"); (case k2 => wtm_at "g_put"); intro HH ww)
  | ((with_reducible refine' k_fa ?k1 ?k2 pt_FairQueue_flows rfl ?_); (case k1 => wtm_at "g_own"); (case k2 => wtm_at "g_put"); intro HH ww)
  | ((with_reducible refine' k_fa ?k1 ?k2 pt_FairQueue_granted rfl ?_); (case k1 => wtm_at "g_own"); (case k2 => wtm_at "g_put"); intro HH ww)
  | fail)
local macro_rules | `(tactic| wtm_at "g_mt") => `(tactic| first
  | ((with_reducible refine' w_mt1 ?k1 ln_Flow_add ?_); (case k1 => wtm_at "g_hp"))
  | ((with_reducible refine' w_mt1 ?k1 ln_Flow_take ?_); (case k1 => wtm_at "g_hp"))
  | ((with_reducible refine' w_mt1 ?k1 ln_Flow_fork ?_); (case k1 => wtm_at "g_hp"))
  | ((with_reducible refine' w_mt1 ?k1 ln_FairQueue_count ?_); (case k1 => wtm_at "g_hp"))
  | ((with_reducible refine' w_mt1 ?k1 ln_FairQueue_octets ?_); (case k1 => wtm_at "g_hp"))
  | ((with_reducible refine' w_mt1 ?k1 ln_FairQueue_octets_of ?_); (case k1 => wtm_at "g_hp"))
  | ((with_reducible refine' w_mt1 ?k1 ln_FairQueue_flow_of ?_); (case k1 => wtm_at "g_hp"))
  | ((with_reducible refine' w_mt1 ?k1 ln_FairQueue_remove_flow ?_); (case k1 => wtm_at "g_hp"))
  | ((with_reducible refine' w_mt1 ?k1 ln_FairQueue_put ?_); (case k1 => wtm_at "g_hp"))
  | ((with_reducible refine' w_mt1 ?k1 ln_FairQueue_drop ?_); (case k1 => wtm_at "g_hp"))
  | ((with_reducible refine' w_mt1 ?k1 ln_FairQueue_turn ?_); (case k1 => wtm_at "g_hp"))
  | ((with_reducible refine' w_mt1 ?k1 ln_FairQueue_next_up ?_); (case k1 => wtm_at "g_hp"))
  | ((with_reducible refine' w_mt1 ?k1 ln_FairQueue_take ?_); (case k1 => wtm_at "g_hp"))
  | ((with_reducible refine' w_mt1 ?k1 ln_FairQueue_take_all ?_); (case k1 => wtm_at "g_hp"))
  | ((with_reducible refine' w_mt1 ?k1 ln_FairQueue_fork ?_); (case k1 => wtm_at "g_hp"))
  | fail)
local macro_rules | `(tactic| wtm_at "g_mkk") => `(tactic| first
  | fail
  | fail)
local macro_rules | `(tactic| wtm_at "g_callf") => `(tactic| first
  | ((with_reducible refine' c_Waiting_init ?k1 ?k2 ?k3 ?_); (case k1 => wtm_at "g_own"); (case k2 => wtm_at "g_pk"); (case k3 => wtm_at "g_pk"); intro HH ww)
  | ((with_reducible refine' c_Flow_init ?k1 ?k2 ?k3 ?_); (case k1 => wtm_at "g_own"); (case k2 => wtm_at "g_pk"); (case k3 => wtm_at "g_pk"); intro HH ww)
  | ((with_reducible refine' c_octets ?k0 ?k1 ?k2 ?_); (case k1 => wtm_at "g_own"); (case k2 => wtm_at "g_pk"); (case k0 => omega); intro HH ww)
  | ((with_reducible refine' w_fldT tell_qu_lim ?k1 ?k2 (cl_FairQueue (by assumption)) (na_FairQueue_limit (by assumption)) ?_); (case k1 => wtm_at "g_own"); (case k2 => wtm_at "g_pk"); intro dz fz; (try clear fz dz))
  | ((with_reducible refine' w_fldT tell_qu_q ?k1 ?k2 (cl_FairQueue (by assumption)) (na_FairQueue_quantum (by assumption)) ?_); (case k1 => wtm_at "g_own"); (case k2 => wtm_at "g_pk"); intro dz fz; (try clear fz dz))
  | ((with_reducible refine' w_fldT tell_wt_w ?k1 ?k2 (cl_Waiting (by assumption)) (na_Waiting_weight (by assumption)) ?_); (case k1 => wtm_at "g_own"); (case k2 => wtm_at "g_pk"); intro dz fz; (try clear fz dz))
  | ((with_reducible refine' w_fldT tell_wt_i ?k1 ?k2 (cl_Waiting (by assumption)) (na_Waiting_item (by assumption)) ?_); (case k1 => wtm_at "g_own"); (case k2 => wtm_at "g_pk"); intro dz fz; (try clear fz dz))
  | ((with_reducible refine' w_mtT (tell_qu_m ln_FairQueue_octets) ?k1 ?k2 ?_); (case k1 => wtm_at "g_own"); (case k2 => wtm_at "g_pk"))
  | ((with_reducible refine' w_mtT (tell_qu_m ln_FairQueue_drop) ?k1 ?k2 ?_); (case k1 => wtm_at "g_own"); (case k2 => wtm_at "g_pk"))
  | ((with_reducible refine' w_mtT (tell_qu_m ln_FairQueue_turn) ?k1 ?k2 ?_); (case k1 => wtm_at "g_own"); (case k2 => wtm_at "g_pk"))
  | ((with_reducible refine' w_mtT (tell_qu_m ln_FairQueue_next_up) ?k1 ?k2 ?_); (case k1 => wtm_at "g_own"); (case k2 => wtm_at "g_pk"))
  | ((with_reducible refine' w_mtT (tell_qu_m ln_FairQueue_remove_flow) ?k1 ?k2 ?_); (case k1 => wtm_at "g_own"); (case k2 => wtm_at "g_pk"))
  | ((with_reducible refine' w_mtT (tell_fl_m ln_Flow_add) ?k1 ?k2 ?_); (case k1 => wtm_at "g_own"); (case k2 => wtm_at "g_pk"))
  | ((with_reducible refine' w_mtT (tell_fl_m ln_Flow_take) ?k1 ?k2 ?_); (case k1 => wtm_at "g_own"); (case k2 => wtm_at "g_pk"))
  | fail)
local macro_rules | `(tactic| wtm_at "g_call") => `(tactic| first
  | wtm_at "g_callf"
  | ((with_reducible refine' w_mtT (tell_qu_m ln_FairQueue_count) ?k1 ?k2 ?_); (case k1 => wtm_at "g_own"); (case k2 => wtm_at "g_pk"))
  | ((with_reducible refine' w_mtT (tell_qu_m ln_FairQueue_octets_of) ?k1 ?k2 ?_); (case k1 => wtm_at "g_own"); (case k2 => wtm_at "g_pk"))
  | ((with_reducible refine' w_mtT (tell_qu_m ln_FairQueue_flow_of) ?k1 ?k2 ?_); (case k1 => wtm_at "g_own"); (case k2 => wtm_at "g_pk"))
  | ((with_reducible refine' w_mtT (tell_qu_m ln_FairQueue_put) ?k1 ?k2 ?_); (case k1 => wtm_at "g_own"); (case k2 => wtm_at "g_pk"))
  | ((with_reducible refine' w_mtT (tell_qu_m ln_FairQueue_take) ?k1 ?k2 ?_); (case k1 => wtm_at "g_own"); (case k2 => wtm_at "g_pk"))
  | ((with_reducible refine' w_mtT (tell_qu_m ln_FairQueue_take_all) ?k1 ?k2 ?_); (case k1 => wtm_at "g_own"); (case k2 => wtm_at "g_pk"))
  | ((with_reducible refine' w_mtT (tell_qu_m ln_FairQueue_fork) ?k1 ?k2 ?_); (case k1 => wtm_at "g_own"); (case k2 => wtm_at "g_pk"))
  | ((with_reducible refine' w_mtT (tell_fl_m ln_Flow_fork) ?k1 ?k2 ?_); (case k1 => wtm_at "g_own"); (case k2 => wtm_at "g_pk"))
  | fail)
local macro_rules | `(tactic| wtm_at "g_own") => `(tactic| first
  | (with_reducible assumption)
  | ((with_reducible refine' Own.newT ?k1 ?k2); (case k1 => with_reducible assumption); (case k2 => wtm_at "g_own"))
  | ((with_reducible refine' Own.new ?k1 ?k2); (case k1 => with_reducible assumption); (case k2 => wtm_at "g_own"))
  | ((with_reducible refine' Own.put ?k1 ?k2); (case k1 => wtm_at "g_own"); (case k2 => wtm_at "g_put"))
  | ((with_reducible refine' Own.sel ?k1 ?k2); (case k1 => with_reducible assumption); (case k2 => wtm_at "g_sel"))
  | fail)
local macro_rules | `(tactic| wtm_at "g_sel") => `(tactic| first
  | (with_reducible exact Sel.rf) | (with_reducible exact Sel.nil)
  | ((with_reducible refine' Sel.cons ?k1 ?k2); (case k1 => wtm_at "g_pk"); (case k2 => wtm_at "g_sel"))
  | ((with_reducible refine' Sel.drop ?k1); (case k1 => wtm_at "g_sel"))
  | fail)
local macro_rules | `(tactic| wtm_at "g_got") => `(tactic| first
  | (with_reducible assumption) | (with_reducible exact Got.here)
  | ((with_reducible refine' Got.next ?k1); (case k1 => wtm_at "g_got"))
  | fail)
local macro_rules | `(tactic| wtm_at "g_gl") => `(tactic| first
  | (with_reducible assumption) | (with_reducible exact GotL.here) | (with_reducible exact GotL.hereS)
  | ((with_reducible refine' GotL.next ?k1); (case k1 => wtm_at "g_gl"))
  | fail)
local macro_rules | `(tactic| wtm_at "g_put") => `(tactic| first
  | (with_reducible assumption) | (with_reducible exact Put.here)
  | ((with_reducible refine' Put.next ?k1); (case k1 => wtm_at "g_put"))
  | fail)
local macro_rules | `(tactic| wtm_at "g_pk") => `(tactic| first
  | (with_reducible assumption) | (with_reducible exact Pick.keep) | (with_reducible exact Pick.here)
  | ((with_reducible refine' Pick.next ?k1); (case k1 => wtm_at "g_pk"))
  | fail)
local macro_rules | `(tactic| wtm_at "g_hp") => `(tactic| first
  | (with_reducible assumption) | (with_reducible exact upd_same)
  | ((with_reducible refine' Own.get ?k1 ?k2); (case k1 => wtm_at "g_own"); (case k2 => wtm_at "g_got"))
  | fail)
local macro_rules | `(tactic| wtm_at "g_sq") => `(tactic| first
  | (with_reducible assumption)
  | ((with_reducible refine' Own.sql ?k1 ?k2); (case k1 => wtm_at "g_own"); (case k2 => wtm_at "g_gl"))
  | ((with_reducible refine' SqL.of ?k1); (case k1 => wtm_at "g_hp"))
  | fail)
local macro_rules | `(tactic| wtm_at "g_sqt") => `(tactic| first
  | (with_reducible assumption) | ((with_reducible refine' SqT.of' ?k1); (case k1 => wtm_at "g_hp"))
  | fail)
local macro_rules | `(tactic| wtm_at "g_sz") => `(tactic| first
  | (with_reducible assumption) | (exact small_le rfl)
  | ((with_reducible refine' small16 ?k1); (case k1 => (try simp only [List.length_append, List.length_map, List.length_cons, List.length_nil, List.length_take, List.length_drop, List.length_set, List.length_range]); omega))
  | ((with_reducible refine' small16l ?k1); (case k1 => (try simp only [List.length_append, List.length_map, List.length_cons, List.length_nil, List.length_take, List.length_drop, List.length_set, List.length_range]); omega))
  | fail)
local macro_rules | `(tactic| wtm_at "g_gd") => `(tactic| first
  | (with_reducible assumption) | (with_reducible exact GotD.here) | (with_reducible exact GotD.hereR) | (with_reducible exact GotD.ints)
  | ((with_reducible refine' GotD.next ?k1); (case k1 => wtm_at "g_gd"))
  | fail)
local macro_rules | `(tactic| wtm_at "g_dp") => `(tactic| first
  | (with_reducible assumption)
  | ((with_reducible refine' Own.dpG ?k1 ?k2); (case k1 => wtm_at "g_own"); (case k2 => wtm_at "g_gd"))
  | fail)
local macro_rules | `(tactic| wtm_at "g_ar") => `(tactic| first
  | decide | (exact ⟨by decide, by decide⟩) | (exact Or.inr ⟨by decide, by decide⟩) | (exact Or.inl ⟨by decide, by decide⟩) | omega | (exact Or.inr ⟨by omega, by omega⟩) | (exact Or.inl ⟨by omega, by omega⟩) | (exact ⟨by omega, by omega⟩)
  | fail)
local macro_rules | `(tactic| wtm_at "g_ow") => `(tactic| first
  | wtm_at "g_own"
  | ((simp only [List.map_cons, List.map_nil]); wtm_at "g_own")
  | fail)
local macro_rules | `(tactic| wtm_at "g_callc") => `(tactic| first
  | ((with_reducible refine' o_digit ?k1 ?k2 ?k3 ?k4 ?_); (case k1 => wtm_at "g_own"); (case k2 => wtm_at "g_pk"); (case k3 => omega); (case k4 => omega); intro d HH d0 d1 ww)
  | ((with_reducible refine' o_start ?k1 ?_); (case k1 => wtm_at "g_own"); intro p HH ww)
  | ((with_reducible refine' c_cell ?k1 ?k2 ?_); (case k1 => wtm_at "g_sq"); (case k2 => omega); intro n)
  | ((with_reducible refine' c_isint ?_))
  | fail)
local macro_rules | `(tactic| wtm_at "g_st") => `(tactic| first
  | (with_reducible first
      | refine w_seq ?_ | refine w_asg ?_ | refine w_nm ?_ | refine w_next ?_ | refine w_if ?_ | refine w_ret ?_ | refine w_retN ?_ | refine w_drop ?_
      | refine w_var rfl ?_ | refine w_c ?_ | refine w_op ?_ | refine w_I0 ?_
      | refine w_eqI ?_ | refine w_neI ?_ | refine w_eqB ?_ | refine w_neB ?_ | refine w_eqS ?_ | refine w_neS ?_ | refine w_isN0 ?_ | refine w_isNi ?_ | refine w_isNr ?_ | refine w_isNb ?_ | refine w_isNs ?_ | refine w_notN0 ?_ | refine w_notNi ?_ | refine w_notNr ?_ | refine w_notNb ?_ | refine w_notNs ?_ | refine w_isN ?_ | refine w_notN ?_ | refine w_isB ?_ | refine w_notB ?_
      | refine w_un ?_ | refine w_U ?_ | refine w_chain ?_ | refine w_k ?_ | refine w_test ?_ | refine w_tB ?_ | refine w_tru ?_ | refine w_not ?_ | refine w_and ?_ | refine w_or ?_
      | refine w_andV ?_ | refine w_orV ?_ | refine w_notV ?_ | refine w_ife ?_ | refine w_nil ?_ | refine w_cons ?_ | refine w_tupK ?_ | refine w_lstK ?_ | refine w_small rfl ?_
      | refine w_call ?_ | refine w_mkQ ?_ | refine w_mt ?_ | refine k_ini ?_ | refine w_cb ?_ | refine w_min2 ?_ | refine w_max2 ?_ | refine w_abs ?_ | refine w_int ?_ | refine w_intb ?_
      | refine w_fld0 ?_ | refine w_bm ?_ | refine w_bm0 ?_ | refine w_sub ?_ | refine w_sfldQ ?_ | refine w_sfaQ ?_ | refine w_delQ ?_ | refine k_whT ?_ | refine w_radd ?_ | refine w_rsub ?_ | refine w_ip ?_ | refine w_rs ?_ | refine w_pr ?_
      | refine w_lcR1 ?_ | refine w_lcR2 ?_ | refine w_lcL ?_ | refine w_lcT ?_ | refine w_yes ?_ | refine w_disp ?_ | refine w_prs ?_ | refine w_prn ?_ | refine w_dget ?_ | refine w_sl ?_ | refine w_nopart ?_ | refine w_part ?_ | refine w_pint ?_
      | refine w_for3 ?_ | refine w_mkKQ ?_ | refine w_forR1 ?_ | refine w_forR2 ?_ | refine w_forL ?_ | refine w_forT ?_ | refine w_aug rfl ?_ | refine w_par ?_ | refine w_brk ?_ | refine w_cont ?_
      | refine w_isi_ii ?_ | refine w_isi_ib ?_ | refine w_isi_bi ?_ | refine w_isi_bb ?_ | refine w_isi_ss ?_ | refine w_isi_is ?_ | refine w_isi_il ?_ | refine w_isi_it ?_ | refine w_isi_sl ?_ | refine w_isi_st ?_ | refine w_isi_nl ?_ | refine w_isi_nt ?_
      | refine if_T ?_ | refine if_F ?_ | refine if_nT ?_ | refine if_nF ?_)
  | ((with_reducible refine' k_tup rfl ?k1 ?_); (case k1 => wtm_at "g_own"); intro p HH ww)
  | ((with_reducible refine' k_lst1R ?k1 ?_); (case k1 => wtm_at "g_own"); intro p HH ww)
  | ((with_reducible refine' k_lst1I ?k1 ?_); (case k1 => wtm_at "g_own"); intro p HH ww)
  | ((with_reducible refine' k_lst rfl ?k1 ?_); (case k1 => wtm_at "g_own"); intro p HH ww)
  | ((with_reducible refine' k_mk ?k1 ?_); (case k1 => wtm_at "g_own"); intro p dx HH ww)
  | wtm_at "g_mkk"
  | ((with_reducible refine' k_listL ?k1 ?k2 ?_); (case k1 => wtm_at "g_own"); (case k2 => wtm_at "g_sq"); intro p HH ww)
  | ((with_reducible refine' k_listT ?k1 ?k2 ?_); (case k1 => wtm_at "g_own"); (case k2 => wtm_at "g_sqt"); intro p HH ww)
  | ((with_reducible refine' k_tupL ?k1 ?k2 ?_); (case k1 => wtm_at "g_own"); (case k2 => wtm_at "g_sq"); intro p HH ww)
  | ((with_reducible refine' k_slfromRs ?k1 ?k2 ?_); (case k1 => wtm_at "g_own"); (case k2 => wtm_at "g_sq"); intro p HH ww)
  | ((with_reducible refine' k_slfromR1 ?k1 ?k2 ?_); (case k1 => wtm_at "g_own"); (case k2 => wtm_at "g_sq"); intro p HH ww)
  | ((with_reducible refine' k_slfromRn ?k1 ?k2 ?_); (case k1 => wtm_at "g_own"); (case k2 => wtm_at "g_sq"); intro p HH ww)
  | ((with_reducible refine' k_sltoR1 ?k1 ?k2 ?_); (case k1 => wtm_at "g_own"); (case k2 => wtm_at "g_sq"); intro p HH ww)
  | ((with_reducible refine' k_sltoRn ?k1 ?k2 ?_); (case k1 => wtm_at "g_own"); (case k2 => wtm_at "g_sq"); intro p HH ww)
  | ((with_reducible refine' k_slfromIs ?k1 ?k2 ?_); (case k1 => wtm_at "g_own"); (case k2 => wtm_at "g_sq"); intro p HH ww)
  | ((with_reducible refine' k_slfromI1 ?k1 ?k2 ?_); (case k1 => wtm_at "g_own"); (case k2 => wtm_at "g_sq"); intro p HH ww)
  | ((with_reducible refine' k_slfromIn ?k1 ?k2 ?_); (case k1 => wtm_at "g_own"); (case k2 => wtm_at "g_sq"); intro p HH ww)
  | ((with_reducible refine' k_sltoI1 ?k1 ?k2 ?_); (case k1 => wtm_at "g_own"); (case k2 => wtm_at "g_sq"); intro p HH ww)
  | ((with_reducible refine' k_sltoIn ?k1 ?k2 ?_); (case k1 => wtm_at "g_own"); (case k2 => wtm_at "g_sq"); intro p HH ww)
  | ((with_reducible refine' k_slfromI ?k1 ?k2 ?k3 ?_); (case k1 => wtm_at "g_own"); (case k2 => wtm_at "g_sq"); (case k3 => omega); intro p HH ww)
  | ((with_reducible refine' k_sltoI ?k1 ?k2 ?k3 ?_); (case k1 => wtm_at "g_own"); (case k2 => wtm_at "g_sq"); (case k3 => omega); intro p HH ww)
  | ((with_reducible refine' k_slmidI ?k1 ?k2 ?k3 ?k4 ?_); (case k1 => wtm_at "g_own"); (case k2 => wtm_at "g_sq"); (case k3 => omega); (case k4 => omega); intro p HH ww)
  | ((with_reducible refine' k_catI ?k1 ?k2 ?k3 ?k4 ?_); (case k1 => wtm_at "g_own"); (case k2 => wtm_at "g_got"); (case k3 => wtm_at "g_got"); (case k4 => wtm_at "g_sz"); intro p HH ww)
  | ((with_reducible refine' k_catR ?k1 ?k2 ?k3 ?k4 ?_); (case k1 => wtm_at "g_own"); (case k2 => wtm_at "g_got"); (case k3 => wtm_at "g_got"); (case k4 => wtm_at "g_sz"); intro p HH ww)
  | ((with_reducible refine' k_slfromR ?k1 ?k2 ?k3 ?_); (case k1 => wtm_at "g_own"); (case k2 => wtm_at "g_sq"); (case k3 => omega); intro p HH ww)
  | ((with_reducible refine' k_sltoR ?k1 ?k2 ?k3 ?_); (case k1 => wtm_at "g_own"); (case k2 => wtm_at "g_sq"); (case k3 => omega); intro p HH ww)
  | ((with_reducible refine' k_appI ?k1 ?k2 ?k3 ?_); (case k1 => wtm_at "g_own"); (case k2 => wtm_at "g_put"); (case k3 => wtm_at "g_sz"); intro HH ww)
  | ((with_reducible refine' k_appR ?k1 ?k2 ?k3 ?_); (case k1 => wtm_at "g_own"); (case k2 => wtm_at "g_put"); (case k3 => wtm_at "g_sz"); intro HH ww)
  | ((with_reducible refine' k_extendI ?k1 ?k2 ?k3 ?k4 ?_); (case k1 => wtm_at "g_own"); (case k2 => wtm_at "g_put"); (case k3 => wtm_at "g_got"); (case k4 => wtm_at "g_sz"); intro HH ww)
  | ((with_reducible refine' k_slfrom ?k1 ?k2 ?k3 ?_); (case k1 => wtm_at "g_own"); (case k2 => wtm_at "g_sq"); (case k3 => omega); intro p HH ww)
  | ((with_reducible refine' k_slto ?k1 ?k2 ?k3 ?_); (case k1 => wtm_at "g_own"); (case k2 => wtm_at "g_sq"); (case k3 => omega); intro p HH ww)
  | ((with_reducible refine' k_slmid ?k1 ?k2 ?k3 ?k4 ?_); (case k1 => wtm_at "g_own"); (case k2 => wtm_at "g_sq"); (case k3 => omega); (case k4 => omega); intro p HH ww)
  | ((with_reducible refine' k_cat ?k1 ?k2 ?k3 ?k4 ?_); (case k1 => wtm_at "g_own"); (case k2 => wtm_at "g_got"); (case k3 => wtm_at "g_got"); (case k4 => wtm_at "g_sz"); intro p HH ww)
  | ((with_reducible refine' k_app ?k1 ?k2 ?k3 ?_); (case k1 => wtm_at "g_own"); (case k2 => wtm_at "g_put"); (case k3 => wtm_at "g_sz"); intro HH ww)
  | ((with_reducible refine' ty_list ?k1 ?_); (case k1 => wtm_at "g_hp"))
  | ((with_reducible refine' k_truR ?k1 ?_); (case k1 => wtm_at "g_sq"))
  | ((with_reducible refine' k_truI ?k1 ?_); (case k1 => wtm_at "g_sq"))
  | ((with_reducible refine' k_truL ?k1 ?_); (case k1 => wtm_at "g_sq"))
  | ((with_reducible refine' w_lenLI ?k1 ?_); (case k1 => wtm_at "g_sq"))
  | ((with_reducible refine' w_lenLR ?k1 ?_); (case k1 => wtm_at "g_sq"))
  | ((with_reducible refine' w_ixT ?k1 ?k2 ?_); (case k1 => wtm_at "g_sqt"); (case k2 => first | rfl | fail))
  | ((with_reducible refine' w_ixRc ?k1 ?_); (case k1 => wtm_at "g_sq"))
  | ((with_reducible refine' w_ixR0 ?k1 ?k2 ?_); (case k1 => wtm_at "g_sq"); (case k2 => with_reducible assumption))
  | ((with_reducible refine' w_ixR ?k1 ?k2 ?_); (case k1 => wtm_at "g_sq"); (case k2 => with_reducible assumption))
  | ((with_reducible refine' w_ixLastR ?k1 ?k2 ?_); (case k1 => wtm_at "g_sq"); (case k2 => with_reducible assumption))
  | ((with_reducible refine' k_slinitR ?k1 ?k2 ?_); (case k1 => wtm_at "g_own"); (case k2 => wtm_at "g_sq"); intro p HH ww)
  | ((with_reducible refine' w_gTup ?k1 ?k2 ?_); (case k1 => wtm_at "g_sqt"); (case k2 => rfl))
  | (with_reducible refine w_gCons ?_)
  | (with_reducible refine w_gNil ?_)
  | ((with_reducible refine' w_ixI ?k1 ?k2 ?k3 ?_); (case k1 => wtm_at "g_sq"); (case k2 => omega); (case k3 => omega))
  | ((with_reducible refine' w_I ?k1 ?_); (case k1 => wtm_at "g_ar"))
  | ((with_reducible refine' k_reverse ?k1 ?k2 ?_); (case k1 => wtm_at "g_own"); (case k2 => wtm_at "g_put"); intro HH ww)
  | ((with_reducible refine' w_lenL ?k1 ?_); (case k1 => wtm_at "g_sq"))
  | ((with_reducible refine' w_lenT ?k1 ?_); (case k1 => wtm_at "g_sqt"))
  | ((with_reducible refine' w_isi_ll ?k1 ?_); (case k1 => wtm_at "g_hp"))
  | ((with_reducible refine' w_isi_tt ?k1 ?_); (case k1 => wtm_at "g_hp"))
  | ((with_reducible refine' w_isi_lt ?k1 ?_); (case k1 => wtm_at "g_hp"))
  | ((with_reducible refine' w_isi_tl ?k1 ?_); (case k1 => wtm_at "g_hp"))
  | ((with_reducible refine' w_ll ?k1 ?k2 ?_); (case k1 => rfl); (case k2 => rfl))
  | wtm_at "g_get"
  | wtm_at "g_mt"
  | wtm_at "g_set"
  | wtm_at "g_set2"
  | wtm_at "g_call"
  | wtm_at "g_callc"
  | fail)
local macro_rules | `(tactic| wtm_at "g_go") => `(tactic| repeat wtm_at "g_st")
local macro_rules | `(tactic| wtm_at "g_ifo") => `(tactic| first
  | (refine if_nno rfl ?_) | (refine if_yes rfl ?_)
  | (refine if_no (by omega) ?_)
  | (refine if_yes (by omega) ?_)
  | (refine if_nno (by omega) ?_)
  | (refine if_nyes (by omega) ?_)
  | (refine if_nno (decide_eq_false (by omega)).symm ?_)
  | (refine if_nno (decide_eq_true (by omega)).symm ?_)
  | fail)
local macro_rules | `(tactic| wtm_at "g_goo") => `(tactic| repeat (first | wtm_at "g_st" | wtm_at "g_ifo"))
section
theorem JX.pos {fs : List Fl} {rows : List Wt} (h : JX fs rows) : ∀ r ∈ rows, 1 ≤ r.w := fun r hr => by
  have := h.perm.mem_iff.mp hr
  unfold allW at this
  obtain ⟨l, hl, hrl⟩ := List.mem_flatten.mp this
  obtain ⟨f, hf, rfl⟩ := List.mem_map.mp hl
  obtain ⟨z, hz, rfl⟩ := List.mem_map.mp hrl
  exact (h.wf f hf).w z hz
theorem gone_lim {x : Qu} : (goneF x).lim = x.lim ∧ (goneF x).q = x.q := by
  unfold goneF
  split <;> exact ⟨rfl, rfl⟩
theorem JI.turn {x : Qu} {rows : List Wt} (h : JI x rows) : JI (turnF x) rows := by
  have hj := h.jx.turn h.wf
  refine ⟨wf_turn h.wf, hj, ?_⟩
  have h1 := h.oc
  rw [h.jx.octs] at h1
  rw [hj.octs]
  exact h1
theorem JI.gone {x : Qu} {rows : List Wt} {y : Wt} (h : JI x rows) (hy : firstF x = some y) : y ∈ rows ∧ (∃ L, own rows y.k = y :: L) ∧ JI (goneF x) (out y rows) := by
  obtain ⟨h1, h2, h3⟩ := h.jx.gone hy
  obtain ⟨e1, e2⟩ := gone_lim (x := x)
  refine ⟨h1, h2, ⟨by rw [e1]; exact h.wf.lim, by rw [e2]; exact h.wf.q, h3.wf⟩, h3, ?_⟩
  have := sum_out h.jx.asc h1
  rw [← h3.octs, ← h.jx.octs] at this
  have h4 := h.jx.pos y h1
  have h5 := h.oc
  rw [e1]
  omega
variable {K : PySem.W.Frag} {mg : Str → Option Value} {base : Heap} {L R : List HP} {H : Hp} {Q : VK} {E : XK} {p t a : Addr} {x : Qu} {y : Wt}
theorem c_next_n (wf : WF x) (hc : cnt x.fs ≤ 200000) (h : firstF (turnF x) = none) (w : Own L H) (pk : Pick L (QuP K p x) R) (k : ∀ H', Own (QuP K p (turnF x) :: R) H' → Q .non H') : sp_FairQueue_next_up K [.ref p] H Q E := ⟨p, x, R, rfl, wf, hc, w.pick pk, fun _ => k, fun y hy => by rw [h] at hy; cases hy⟩
theorem c_next_s (wf : WF x) (hc : cnt x.fs ≤ 200000) (h : firstF (turnF x) = some y) (w : Own L H) (pk : Pick L (QuP K p x) R) (k : ∀ H' a, Own (WtP K a y :: QuP K p (turnF x) :: R) H' → Q (.ref a) H') : sp_FairQueue_next_up K [.ref p] H Q E := ⟨p, x, R, rfl, wf, hc, w.pick pk, (fun hn => by rw [h] at hn; cases hn), fun y' hy => by rw [h] at hy; cases hy; exact k⟩
theorem c_qtake_n (wf : WF x) (hc : cnt x.fs ≤ 200000) (h : firstF (turnF x) = none) (w : Own L H) (pk : Pick L (QuP K p x) R) (k : ∀ H', Own (QuP K p (turnF x) :: R) H' → Q .non H') : sp_FairQueue_take K [.ref p] H Q E := ⟨p, x, R, rfl, wf, hc, w.pick pk, fun _ => k, fun y hy => by rw [h] at hy; cases hy⟩
theorem c_qtake_s (wf : WF x) (hc : cnt x.fs ≤ 200000) (h : firstF (turnF x) = some y) (w : Own L H) (pk : Pick L (QuP K p x) R) (k : ∀ H' a, Own (WtP K a y :: QuP K p (goneF (turnF x)) :: R) H' → Q (.ref a) H') : sp_FairQueue_take K [.ref p] H Q E := ⟨p, x, R, rfl, wf, hc, w.pick pk, (fun hn => by rw [h] at hn; cases hn), fun y' hy => by rw [h] at hy; cases hy; exact k⟩
theorem c_row (w : Own L H) (pk : Pick L (WtP K a y) R) (k : ∀ H' b, Own (RtP b y :: R) H' → Q (.ref b) H') : sp_law_row K [.ref a] H Q E := ⟨a, y, R, rfl, w.pick pk, k⟩
theorem pure_law_take (T : TX K mg base) (vs : List V) (H : Hp) (Q : VK) (E : XK) (h : sp_law_take K vs H Q E) : t_law_take K E { nx := fun _ H' => Q .non H', rt := Q } (start N_law_take vs) H := by
  obtain ⟨p, l, s, x, rows, R, rfl, hJ, hn, w, q⟩ := h
  have hcl := hJ.jx.len
  have hJt := hJ.turn
  have hct := cnt_turn hJ.wf
  have hta := turn_again hJ.wf.q
  unfold t_law_take
  wtm_at "g_go"
  rcases hfo : firstF (turnF x) with _ | y
  · have hx0 : rows = [] := by
      have e := turn_none hJ.wf.q hfo
      rw [e] at hcl
      exact List.eq_nil_of_length_eq_zero hcl
    refine c_next_n hJ.wf (by omega) hfo w (by wtm_at "g_pk") fun H1 w1 => ?_
    wtm_at "g_go"
    refine w_cut (fun σ H' => ∃ v4, σ = [some (.ref p), some (.ref l), some (.ref s), some .non, v4, none, none, none] ∧ Own (QuP K p (turnF x) :: RsP l rows :: Drw s :: R) H') ?_ ?_
    · wtm_at "g_go"
      rename_i d H2 d0 d1 w2
      refine if_d (fun h1 => ?_) (fun h1 => ?_)
      · wtm_at "g_go"
        refine c_next_n hJt.wf (by omega) (by rw [hta]; exact hfo) w2 (by wtm_at "g_pk") fun H3 w3 => ?_
        rw [hta] at w3
        wtm_at "g_go"
        rw [if_neg (by decide)]
        wtm_at "g_go"
        exact ⟨_, rfl, by wtm_at "g_own"⟩
      · exact ⟨_, rfl, by wtm_at "g_own"⟩
    rintro σ H2 ⟨v4, rfl, w2⟩
    wtm_at "g_go"
    refine c_qtake_n hJt.wf (by omega) (by rw [hta]; exact hfo) w2 (by wtm_at "g_pk") fun H3 w3 => ?_
    rw [hta] at w3
    subst hx0
    obtain ⟨ts, w4⟩ := rs_out (w3.pick (P := RsP l []) (by wtm_at "g_pk"))
    have hlen : ts.length = 0 := w4.swap.bigLen
    wtm_at "g_go"
    refine if_d (fun _ => ?_) (fun z => absurd (by omega) z)
    wtm_at "g_go"
    exact q _ l (turnF x) [] hJt (fun r hr => hr) (Nat.le_refl _) (by wtm_at "g_own")
  · obtain ⟨hy, ⟨Ly, hly⟩, hJg⟩ := hJt.gone hfo
    have gy := hJ.jx.gr y hy
    refine c_next_s hJ.wf (by omega) hfo w (by wtm_at "g_pk") fun H1 b1 w1 => ?_
    wtm_at "g_go"
    refine w_cut (fun σ H' => ∃ v4, σ = [some (.ref p), some (.ref l), some (.ref s), some (.ref b1), v4, none, none, none] ∧ Own (WtP K b1 y :: QuP K p (turnF x) :: RsP l rows :: Drw s :: R) H') ?_ ?_
    · wtm_at "g_go"
      rename_i d H2 d0 d1 w2
      refine if_d (fun h1 => ?_) (fun h1 => ?_)
      · wtm_at "g_go"
        refine c_next_s hJt.wf (by omega) (by rw [hta]; exact hfo) w2 (by wtm_at "g_pk") fun H3 b2 w3 => ?_
        rw [hta] at w3
        wtm_at "g_go"
        rw [if_neg (by decide)]
        wtm_at "g_go"
        refine c_row w3 (y := y) (a := b1) (.next (.next (.next .keep))) fun H4 c1 w4 => ?_
        wtm_at "g_go"
        refine c_row w4 (y := y) (a := b2) (.next .here) fun H5 c2 w5 => ?_
        wtm_at "g_go"
        refine w_neS' ((w5.pick (P := RtP c1 y) (by wtm_at "g_pk")).ent (.here (tell_rtD gy))) (w5.ent (.here (tell_rtD gy))) (rw_shaped gy) ?_
        wtm_at "g_go"
        exact ⟨_, rfl, by wtm_at "g_own"⟩
      · exact ⟨_, rfl, by wtm_at "g_own"⟩
    rintro σ H2 ⟨v4, rfl, w2⟩
    wtm_at "g_go"
    refine c_qtake_s hJt.wf (by omega) (by rw [hta]; exact hfo) w2 (by wtm_at "g_pk") fun H3 b3 w3 => ?_
    rw [hta] at w3
    obtain ⟨ts, w4⟩ := rs_out (w3.pick (P := RsP l rows) (by wtm_at "g_pk"))
    have hlen := w4.swap.bigLen
    have hrl := List.length_pos_iff.mpr (List.ne_nil_of_mem hy)
    wtm_at "g_go"
    refine if_d (fun z => absurd z (by omega)) (fun _ => ?_)
    wtm_at "g_go"
    refine c_row w4 (y := y) (a := b1) (by wtm_at "g_pk") fun H4 c1 w5 => ?_
    wtm_at "g_go"
    refine c_row w5.dup (y := y) (a := b3) (by exact .next (.next (.next (.next .keep)))) fun H5 c2 w6 => ?_
    wtm_at "g_go"
    refine w_neS' ((w6.pick (P := RtP c1 y) (by wtm_at "g_pk")).ent (.here (tell_rtD gy))) (w6.ent (.here (tell_rtD gy))) (rw_shaped gy) ?_
    wtm_at "g_go"
    refine c_row w6 (y := y) (a := b3) (by wtm_at "g_pk") fun H6 c3 w7 => ?_
    have w8 : Own (RtP c3 y :: ro l (.lst (ts.map V.ref)) :: big RtP ts rows :: QuP K p (goneF (turnF x)) :: Drw s :: R) H6 := by wtm_at "g_own"
    clear w5 w6 w7
    wtm_at "g_go"
    refine w_nin hJ.jx hy w8 .here (c := true) (ts := ts) (by wtm_at "g_pk") (by wtm_at "g_pk") ?_
    wtm_at "g_go"
    refine keep_comp (ts := ts) (xs := rows) (P := fun r => decide (r.k = y.k)) (R := RtP c3 y :: QuP K p (goneF (turnF x)) :: Drw s :: R) (Nat.le_of_ble_eq_true rfl) (by omega) w8 (.next .here) (.next .here) (fun a' r X1 X2 H1 B hr w k => key_test2 (Nat.le_of_ble_eq_true rfl) (by decide) rfl (hJ.jx.gr r hr).ok gy.ok w (.next (.next (.next (.next .here)))) k) fun D4 ts4 H11 w9 => ?_
    have e4 : rows.filter (fun r => decide (r.k = y.k)) = y :: Ly := hly
    rw [e4] at w9
    have hl4 := w9.swap.bigLen
    simp only [List.length_cons] at hl4
    obtain ⟨a4, ha4⟩ : ∃ a4, ts4[0]? = some a4 := ⟨_, List.getElem?_eq_getElem (by omega)⟩
    wtm_at "g_go"
    refine w_neS' ((w9.pick (P := RtP c3 y) (by wtm_at "g_pk")).ent (.here (tell_rtD gy))) (w9.swap.bigTell ha4 rfl (tell_rtD gy)) (rw_shaped gy) ?_
    wtm_at "g_go"
    refine keep_comp (ts := ts) (xs := rows) (P := fun r => decide (num r ≠ num y)) (R := RtP c3 y :: QuP K p (goneF (turnF x)) :: Drw s :: R) (Nat.le_of_ble_eq_true rfl) (by omega) w9.tail.tail .here .here (fun a' r X1 X2 H1 B hr w k => ne_test hJ.jx hy (Nat.le_of_ble_eq_true rfl) (by decide) rfl hr w (.next (.next (.next (.next .here)))) k) fun D5 ts5 H12 w10 => ?_
    wtm_at "g_go"
    have w11 := rs_mk (xs := out y rows) (ts := ts5) w10 .here .here
    exact q H12 D5 _ (out y rows) hJg (fun r hr => (List.mem_filter.mp hr).1) (List.length_filter_le _ _) (by wtm_at "g_own")
end
end K81

namespace K81
open PySem PySem.Spec PyProof.Rows L2 G
local macro_rules | `(tactic| wtm_at "g_get") => `(tactic| first
  | ((with_reducible refine' w_fld ?k1 (cl_Waiting (by assumption)) (na_Waiting_key (by assumption)) lk_Waiting_key ?_); (case k1 => wtm_at "g_hp"))
  | ((with_reducible refine' w_fld ?k1 (cl_Waiting (by assumption)) (na_Waiting_item (by assumption)) lk_Waiting_item ?_); (case k1 => wtm_at "g_hp"))
  | ((with_reducible refine' w_fld ?k1 (cl_Waiting (by assumption)) (na_Waiting_weight (by assumption)) lk_Waiting_weight ?_); (case k1 => wtm_at "g_hp"))
  | ((with_reducible refine' w_fld ?k1 (cl_Flow (by assumption)) (na_Flow_key (by assumption)) lk_Flow_key ?_); (case k1 => wtm_at "g_hp"))
  | ((with_reducible refine' w_fld ?k1 (cl_Flow (by assumption)) (na_Flow_rows (by assumption)) lk_Flow_rows ?_); (case k1 => wtm_at "g_hp"))
  | ((with_reducible refine' w_fld ?k1 (cl_Flow (by assumption)) (na_Flow_octets (by assumption)) lk_Flow_octets ?_); (case k1 => wtm_at "g_hp"))
  | ((with_reducible refine' w_fld ?k1 (cl_Flow (by assumption)) (na_Flow_credit (by assumption)) lk_Flow_credit ?_); (case k1 => wtm_at "g_hp"))
  | ((with_reducible refine' w_fld ?k1 (cl_FairQueue (by assumption)) (na_FairQueue_limit (by assumption)) lk_FairQueue_limit ?_); (case k1 => wtm_at "g_hp"))
  | ((with_reducible refine' w_fld ?k1 (cl_FairQueue (by assumption)) (na_FairQueue_quantum (by assumption)) lk_FairQueue_quantum ?_); (case k1 => wtm_at "g_hp"))
  | ((with_reducible refine' w_fld ?k1 (cl_FairQueue (by assumption)) (na_FairQueue_flows (by assumption)) lk_FairQueue_flows ?_); (case k1 => wtm_at "g_hp"))
  | ((with_reducible refine' w_fld ?k1 (cl_FairQueue (by assumption)) (na_FairQueue_granted (by assumption)) lk_FairQueue_granted ?_); (case k1 => wtm_at "g_hp"))
  | fail)
local macro_rules | `(tactic| wtm_at "g_set") => `(tactic| first
  | ((with_reducible refine' k_fld ?k1 ?k2 (cl_Waiting (by assumption)) (na_Waiting_key (by assumption)) pt_Waiting_key rfl ?_); (case k1 => wtm_at "g_own"); (case k2 => wtm_at "g_put"); intro HH ww)
  | ((with_reducible refine' k_fld ?k1 ?k2 (cl_Waiting (by assumption)) (na_Waiting_key (by assumption)) pn_Waiting_key rfl ?_); (case k1 => wtm_at "g_own"); (case k2 => wtm_at "g_put"); intro HH ww)
  | ((with_reducible refine' k_fld ?k1 ?k2 (cl_Waiting (by assumption)) (na_Waiting_item (by assumption)) pt_Waiting_item rfl ?_); (case k1 => wtm_at "g_own"); (case k2 => wtm_at "g_put"); intro HH ww)
  | ((with_reducible refine' k_fld ?k1 ?k2 (cl_Waiting (by assumption)) (na_Waiting_item (by assumption)) pn_Waiting_item rfl ?_); (case k1 => wtm_at "g_own"); (case k2 => wtm_at "g_put"); intro HH ww)
  | ((with_reducible refine' k_fld ?k1 ?k2 (cl_Waiting (by assumption)) (na_Waiting_weight (by assumption)) pt_Waiting_weight rfl ?_); (case k1 => wtm_at "g_own"); (case k2 => wtm_at "g_put"); intro HH ww)
  | ((with_reducible refine' k_fld ?k1 ?k2 (cl_Waiting (by assumption)) (na_Waiting_weight (by assumption)) pn_Waiting_weight rfl ?_); (case k1 => wtm_at "g_own"); (case k2 => wtm_at "g_put"); intro HH ww)
  | ((with_reducible refine' k_fld ?k1 ?k2 (cl_Flow (by assumption)) (na_Flow_key (by assumption)) pt_Flow_key rfl ?_); (case k1 => wtm_at "g_own"); (case k2 => wtm_at "g_put"); intro HH ww)
  | ((with_reducible refine' k_fld ?k1 ?k2 (cl_Flow (by assumption)) (na_Flow_key (by assumption)) pn_Flow_key rfl ?_); (case k1 => wtm_at "g_own"); (case k2 => wtm_at "g_put"); intro HH ww)
  | ((with_reducible refine' k_fld ?k1 ?k2 (cl_Flow (by assumption)) (na_Flow_rows (by assumption)) pt_Flow_rows rfl ?_); (case k1 => wtm_at "g_own"); (case k2 => wtm_at "g_put"); intro HH ww)
  | ((with_reducible refine' k_fld ?k1 ?k2 (cl_Flow (by assumption)) (na_Flow_rows (by assumption)) pn_Flow_rows rfl ?_); (case k1 => wtm_at "g_own"); (case k2 => wtm_at "g_put"); intro HH ww)
  | ((with_reducible refine' k_fld ?k1 ?k2 (cl_Flow (by assumption)) (na_Flow_octets (by assumption)) pt_Flow_octets rfl ?_); (case k1 => wtm_at "g_own"); (case k2 => wtm_at "g_put"); intro HH ww)
  | ((with_reducible refine' k_fld ?k1 ?k2 (cl_Flow (by assumption)) (na_Flow_octets (by assumption)) pn_Flow_octets rfl ?_); (case k1 => wtm_at "g_own"); (case k2 => wtm_at "g_put"); intro HH ww)
  | ((with_reducible refine' k_fld ?k1 ?k2 (cl_Flow (by assumption)) (na_Flow_credit (by assumption)) pt_Flow_credit rfl ?_); (case k1 => wtm_at "g_own"); (case k2 => wtm_at "g_put"); intro HH ww)
  | ((with_reducible refine' k_fld ?k1 ?k2 (cl_Flow (by assumption)) (na_Flow_credit (by assumption)) pn_Flow_credit rfl ?_); (case k1 => wtm_at "g_own"); (case k2 => wtm_at "g_put"); intro HH ww)
  | ((with_reducible refine' k_fld ?k1 ?k2 (cl_FairQueue (by assumption)) (na_FairQueue_limit (by assumption)) pt_FairQueue_limit rfl ?_); (case k1 => wtm_at "g_own"); (case k2 => wtm_at "g_put"); intro HH ww)
  | ((with_reducible refine' k_fld ?k1 ?k2 (cl_FairQueue (by assumption)) (na_FairQueue_limit (by assumption)) pn_FairQueue_limit rfl ?_); (case k1 => wtm_at "g_own"); (case k2 => wtm_at "g_put"); intro HH ww)
  | ((with_reducible refine' k_fld ?k1 ?k2 (cl_FairQueue (by assumption)) (na_FairQueue_quantum (by assumption)) pt_FairQueue_quantum rfl ?_); (case k1 => wtm_at "g_own"); (case k2 => wtm_at "g_put"); intro HH ww)
  | ((with_reducible refine' k_fld ?k1 ?k2 (cl_FairQueue (by assumption)) (na_FairQueue_quantum (by assumption)) pn_FairQueue_quantum rfl ?_); (case k1 => wtm_at "g_own"); (case k2 => wtm_at "g_put"); intro HH ww)
  | ((with_reducible refine' k_fld ?k1 ?k2 (cl_FairQueue (by assumption)) (na_FairQueue_flows (by assumption)) pt_FairQueue_flows rfl ?_); (case k1 => wtm_at "g_own"); (case k2 => wtm_at "g_put"); intro HH ww)
  | ((with_reducible refine' k_fld ?k1 ?k2 (cl_FairQueue (by assumption)) (na_FairQueue_flows (by assumption)) pn_FairQueue_flows rfl ?_); (case k1 => wtm_at "g_own"); (case k2 => wtm_at "g_put"); intro HH ww)
  | ((with_reducible refine' k_fld ?k1 ?k2 (cl_FairQueue (by assumption)) (na_FairQueue_granted (by assumption)) pt_FairQueue_granted rfl ?_); (case k1 => wtm_at "g_own"); (case k2 => wtm_at "g_put"); intro HH ww)
  | ((with_reducible refine' k_fld ?k1 ?k2 (cl_FairQueue (by assumption)) (na_FairQueue_granted (by assumption)) pn_FairQueue_granted rfl ?_); (case k1 => wtm_at "g_own"); (case k2 => wtm_at "g_put"); intro HH ww)
  | fail)
local macro_rules | `(tactic| wtm_at "g_set2") => `(tactic| first
  | ((with_reducible refine' k_fa ?k1 ?k2 pt_Waiting_key rfl ?_); (case k1 => wtm_at "g_own"); (case k2 => wtm_at "g_put"); intro HH ww)
  | ((with_reducible refine' k_fa ?k1 ?k2 pt_Waiting_item rfl ?_); (case k1 => wtm_at "g_own"); (case k2 => wtm_at "g_put"); intro HH ww)
  | ((with_reducible refine' k_fa ?k1 ?k2 pt_Waiting_weight rfl ?_); (case k1 => wtm_at "g_own"); (case k2 => wtm_at "g_put"); intro HH ww)
  | ((with_reducible refine' k_fa ?k1 ?k2 pt_Flow_key rfl ?_); (case k1 => wtm_at "g_own"); (case k2 => wtm_at "g_put"); intro HH ww)
  | ((with_reducible refine' k_fa ?k1 ?k2 pt_Flow_rows rfl ?_); (case k1 => wtm_at "g_own"); (case k2 => wtm_at "g_put"); intro HH ww)
  | ((with_reducible refine' k_fa ?k1 ?k2 pt_Flow_octets rfl ?_); (case k1 => wtm_at "g_own"); (case k2 => wtm_at "g_put"); intro HH ww)
  | ((with_reducible refine' k_fa ?k1 ?k2 pt_Flow_credit rfl ?_); (case k1 => wtm_at "g_own"); (case k2 => wtm_at "g_put"); intro HH ww)
  | ((with_reducible refine' k_fa ?k1 ?k2 pt_FairQueue_limit rfl ?_); (case k1 => wtm_at "g_own"); (case k2 => wtm_at "g_put"); intro HH ww)
  | ((with_reducible refine' k_fa ?k1 ?k2 pt_FairQueue_quantum rfl ?_); (case k1 => wtm_at "g_own"); (case k2 => wtm_at "g_put"); intro HH ww)
  | ((with_reducible refine' k_fa ?k1 ?k2 pt_FairQueue_flows rfl ?_); (case k1 => wtm_at "g_own"); (case k2 => wtm_at "g_put"); intro HH ww)
  | ((with_reducible refine' k_fa ?k1 ?k2 pt_FairQueue_granted rfl ?_); (case k1 => wtm_at "g_own"); (case k2 => wtm_at "g_put"); intro HH ww)
  | fail)
local macro_rules | `(tactic| wtm_at "g_mt") => `(tactic| first
  | ((with_reducible refine' w_mt1 ?k1 ln_Flow_add ?_); (case k1 => wtm_at "g_hp"))
  | ((with_reducible refine' w_mt1 ?k1 ln_Flow_take ?_); (case k1 => wtm_at "g_hp"))
  | ((with_reducible refine' w_mt1 ?k1 ln_Flow_fork ?_); (case k1 => wtm_at "g_hp"))
  | ((with_reducible refine' w_mt1 ?k1 ln_FairQueue_count ?_); (case k1 => wtm_at "g_hp"))
  | ((with_reducible refine' w_mt1 ?k1 ln_FairQueue_octets ?_); (case k1 => wtm_at "g_hp"))
  | ((with_reducible refine' w_mt1 ?k1 ln_FairQueue_octets_of ?_); (case k1 => wtm_at "g_hp"))
  | ((with_reducible refine' w_mt1 ?k1 ln_FairQueue_flow_of ?_); (case k1 => wtm_at "g_hp"))
  | ((with_reducible refine' w_mt1 ?k1 ln_FairQueue_remove_flow ?_); (case k1 => wtm_at "g_hp"))
  | ((with_reducible refine' w_mt1 ?k1 ln_FairQueue_put ?_); (case k1 => wtm_at "g_hp"))
  | ((with_reducible refine' w_mt1 ?k1 ln_FairQueue_drop ?_); (case k1 => wtm_at "g_hp"))
  | ((with_reducible refine' w_mt1 ?k1 ln_FairQueue_turn ?_); (case k1 => wtm_at "g_hp"))
  | ((with_reducible refine' w_mt1 ?k1 ln_FairQueue_next_up ?_); (case k1 => wtm_at "g_hp"))
  | ((with_reducible refine' w_mt1 ?k1 ln_FairQueue_take ?_); (case k1 => wtm_at "g_hp"))
  | ((with_reducible refine' w_mt1 ?k1 ln_FairQueue_take_all ?_); (case k1 => wtm_at "g_hp"))
  | ((with_reducible refine' w_mt1 ?k1 ln_FairQueue_fork ?_); (case k1 => wtm_at "g_hp"))
  | fail)
local macro_rules | `(tactic| wtm_at "g_mkk") => `(tactic| first
  | fail
  | fail)
local macro_rules | `(tactic| wtm_at "g_callf") => `(tactic| first
  | ((with_reducible refine' c_Waiting_init ?k1 ?k2 ?k3 ?_); (case k1 => wtm_at "g_own"); (case k2 => wtm_at "g_pk"); (case k3 => wtm_at "g_pk"); intro HH ww)
  | ((with_reducible refine' c_Flow_init ?k1 ?k2 ?k3 ?_); (case k1 => wtm_at "g_own"); (case k2 => wtm_at "g_pk"); (case k3 => wtm_at "g_pk"); intro HH ww)
  | ((with_reducible refine' c_octets ?k0 ?k1 ?k2 ?_); (case k1 => wtm_at "g_own"); (case k2 => wtm_at "g_pk"); (case k0 => omega); intro HH ww)
  | ((with_reducible refine' w_fldT tell_qu_lim ?k1 ?k2 (cl_FairQueue (by assumption)) (na_FairQueue_limit (by assumption)) ?_); (case k1 => wtm_at "g_own"); (case k2 => wtm_at "g_pk"); intro dz fz; (try clear fz dz))
  | ((with_reducible refine' w_fldT tell_qu_q ?k1 ?k2 (cl_FairQueue (by assumption)) (na_FairQueue_quantum (by assumption)) ?_); (case k1 => wtm_at "g_own"); (case k2 => wtm_at "g_pk"); intro dz fz; (try clear fz dz))
  | ((with_reducible refine' w_fldT tell_wt_w ?k1 ?k2 (cl_Waiting (by assumption)) (na_Waiting_weight (by assumption)) ?_); (case k1 => wtm_at "g_own"); (case k2 => wtm_at "g_pk"); intro dz fz; (try clear fz dz))
  | ((with_reducible refine' w_fldT tell_wt_i ?k1 ?k2 (cl_Waiting (by assumption)) (na_Waiting_item (by assumption)) ?_); (case k1 => wtm_at "g_own"); (case k2 => wtm_at "g_pk"); intro dz fz; (try clear fz dz))
  | ((with_reducible refine' w_mtT (tell_qu_m ln_FairQueue_octets) ?k1 ?k2 ?_); (case k1 => wtm_at "g_own"); (case k2 => wtm_at "g_pk"))
  | ((with_reducible refine' w_mtT (tell_qu_m ln_FairQueue_drop) ?k1 ?k2 ?_); (case k1 => wtm_at "g_own"); (case k2 => wtm_at "g_pk"))
  | ((with_reducible refine' w_mtT (tell_qu_m ln_FairQueue_turn) ?k1 ?k2 ?_); (case k1 => wtm_at "g_own"); (case k2 => wtm_at "g_pk"))
  | ((with_reducible refine' w_mtT (tell_qu_m ln_FairQueue_next_up) ?k1 ?k2 ?_); (case k1 => wtm_at "g_own"); (case k2 => wtm_at "g_pk"))
  | ((with_reducible refine' w_mtT (tell_qu_m ln_FairQueue_remove_flow) ?k1 ?k2 ?_); (case k1 => wtm_at "g_own"); (case k2 => wtm_at "g_pk"))
  | ((with_reducible refine' w_mtT (tell_fl_m ln_Flow_add) ?k1 ?k2 ?_); (case k1 => wtm_at "g_own"); (case k2 => wtm_at "g_pk"))
  | ((with_reducible refine' w_mtT (tell_fl_m ln_Flow_take) ?k1 ?k2 ?_); (case k1 => wtm_at "g_own"); (case k2 => wtm_at "g_pk"))
  | fail)
local macro_rules | `(tactic| wtm_at "g_call") => `(tactic| first
  | wtm_at "g_callf"
  | ((with_reducible refine' w_mtT (tell_qu_m ln_FairQueue_count) ?k1 ?k2 ?_); (case k1 => wtm_at "g_own"); (case k2 => wtm_at "g_pk"))
  | ((with_reducible refine' w_mtT (tell_qu_m ln_FairQueue_octets_of) ?k1 ?k2 ?_); (case k1 => wtm_at "g_own"); (case k2 => wtm_at "g_pk"))
  | ((with_reducible refine' w_mtT (tell_qu_m ln_FairQueue_flow_of) ?k1 ?k2 ?_); (case k1 => wtm_at "g_own"); (case k2 => wtm_at "g_pk"))
  | ((with_reducible refine' w_mtT (tell_qu_m ln_FairQueue_put) ?k1 ?k2 ?_); (case k1 => wtm_at "g_own"); (case k2 => wtm_at "g_pk"))
  | ((with_reducible refine' w_mtT (tell_qu_m ln_FairQueue_take) ?k1 ?k2 ?_); (case k1 => wtm_at "g_own"); (case k2 => wtm_at "g_pk"))
  | ((with_reducible refine' w_mtT (tell_qu_m ln_FairQueue_take_all) ?k1 ?k2 ?_); (case k1 => wtm_at "g_own"); (case k2 => wtm_at "g_pk"))
  | ((with_reducible refine' w_mtT (tell_qu_m ln_FairQueue_fork) ?k1 ?k2 ?_); (case k1 => wtm_at "g_own"); (case k2 => wtm_at "g_pk"))
  | ((with_reducible refine' w_mtT (tell_fl_m ln_Flow_fork) ?k1 ?k2 ?_); (case k1 => wtm_at "g_own"); (case k2 => wtm_at "g_pk"))
  | fail)
local macro_rules | `(tactic| wtm_at "g_own") => `(tactic| first
  | (with_reducible assumption)
  | ((with_reducible refine' Own.newT ?k1 ?k2); (case k1 => with_reducible assumption); (case k2 => wtm_at "g_own"))
  | ((with_reducible refine' Own.new ?k1 ?k2); (case k1 => with_reducible assumption); (case k2 => wtm_at "g_own"))
  | ((with_reducible refine' Own.put ?k1 ?k2); (case k1 => wtm_at "g_own"); (case k2 => wtm_at "g_put"))
  | ((with_reducible refine' Own.sel ?k1 ?k2); (case k1 => with_reducible assumption); (case k2 => wtm_at "g_sel"))
  | fail)
local macro_rules | `(tactic| wtm_at "g_sel") => `(tactic| first
  | (with_reducible exact Sel.rf) | (with_reducible exact Sel.nil)
  | ((with_reducible refine' Sel.cons ?k1 ?k2); (case k1 => wtm_at "g_pk"); (case k2 => wtm_at "g_sel"))
  | ((with_reducible refine' Sel.drop ?k1); (case k1 => wtm_at "g_sel"))
  | fail)
local macro_rules | `(tactic| wtm_at "g_got") => `(tactic| first
  | (with_reducible assumption) | (with_reducible exact Got.here)
  | ((with_reducible refine' Got.next ?k1); (case k1 => wtm_at "g_got"))
  | fail)
local macro_rules | `(tactic| wtm_at "g_gl") => `(tactic| first
  | (with_reducible assumption) | (with_reducible exact GotL.here) | (with_reducible exact GotL.hereS)
  | ((with_reducible refine' GotL.next ?k1); (case k1 => wtm_at "g_gl"))
  | fail)
local macro_rules | `(tactic| wtm_at "g_put") => `(tactic| first
  | (with_reducible assumption) | (with_reducible exact Put.here)
  | ((with_reducible refine' Put.next ?k1); (case k1 => wtm_at "g_put"))
  | fail)
local macro_rules | `(tactic| wtm_at "g_pk") => `(tactic| first
  | (with_reducible assumption) | (with_reducible exact Pick.keep) | (with_reducible exact Pick.here)
  | ((with_reducible refine' Pick.next ?k1); (case k1 => wtm_at "g_pk"))
  | fail)
local macro_rules | `(tactic| wtm_at "g_hp") => `(tactic| first
  | (with_reducible assumption) | (with_reducible exact upd_same)
  | ((with_reducible refine' Own.get ?k1 ?k2); (case k1 => wtm_at "g_own"); (case k2 => wtm_at "g_got"))
  | fail)
local macro_rules | `(tactic| wtm_at "g_sq") => `(tactic| first
  | (with_reducible assumption)
  | ((with_reducible refine' Own.sql ?k1 ?k2); (case k1 => wtm_at "g_own"); (case k2 => wtm_at "g_gl"))
  | ((with_reducible refine' SqL.of ?k1); (case k1 => wtm_at "g_hp"))
  | fail)
local macro_rules | `(tactic| wtm_at "g_sqt") => `(tactic| first
  | (with_reducible assumption) | ((with_reducible refine' SqT.of' ?k1); (case k1 => wtm_at "g_hp"))
  | fail)
local macro_rules | `(tactic| wtm_at "g_sz") => `(tactic| first
  | (with_reducible assumption) | (exact small_le rfl)
  | ((with_reducible refine' small16 ?k1); (case k1 => (try simp only [List.length_append, List.length_map, List.length_cons, List.length_nil, List.length_take, List.length_drop, List.length_set, List.length_range]); omega))
  | ((with_reducible refine' small16l ?k1); (case k1 => (try simp only [List.length_append, List.length_map, List.length_cons, List.length_nil, List.length_take, List.length_drop, List.length_set, List.length_range]); omega))
  | fail)
local macro_rules | `(tactic| wtm_at "g_gd") => `(tactic| first
  | (with_reducible assumption) | (with_reducible exact GotD.here) | (with_reducible exact GotD.hereR) | (with_reducible exact GotD.ints)
  | ((with_reducible refine' GotD.next ?k1); (case k1 => wtm_at "g_gd"))
  | fail)
local macro_rules | `(tactic| wtm_at "g_dp") => `(tactic| first
  | (with_reducible assumption)
  | ((with_reducible refine' Own.dpG ?k1 ?k2); (case k1 => wtm_at "g_own"); (case k2 => wtm_at "g_gd"))
  | fail)
local macro_rules | `(tactic| wtm_at "g_ar") => `(tactic| first
  | decide | (exact ⟨by decide, by decide⟩) | (exact Or.inr ⟨by decide, by decide⟩) | (exact Or.inl ⟨by decide, by decide⟩) | omega | (exact Or.inr ⟨by omega, by omega⟩) | (exact Or.inl ⟨by omega, by omega⟩) | (exact ⟨by omega, by omega⟩)
  | fail)
local macro_rules | `(tactic| wtm_at "g_ow") => `(tactic| first
  | wtm_at "g_own"
  | ((simp only [List.map_cons, List.map_nil]); wtm_at "g_own")
  | fail)
local macro_rules | `(tactic| wtm_at "g_callc") => `(tactic| first
  | ((with_reducible refine' o_digit ?k1 ?k2 ?k3 ?k4 ?_); (case k1 => wtm_at "g_own"); (case k2 => wtm_at "g_pk"); (case k3 => omega); (case k4 => omega); intro d HH d0 d1 ww)
  | ((with_reducible refine' o_start ?k1 ?_); (case k1 => wtm_at "g_own"); intro p HH ww)
  | ((with_reducible refine' c_cell ?k1 ?k2 ?_); (case k1 => wtm_at "g_sq"); (case k2 => omega); intro n)
  | ((with_reducible refine' c_isint ?_))
  | fail)
local macro_rules | `(tactic| wtm_at "g_st") => `(tactic| first
  | (with_reducible first
      | refine w_seq ?_ | refine w_asg ?_ | refine w_nm ?_ | refine w_next ?_ | refine w_if ?_ | refine w_ret ?_ | refine w_retN ?_ | refine w_drop ?_
      | refine w_var rfl ?_ | refine w_c ?_ | refine w_op ?_ | refine w_I0 ?_
      | refine w_eqI ?_ | refine w_neI ?_ | refine w_eqB ?_ | refine w_neB ?_ | refine w_eqS ?_ | refine w_neS ?_ | refine w_isN0 ?_ | refine w_isNi ?_ | refine w_isNr ?_ | refine w_isNb ?_ | refine w_isNs ?_ | refine w_notN0 ?_ | refine w_notNi ?_ | refine w_notNr ?_ | refine w_notNb ?_ | refine w_notNs ?_ | refine w_isN ?_ | refine w_notN ?_ | refine w_isB ?_ | refine w_notB ?_
      | refine w_un ?_ | refine w_U ?_ | refine w_chain ?_ | refine w_k ?_ | refine w_test ?_ | refine w_tB ?_ | refine w_tru ?_ | refine w_not ?_ | refine w_and ?_ | refine w_or ?_
      | refine w_andV ?_ | refine w_orV ?_ | refine w_notV ?_ | refine w_ife ?_ | refine w_nil ?_ | refine w_cons ?_ | refine w_tupK ?_ | refine w_lstK ?_ | refine w_small rfl ?_
      | refine w_call ?_ | refine w_mkQ ?_ | refine w_mt ?_ | refine k_ini ?_ | refine w_cb ?_ | refine w_min2 ?_ | refine w_max2 ?_ | refine w_abs ?_ | refine w_int ?_ | refine w_intb ?_
      | refine w_fld0 ?_ | refine w_bm ?_ | refine w_bm0 ?_ | refine w_sub ?_ | refine w_sfldQ ?_ | refine w_sfaQ ?_ | refine w_delQ ?_ | refine k_whT ?_ | refine w_radd ?_ | refine w_rsub ?_ | refine w_ip ?_ | refine w_rs ?_ | refine w_pr ?_
      | refine w_lcR1 ?_ | refine w_lcR2 ?_ | refine w_lcL ?_ | refine w_lcT ?_ | refine w_yes ?_ | refine w_disp ?_ | refine w_prs ?_ | refine w_prn ?_ | refine w_dget ?_ | refine w_sl ?_ | refine w_nopart ?_ | refine w_part ?_ | refine w_pint ?_
      | refine w_for3 ?_ | refine w_mkKQ ?_ | refine w_forR1 ?_ | refine w_forR2 ?_ | refine w_forL ?_ | refine w_forT ?_ | refine w_aug rfl ?_ | refine w_par ?_ | refine w_brk ?_ | refine w_cont ?_
      | refine w_isi_ii ?_ | refine w_isi_ib ?_ | refine w_isi_bi ?_ | refine w_isi_bb ?_ | refine w_isi_ss ?_ | refine w_isi_is ?_ | refine w_isi_il ?_ | refine w_isi_it ?_ | refine w_isi_sl ?_ | refine w_isi_st ?_ | refine w_isi_nl ?_ | refine w_isi_nt ?_
      | refine if_T ?_ | refine if_F ?_ | refine if_nT ?_ | refine if_nF ?_)
  | ((with_reducible refine' k_tup rfl ?k1 ?_); (case k1 => wtm_at "g_own"); intro p HH ww)
  | ((with_reducible refine' k_lst1R ?k1 ?_); (case k1 => wtm_at "g_own"); intro p HH ww)
  | ((with_reducible refine' k_lst1I ?k1 ?_); (case k1 => wtm_at "g_own"); intro p HH ww)
  | ((with_reducible refine' k_lst rfl ?k1 ?_); (case k1 => wtm_at "g_own"); intro p HH ww)
  | ((with_reducible refine' k_mk ?k1 ?_); (case k1 => wtm_at "g_own"); intro p dx HH ww)
  | wtm_at "g_mkk"
  | ((with_reducible refine' k_listL ?k1 ?k2 ?_); (case k1 => wtm_at "g_own"); (case k2 => wtm_at "g_sq"); intro p HH ww)
  | ((with_reducible refine' k_listT ?k1 ?k2 ?_); (case k1 => wtm_at "g_own"); (case k2 => wtm_at "g_sqt"); intro p HH ww)
  | ((with_reducible refine' k_tupL ?k1 ?k2 ?_); (case k1 => wtm_at "g_own"); (case k2 => wtm_at "g_sq"); intro p HH ww)
  | ((with_reducible refine' k_slfromRs ?k1 ?k2 ?_); (case k1 => wtm_at "g_own"); (case k2 => wtm_at "g_sq"); intro p HH ww)
  | ((with_reducible refine' k_slfromR1 ?k1 ?k2 ?_); (case k1 => wtm_at "g_own"); (case k2 => wtm_at "g_sq"); intro p HH ww)
  | ((with_reducible refine' k_slfromRn ?k1 ?k2 ?_); (case k1 => wtm_at "g_own"); (case k2 => wtm_at "g_sq"); intro p HH ww)
  | ((with_reducible refine' k_sltoR1 ?k1 ?k2 ?_); (case k1 => wtm_at "g_own"); (case k2 => wtm_at "g_sq"); intro p HH ww)
  | ((with_reducible refine' k_sltoRn ?k1 ?k2 ?_); (case k1 => wtm_at "g_own"); (case k2 => wtm_at "g_sq"); intro p HH ww)
  | ((with_reducible refine' k_slfromIs ?k1 ?k2 ?_); (case k1 => wtm_at "g_own"); (case k2 => wtm_at "g_sq"); intro p HH ww)
  | ((with_reducible refine' k_slfromI1 ?k1 ?k2 ?_); (case k1 => wtm_at "g_own"); (case k2 => wtm_at "g_sq"); intro p HH ww)
  | ((with_reducible refine' k_slfromIn ?k1 ?k2 ?_); (case k1 => wtm_at "g_own"); (case k2 => wtm_at "g_sq"); intro p HH ww)
  | ((with_reducible refine' k_sltoI1 ?k1 ?k2 ?_); (case k1 => wtm_at "g_own"); (case k2 => wtm_at "g_sq"); intro p HH ww)
  | ((with_reducible refine' k_sltoIn ?k1 ?k2 ?_); (case k1 => wtm_at "g_own"); (case k2 => wtm_at "g_sq"); intro p HH ww)
  | ((with_reducible refine' k_slfromI ?k1 ?k2 ?k3 ?_); (case k1 => wtm_at "g_own"); (case k2 => wtm_at "g_sq"); (case k3 => omega); intro p HH ww)
  | ((with_reducible refine' k_sltoI ?k1 ?k2 ?k3 ?_); (case k1 => wtm_at "g_own"); (case k2 => wtm_at "g_sq"); (case k3 => omega); intro p HH ww)
  | ((with_reducible refine' k_slmidI ?k1 ?k2 ?k3 ?k4 ?_); (case k1 => wtm_at "g_own"); (case k2 => wtm_at "g_sq"); (case k3 => omega); (case k4 => omega); intro p HH ww)
  | ((with_reducible refine' k_catI ?k1 ?k2 ?k3 ?k4 ?_); (case k1 => wtm_at "g_own"); (case k2 => wtm_at "g_got"); (case k3 => wtm_at "g_got"); (case k4 => wtm_at "g_sz"); intro p HH ww)
  | ((with_reducible refine' k_catR ?k1 ?k2 ?k3 ?k4 ?_); (case k1 => wtm_at "g_own"); (case k2 => wtm_at "g_got"); (case k3 => wtm_at "g_got"); (case k4 => wtm_at "g_sz"); intro p HH ww)
  | ((with_reducible refine' k_slfromR ?k1 ?k2 ?k3 ?_); (case k1 => wtm_at "g_own"); (case k2 => wtm_at "g_sq"); (case k3 => omega); intro p HH ww)
  | ((with_reducible refine' k_sltoR ?k1 ?k2 ?k3 ?_); (case k1 => wtm_at "g_own"); (case k2 => wtm_at "g_sq"); (case k3 => omega); intro p HH ww)
  | ((with_reducible refine' k_appI ?k1 ?k2 ?k3 ?_); (case k1 => wtm_at "g_own"); (case k2 => wtm_at "g_put"); (case k3 => wtm_at "g_sz"); intro HH ww)
  | ((with_reducible refine' k_appR ?k1 ?k2 ?k3 ?_); (case k1 => wtm_at "g_own"); (case k2 => wtm_at "g_put"); (case k3 => wtm_at "g_sz"); intro HH ww)
  | ((with_reducible refine' k_extendI ?k1 ?k2 ?k3 ?k4 ?_); (case k1 => wtm_at "g_own"); (case k2 => wtm_at "g_put"); (case k3 => wtm_at "g_got"); (case k4 => wtm_at "g_sz"); intro HH ww)
  | ((with_reducible refine' k_slfrom ?k1 ?k2 ?k3 ?_); (case k1 => wtm_at "g_own"); (case k2 => wtm_at "g_sq"); (case k3 => omega); intro p HH ww)
  | ((with_reducible refine' k_slto ?k1 ?k2 ?k3 ?_); (case k1 => wtm_at "g_own"); (case k2 => wtm_at "g_sq"); (case k3 => omega); intro p HH ww)
  | ((with_reducible refine' k_slmid ?k1 ?k2 ?k3 ?k4 ?_); (case k1 => wtm_at "g_own"); (case k2 => wtm_at "g_sq"); (case k3 => omega); (case k4 => omega); intro p HH ww)
  | ((with_reducible refine' k_cat ?k1 ?k2 ?k3 ?k4 ?_); (case k1 => wtm_at "g_own"); (case k2 => wtm_at "g_got"); (case k3 => wtm_at "g_got"); (case k4 => wtm_at "g_sz"); intro p HH ww)
  | ((with_reducible refine' k_app ?k1 ?k2 ?k3 ?_); (case k1 => wtm_at "g_own"); (case k2 => wtm_at "g_put"); (case k3 => wtm_at "g_sz"); intro HH ww)
  | ((with_reducible refine' ty_list ?k1 ?_); (case k1 => wtm_at "g_hp"))
  | ((with_reducible refine' k_truR ?k1 ?_); (case k1 => wtm_at "g_sq"))
  | ((with_reducible refine' k_truI ?k1 ?_); (case k1 => wtm_at "g_sq"))
  | ((with_reducible refine' k_truL ?k1 ?_); (case k1 => wtm_at "g_sq"))
  | ((with_reducible refine' w_lenLI ?k1 ?_); (case k1 => wtm_at "g_sq"))
  | ((with_reducible refine' w_lenLR ?k1 ?_); (case k1 => wtm_at "g_sq"))
  | ((with_reducible refine' w_ixT ?k1 ?k2 ?_); (case k1 => wtm_at "g_sqt"); (case k2 => first | rfl | fail))
  | ((with_reducible refine' w_ixRc ?k1 ?_); (case k1 => wtm_at "g_sq"))
  | ((with_reducible refine' w_ixR0 ?k1 ?k2 ?_); (case k1 => wtm_at "g_sq"); (case k2 => with_reducible assumption))
  | ((with_reducible refine' w_ixR ?k1 ?k2 ?_); (case k1 => wtm_at "g_sq"); (case k2 => with_reducible assumption))
  | ((with_reducible refine' w_ixLastR ?k1 ?k2 ?_); (case k1 => wtm_at "g_sq"); (case k2 => with_reducible assumption))
  | ((with_reducible refine' k_slinitR ?k1 ?k2 ?_); (case k1 => wtm_at "g_own"); (case k2 => wtm_at "g_sq"); intro p HH ww)
  | ((with_reducible refine' w_gTup ?k1 ?k2 ?_); (case k1 => wtm_at "g_sqt"); (case k2 => rfl))
  | (with_reducible refine w_gCons ?_)
  | (with_reducible refine w_gNil ?_)
  | ((with_reducible refine' w_ixI ?k1 ?k2 ?k3 ?_); (case k1 => wtm_at "g_sq"); (case k2 => omega); (case k3 => omega))
  | ((with_reducible refine' w_I ?k1 ?_); (case k1 => wtm_at "g_ar"))
  | ((with_reducible refine' k_reverse ?k1 ?k2 ?_); (case k1 => wtm_at "g_own"); (case k2 => wtm_at "g_put"); intro HH ww)
  | ((with_reducible refine' w_lenL ?k1 ?_); (case k1 => wtm_at "g_sq"))
  | ((with_reducible refine' w_lenT ?k1 ?_); (case k1 => wtm_at "g_sqt"))
  | ((with_reducible refine' w_isi_ll ?k1 ?_); (case k1 => wtm_at "g_hp"))
  | ((with_reducible refine' w_isi_tt ?k1 ?_); (case k1 => wtm_at "g_hp"))
  | ((with_reducible refine' w_isi_lt ?k1 ?_); (case k1 => wtm_at "g_hp"))
  | ((with_reducible refine' w_isi_tl ?k1 ?_); (case k1 => wtm_at "g_hp"))
  | ((with_reducible refine' w_ll ?k1 ?k2 ?_); (case k1 => rfl); (case k2 => rfl))
  | wtm_at "g_get"
  | wtm_at "g_mt"
  | wtm_at "g_set"
  | wtm_at "g_set2"
  | wtm_at "g_call"
  | wtm_at "g_callc"
  | fail)
local macro_rules | `(tactic| wtm_at "g_go") => `(tactic| repeat wtm_at "g_st")
local macro_rules | `(tactic| wtm_at "g_ifo") => `(tactic| first
  | (refine if_nno rfl ?_) | (refine if_yes rfl ?_)
  | (refine if_no (by omega) ?_)
  | (refine if_yes (by omega) ?_)
  | (refine if_nno (by omega) ?_)
  | (refine if_nyes (by omega) ?_)
  | (refine if_nno (decide_eq_false (by omega)).symm ?_)
  | (refine if_nno (decide_eq_true (by omega)).symm ?_)
  | fail)
local macro_rules | `(tactic| wtm_at "g_goo") => `(tactic| repeat (first | wtm_at "g_st" | wtm_at "g_ifo"))
section
theorem perm_inv {α β : Type} {f : α → β} : ∀ {ys : List β} {zs : List α}, ys.Perm (zs.map f) → ∃ zs' : List α, zs'.Perm zs ∧ zs'.map f = ys
  | [], zs, h => ⟨[], by have := h.length_eq; rw [List.length_map] at this; rw [List.eq_nil_of_length_eq_zero this.symm], rfl⟩
  | y :: ys, zs, h => by
    obtain ⟨z, hz, e⟩ := List.mem_map.mp (h.mem_iff.mp List.mem_cons_self)
    obtain ⟨a, b, rfl⟩ := List.append_of_mem hz
    have h2 : (y :: ys).Perm (y :: (a ++ b).map f) := by
      refine h.trans ?_
      rw [List.map_append, List.map_cons, e, List.map_append]
      exact List.perm_middle
    obtain ⟨zs', p, e2⟩ := perm_inv h2.cons_inv
    exact ⟨z :: zs', (p.cons z).trans List.perm_middle.symm, by rw [List.map_cons, e, e2]⟩
theorem big_perm {α : Type} {P : Addr → α → HP} {zs' zs : List (Addr × α)} (p : zs.Perm zs') : ∀ {L : List HP} {H : Hp}, Own (big P (zs.map (·.1)) (zs.map (·.2)) :: L) H → Own (big P (zs'.map (·.1)) (zs'.map (·.2)) :: L) H := by
  induction p with
  | nil => exact fun w => w
  | cons x _ ih => exact fun w => Own.bigCons (Own.swap (ih (Own.swap w.bigUncons)))
  | swap x y l =>
      intro L H w
      exact Own.bigCons (Own.swap (Own.bigCons (Own.sel (Own.swap w.bigUncons).bigUncons (Sel.cons (.next (.next .here)) (Sel.cons (.next .here) (Sel.cons .here .rf))))))
  | trans _ _ h1 h2 => exact fun w => h2 (h1 w)
theorem nodup_at' {l : List Int} (h : l.Nodup) {i j : Nat} {a : Int} (hi : l[i]? = some a) (hj : l[j]? = some a) : i = j :=
  (List.getElem?_inj (List.getElem?_eq_some_iff.mp hi).1 h).mp (hi.trans hj.symm)
theorem asc_nodup {rows : List Wt} (h : rows.Pairwise (fun a b => num a < num b)) : (rows.map num).Nodup := by
  refine List.pairwise_map.mpr (h.imp fun {a b} e => ?_)
  omega
theorem asc_uniq : ∀ {a b : List Wt}, (a.map num).Nodup → a.Perm b → a.Pairwise (fun x y => num x ≤ num y) → b.Pairwise (fun x y => num x ≤ num y) → a = b
  | [], b, _, p, _, _ => by have := p.length_eq; rw [List.eq_nil_of_length_eq_zero this.symm]
  | x :: a, [], _, p, _, _ => by have := p.length_eq; cases this
  | x :: a, y :: b, hn, p, h1, h2 => by
    obtain ⟨h3, h4⟩ := List.pairwise_cons.mp h1
    obtain ⟨h5, h6⟩ := List.pairwise_cons.mp h2
    have hn' : (((x :: a).map num)).Nodup := hn
    rw [List.map_cons, List.nodup_cons] at hn
    have e : x = y := by
      rcases List.mem_cons.mp (p.mem_iff.mpr (List.mem_cons_self (a := y) (l := b))) with e | hy
      · exact e.symm
      · have l1 := h3 y hy
        rcases List.mem_cons.mp (p.mem_iff.mp (List.mem_cons_self (a := x) (l := a))) with e | hx
        · exact e
        · have l2 := h5 x hx
          exact absurd (List.mem_map.mpr ⟨y, hy, by omega⟩) hn.1
    subst e
    rw [asc_uniq hn.2 p.cons_inv h4 h6]
variable {K : PySem.W.Frag} {mg : Str → Option Value} {base : Heap}
/-- sorted(rows): the same rows by their numbers -/
theorem k_sortD {L L1 R : List HP} {H : Hp} {Q : VK} {l : Addr} {c : Bool} {ts : List Addr} {xs : List Wt} (hg : ∀ x ∈ xs, GR x) (hn : (xs.map num).Nodup) (w : Own L H) (p1 : Pick L (cell c l (.lst (ts.map V.ref))) L1) (p2 : Pick L1 (big RtP ts xs) R)
    (q : ∀ D ts' xs' H', xs'.Perm xs → xs'.Pairwise (fun a b => num a ≤ num b) → Own (pt D (.lst (ts'.map V.ref)) :: big RtP ts' xs' :: cell c l (.lst (ts.map V.ref)) :: R) H' → Q (.ref D) H') : rSortedD K [.ref l] H Q := by
  have w1 := w.take2 p1 p2
  have hlen := w1.swap.bigLen
  have e1 : (ts.zip xs).map (·.1) = ts := List.map_fst_zip (by omega)
  have e2 : (ts.zip xs).map (·.2) = xs := List.map_snd_zip (by omega)
  have tell : ∀ z ∈ ts.zip xs, ∃ tl, H z.1 = some (.tup (.int (num z.2) :: tl)) := fun z hz => by
    obtain ⟨i, hi⟩ := List.getElem?_of_mem hz
    obtain ⟨ha, hb⟩ := List.getElem?_zip_eq_some.mp hi
    obtain ⟨ka, h1, _⟩ := w1.swap.bigTell ha hb tell_rt
    rw [(hg z.2 (List.mem_of_getElem? hb)).i] at h1
    exact ⟨_, h1⟩
  have hk : ∀ z ∈ ts.zip xs, (match H z.1 with | some (.tup (.int n :: _)) => n | _ => 0) = num z.2 := fun z hz => by
    obtain ⟨tl, e⟩ := tell z hz
    rw [e]
  refine ⟨l, ts.map V.ref, fun v => match v with | .ref t => (match H t with | some (.tup (.int n :: _)) => n | _ => 0) | _ => 0, rfl, w1.sql .here, fun x hx => ?_, fun x hx y hy e => ?_, fun ys D hp1 hp2 hD => ?_⟩
  · rw [← e1] at hx
    obtain ⟨t, ht, rfl⟩ := List.mem_map.mp hx
    obtain ⟨z, hz, rfl⟩ := List.mem_map.mp ht
    obtain ⟨tl, e⟩ := tell z hz
    refine ⟨z.1, tl, rfl, ?_⟩
    show H z.1 = some (.tup (.int (match H z.1 with | some (.tup (.int n :: _)) => n | _ => 0) :: tl))
    rw [hk z hz]
    exact e
  · rw [← e1] at hx hy
    obtain ⟨t, ht, rfl⟩ := List.mem_map.mp hx
    obtain ⟨z, hz, rfl⟩ := List.mem_map.mp ht
    obtain ⟨t', ht', rfl⟩ := List.mem_map.mp hy
    obtain ⟨z', hz', rfl⟩ := List.mem_map.mp ht'
    have e' : num z.2 = num z'.2 := (hk z hz).symm.trans (e.trans (hk z' hz'))
    obtain ⟨i, hi⟩ := List.getElem?_of_mem hz
    obtain ⟨j, hj⟩ := List.getElem?_of_mem hz'
    have hi2 : (xs.map num)[i]? = some (num z.2) := by rw [List.getElem?_map, (List.getElem?_zip_eq_some.mp hi).2]; rfl
    have hj2 : (xs.map num)[j]? = some (num z.2) := by rw [List.getElem?_map, (List.getElem?_zip_eq_some.mp hj).2, e']; rfl
    have := nodup_at' hn hi2 hj2
    subst this
    rw [hi] at hj
    cases hj
    rfl
  · have e3 : ts.map V.ref = (ts.zip xs).map (fun z => V.ref z.1) := by
      have := congrArg (List.map V.ref) e1
      rw [List.map_map] at this
      exact this.symm
    rw [e3] at hp2
    obtain ⟨zs', hz, e4⟩ := perm_inv hp2
    have w2 : Own (big RtP ((ts.zip xs).map (·.1)) ((ts.zip xs).map (·.2)) :: cell c l (.lst (ts.map V.ref)) :: R) H := by rw [e1, e2]; exact w1.swap
    have w3 := (big_perm hz.symm w2).new hD (o := .lst ys)
    have e5 : ys = (zs'.map (·.1)).map V.ref := by rw [List.map_map]; exact e4.symm
    rw [e5] at w3 ⊢
    refine q D (zs'.map (·.1)) (zs'.map (·.2)) _ ?_ ?_ w3
    · have := hz.map (·.2)
      rw [e2] at this
      exact this
    · rw [← e4] at hp1
      rw [List.pairwise_map] at hp1 ⊢
      refine hp1.imp_of_mem fun {a b} ha hb h => ?_
      have h1 := hk a (hz.mem_iff.mp ha)
      have h2 := hk b (hz.mem_iff.mp hb)
      have h' : (match H a.1 with | some (.tup (.int n :: _)) => n | _ => 0) ≤ (match H b.1 with | some (.tup (.int n :: _)) => n | _ => 0) := h
      rw [h1, h2] at h'
      exact h'
theorem ji_nil {x : Qu} (h : WF x) : JI { x with fs := [], gr := false } [] := by
  refine ⟨⟨h.lim, h.q, fun f hf => by cases hf⟩, ⟨fun f hf => (by cases hf), .nil, fun k => rfl, .nil, fun r hr => (by cases hr), fun r hr => (by cases hr)⟩, ?_⟩
  have := h.lim
  show octs [] ≤ x.lim
  rw [octs_nil]
  omega
theorem pure_law_cleared (T : TX K mg base) (vs : List V) (H : Hp) (Q : VK) (E : XK) (h : sp_law_cleared K vs H Q E) : t_law_cleared K E { nx := fun _ H' => Q .non H', rt := Q } (start N_law_cleared vs) H := by
  obtain ⟨p, l, x, rows, R, rfl, hJ, hn, w, q⟩ := h
  have hcl := hJ.jx.len
  have hal := flat_len (fs := x.fs)
  have hpm := hJ.jx.perm
  have hga : ∀ r ∈ allW x.fs, GR r := fun r hr => hJ.jx.gr r (hpm.mem_iff.mpr hr)
  have hnd := asc_nodup hJ.jx.asc
  have hna : ((allW x.fs).map num).Nodup := (hpm.map num).nodup_iff.mp hnd
  unfold t_law_cleared
  wtm_at "g_go"
  refine ⟨p, x, _, rfl, by omega, w, fun H1 t ws w1 => ?_⟩
  refine row_comp (ws := ws) (xs := allW x.fs) (Nat.le_of_ble_eq_true rfl) (by omega) w1 .here .here fun D ts H2 w2 => ?_
  obtain ⟨tr, w3⟩ := rs_out (w2.pick (P := RsP l rows) (by wtm_at "g_pk"))
  have w4 : Own (pt D (.lst (ts.map V.ref)) :: big RtP ts (allW x.fs) :: ro l (.lst (tr.map V.ref)) :: big RtP tr rows :: QuP K p { x with fs := [], gr := false } :: R) H2 := by wtm_at "g_own"
  clear w2 w3
  wtm_at "g_go"
  refine k_sortD (ts := ts) (xs := allW x.fs) hga hna w4 .here .keep fun D1 t1 x1 H3 p1 s1 w5 => ?_
  wtm_at "g_go"
  refine k_sortD (ts := tr) (xs := rows) hJ.jx.gr hnd w5 (.next (.next (.next (.next .here)))) (.next (.next (.next (.next .keep)))) fun D2 t2 x2 H4 p2 s2 w6 => ?_
  obtain rfl : x1 = x2 := asc_uniq ((p1.map num).nodup_iff.mpr hna) (p1.trans (hpm.symm.trans p2.symm)) s1 s2
  have hg1 : ∀ r ∈ x1, GR r := fun r hr => hga r (p1.mem_iff.mp hr)
  refine w_neS' (d := .list (x1.map rwD)) (rws_dp hg1 (w6.take2 (P1 := pt D1 (.lst (t1.map V.ref))) (P2 := big RtP t1 x1) (by wtm_at "g_pk") (by wtm_at "g_pk"))) (rws_dp hg1 w6) (rws_shaped hg1) ?_
  have w7 : Own (pt D (.lst (ts.map V.ref)) :: big RtP ts (allW x.fs) :: QuP K p { x with fs := [], gr := false } :: R) H4 := by wtm_at "g_own"
  clear w4 w5 w6
  wtm_at "g_go"
  refine loop1 (n := 5) (fun j σ H' => ∃ v4 v5, σ = [some (.ref p), some (.ref l), some (.ref D), none, v4, v5, none] ∧ Own (pt D (.lst (ts.map V.ref)) :: big RtP ts (allW x.fs) :: QuP K p { x with fs := [], gr := false } :: R) H') rfl (by omega) ⟨_, _, rfl, w7⟩ ?_ ?_
  · rintro j σ H5 hj ⟨v4, v5, rfl, w8⟩
    wtm_at "g_go"
    refine keep_comp (ts := ts) (xs := allW x.fs) (P := fun r => decide (r.k = [.inr "flow", .inl (j : Int)])) (Nat.le_of_ble_eq_true rfl) (by omega) w8 .here .here (fun a x X1 X2 H1 B hx w k => key_test (Nat.le_of_ble_eq_true rfl) (by decide) rfl (hga x hx).ok w k) fun D5 ts5 H6 w9 => ?_
    have e : (allW x.fs).filter (fun r => decide (r.k = [.inr "flow", .inl (j : Int)])) = own rows [.inr "flow", .inl (j : Int)] := (hJ.jx.key _).symm
    rw [e] at w9
    have hasc := hJ.jx.asc.sublist (own_sub (rows := rows) (k := [.inr "flow", .inl (j : Int)]))
    have hgo : ∀ r ∈ own rows [.inr "flow", .inl (j : Int)], GR r := fun r hr => hJ.jx.gr r (mem_own hr).1
    generalize own rows [.inr "flow", .inl (j : Int)] = ow at *
    wtm_at "g_go"
    refine k_sortD (ts := ts5) (xs := ow) hgo (asc_nodup hasc) w9 .here .keep fun D6 t6 x6 H7 p6 s6 w10 => ?_
    obtain rfl : x6 = ow := asc_uniq ((p6.map num).nodup_iff.mpr (asc_nodup hasc)) p6 s6 (hasc.imp fun {a b} h => by omega)
    refine w_neS' (d := .list (x6.map rwD)) (rws_dp hgo (ts := ts5) (w10.take2 (P1 := pt D5 (.lst (ts5.map V.ref))) (P2 := big RtP ts5 x6) (by wtm_at "g_pk") (by wtm_at "g_pk"))) (rws_dp hgo w10) (rws_shaped hgo) ?_
    wtm_at "g_go"
    exact ⟨_, _, rfl, by wtm_at "g_own"⟩
  · rintro σ H5 ⟨v4, v5, rfl, w8⟩
    wtm_at "g_go"
    rename_i D7 H6 w9
    have w10 := Own.bigNil (f := RtP) w9
    have w11 := rs_mk (l := D7) (b := false) (ts := []) (xs := []) w10 (by rw [List.map_nil]; wtm_at "g_pk") .here
    exact q H6 D7 { x with fs := [], gr := false } (ji_nil hJ.wf) (by wtm_at "g_own")
end
end K81

namespace K81
open PySem PySem.Spec PyProof.Rows L2 G
local macro_rules | `(tactic| wtm_at "g_get") => `(tactic| first
  | ((with_reducible refine' w_fld ?k1 (cl_Waiting (by assumption)) (na_Waiting_key (by assumption)) lk_Waiting_key ?_); (case k1 => wtm_at "g_hp"))
  | ((with_reducible refine' w_fld ?k1 (cl_Waiting (by assumption)) (na_Waiting_item (by assumption)) lk_Waiting_item ?_); (case k1 => wtm_at "g_hp"))
  | ((with_reducible refine' w_fld ?k1 (cl_Waiting (by assumption)) (na_Waiting_weight (by assumption)) lk_Waiting_weight ?_); (case k1 => wtm_at "g_hp"))
  | ((with_reducible refine' w_fld ?k1 (cl_Flow (by assumption)) (na_Flow_key (by assumption)) lk_Flow_key ?_); (case k1 => wtm_at "g_hp"))
  | ((with_reducible refine' w_fld ?k1 (cl_Flow (by assumption)) (na_Flow_rows (by assumption)) lk_Flow_rows ?_); (case k1 => wtm_at "g_hp"))
  | ((with_reducible refine' w_fld ?k1 (cl_Flow (by assumption)) (na_Flow_octets (by assumption)) lk_Flow_octets ?_); (case k1 => wtm_at "g_hp"))
  | ((with_reducible refine' w_fld ?k1 (cl_Flow (by assumption)) (na_Flow_credit (by assumption)) lk_Flow_credit ?_); (case k1 => wtm_at "g_hp"))
  | ((with_reducible refine' w_fld ?k1 (cl_FairQueue (by assumption)) (na_FairQueue_limit (by assumption)) lk_FairQueue_limit ?_); (case k1 => wtm_at "g_hp"))
  | ((with_reducible refine' w_fld ?k1 (cl_FairQueue (by assumption)) (na_FairQueue_quantum (by assumption)) lk_FairQueue_quantum ?_); (case k1 => wtm_at "g_hp"))
  | ((with_reducible refine' w_fld ?k1 (cl_FairQueue (by assumption)) (na_FairQueue_flows (by assumption)) lk_FairQueue_flows ?_); (case k1 => wtm_at "g_hp"))
  | ((with_reducible refine' w_fld ?k1 (cl_FairQueue (by assumption)) (na_FairQueue_granted (by assumption)) lk_FairQueue_granted ?_); (case k1 => wtm_at "g_hp"))
  | fail)
local macro_rules | `(tactic| wtm_at "g_set") => `(tactic| first
  | ((with_reducible refine' k_fld ?k1 ?k2 (cl_Waiting (by assumption)) (na_Waiting_key (by assumption)) pt_Waiting_key rfl ?_); (case k1 => wtm_at "g_own"); (case k2 => wtm_at "g_put"); intro HH ww)
  | ((with_reducible refine' k_fld ?k1 ?k2 (cl_Waiting (by assumption)) (na_Waiting_key (by assumption)) pn_Waiting_key rfl ?_); (case k1 => wtm_at "g_own"); (case k2 => wtm_at "g_put"); intro HH ww)
  | ((with_reducible refine' k_fld ?k1 ?k2 (cl_Waiting (by assumption)) (na_Waiting_item (by assumption)) pt_Waiting_item rfl ?_); (case k1 => wtm_at "g_own"); (case k2 => wtm_at "g_put"); intro HH ww)
  | ((with_reducible refine' k_fld ?k1 ?k2 (cl_Waiting (by assumption)) (na_Waiting_item (by assumption)) pn_Waiting_item rfl ?_); (case k1 => wtm_at "g_own"); (case k2 => wtm_at "g_put"); intro HH ww)
  | ((with_reducible refine' k_fld ?k1 ?k2 (cl_Waiting (by assumption)) (na_Waiting_weight (by assumption)) pt_Waiting_weight rfl ?_); (case k1 => wtm_at "g_own"); (case k2 => wtm_at "g_put"); intro HH ww)
  | ((with_reducible refine' k_fld ?k1 ?k2 (cl_Waiting (by assumption)) (na_Waiting_weight (by assumption)) pn_Waiting_weight rfl ?_); (case k1 => wtm_at "g_own"); (case k2 => wtm_at "g_put"); intro HH ww)
  | ((with_reducible refine' k_fld ?k1 ?k2 (cl_Flow (by assumption)) (na_Flow_key (by assumption)) pt_Flow_key rfl ?_); (case k1 => wtm_at "g_own"); (case k2 => wtm_at "g_put"); intro HH ww)
  | ((with_reducible refine' k_fld ?k1 ?k2 (cl_Flow (by assumption)) (na_Flow_key (by assumption)) pn_Flow_key rfl ?_); (case k1 => wtm_at "g_own"); (case k2 => wtm_at "g_put"); intro HH ww)
  | ((with_reducible refine' k_fld ?k1 ?k2 (cl_Flow (by assumption)) (na_Flow_rows (by assumption)) pt_Flow_rows rfl ?_); (case k1 => wtm_at "g_own"); (case k2 => wtm_at "g_put"); intro HH ww)
  | ((with_reducible refine' k_fld ?k1 ?k2 (cl_Flow (by assumption)) (na_Flow_rows (by assumption)) pn_Flow_rows rfl ?_); (case k1 => wtm_at "g_own"); (case k2 => wtm_at "g_put"); intro HH ww)
  | ((with_reducible refine' k_fld ?k1 ?k2 (cl_Flow (by assumption)) (na_Flow_octets (by assumption)) pt_Flow_octets rfl ?_); (case k1 => wtm_at "g_own"); (case k2 => wtm_at "g_put"); intro HH ww)
  | ((with_reducible refine' k_fld ?k1 ?k2 (cl_Flow (by assumption)) (na_Flow_octets (by assumption)) pn_Flow_octets rfl ?_); (case k1 => wtm_at "g_own"); (case k2 => wtm_at "g_put"); intro HH ww)
  | ((with_reducible refine' k_fld ?k1 ?k2 (cl_Flow (by assumption)) (na_Flow_credit (by assumption)) pt_Flow_credit rfl ?_); (case k1 => wtm_at "g_own"); (case k2 => wtm_at "g_put"); intro HH ww)
  | ((with_reducible refine' k_fld ?k1 ?k2 (cl_Flow (by assumption)) (na_Flow_credit (by assumption)) pn_Flow_credit rfl ?_); (case k1 => wtm_at "g_own"); (case k2 => wtm_at "g_put"); intro HH ww)
  | ((with_reducible refine' k_fld ?k1 ?k2 (cl_FairQueue (by assumption)) (na_FairQueue_limit (by assumption)) pt_FairQueue_limit rfl ?_); (case k1 => wtm_at "g_own"); (case k2 => wtm_at "g_put"); intro HH ww)
  | ((with_reducible refine' k_fld ?k1 ?k2 (cl_FairQueue (by assumption)) (na_FairQueue_limit (by assumption)) pn_FairQueue_limit rfl ?_); (case k1 => wtm_at "g_own"); (case k2 => wtm_at "g_put"); intro HH ww)
  | ((with_reducible refine' k_fld ?k1 ?k2 (cl_FairQueue (by assumption)) (na_FairQueue_quantum (by assumption)) pt_FairQueue_quantum rfl ?_); (case k1 => wtm_at "g_own"); (case k2 => wtm_at "g_put"); intro HH ww)
  | ((with_reducible refine' k_fld ?k1 ?k2 (cl_FairQueue (by assumption)) (na_FairQueue_quantum (by assumption)) pn_FairQueue_quantum rfl ?_); (case k1 => wtm_at "g_own"); (case k2 => wtm_at "g_put"); intro HH ww)
  | ((with_reducible refine' k_fld ?k1 ?k2 (cl_FairQueue (by assumption)) (na_FairQueue_flows (by assumption)) pt_FairQueue_flows rfl ?_); (case k1 => wtm_at "g_own"); (case k2 => wtm_at "g_put"); intro HH ww)
  | ((with_reducible refine' k_fld ?k1 ?k2 (cl_FairQueue (by assumption)) (na_FairQueue_flows (by assumption)) pn_FairQueue_flows rfl ?_); (case k1 => wtm_at "g_own"); (case k2 => wtm_at "g_put"); intro HH ww)
  | ((with_reducible refine' k_fld ?k1 ?k2 (cl_FairQueue (by assumption)) (na_FairQueue_granted (by assumption)) pt_FairQueue_granted rfl ?_); (case k1 => wtm_at "g_own"); (case k2 => wtm_at "g_put"); intro HH ww)
  | ((with_reducible refine' k_fld ?k1 ?k2 (cl_FairQueue (by assumption)) (na_FairQueue_granted (by assumption)) pn_FairQueue_granted rfl ?_); (case k1 => wtm_at "g_own"); (case k2 => wtm_at "g_put"); intro HH ww)
  | fail)
local macro_rules | `(tactic| wtm_at "g_set2") => `(tactic| first
  | ((with_reducible refine' k_fa ?k1 ?k2 pt_Waiting_key rfl ?_); (case k1 => wtm_at "g_own"); (case k2 => wtm_at "g_put"); intro HH ww)
  | ((with_reducible refine' k_fa ?k1 ?k2 pt_Waiting_item rfl ?_); (case k1 => wtm_at "g_own"); (case k2 => wtm_at "g_put"); intro HH ww)
  | ((with_reducible refine' k_fa ?k1 ?k2 pt_Waiting_weight rfl ?_); (case k1 => wtm_at "g_own"); (case k2 => wtm_at "g_put"); intro HH ww)
  | ((with_reducible refine' k_fa ?k1 ?k2 pt_Flow_key rfl ?_); (case k1 => wtm_at "g_own"); (case k2 => wtm_at "g_put"); intro HH ww)
  | ((with_reducible refine' k_fa ?k1 ?k2 pt_Flow_rows rfl ?_); (case k1 => wtm_at "g_own"); (case k2 => wtm_at "g_put"); intro HH ww)
  | ((with_reducible refine' k_fa ?k1 ?k2 pt_Flow_octets rfl ?_); (case k1 => wtm_at "g_own"); (case k2 => wtm_at "g_put"); intro HH ww)
  | ((with_reducible refine' k_fa ?k1 ?k2 pt_Flow_credit rfl ?_); (case k1 => wtm_at "g_own"); (case k2 => wtm_at "g_put"); intro HH ww)
  | ((with_reducible refine' k_fa ?k1 ?k2 pt_FairQueue_limit rfl ?_); (case k1 => wtm_at "g_own"); (case k2 => wtm_at "g_put"); intro HH ww)
  | ((with_reducible refine' k_fa ?k1 ?k2 pt_FairQueue_quantum rfl ?_); (case k1 => wtm_at "g_own"); (case k2 => wtm_at "g_put"); intro HH ww)
  | ((with_reducible refine' k_fa ?k1 ?k2 pt_FairQueue_flows rfl ?_); (case k1 => wtm_at "g_own"); (case k2 => wtm_at "g_put"); intro HH ww)
  | ((with_reducible refine' k_fa ?k1 ?k2 pt_FairQueue_granted rfl ?_); (case k1 => wtm_at "g_own"); (case k2 => wtm_at "g_put"); intro HH ww)
  | fail)
local macro_rules | `(tactic| wtm_at "g_mt") => `(tactic| first
  | ((with_reducible refine' w_mt1 ?k1 ln_Flow_add ?_); (case k1 => wtm_at "g_hp"))
  | ((with_reducible refine' w_mt1 ?k1 ln_Flow_take ?_); (case k1 => wtm_at "g_hp"))
  | ((with_reducible refine' w_mt1 ?k1 ln_Flow_fork ?_); (case k1 => wtm_at "g_hp"))
  | ((with_reducible refine' w_mt1 ?k1 ln_FairQueue_count ?_); (case k1 => wtm_at "g_hp"))
  | ((with_reducible refine' w_mt1 ?k1 ln_FairQueue_octets ?_); (case k1 => wtm_at "g_hp"))
  | ((with_reducible refine' w_mt1 ?k1 ln_FairQueue_octets_of ?_); (case k1 => wtm_at "g_hp"))
  | ((with_reducible refine' w_mt1 ?k1 ln_FairQueue_flow_of ?_); (case k1 => wtm_at "g_hp"))
  | ((with_reducible refine' w_mt1 ?k1 ln_FairQueue_remove_flow ?_); (case k1 => wtm_at "g_hp"))
  | ((with_reducible refine' w_mt1 ?k1 ln_FairQueue_put ?_); (case k1 => wtm_at "g_hp"))
  | ((with_reducible refine' w_mt1 ?k1 ln_FairQueue_drop ?_); (case k1 => wtm_at "g_hp"))
  | ((with_reducible refine' w_mt1 ?k1 ln_FairQueue_turn ?_); (case k1 => wtm_at "g_hp"))
  | ((with_reducible refine' w_mt1 ?k1 ln_FairQueue_next_up ?_); (case k1 => wtm_at "g_hp"))
  | ((with_reducible refine' w_mt1 ?k1 ln_FairQueue_take ?_); (case k1 => wtm_at "g_hp"))
  | ((with_reducible refine' w_mt1 ?k1 ln_FairQueue_take_all ?_); (case k1 => wtm_at "g_hp"))
  | ((with_reducible refine' w_mt1 ?k1 ln_FairQueue_fork ?_); (case k1 => wtm_at "g_hp"))
  | fail)
local macro_rules | `(tactic| wtm_at "g_mkk") => `(tactic| first
  | fail
  | fail)
local macro_rules | `(tactic| wtm_at "g_callf") => `(tactic| first
  | ((with_reducible refine' c_Waiting_init ?k1 ?k2 ?k3 ?_); (case k1 => wtm_at "g_own"); (case k2 => wtm_at "g_pk"); (case k3 => wtm_at "g_pk"); intro HH ww)
  | ((with_reducible refine' c_Flow_init ?k1 ?k2 ?k3 ?_); (case k1 => wtm_at "g_own"); (case k2 => wtm_at "g_pk"); (case k3 => wtm_at "g_pk"); intro HH ww)
  | ((with_reducible refine' c_octets ?k0 ?k1 ?k2 ?_); (case k1 => wtm_at "g_own"); (case k2 => wtm_at "g_pk"); (case k0 => omega); intro HH ww)
  | ((with_reducible refine' w_fldT tell_qu_lim ?k1 ?k2 (cl_FairQueue (by assumption)) (na_FairQueue_limit (by assumption)) ?_); (case k1 => wtm_at "g_own"); (case k2 => wtm_at "g_pk"); intro dz fz; (try clear fz dz))
  | ((with_reducible refine' w_fldT tell_qu_q ?k1 ?k2 (cl_FairQueue (by assumption)) (na_FairQueue_quantum (by assumption)) ?_); (case k1 => wtm_at "g_own"); (case k2 => wtm_at "g_pk"); intro dz fz; (try clear fz dz))
  | ((with_reducible refine' w_fldT tell_wt_w ?k1 ?k2 (cl_Waiting (by assumption)) (na_Waiting_weight (by assumption)) ?_); (case k1 => wtm_at "g_own"); (case k2 => wtm_at "g_pk"); intro dz fz; (try clear fz dz))
  | ((with_reducible refine' w_fldT tell_wt_i ?k1 ?k2 (cl_Waiting (by assumption)) (na_Waiting_item (by assumption)) ?_); (case k1 => wtm_at "g_own"); (case k2 => wtm_at "g_pk"); intro dz fz; (try clear fz dz))
  | ((with_reducible refine' w_mtT (tell_qu_m ln_FairQueue_octets) ?k1 ?k2 ?_); (case k1 => wtm_at "g_own"); (case k2 => wtm_at "g_pk"))
  | ((with_reducible refine' w_mtT (tell_qu_m ln_FairQueue_drop) ?k1 ?k2 ?_); (case k1 => wtm_at "g_own"); (case k2 => wtm_at "g_pk"))
  | ((with_reducible refine' w_mtT (tell_qu_m ln_FairQueue_turn) ?k1 ?k2 ?_); (case k1 => wtm_at "g_own"); (case k2 => wtm_at "g_pk"))
  | ((with_reducible refine' w_mtT (tell_qu_m ln_FairQueue_next_up) ?k1 ?k2 ?_); (case k1 => wtm_at "g_own"); (case k2 => wtm_at "g_pk"))
  | ((with_reducible refine' w_mtT (tell_qu_m ln_FairQueue_remove_flow) ?k1 ?k2 ?_); (case k1 => wtm_at "g_own"); (case k2 => wtm_at "g_pk"))
  | ((with_reducible refine' w_mtT (tell_fl_m ln_Flow_add) ?k1 ?k2 ?_); (case k1 => wtm_at "g_own"); (case k2 => wtm_at "g_pk"))
  | ((with_reducible refine' w_mtT (tell_fl_m ln_Flow_take) ?k1 ?k2 ?_); (case k1 => wtm_at "g_own"); (case k2 => wtm_at "g_pk"))
  | fail)
local macro_rules | `(tactic| wtm_at "g_call") => `(tactic| first
  | wtm_at "g_callf"
  | ((with_reducible refine' w_mtT (tell_qu_m ln_FairQueue_count) ?k1 ?k2 ?_); (case k1 => wtm_at "g_own"); (case k2 => wtm_at "g_pk"))
  | ((with_reducible refine' w_mtT (tell_qu_m ln_FairQueue_octets_of) ?k1 ?k2 ?_); (case k1 => wtm_at "g_own"); (case k2 => wtm_at "g_pk"))
  | ((with_reducible refine' w_mtT (tell_qu_m ln_FairQueue_flow_of) ?k1 ?k2 ?_); (case k1 => wtm_at "g_own"); (case k2 => wtm_at "g_pk"))
  | ((with_reducible refine' w_mtT (tell_qu_m ln_FairQueue_put) ?k1 ?k2 ?_); (case k1 => wtm_at "g_own"); (case k2 => wtm_at "g_pk"))
  | ((with_reducible refine' w_mtT (tell_qu_m ln_FairQueue_take) ?k1 ?k2 ?_); (case k1 => wtm_at "g_own"); (case k2 => wtm_at "g_pk"))
  | ((with_reducible refine' w_mtT (tell_qu_m ln_FairQueue_take_all) ?k1 ?k2 ?_); (case k1 => wtm_at "g_own"); (case k2 => wtm_at "g_pk"))
  | ((with_reducible refine' w_mtT (tell_qu_m ln_FairQueue_fork) ?k1 ?k2 ?_); (case k1 => wtm_at "g_own"); (case k2 => wtm_at "g_pk"))
  | ((with_reducible refine' w_mtT (tell_fl_m ln_Flow_fork) ?k1 ?k2 ?_); (case k1 => wtm_at "g_own"); (case k2 => wtm_at "g_pk"))
  | fail)
local macro_rules | `(tactic| wtm_at "g_own") => `(tactic| first
  | (with_reducible assumption)
  | ((with_reducible refine' Own.newT ?k1 ?k2); (case k1 => with_reducible assumption); (case k2 => wtm_at "g_own"))
  | ((with_reducible refine' Own.new ?k1 ?k2); (case k1 => with_reducible assumption); (case k2 => wtm_at "g_own"))
  | ((with_reducible refine' Own.put ?k1 ?k2); (case k1 => wtm_at "g_own"); (case k2 => wtm_at "g_put"))
  | ((with_reducible refine' Own.sel ?k1 ?k2); (case k1 => with_reducible assumption); (case k2 => wtm_at "g_sel"))
  | fail)
local macro_rules | `(tactic| wtm_at "g_sel") => `(tactic| first
  | (with_reducible exact Sel.rf) | (with_reducible exact Sel.nil)
  | ((with_reducible refine' Sel.cons ?k1 ?k2); (case k1 => wtm_at "g_pk"); (case k2 => wtm_at "g_sel"))
  | ((with_reducible refine' Sel.drop ?k1); (case k1 => wtm_at "g_sel"))
  | fail)
local macro_rules | `(tactic| wtm_at "g_got") => `(tactic| first
  | (with_reducible assumption) | (with_reducible exact Got.here)
  | ((with_reducible refine' Got.next ?k1); (case k1 => wtm_at "g_got"))
  | fail)
local macro_rules | `(tactic| wtm_at "g_gl") => `(tactic| first
  | (with_reducible assumption) | (with_reducible exact GotL.here) | (with_reducible exact GotL.hereS)
  | ((with_reducible refine' GotL.next ?k1); (case k1 => wtm_at "g_gl"))
  | fail)
local macro_rules | `(tactic| wtm_at "g_put") => `(tactic| first
  | (with_reducible assumption) | (with_reducible exact Put.here)
  | ((with_reducible refine' Put.next ?k1); (case k1 => wtm_at "g_put"))
  | fail)
local macro_rules | `(tactic| wtm_at "g_pk") => `(tactic| first
  | (with_reducible assumption) | (with_reducible exact Pick.keep) | (with_reducible exact Pick.here)
  | ((with_reducible refine' Pick.next ?k1); (case k1 => wtm_at "g_pk"))
  | fail)
local macro_rules | `(tactic| wtm_at "g_hp") => `(tactic| first
  | (with_reducible assumption) | (with_reducible exact upd_same)
  | ((with_reducible refine' Own.get ?k1 ?k2); (case k1 => wtm_at "g_own"); (case k2 => wtm_at "g_got"))
  | fail)
local macro_rules | `(tactic| wtm_at "g_sq") => `(tactic| first
  | (with_reducible assumption)
  | ((with_reducible refine' Own.sql ?k1 ?k2); (case k1 => wtm_at "g_own"); (case k2 => wtm_at "g_gl"))
  | ((with_reducible refine' SqL.of ?k1); (case k1 => wtm_at "g_hp"))
  | fail)
local macro_rules | `(tactic| wtm_at "g_sqt") => `(tactic| first
  | (with_reducible assumption) | ((with_reducible refine' SqT.of' ?k1); (case k1 => wtm_at "g_hp"))
  | fail)
local macro_rules | `(tactic| wtm_at "g_sz") => `(tactic| first
  | (with_reducible assumption) | (exact small_le rfl)
  | ((with_reducible refine' small16 ?k1); (case k1 => (try simp only [List.length_append, List.length_map, List.length_cons, List.length_nil, List.length_take, List.length_drop, List.length_set, List.length_range]); omega))
  | ((with_reducible refine' small16l ?k1); (case k1 => (try simp only [List.length_append, List.length_map, List.length_cons, List.length_nil, List.length_take, List.length_drop, List.length_set, List.length_range]); omega))
  | fail)
local macro_rules | `(tactic| wtm_at "g_gd") => `(tactic| first
  | (with_reducible assumption) | (with_reducible exact GotD.here) | (with_reducible exact GotD.hereR) | (with_reducible exact GotD.ints)
  | ((with_reducible refine' GotD.next ?k1); (case k1 => wtm_at "g_gd"))
  | fail)
local macro_rules | `(tactic| wtm_at "g_dp") => `(tactic| first
  | (with_reducible assumption)
  | ((with_reducible refine' Own.dpG ?k1 ?k2); (case k1 => wtm_at "g_own"); (case k2 => wtm_at "g_gd"))
  | fail)
local macro_rules | `(tactic| wtm_at "g_ar") => `(tactic| first
  | decide | (exact ⟨by decide, by decide⟩) | (exact Or.inr ⟨by decide, by decide⟩) | (exact Or.inl ⟨by decide, by decide⟩) | omega | (exact Or.inr ⟨by omega, by omega⟩) | (exact Or.inl ⟨by omega, by omega⟩) | (exact ⟨by omega, by omega⟩)
  | fail)
local macro_rules | `(tactic| wtm_at "g_ow") => `(tactic| first
  | wtm_at "g_own"
  | ((simp only [List.map_cons, List.map_nil]); wtm_at "g_own")
  | fail)
local macro_rules | `(tactic| wtm_at "g_callc") => `(tactic| first
  | ((with_reducible refine' o_digit ?k1 ?k2 ?k3 ?k4 ?_); (case k1 => wtm_at "g_own"); (case k2 => wtm_at "g_pk"); (case k3 => omega); (case k4 => omega); intro d HH d0 d1 ww)
  | ((with_reducible refine' o_start ?k1 ?_); (case k1 => wtm_at "g_own"); intro p HH ww)
  | ((with_reducible refine' c_cell ?k1 ?k2 ?_); (case k1 => wtm_at "g_sq"); (case k2 => omega); intro n)
  | ((with_reducible refine' c_isint ?_))
  | fail)
local macro_rules | `(tactic| wtm_at "g_st") => `(tactic| first
  | (with_reducible first
      | refine w_seq ?_ | refine w_asg ?_ | refine w_nm ?_ | refine w_next ?_ | refine w_if ?_ | refine w_ret ?_ | refine w_retN ?_ | refine w_drop ?_
      | refine w_var rfl ?_ | refine w_c ?_ | refine w_op ?_ | refine w_I0 ?_
      | refine w_eqI ?_ | refine w_neI ?_ | refine w_eqB ?_ | refine w_neB ?_ | refine w_eqS ?_ | refine w_neS ?_ | refine w_isN0 ?_ | refine w_isNi ?_ | refine w_isNr ?_ | refine w_isNb ?_ | refine w_isNs ?_ | refine w_notN0 ?_ | refine w_notNi ?_ | refine w_notNr ?_ | refine w_notNb ?_ | refine w_notNs ?_ | refine w_isN ?_ | refine w_notN ?_ | refine w_isB ?_ | refine w_notB ?_
      | refine w_un ?_ | refine w_U ?_ | refine w_chain ?_ | refine w_k ?_ | refine w_test ?_ | refine w_tB ?_ | refine w_tru ?_ | refine w_not ?_ | refine w_and ?_ | refine w_or ?_
      | refine w_andV ?_ | refine w_orV ?_ | refine w_notV ?_ | refine w_ife ?_ | refine w_nil ?_ | refine w_cons ?_ | refine w_tupK ?_ | refine w_lstK ?_ | refine w_small rfl ?_
      | refine w_call ?_ | refine w_mkQ ?_ | refine w_mt ?_ | refine k_ini ?_ | refine w_cb ?_ | refine w_min2 ?_ | refine w_max2 ?_ | refine w_abs ?_ | refine w_int ?_ | refine w_intb ?_
      | refine w_fld0 ?_ | refine w_bm ?_ | refine w_bm0 ?_ | refine w_sub ?_ | refine w_sfldQ ?_ | refine w_sfaQ ?_ | refine w_delQ ?_ | refine k_whT ?_ | refine w_radd ?_ | refine w_rsub ?_ | refine w_ip ?_ | refine w_rs ?_ | refine w_pr ?_
      | refine w_lcR1 ?_ | refine w_lcR2 ?_ | refine w_lcL ?_ | refine w_lcT ?_ | refine w_yes ?_ | refine w_disp ?_ | refine w_prs ?_ | refine w_prn ?_ | refine w_dget ?_ | refine w_sl ?_ | refine w_nopart ?_ | refine w_part ?_ | refine w_pint ?_
      | refine w_for3 ?_ | refine w_mkKQ ?_ | refine w_forR1 ?_ | refine w_forR2 ?_ | refine w_forL ?_ | refine w_forT ?_ | refine w_aug rfl ?_ | refine w_par ?_ | refine w_brk ?_ | refine w_cont ?_
      | refine w_isi_ii ?_ | refine w_isi_ib ?_ | refine w_isi_bi ?_ | refine w_isi_bb ?_ | refine w_isi_ss ?_ | refine w_isi_is ?_ | refine w_isi_il ?_ | refine w_isi_it ?_ | refine w_isi_sl ?_ | refine w_isi_st ?_ | refine w_isi_nl ?_ | refine w_isi_nt ?_
      | refine if_T ?_ | refine if_F ?_ | refine if_nT ?_ | refine if_nF ?_)
  | ((with_reducible refine' k_tup rfl ?k1 ?_); (case k1 => wtm_at "g_own"); intro p HH ww)
  | ((with_reducible refine' k_lst1R ?k1 ?_); (case k1 => wtm_at "g_own"); intro p HH ww)
  | ((with_reducible refine' k_lst1I ?k1 ?_); (case k1 => wtm_at "g_own"); intro p HH ww)
  | ((with_reducible refine' k_lst rfl ?k1 ?_); (case k1 => wtm_at "g_own"); intro p HH ww)
  | ((with_reducible refine' k_mk ?k1 ?_); (case k1 => wtm_at "g_own"); intro p dx HH ww)
  | wtm_at "g_mkk"
  | ((with_reducible refine' k_listL ?k1 ?k2 ?_); (case k1 => wtm_at "g_own"); (case k2 => wtm_at "g_sq"); intro p HH ww)
  | ((with_reducible refine' k_listT ?k1 ?k2 ?_); (case k1 => wtm_at "g_own"); (case k2 => wtm_at "g_sqt"); intro p HH ww)
  | ((with_reducible refine' k_tupL ?k1 ?k2 ?_); (case k1 => wtm_at "g_own"); (case k2 => wtm_at "g_sq"); intro p HH ww)
  | ((with_reducible refine' k_slfromRs ?k1 ?k2 ?_); (case k1 => wtm_at "g_own"); (case k2 => wtm_at "g_sq"); intro p HH ww)
  | ((with_reducible refine' k_slfromR1 ?k1 ?k2 ?_); (case k1 => wtm_at "g_own"); (case k2 => wtm_at "g_sq"); intro p HH ww)
  | ((with_reducible refine' k_slfromRn ?k1 ?k2 ?_); (case k1 => wtm_at "g_own"); (case k2 => wtm_at "g_sq"); intro p HH ww)
  | ((with_reducible refine' k_sltoR1 ?k1 ?k2 ?_); (case k1 => wtm_at "g_own"); (case k2 => wtm_at "g_sq"); intro p HH ww)
  | ((with_reducible refine' k_sltoRn ?k1 ?k2 ?_); (case k1 => wtm_at "g_own"); (case k2 => wtm_at "g_sq"); intro p HH ww)
  | ((with_reducible refine' k_slfromIs ?k1 ?k2 ?_); (case k1 => wtm_at "g_own"); (case k2 => wtm_at "g_sq"); intro p HH ww)
  | ((with_reducible refine' k_slfromI1 ?k1 ?k2 ?_); (case k1 => wtm_at "g_own"); (case k2 => wtm_at "g_sq"); intro p HH ww)
  | ((with_reducible refine' k_slfromIn ?k1 ?k2 ?_); (case k1 => wtm_at "g_own"); (case k2 => wtm_at "g_sq"); intro p HH ww)
  | ((with_reducible refine' k_sltoI1 ?k1 ?k2 ?_); (case k1 => wtm_at "g_own"); (case k2 => wtm_at "g_sq"); intro p HH ww)
  | ((with_reducible refine' k_sltoIn ?k1 ?k2 ?_); (case k1 => wtm_at "g_own"); (case k2 => wtm_at "g_sq"); intro p HH ww)
  | ((with_reducible refine' k_slfromI ?k1 ?k2 ?k3 ?_); (case k1 => wtm_at "g_own"); (case k2 => wtm_at "g_sq"); (case k3 => omega); intro p HH ww)
  | ((with_reducible refine' k_sltoI ?k1 ?k2 ?k3 ?_); (case k1 => wtm_at "g_own"); (case k2 => wtm_at "g_sq"); (case k3 => omega); intro p HH ww)
  | ((with_reducible refine' k_slmidI ?k1 ?k2 ?k3 ?k4 ?_); (case k1 => wtm_at "g_own"); (case k2 => wtm_at "g_sq"); (case k3 => omega); (case k4 => omega); intro p HH ww)
  | ((with_reducible refine' k_catI ?k1 ?k2 ?k3 ?k4 ?_); (case k1 => wtm_at "g_own"); (case k2 => wtm_at "g_got"); (case k3 => wtm_at "g_got"); (case k4 => wtm_at "g_sz"); intro p HH ww)
  | ((with_reducible refine' k_catR ?k1 ?k2 ?k3 ?k4 ?_); (case k1 => wtm_at "g_own"); (case k2 => wtm_at "g_got"); (case k3 => wtm_at "g_got"); (case k4 => wtm_at "g_sz"); intro p HH ww)
  | ((with_reducible refine' k_slfromR ?k1 ?k2 ?k3 ?_); (case k1 => wtm_at "g_own"); (case k2 => wtm_at "g_sq"); (case k3 => omega); intro p HH ww)
  | ((with_reducible refine' k_sltoR ?k1 ?k2 ?k3 ?_); (case k1 => wtm_at "g_own"); (case k2 => wtm_at "g_sq"); (case k3 => omega); intro p HH ww)
  | ((with_reducible refine' k_appI ?k1 ?k2 ?k3 ?_); (case k1 => wtm_at "g_own"); (case k2 => wtm_at "g_put"); (case k3 => wtm_at "g_sz"); intro HH ww)
  | ((with_reducible refine' k_appR ?k1 ?k2 ?k3 ?_); (case k1 => wtm_at "g_own"); (case k2 => wtm_at "g_put"); (case k3 => wtm_at "g_sz"); intro HH ww)
  | ((with_reducible refine' k_extendI ?k1 ?k2 ?k3 ?k4 ?_); (case k1 => wtm_at "g_own"); (case k2 => wtm_at "g_put"); (case k3 => wtm_at "g_got"); (case k4 => wtm_at "g_sz"); intro HH ww)
  | ((with_reducible refine' k_slfrom ?k1 ?k2 ?k3 ?_); (case k1 => wtm_at "g_own"); (case k2 => wtm_at "g_sq"); (case k3 => omega); intro p HH ww)
  | ((with_reducible refine' k_slto ?k1 ?k2 ?k3 ?_); (case k1 => wtm_at "g_own"); (case k2 => wtm_at "g_sq"); (case k3 => omega); intro p HH ww)
  | ((with_reducible refine' k_slmid ?k1 ?k2 ?k3 ?k4 ?_); (case k1 => wtm_at "g_own"); (case k2 => wtm_at "g_sq"); (case k3 => omega); (case k4 => omega); intro p HH ww)
  | ((with_reducible refine' k_cat ?k1 ?k2 ?k3 ?k4 ?_); (case k1 => wtm_at "g_own"); (case k2 => wtm_at "g_got"); (case k3 => wtm_at "g_got"); (case k4 => wtm_at "g_sz"); intro p HH ww)
  | ((with_reducible refine' k_app ?k1 ?k2 ?k3 ?_); (case k1 => wtm_at "g_own"); (case k2 => wtm_at "g_put"); (case k3 => wtm_at "g_sz"); intro HH ww)
  | ((with_reducible refine' ty_list ?k1 ?_); (case k1 => wtm_at "g_hp"))
  | ((with_reducible refine' k_truR ?k1 ?_); (case k1 => wtm_at "g_sq"))
  | ((with_reducible refine' k_truI ?k1 ?_); (case k1 => wtm_at "g_sq"))
  | ((with_reducible refine' k_truL ?k1 ?_); (case k1 => wtm_at "g_sq"))
  | ((with_reducible refine' w_lenLI ?k1 ?_); (case k1 => wtm_at "g_sq"))
  | ((with_reducible refine' w_lenLR ?k1 ?_); (case k1 => wtm_at "g_sq"))
  | ((with_reducible refine' w_ixT ?k1 ?k2 ?_); (case k1 => wtm_at "g_sqt"); (case k2 => first | rfl | fail))
  | ((with_reducible refine' w_ixRc ?k1 ?_); (case k1 => wtm_at "g_sq"))
  | ((with_reducible refine' w_ixR0 ?k1 ?k2 ?_); (case k1 => wtm_at "g_sq"); (case k2 => with_reducible assumption))
  | ((with_reducible refine' w_ixR ?k1 ?k2 ?_); (case k1 => wtm_at "g_sq"); (case k2 => with_reducible assumption))
  | ((with_reducible refine' w_ixLastR ?k1 ?k2 ?_); (case k1 => wtm_at "g_sq"); (case k2 => with_reducible assumption))
  | ((with_reducible refine' k_slinitR ?k1 ?k2 ?_); (case k1 => wtm_at "g_own"); (case k2 => wtm_at "g_sq"); intro p HH ww)
  | ((with_reducible refine' w_gTup ?k1 ?k2 ?_); (case k1 => wtm_at "g_sqt"); (case k2 => rfl))
  | (with_reducible refine w_gCons ?_)
  | (with_reducible refine w_gNil ?_)
  | ((with_reducible refine' w_ixI ?k1 ?k2 ?k3 ?_); (case k1 => wtm_at "g_sq"); (case k2 => omega); (case k3 => omega))
  | ((with_reducible refine' w_I ?k1 ?_); (case k1 => wtm_at "g_ar"))
  | ((with_reducible refine' k_reverse ?k1 ?k2 ?_); (case k1 => wtm_at "g_own"); (case k2 => wtm_at "g_put"); intro HH ww)
  | ((with_reducible refine' w_lenL ?k1 ?_); (case k1 => wtm_at "g_sq"))
  | ((with_reducible refine' w_lenT ?k1 ?_); (case k1 => wtm_at "g_sqt"))
  | ((with_reducible refine' w_isi_ll ?k1 ?_); (case k1 => wtm_at "g_hp"))
  | ((with_reducible refine' w_isi_tt ?k1 ?_); (case k1 => wtm_at "g_hp"))
  | ((with_reducible refine' w_isi_lt ?k1 ?_); (case k1 => wtm_at "g_hp"))
  | ((with_reducible refine' w_isi_tl ?k1 ?_); (case k1 => wtm_at "g_hp"))
  | ((with_reducible refine' w_ll ?k1 ?k2 ?_); (case k1 => rfl); (case k2 => rfl))
  | wtm_at "g_get"
  | wtm_at "g_mt"
  | wtm_at "g_set"
  | wtm_at "g_set2"
  | wtm_at "g_call"
  | wtm_at "g_callc"
  | fail)
local macro_rules | `(tactic| wtm_at "g_go") => `(tactic| repeat wtm_at "g_st")
local macro_rules | `(tactic| wtm_at "g_ifo") => `(tactic| first
  | (refine if_nno rfl ?_) | (refine if_yes rfl ?_)
  | (refine if_no (by omega) ?_)
  | (refine if_yes (by omega) ?_)
  | (refine if_nno (by omega) ?_)
  | (refine if_nyes (by omega) ?_)
  | (refine if_nno (decide_eq_false (by omega)).symm ?_)
  | (refine if_nno (decide_eq_true (by omega)).symm ?_)
  | fail)
local macro_rules | `(tactic| wtm_at "g_goo") => `(tactic| repeat (first | wtm_at "g_st" | wtm_at "g_ifo"))
section
variable {K : PySem.W.Frag} {mg : Str → Option Value} {base : Heap}
theorem pure_law_deed (T : TX K mg base) (vs : List V) (H : Hp) (Q : VK) (E : XK) (h : sp_law_deed K vs H Q E) : t_law_deed K E { nx := fun _ H' => Q .non H', rt := Q } (start N_law_deed vs) H := by
  obtain ⟨p, l, s, n, x, rows, R, rfl, hJ, hnum, hn, w, q⟩ := h
  unfold t_law_deed
  wtm_at "g_go"
  rename_i kd H1 k0 k1 w1
  refine if_d (fun h1 => ?_) (fun h1 => ?_)
  · wtm_at "g_go"
    exact ⟨p, l, s, n, x, rows, R, rfl, hJ, hnum, hn, by wtm_at "g_own", q⟩
  wtm_at "g_go"
  refine if_d (fun h2 => ?_) (fun h2 => ?_)
  · wtm_at "g_go"
    exact ⟨p, l, s, x, rows, R, rfl, hJ, hn, by wtm_at "g_own", fun H2 l2 x2 rows2 hJ2 hs hl w2 => q H2 l2 x2 rows2 hJ2 (fun r hr => by have := hnum r (hs r hr); omega) (by omega) w2⟩
  wtm_at "g_go"
  exact ⟨p, l, x, rows, Drw s :: R, rfl, hJ, hn, by wtm_at "g_own", fun H2 l2 x2 hJ2 w2 => q H2 l2 x2 [] hJ2 (fun r hr => by cases hr) (Nat.zero_le _) w2⟩
/-- the queue beside, if there is one -/
def Bes (K : PySem.W.Frag) (v6 v7 : V) (i : Nat) (R : List HP) (L : List HP) : Prop := (v6 = .non ∧ L = R) ∨ ∃ b kl y krows, v6 = .ref b ∧ v7 = .ref kl ∧ JI y krows ∧ (∀ r ∈ krows, num r < 1000 + (i : Int)) ∧ krows.length ≤ i ∧ L = QuP K b y :: RsP kl krows :: R
theorem ji_new {lim q : Int} (h1 : 1 ≤ lim) (h2 : 1 ≤ q) : JI ⟨lim, q, [], false⟩ [] := ji_nil (x := ⟨lim, q, [], false⟩) ⟨h1, h2, fun f hf => by cases hf⟩
theorem pure_law (T : TX K mg base) (vs : List V) (H : Hp) (Q : VK) (E : XK) (h : sp_law K vs H Q E) : t_law K E { nx := fun _ H' => Q .non H', rt := Q } (start N_law vs) H := by
  obtain ⟨a, ns, rfl, hns, w, q⟩ := h
  unfold t_law
  wtm_at "g_go"
  rename_i n0 st H1 w1 d1 H2 d10 d11 w2 d2 H3 d20 d21 w3
  refine ⟨0, 1 + d2, _, rfl, w3, fun H4 w4 => ?_⟩
  rw [decide_eq_true (by omega)]
  wtm_at "g_go"
  refine ⟨1 + d1, 0, _, rfl, w4, fun H5 w5 => ?_⟩
  rw [decide_eq_true (by omega)]
  wtm_at "g_go"
  refine ⟨1, 1, _, rfl, w5, fun H6 w6 => ?_⟩
  rw [decide_eq_false (by omega)]
  wtm_at "g_go"
  rename_i qa dq H7 w7
  refine ⟨qa, dq, 1 + d1, 1 + d2, _, rfl, w7, fun z => by omega, fun _ _ H8 w8 => ?_⟩
  wtm_at "g_go"
  rename_i l5 H9 w9 l7 H10 w10
  have w11 := Own.bigNil (f := RtP) w10
  have w12 := rs_mk (l := l5) (b := false) (ts := []) (xs := []) w11 (by rw [List.map_nil]; wtm_at "g_pk") .here
  obtain ⟨N, hN, hN2⟩ : ∃ N : Nat, (if (1 : Int) + ((ns.length : Nat) : Int) < 80 then (1 : Int) + ((ns.length : Nat) : Int) else 80) = (N : Int) ∧ N ≤ 64 := ⟨(if (1 : Int) + ((ns.length : Nat) : Int) < 80 then (1 : Int) + ((ns.length : Nat) : Int) else 80).toNat, by split <;> omega, by split <;> omega⟩
  refine loop1 (n := N) (fun i σ H' => ∃ v1 li x rows v6 v7 v8 L, σ = [some (.ref a), v1, some (.int (1 + d1)), some (.int (1 + d2)), some (.ref qa), some (.ref li), some v6, some v7, v8] ∧ JI x rows ∧ (∀ r ∈ rows, num r < (i : Int)) ∧ rows.length ≤ i ∧ Bes K v6 v7 i [ScP K a (ns.map V.int)] L ∧ Own (QuP K qa x :: RsP li rows :: L) H') hN (by omega)
    ⟨_, l5, ⟨1 + d1, 1 + d2, [], false⟩, [], _, _, _, _, rfl, ji_new (by omega) (by omega), (fun r hr => by cases hr), Nat.le_refl _, .inl ⟨rfl, rfl⟩, by wtm_at "g_own"⟩ ?_ ?_
  · rintro i σ H11 hi ⟨v1, li, x, rows, v6, v7, v8, L, rfl, hJ, hnum, hlen, hb, w13⟩
    have hsc : GotL K L a (ns.map V.int) := by
      rcases hb with ⟨_, rfl⟩ | ⟨b, kt, y, kr, _, _, _, _, _, rfl⟩
      · exact GotL.hereS
      · exact .next (.next GotL.hereS)
    wtm_at "g_go"
    rename_i n1 st2 H12 w14
    refine ⟨qa, li, st2, (i : Int), x, rows, L, rfl, hJ, hnum, by omega, by wtm_at "g_own", fun H13 l2 x2 rows2 hJ2 hnum2 hlen2 w15 => ?_⟩
    wtm_at "g_go"
    refine ⟨qa, l2, x2, rows2, _, rfl, hJ2, by omega, by wtm_at "g_own", fun H14 w16 => ?_⟩
    wtm_at "g_go"
    refine if_d (fun h1 => ?_) (fun h1 => ?_)
    · wtm_at "g_go"
      have hfl := hJ2.jx.fsl
      refine ⟨qa, x2, _, rfl, hJ2.wf.lim, hJ2.wf.q, by omega, w16, fun H15 b w17 => ?_⟩
      wtm_at "g_go"
      have w18 : Own (RsP l2 rows2 :: QuP K b x2 :: QuP K qa x2 :: [ScP K a (ns.map V.int)]) H15 := by
        rcases hb with ⟨_, rfl⟩ | ⟨b, kt, y, kr, _, _, _, _, _, rfl⟩
        · wtm_at "g_own"
        · wtm_at "g_own"
      refine ⟨b, l2, x2, rows2, QuP K qa x2 :: RsP l2 rows2 :: [ScP K a (ns.map V.int)], rfl, hJ2, by omega, Own.sel w18.dup (Sel.cons (.next (.next .here)) (Sel.cons .here (Sel.cons (.next .here) .rf))), fun H16 w19 => ?_⟩
      wtm_at "g_go"
      exact ⟨_, l2, x2, rows2, _, _, _, QuP K b x2 :: RsP l2 rows2 :: [ScP K a (ns.map V.int)], rfl, hJ2, (fun r hr => by have := hnum2 r hr; omega), by omega, .inr ⟨b, l2, x2, rows2, rfl, rfl, hJ2, (fun r hr => by have := hnum2 r hr; omega), by omega, rfl⟩, Own.sel w19 (Sel.cons (.next (.next .here)) (Sel.cons (.next (.next .here)) (Sel.cons .here (Sel.cons .here .rf))))⟩
    · wtm_at "g_go"
      rcases hb with ⟨rfl, rfl⟩ | ⟨b, kl, y, kr, rfl, rfl, hJk, hnk, hlk, rfl⟩
      · rw [if_neg (by rw [decide_eq_true rfl]; decide)]
        wtm_at "g_go"
        exact ⟨_, l2, x2, rows2, _, _, _, _, rfl, hJ2, (fun r hr => by have := hnum2 r hr; omega), by omega, .inl ⟨rfl, rfl⟩, by wtm_at "g_own"⟩
      · refine if_nyes (fun z => by cases z) ?_
        wtm_at "g_go"
        rename_i dd H15 dd0 dd1 w17
        refine if_d (fun h2 => ?_) (fun h2 => ?_)
        · wtm_at "g_go"
          refine ⟨b, kl, st2, 1000 + (i : Int), y, kr, QuP K qa x2 :: RsP l2 rows2 :: [ScP K a (ns.map V.int)], rfl, hJk, hnk, by omega, by wtm_at "g_own", fun H16 kl2 y2 kr2 hJk2 hnk2 hlk2 w18 => ?_⟩
          wtm_at "g_go"
          refine ⟨b, kl2, y2, kr2, _, rfl, hJk2, by omega, w18.take2 (P1 := QuP K b y2) (P2 := RsP kl2 kr2) (by wtm_at "g_pk") (by wtm_at "g_pk"), fun H17 w19 => ?_⟩
          wtm_at "g_go"
          exact ⟨_, l2, x2, rows2, _, _, _, QuP K b y2 :: RsP kl2 kr2 :: [ScP K a (ns.map V.int)], rfl, hJ2, (fun r hr => by have := hnum2 r hr; omega), by omega, .inr ⟨b, kl2, y2, kr2, rfl, rfl, hJk2, (fun r hr => by have := hnk2 r hr; omega), by omega, rfl⟩, by wtm_at "g_own"⟩
        · wtm_at "g_go"
          refine ⟨b, kl, y, kr, _, rfl, hJk, by omega, w17.take2 (P1 := QuP K b y) (P2 := RsP kl kr) (by wtm_at "g_pk") (by wtm_at "g_pk"), fun H17 w19 => ?_⟩
          wtm_at "g_go"
          exact ⟨_, l2, x2, rows2, _, _, _, QuP K b y :: RsP kl kr :: [ScP K a (ns.map V.int)], rfl, hJ2, (fun r hr => by have := hnum2 r hr; omega), by omega, .inr ⟨b, kl, y, kr, rfl, rfl, hJk, (fun r hr => by have := hnk r hr; omega), by omega, rfl⟩, by wtm_at "g_own"⟩
  · rintro σ H8 ⟨v1, li, x, rows, v6, v7, v8, L, rfl, hJ, hnum, hlen, hb, w13⟩
    wtm_at "g_go"
    exact q _
end
end K81

namespace K81
open PySem PySem.Spec PyProof.Rows L2 G
section
variable {P : Program} {w : World} {K : PySem.W.Frag} {mg : Str → Option Value} {base : Heap}

theorem len_Waiting_init {K : PySem.W.Frag} : ∀ vs H Q E, sp_Waiting_init K vs H Q E → vs.length = (P_Waiting_init : List Str).length := by
  intro vs H Q E h
  repeat first | (obtain ⟨rfl, _⟩ := h; rfl) | obtain ⟨_, h⟩ := h
theorem has_Waiting_init (T : TX K mg base) : HasI P w K mg base 1 "Waiting" P_Waiting_init (sp_Waiting_init K) :=
  mk_hasI (T.glo 10) (T.mkr 11) (T.says.def_ 0) sc_Waiting_init (fun _ _ _ _ _ _ us hl => match us, hl with | [_, _, _, _], _ => rfl) len_Waiting_init
    fun cdv A outer s H vs Q E hr h => ⟨t_Waiting_init K E, d_Waiting_init T  hr, pure_Waiting_init T vs H Q E h⟩

theorem len_Flow_init {K : PySem.W.Frag} : ∀ vs H Q E, sp_Flow_init K vs H Q E → vs.length = (P_Flow_init : List Str).length := by
  intro vs H Q E h
  repeat first | (obtain ⟨rfl, _⟩ := h; rfl) | obtain ⟨_, h⟩ := h
theorem has_Flow_init (T : TX K mg base) : HasI P w K mg base 1 "Flow" P_Flow_init (sp_Flow_init K) :=
  mk_hasI (T.glo 13) (T.mkr 14) (T.says.def_ 1) sc_Flow_init (fun _ _ _ _ _ _ us hl => match us, hl with | [_, _], _ => rfl) len_Flow_init
    fun cdv A outer s H vs Q E hr h => ⟨t_Flow_init K E, d_Flow_init T  hr, pure_Flow_init T vs H Q E h⟩

theorem len_Flow_add {K : PySem.W.Frag} : ∀ vs H Q E, sp_Flow_add K vs H Q E → vs.length = (P_Flow_add : List Str).length := by
  intro vs H Q E h
  repeat first | (obtain ⟨rfl, _⟩ := h; rfl) | obtain ⟨_, h⟩ := h
theorem has_Flow_add (T : TX K mg base) : HasM P w K mg base 1 "Flow" "add" P_Flow_add (sp_Flow_add K) :=
  mk_hasM (T.cls 15) (T.meth 16) (T.says.def_ 2) sc_Flow_add (fun _ _ _ _ _ _ us hl => match us, hl with | [_, _], _ => rfl) len_Flow_add
    fun cdv A outer s H vs Q E hr h => ⟨t_Flow_add K E, d_Flow_add T  hr, pure_Flow_add T vs H Q E h⟩

theorem len_Flow_take {K : PySem.W.Frag} : ∀ vs H Q E, sp_Flow_take K vs H Q E → vs.length = (P_Flow_take : List Str).length := by
  intro vs H Q E h
  repeat first | (obtain ⟨rfl, _⟩ := h; rfl) | obtain ⟨_, h⟩ := h
theorem has_Flow_take (T : TX K mg base) : HasM P w K mg base 1 "Flow" "take" P_Flow_take (sp_Flow_take K) :=
  mk_hasM (T.cls 15) (T.meth 17) (T.says.def_ 3) sc_Flow_take (fun _ _ _ _ _ _ us hl => match us, hl with | [_, _], _ => rfl) len_Flow_take
    fun cdv A outer s H vs Q E hr h => ⟨t_Flow_take K E, d_Flow_take T  hr, pure_Flow_take T vs H Q E h⟩

theorem len_Flow_fork {K : PySem.W.Frag} : ∀ vs H Q E, sp_Flow_fork K vs H Q E → vs.length = (P_Flow_fork : List Str).length := by
  intro vs H Q E h
  repeat first | (obtain ⟨rfl, _⟩ := h; rfl) | obtain ⟨_, h⟩ := h
theorem has_Flow_fork (T : TX K mg base) : HasM P w K mg base 3 "Flow" "fork" P_Flow_fork (sp_Flow_fork K) :=
  mk_hasM (T.cls 15) (T.meth 18) (T.says.def_ 4) sc_Flow_fork (fun _ _ _ _ _ _ us hl => match us, hl with | [_], _ => rfl) len_Flow_fork
    fun cdv A outer s H vs Q E hr h => ⟨t_Flow_fork K E, d_Flow_fork T (has_Flow_init T) hr, pure_Flow_fork T vs H Q E h⟩

theorem len_FairQueue_init {K : PySem.W.Frag} : ∀ vs H Q E, sp_FairQueue_init K vs H Q E → vs.length = (P_FairQueue_init : List Str).length := by
  intro vs H Q E h
  repeat first | (obtain ⟨rfl, _⟩ := h; rfl) | obtain ⟨_, h⟩ := h
theorem has_FairQueue_init (T : TX K mg base) : HasI P w K mg base 1 "FairQueue" P_FairQueue_init (sp_FairQueue_init K) :=
  mk_hasI (T.glo 19) (T.mkr 20) (T.says.def_ 5) sc_FairQueue_init (fun _ _ _ _ _ _ us hl => match us, hl with | [_, _, _], _ => rfl) len_FairQueue_init
    fun cdv A outer s H vs Q E hr h => ⟨t_FairQueue_init K E, d_FairQueue_init T  hr, pure_FairQueue_init T vs H Q E h⟩

theorem len_FairQueue_count {K : PySem.W.Frag} : ∀ vs H Q E, sp_FairQueue_count K vs H Q E → vs.length = (P_FairQueue_count : List Str).length := by
  intro vs H Q E h
  repeat first | (obtain ⟨rfl, _⟩ := h; rfl) | obtain ⟨_, h⟩ := h
theorem has_FairQueue_count (T : TX K mg base) : HasM P w K mg base 1 "FairQueue" "count" P_FairQueue_count (sp_FairQueue_count K) :=
  mk_hasM (T.cls 21) (T.meth 22) (T.says.def_ 6) sc_FairQueue_count (fun _ _ _ _ _ _ us hl => match us, hl with | [_], _ => rfl) len_FairQueue_count
    fun cdv A outer s H vs Q E hr h => ⟨t_FairQueue_count K E, d_FairQueue_count T  hr, pure_FairQueue_count T vs H Q E h⟩

theorem len_FairQueue_octets {K : PySem.W.Frag} : ∀ vs H Q E, sp_FairQueue_octets K vs H Q E → vs.length = (P_FairQueue_octets : List Str).length := by
  intro vs H Q E h
  repeat first | (obtain ⟨rfl, _⟩ := h; rfl) | obtain ⟨_, h⟩ := h
theorem has_FairQueue_octets (T : TX K mg base) : HasM P w K mg base 1 "FairQueue" "octets" P_FairQueue_octets (sp_FairQueue_octets K) :=
  mk_hasM (T.cls 21) (T.meth 23) (T.says.def_ 7) sc_FairQueue_octets (fun _ _ _ _ _ _ us hl => match us, hl with | [_], _ => rfl) len_FairQueue_octets
    fun cdv A outer s H vs Q E hr h => ⟨t_FairQueue_octets K E, d_FairQueue_octets T  hr, pure_FairQueue_octets T vs H Q E h⟩

theorem len_FairQueue_flow_of {K : PySem.W.Frag} : ∀ vs H Q E, sp_FairQueue_flow_of K vs H Q E → vs.length = (P_FairQueue_flow_of : List Str).length := by
  intro vs H Q E h
  repeat first | (obtain ⟨rfl, _⟩ := h; rfl) | obtain ⟨_, h⟩ := h
theorem has_FairQueue_flow_of (T : TX K mg base) : HasM P w K mg base 1 "FairQueue" "flow_of" P_FairQueue_flow_of (sp_FairQueue_flow_of K) :=
  mk_hasM (T.cls 21) (T.meth 25) (T.says.def_ 9) sc_FairQueue_flow_of (fun _ _ _ _ _ _ us hl => match us, hl with | [_, _], _ => rfl) len_FairQueue_flow_of
    fun cdv A outer s H vs Q E hr h => ⟨t_FairQueue_flow_of K E, d_FairQueue_flow_of T  hr, pure_FairQueue_flow_of T vs H Q E h⟩

theorem len_FairQueue_octets_of {K : PySem.W.Frag} : ∀ vs H Q E, sp_FairQueue_octets_of K vs H Q E → vs.length = (P_FairQueue_octets_of : List Str).length := by
  intro vs H Q E h
  repeat first | (obtain ⟨rfl, _⟩ := h; rfl) | obtain ⟨_, h⟩ := h
theorem has_FairQueue_octets_of (T : TX K mg base) : HasM P w K mg base 2 "FairQueue" "octets_of" P_FairQueue_octets_of (sp_FairQueue_octets_of K) :=
  mk_hasM (T.cls 21) (T.meth 24) (T.says.def_ 8) sc_FairQueue_octets_of (fun _ _ _ _ _ _ us hl => match us, hl with | [_, _], _ => rfl) len_FairQueue_octets_of
    fun cdv A outer s H vs Q E hr h => ⟨t_FairQueue_octets_of K E, d_FairQueue_octets_of T (has_FairQueue_flow_of T) hr, pure_FairQueue_octets_of T vs H Q E h⟩

theorem len_FairQueue_remove_flow {K : PySem.W.Frag} : ∀ vs H Q E, sp_FairQueue_remove_flow K vs H Q E → vs.length = (P_FairQueue_remove_flow : List Str).length := by
  intro vs H Q E h
  repeat first | (obtain ⟨rfl, _⟩ := h; rfl) | obtain ⟨_, h⟩ := h
theorem has_FairQueue_remove_flow (T : TX K mg base) : HasM P w K mg base 1 "FairQueue" "remove_flow" P_FairQueue_remove_flow (sp_FairQueue_remove_flow K) :=
  mk_hasM (T.cls 21) (T.meth 26) (T.says.def_ 10) sc_FairQueue_remove_flow (fun _ _ _ _ _ _ us hl => match us, hl with | [_, _], _ => rfl) len_FairQueue_remove_flow
    fun cdv A outer s H vs Q E hr h => ⟨t_FairQueue_remove_flow K E, d_FairQueue_remove_flow T  hr, pure_FairQueue_remove_flow T vs H Q E h⟩

theorem len_FairQueue_drop {K : PySem.W.Frag} : ∀ vs H Q E, sp_FairQueue_drop K vs H Q E → vs.length = (P_FairQueue_drop : List Str).length := by
  intro vs H Q E h
  repeat first | (obtain ⟨rfl, _⟩ := h; rfl) | obtain ⟨_, h⟩ := h
theorem has_FairQueue_drop (T : TX K mg base) : HasM P w K mg base 2 "FairQueue" "drop" P_FairQueue_drop (sp_FairQueue_drop K) :=
  mk_hasM (T.cls 21) (T.meth 28) (T.says.def_ 12) sc_FairQueue_drop (fun _ _ _ _ _ _ us hl => match us, hl with | [_], _ => rfl) len_FairQueue_drop
    fun cdv A outer s H vs Q E hr h => ⟨t_FairQueue_drop K E, d_FairQueue_drop T (has_Flow_take T) (has_FairQueue_remove_flow T) hr, pure_FairQueue_drop T vs H Q E h⟩

theorem len_FairQueue_put {K : PySem.W.Frag} : ∀ vs H Q E, sp_FairQueue_put K vs H Q E → vs.length = (P_FairQueue_put : List Str).length := by
  intro vs H Q E h
  repeat first | (obtain ⟨rfl, _⟩ := h; rfl) | obtain ⟨_, h⟩ := h
theorem has_FairQueue_put (T : TX K mg base) : HasM P w K mg base 3 "FairQueue" "put" P_FairQueue_put (sp_FairQueue_put K) :=
  mk_hasM (T.cls 21) (T.meth 27) (T.says.def_ 11) sc_FairQueue_put (fun _ _ _ _ _ _ us hl => match us, hl with | [_, _, _, _], _ => rfl) len_FairQueue_put
    fun cdv A outer s H vs Q E hr h => ⟨t_FairQueue_put K E, d_FairQueue_put T (has_Waiting_init T) (has_FairQueue_flow_of T) (has_Flow_init T) (has_Flow_add T) (has_FairQueue_octets T) (has_FairQueue_drop T) hr, pure_FairQueue_put T vs H Q E h⟩

theorem len_FairQueue_turn {K : PySem.W.Frag} : ∀ vs H Q E, sp_FairQueue_turn K vs H Q E → vs.length = (P_FairQueue_turn : List Str).length := by
  intro vs H Q E h
  repeat first | (obtain ⟨rfl, _⟩ := h; rfl) | obtain ⟨_, h⟩ := h
theorem has_FairQueue_turn (T : TX K mg base) : HasM P w K mg base 1 "FairQueue" "turn" P_FairQueue_turn (sp_FairQueue_turn K) :=
  mk_hasM (T.cls 21) (T.meth 29) (T.says.def_ 13) sc_FairQueue_turn (fun _ _ _ _ _ _ us hl => match us, hl with | [_], _ => rfl) len_FairQueue_turn
    fun cdv A outer s H vs Q E hr h => ⟨t_FairQueue_turn K E, d_FairQueue_turn T  hr, pure_FairQueue_turn T vs H Q E h⟩

theorem len_FairQueue_next_up {K : PySem.W.Frag} : ∀ vs H Q E, sp_FairQueue_next_up K vs H Q E → vs.length = (P_FairQueue_next_up : List Str).length := by
  intro vs H Q E h
  repeat first | (obtain ⟨rfl, _⟩ := h; rfl) | obtain ⟨_, h⟩ := h
theorem has_FairQueue_next_up (T : TX K mg base) : HasM P w K mg base 2 "FairQueue" "next_up" P_FairQueue_next_up (sp_FairQueue_next_up K) :=
  mk_hasM (T.cls 21) (T.meth 30) (T.says.def_ 14) sc_FairQueue_next_up (fun _ _ _ _ _ _ us hl => match us, hl with | [_], _ => rfl) len_FairQueue_next_up
    fun cdv A outer s H vs Q E hr h => ⟨t_FairQueue_next_up K E, d_FairQueue_next_up T (has_FairQueue_turn T) hr, pure_FairQueue_next_up T vs H Q E h⟩

theorem len_FairQueue_take {K : PySem.W.Frag} : ∀ vs H Q E, sp_FairQueue_take K vs H Q E → vs.length = (P_FairQueue_take : List Str).length := by
  intro vs H Q E h
  repeat first | (obtain ⟨rfl, _⟩ := h; rfl) | obtain ⟨_, h⟩ := h
theorem has_FairQueue_take (T : TX K mg base) : HasM P w K mg base 3 "FairQueue" "take" P_FairQueue_take (sp_FairQueue_take K) :=
  mk_hasM (T.cls 21) (T.meth 31) (T.says.def_ 15) sc_FairQueue_take (fun _ _ _ _ _ _ us hl => match us, hl with | [_], _ => rfl) len_FairQueue_take
    fun cdv A outer s H vs Q E hr h => ⟨t_FairQueue_take K E, d_FairQueue_take T (has_FairQueue_next_up T) (has_Flow_take T) (has_FairQueue_remove_flow T) hr, pure_FairQueue_take T vs H Q E h⟩

theorem len_FairQueue_take_all {K : PySem.W.Frag} : ∀ vs H Q E, sp_FairQueue_take_all K vs H Q E → vs.length = (P_FairQueue_take_all : List Str).length := by
  intro vs H Q E h
  repeat first | (obtain ⟨rfl, _⟩ := h; rfl) | obtain ⟨_, h⟩ := h
theorem has_FairQueue_take_all (T : TX K mg base) : HasM P w K mg base 1 "FairQueue" "take_all" P_FairQueue_take_all (sp_FairQueue_take_all K) :=
  mk_hasM (T.cls 21) (T.meth 32) (T.says.def_ 16) sc_FairQueue_take_all (fun _ _ _ _ _ _ us hl => match us, hl with | [_], _ => rfl) len_FairQueue_take_all
    fun cdv A outer s H vs Q E hr h => ⟨t_FairQueue_take_all K E, d_FairQueue_take_all T  hr, pure_FairQueue_take_all T vs H Q E h⟩

theorem len_FairQueue_fork {K : PySem.W.Frag} : ∀ vs H Q E, sp_FairQueue_fork K vs H Q E → vs.length = (P_FairQueue_fork : List Str).length := by
  intro vs H Q E h
  repeat first | (obtain ⟨rfl, _⟩ := h; rfl) | obtain ⟨_, h⟩ := h
theorem has_FairQueue_fork (T : TX K mg base) : HasM P w K mg base 4 "FairQueue" "fork" P_FairQueue_fork (sp_FairQueue_fork K) :=
  mk_hasM (T.cls 21) (T.meth 33) (T.says.def_ 17) sc_FairQueue_fork (fun _ _ _ _ _ _ us hl => match us, hl with | [_], _ => rfl) len_FairQueue_fork
    fun cdv A outer s H vs Q E hr h => ⟨t_FairQueue_fork K E, d_FairQueue_fork T (has_FairQueue_init T) (has_Flow_fork T) hr, pure_FairQueue_fork T vs H Q E h⟩

theorem len_law_cell {K : PySem.W.Frag} : ∀ vs H Q E, sp_law_cell K vs H Q E → vs.length = (P_law_cell : List Str).length := by
  intro vs H Q E h
  repeat first | (obtain ⟨rfl, _⟩ := h; rfl) | obtain ⟨_, h⟩ := h
theorem has_law_cell (T : TX K mg base) : Has P w K mg base 1 "_law_cell" P_law_cell (sp_law_cell K) :=
  mk_has (T.glo 34) (T.says.def_ 18) sc_law_cell (fun _ _ _ _ _ _ us hl => match us, hl with | [_, _], _ => rfl) len_law_cell
    fun cdv A outer s H vs Q E hr h => ⟨t_law_cell K E, d_law_cell T  hr, pure_law_cell T vs H Q E h⟩

theorem len_law_start {K : PySem.W.Frag} : ∀ vs H Q E, sp_law_start K vs H Q E → vs.length = (P_law_start : List Str).length := by
  intro vs H Q E h
  repeat first | (obtain ⟨rfl, _⟩ := h; rfl) | obtain ⟨_, h⟩ := h
theorem has_law_start (T : TX K mg base) : Has P w K mg base 1 "_law_start" P_law_start (sp_law_start K) :=
  mk_has (T.glo 35) (T.says.def_ 19) sc_law_start (fun _ _ _ _ _ _ us hl => match us, hl with | [_, _], _ => rfl) len_law_start
    fun cdv A outer s H vs Q E hr h => ⟨t_law_start K E, d_law_start T  hr, pure_law_start T vs H Q E h⟩

theorem len_law_digit {K : PySem.W.Frag} : ∀ vs H Q E, sp_law_digit K vs H Q E → vs.length = (P_law_digit : List Str).length := by
  intro vs H Q E h
  repeat first | (obtain ⟨rfl, _⟩ := h; rfl) | obtain ⟨_, h⟩ := h
theorem has_law_digit (T : TX K mg base) : Has P w K mg base 1 "_law_digit" P_law_digit (sp_law_digit K) :=
  mk_has (T.glo 36) (T.says.def_ 20) sc_law_digit (fun _ _ _ _ _ _ us hl => match us, hl with | [_, _], _ => rfl) len_law_digit
    fun cdv A outer s H vs Q E hr h => ⟨t_law_digit K E, d_law_digit T  hr, pure_law_digit T vs H Q E h⟩

theorem len_law_size {K : PySem.W.Frag} : ∀ vs H Q E, sp_law_size K vs H Q E → vs.length = (P_law_size : List Str).length := by
  intro vs H Q E h
  repeat first | (obtain ⟨rfl, _⟩ := h; rfl) | obtain ⟨_, h⟩ := h
theorem has_law_size (T : TX K mg base) : Has P w K mg base 2 "_law_size" P_law_size (sp_law_size K) :=
  mk_has (T.glo 37) (T.says.def_ 21) sc_law_size (fun _ _ _ _ _ _ us hl => match us, hl with | [_], _ => rfl) len_law_size
    fun cdv A outer s H vs Q E hr h => ⟨t_law_size K E, d_law_size T (has_law_digit T) hr, pure_law_size T vs H Q E h⟩

theorem len_law_row {K : PySem.W.Frag} : ∀ vs H Q E, sp_law_row K vs H Q E → vs.length = (P_law_row : List Str).length := by
  intro vs H Q E h
  repeat first | (obtain ⟨rfl, _⟩ := h; rfl) | obtain ⟨_, h⟩ := h
theorem has_law_row (T : TX K mg base) : Has P w K mg base 1 "_law_row" P_law_row (sp_law_row K) :=
  mk_has (T.glo 38) (T.says.def_ 22) sc_law_row (fun _ _ _ _ _ _ us hl => match us, hl with | [_], _ => rfl) len_law_row
    fun cdv A outer s H vs Q E hr h => ⟨t_law_row K E, d_law_row T  hr, pure_law_row T vs H Q E h⟩

theorem len_law_counts {K : PySem.W.Frag} : ∀ vs H Q E, sp_law_counts K vs H Q E → vs.length = (P_law_counts : List Str).length := by
  intro vs H Q E h
  repeat first | (obtain ⟨rfl, _⟩ := h; rfl) | obtain ⟨_, h⟩ := h
theorem has_law_counts (T : TX K mg base) : Has P w K mg base 3 "_law_counts" P_law_counts (sp_law_counts K) :=
  mk_has (T.glo 39) (T.says.def_ 23) sc_law_counts (fun _ _ _ _ _ _ us hl => match us, hl with | [_, _], _ => rfl) len_law_counts
    fun cdv A outer s H vs Q E hr h => ⟨t_law_counts K E, d_law_counts T (has_FairQueue_count T) (has_FairQueue_octets T) (has_FairQueue_octets_of T) hr, pure_law_counts T vs H Q E h⟩

theorem len_law_put {K : PySem.W.Frag} : ∀ vs H Q E, sp_law_put K vs H Q E → vs.length = (P_law_put : List Str).length := by
  intro vs H Q E h
  repeat first | (obtain ⟨rfl, _⟩ := h; rfl) | obtain ⟨_, h⟩ := h
theorem has_law_put (T : TX K mg base) : Has P w K mg base 4 "_law_put" P_law_put (sp_law_put K) :=
  mk_has (T.glo 40) (T.says.def_ 24) sc_law_put (fun _ _ _ _ _ _ us hl => match us, hl with | [_, _, _, _], _ => rfl) len_law_put
    fun cdv A outer s H vs Q E hr h => ⟨t_law_put K E, d_law_put T (has_law_size T) (has_law_digit T) (has_FairQueue_put T) (has_law_row T) hr, pure_law_put T vs H Q E h⟩

theorem len_law_take {K : PySem.W.Frag} : ∀ vs H Q E, sp_law_take K vs H Q E → vs.length = (P_law_take : List Str).length := by
  intro vs H Q E h
  repeat first | (obtain ⟨rfl, _⟩ := h; rfl) | obtain ⟨_, h⟩ := h
theorem has_law_take (T : TX K mg base) : Has P w K mg base 4 "_law_take" P_law_take (sp_law_take K) :=
  mk_has (T.glo 41) (T.says.def_ 25) sc_law_take (fun _ _ _ _ _ _ us hl => match us, hl with | [_, _, _], _ => rfl) len_law_take
    fun cdv A outer s H vs Q E hr h => ⟨t_law_take K E, d_law_take T (has_FairQueue_next_up T) (has_law_digit T) (has_law_row T) (has_FairQueue_take T) hr, pure_law_take T vs H Q E h⟩

theorem len_law_cleared {K : PySem.W.Frag} : ∀ vs H Q E, sp_law_cleared K vs H Q E → vs.length = (P_law_cleared : List Str).length := by
  intro vs H Q E h
  repeat first | (obtain ⟨rfl, _⟩ := h; rfl) | obtain ⟨_, h⟩ := h
theorem has_law_cleared (T : TX K mg base) : Has P w K mg base 2 "_law_cleared" P_law_cleared (sp_law_cleared K) :=
  mk_has (T.glo 42) (T.says.def_ 26) sc_law_cleared (fun _ _ _ _ _ _ us hl => match us, hl with | [_, _], _ => rfl) len_law_cleared
    fun cdv A outer s H vs Q E hr h => ⟨t_law_cleared K E, d_law_cleared T (has_FairQueue_take_all T) (has_law_row T) hr, pure_law_cleared T vs H Q E h⟩

theorem len_law_deed {K : PySem.W.Frag} : ∀ vs H Q E, sp_law_deed K vs H Q E → vs.length = (P_law_deed : List Str).length := by
  intro vs H Q E h
  repeat first | (obtain ⟨rfl, _⟩ := h; rfl) | obtain ⟨_, h⟩ := h
theorem has_law_deed (T : TX K mg base) : Has P w K mg base 5 "_law_deed" P_law_deed (sp_law_deed K) :=
  mk_has (T.glo 43) (T.says.def_ 27) sc_law_deed (fun _ _ _ _ _ _ us hl => match us, hl with | [_, _, _, _], _ => rfl) len_law_deed
    fun cdv A outer s H vs Q E hr h => ⟨t_law_deed K E, d_law_deed T (has_law_digit T) (has_law_put T) (has_law_take T) (has_law_cleared T) hr, pure_law_deed T vs H Q E h⟩

theorem len_law_refused {K : PySem.W.Frag} : ∀ vs H Q E, sp_law_refused K vs H Q E → vs.length = (P_law_refused : List Str).length := by
  intro vs H Q E h
  repeat first | (obtain ⟨rfl, _⟩ := h; rfl) | obtain ⟨_, h⟩ := h
theorem has_law_refused (T : TX K mg base) : Has P w K mg base 3 "_law_refused" P_law_refused (sp_law_refused K) :=
  mk_has (T.glo 44) (T.says.def_ 28) sc_law_refused (fun _ _ _ _ _ _ us hl => match us, hl with | [_, _], _ => rfl) len_law_refused
    fun cdv A outer s H vs Q E hr h => ⟨t_law_refused K E, d_law_refused T (has_FairQueue_init T) hr, pure_law_refused T vs H Q E h⟩

theorem len_law {K : PySem.W.Frag} : ∀ vs H Q E, sp_law K vs H Q E → vs.length = (P_law : List Str).length := by
  intro vs H Q E h
  repeat first | (obtain ⟨rfl, _⟩ := h; rfl) | obtain ⟨_, h⟩ := h
theorem has_law (T : TX K mg base) : Has P w K mg base 6 "law" P_law (sp_law K) :=
  mk_has (T.glo 45) (T.says.def_ 29) sc_law (fun _ _ _ _ _ _ us hl => match us, hl with | [_], _ => rfl) len_law
    fun cdv A outer s H vs Q E hr h => ⟨t_law K E, d_law T (has_law_start T) (has_law_cell T) (has_law_digit T) (has_law_refused T) (has_FairQueue_init T) (has_law_deed T) (has_law_counts T) (has_FairQueue_fork T) hr, pure_law T vs H Q E h⟩

theorem ok_law (T : TX K mg base) {fd : FuncData} (F : FunD K "law" "law" (defArgs s_law) (defBody s_law) (defScope s_law) [] [] (He.ga K "law") fd) : FnOk P w K mg base (L2.CX P w) 6 (He.ga K "law") fd P_law (sp_law K) :=
  FunD.ok (CX := L2.CX P w) F sc_law len_law fun cdv A outer s H vs Q E hr h => ⟨t_law K E, d_law T (has_law_start T) (has_law_cell T) (has_law_digit T) (has_law_refused T) (has_FairQueue_init T) (has_law_deed T) (has_law_counts T) (has_FairQueue_fork T) hr, pure_law T vs H Q E h⟩

end

abbrev R : PySem.W.OpenRow := PySem.W.OpenLaw.row PySem.Challenge.rw_throughway_k81_fair_queues_lose_nothing
abbrev hk : PySem.W.Hook := hookB 5 fa fn pr ex
def ob (s : PySem.W.SharedT) : AlB := obsBG 5 fa fn pr ex (HandSHeadRun.getT s)
theorem ob_eq (s : PySem.W.SharedT) : ob s = hk.obs s.abs := obsBG_eq (HandSHeadRun.getT_eq s)
def names : List PySem.Str := (["ThroughwayError", "InvalidAmount", "Waiting", "Flow", "FairQueue", "_law_cell", "_law_start", "_law_digit", "_law_size", "_law_row", "_law_counts", "_law_put", "_law_take", "_law_cleared", "_law_deed", "_law_refused"] : List PySem.Str)
theorem run (w : World) : HandSHeadRun.RunEq R (PySem.W.view R.prog [19]) hk ob 4000 names w := by
  intro os
  kernel_rfl
end K81

open PySem PySem.W PySem.Calls PyProof.Rows
theorem PySem.Challenge.cw_throughway_k81_fair_queues_lose_nothing_holds : PySem.Challenge.rw_throughway_k81_fair_queues_lose_nothing.Holds := by
  w_on; o_law
  refine HandSHeadRun.head_any (r := OpenLaw.row PySem.Challenge.rw_throughway_k81_fair_queues_lose_nothing) (q := view (OpenLaw.row PySem.Challenge.rw_throughway_k81_fair_queues_lose_nothing).prog [19]) (H := K81.hk) (ob := K81.ob) (M := 4000) (loose := K81.names) (d := HandSHeadRun.topDef (OpenLaw.row PySem.Challenge.rw_throughway_k81_fair_queues_lose_nothing).prog 19) (kwd := []) K81.ob_eq
    (by kernel_rfl) (fun s => by kernel_rfl) K81.run (by kernel_rfl) (by kernel_rfl) (by kernel_rfl) (by rfl) (by first | assumption | decide +kernel) (by decide +kernel) ⟨rfl, rfl, rfl, rfl, rfl, by decide +kernel⟩ ?hw ?hc
  case hw => w_witness2
  case hc =>
    refine G.walk_ofEB (l := PySem.Challenge.rw_throughway_k81_fair_queues_lose_nothing) (n := 63) (k := 6) (x := "script") (CX := fun w => L2.CX (PySem.Challenge.rw_throughway_k81_fair_queues_lose_nothing).prog w) rfl (by decide) (by kernel_rfl) ⟨rfl, by decide, by decide⟩ ?F ?X
    case X =>
      intro w H s e s' z
      obtain ⟨_, _, _, _, _, _, _, _, _, _, _, _, z⟩ := z
      exact z.elim
    case F =>
      intro w mg fa h Y G hmg0
      obtain ⟨K, KX, c⟩ := Y
      have hmg : mg ("law" : PySem.Str) = some (.ref fa) := by
        have e : (HandSHeadRun.topDef (OpenLaw.row PySem.Challenge.rw_throughway_k81_fair_queues_lose_nothing).prog 19).name = ("law" : PySem.Str) := by kernel_rfl
        rw [← e]
        exact hmg0
      obtain ⟨fd, FD⟩ := He.SaysD.def_ c.d 29 (d := K81.D_law) rfl
      have b := L2.FunD.bindsA (ps := ["script"]) FD fun _ _ _ _ _ _ us hl => match us, hl with | [_], _ => rfl
      have eg : fa = He.ga K "law" := by
        have e := hmg.symm.trans (He.glo_ok KX G (He.SaysD.fact c.d 45 (f := .glo "law") rfl))
        cases e
        rfl
      subst eg
      exact ⟨K, fd, K81.sp_law K, KX, fun s v => b s [v] rfl, fun H a ns hl hb hO hS => K81.law_start hl hb hO hS, fun base kin hns => K81.ok_law ⟨⟨kin, hns, c.d⟩, c⟩ FD⟩
