import PyProof.Rows.All
import Wide.All
import OpenK.AllK
import Wide.FinOn
import HandS.ForMost
import HandS.ForExc
import HandS.Wide
import HandS.Steps
import HandS.Evl
import HandS.Defaults
import HandS.IsInst
import HandS.Head0
import HandS.Head1
import HandS.Head2
import HandS.HeadEnd
import HandS.EndBits
import HandS.HeadHook1
import HandS.HeadHook2
import HandS.Property
import HandS.OwnEq
import HandS.ExcIs
import HandS.DeepEq
import HandS.HeadHook4
import HandS.TupLe
import HandS.Walk
import KE.KIndexOf
import HandS.Strs
import HandS.Dict
import HandS.MakeKwOnly
import PyProof.Rows.ChunkEnd
import HandS.Flow
import HandS.SortRule
import HandS.SortInts
import HandS.Deep
import KE.KSortTup
import HandS.ForDict
import HandS.More
import HandS.WordsDict
import PyProof.NeKinds
import PySem.Challenge.RW_throughway_k93_reports_of_lines
set_option Elab.async false
set_option linter.all false
set_option maxRecDepth 100000
set_option maxHeartbeats 4000000
/-! My own words over the hand layer: a def of the module, a method, a class, by names (Has, HasM, HasI); their calls; readings step by step. -/
namespace G
open PySem PySem.Spec PyProof.Rows L2
/-- a step that needs nothing: found by the head of the goal -/
class Stp (P : Prop) (Q : outParam Prop) : Prop where
  go : Q → P

/-! ### a call that may let an exception out, at the slots -/
section
variable {X : Cx} {k : Nat} {f C : Addr} {fd : FuncData} {ps : List Str} {sp : Sp} {E : L2.St → XK} {x m : Str} {p pos apos : Pos} {e o : Expr} {es : List Expr} {ta : TE} {t : TA}
abbrev XC (X : Cx) : CXT := L2.CX X.prog X.w
/-- nothing is let out -/
theorem passZ (σ : L2.St) : PassesAt (XC X) X σ E0 := fun _ _ _ _ _ _ c => by
  obtain ⟨_, _, _, _, _, _, _, _, _, _, _, _, z⟩ := c
  exact z.elim
theorem pe_callS0 (F : FnOk X.prog X.w X.K X.mg X.base (XC X) k f fd ps sp) (hr : Room k X.A) (hg : Gl X x) (hm : X.mg x = some (.ref f)) (hk : PySem.W.keepIn X.K (.ref f) = true) (hb : Binds X.K fd ps []) (hx : ∀ σ, PassesAt (XC X) X σ (E σ))
    (hdb : (x == ("__debug__" : Str)) = false := by decide) : PE X (.Call (.Name x p) [] [] pos) (tCallS sp E tNil) := by
  refine ⟨fun pz s σ H Q I h => ?_⟩
  refine wpAny_Call_Name_kw ?_
  refine ld_glob I hg hm ?_ hdb
  exact PySem.W.callWith_K0 I.kIn hk (run_fnS (us := []) F hr hb (hx σ) I .nil h)
/-- o.m(..) -/
def tMt (C : Addr) (m : Str) (sp : Sp) (E : L2.St → XK) (ta : TE) (t : TA) : TE := fun σ H Q => ta σ H fun x H1 => ∃ a dx fs, x = .ref a ∧ H1 a = some (.ins C dx fs) ∧ fs.lookup m = none ∧
  t σ H1 fun vs H2 => sp (x :: vs) H2 Q (E σ)
theorem pe_mt {pl : Sem Bool} (he : PE X o ta) (c : Cls X.K C) (hm : Meth X.K C m f) (F : FnOk X.prog X.w X.K X.mg X.base (XC X) k f fd ps sp) (hr : Room k X.A) (hb : Binds X.K fd ps []) (hx : ∀ σ, PassesAt (XC X) X σ (E σ)) (ha : PA X (e :: es) t)
    (hst : starEach (e :: es) X.env = (false, eval e X.env) :: starEach es X.env := by rfl) (hpl : (backTo pos (starEach es X.env)).any (·.1) = false := by rfl)
    (ht : eval (.Call (.Attribute o m apos) (e :: es) [] pos) X.env = (do
      let ov ← eval o X.env
      standAt apos.atName
      let (f, first) ← holding [ov] (getMethod ov m pl)
      callWith pos f first (backTo pos (starEach (e :: es) X.env)) (backToKw pos (keywordEach [] X.env))) := by rfl) :
    PE X (.Call (.Attribute o m apos) (e :: es) [] pos) (tMt C m sp E ta t) := by
  refine ⟨fun pz s σ H Q I h => ?_⟩
  refine PySem.W.methodCall_KW (pl := pl) (thn (he.run pz s σ H _ I h) fun u z1 ⟨x, H1, J1, rq, a, dx, fs, ex, ea, l, q⟩ => ?_) ht
  subst ex
  obtain rfl : u = Value.ref a := rq
  refine getmeth_ok J1 ea c hm l ?_
  refine PySem.W.callWith_K (first := [.ref a]) (h₀ := X.base) I.ok.mod.kin hm.kp (thn (ha.run pos pz z1 σ H1 _ J1 q) fun us s2 ⟨vs, H2, J2, r, qb⟩ => ⟨J2.kIn, ?_⟩) hst hpl
  exact run_fnS (us := .ref a :: us) (vs := .ref a :: vs) F hr hb (hx σ) J2 (.cons rfl r) qb
theorem pe_mt0 {pl : Sem Bool} (he : PE X o ta) (c : Cls X.K C) (hm : Meth X.K C m f) (F : FnOk X.prog X.w X.K X.mg X.base (XC X) k f fd ps sp) (hr : Room k X.A) (hb : Binds X.K fd ps []) (hx : ∀ σ, PassesAt (XC X) X σ (E σ))
    (ht : eval (.Call (.Attribute o m apos) [] [] pos) X.env = (do
      let ov ← eval o X.env
      standAt apos.atName
      let (f, first) ← holding [ov] (getMethod ov m pl)
      callWith pos f first (backTo pos (starEach [] X.env)) (backToKw pos (keywordEach [] X.env))) := by rfl) :
    PE X (.Call (.Attribute o m apos) [] [] pos) (tMt C m sp E ta tNil) := by
  refine ⟨fun pz s σ H Q I h => ?_⟩
  refine PySem.W.methodCall_KW (pl := pl) (thn (he.run pz s σ H _ I h) fun u z1 ⟨x, H1, J1, rq, a, dx, fs, ex, ea, l, q⟩ => ?_) ht
  subst ex
  obtain rfl : u = Value.ref a := rq
  refine getmeth_ok J1 ea c hm l ?_
  exact PySem.W.callWith_K0 (first := [.ref a]) J1.kIn hm.kp (run_fnS (us := [.ref a]) (vs := [.ref a]) F hr hb (hx σ) J1 (.cons rfl .nil) q)
/-- C(..) -/
def tMk (C : Addr) (sp : Sp) (E : L2.St → XK) (t : TA) : TE := fun σ H Q => t σ H fun vs H1 => ∀ x dx, H1 x = none → H1 dx = none → dx ≠ x →
  sp (.ref x :: vs) (upd (upd H1 dx (.own x)) x (.ins C dx [])) (fun v H2 => v = .non ∧ Q (.ref x) H2) (E σ)
theorem run_mk {pz : List (Addr × Obj)} {σ : L2.St} {H : Hp} {s : Shared} {Q : VK} {us : List Value} {vs : List V} (M : Mk X.K C f) (F : FnOk X.prog X.w X.K X.mg X.base (XC X) k f fd ps sp) (hr : Room (k + 1) X.A) (hb : Binds X.K fd ps [])
    (hx : PassesAt (XC X) X σ (E σ)) (I : Inv X pz σ H s) (r : Vals vs us)
    (h : ∀ x dx, H x = none → H dx = none → dx ≠ x → sp (.ref x :: vs) (upd (upd H dx (.own x)) x (.ins C dx [])) (fun v H2 => v = .non ∧ Q (.ref x) H2) (E σ)) :
    wpAny (model X.prog X.w) X.A (call (.ref C) us) (EP X pz σ Q) X.xe s := by
  have hqa := h (s.heap.objs.size + 1) s.heap.objs.size (I.hok.fresh (Nat.le_succ _)) (I.hok.fresh (Nat.le_refl _)) (Nat.ne_of_lt (Nat.lt_succ_self _))
  have J2 := Inv.made (C := C) I
  have rr2 : Vals (V.ref (s.heap.objs.size + 1) :: vs) (Value.ref (s.heap.objs.size + 1) :: us) := .cons rfl r
  have hl : (Value.ref (s.heap.objs.size + 1) :: us).length = ps.length := by
    have e := rr2.length
    rw [F.len _ _ _ _ hqa] at e
    exact e.symm
  have b := hb _ (Value.ref (s.heap.objs.size + 1) :: us) J2.kIn (by rw [List.append_nil]; exact hl)
  rw [List.append_nil] at b
  refine wpAny_call (make_map (f := f) I.kIn M.makes M.init (beq_iff_eq.mp M.fn) (codeAny_mono (F.run _ X.stack _ _ ⟨Value.ref (s.heap.objs.size + 1) :: us, []⟩ (Value.ref (s.heap.objs.size + 1) :: us) _ _ (E σ) (hr.make C us [])
    (J2.env0.make C us []) b rr2 hqa) fun r s' hqb => ?_))
  cases r with
  | error e => exact hx pz _ _ e s' J2 hqb
  | ok fl =>
    cases fl with
    | ret u =>
      obtain ⟨v, H', J3, rv, ev, qc⟩ := J2.after hqb
      subst ev
      exact ⟨rv, ⟨V.ref (s.heap.objs.size + 1), H', J3, rfl, qc⟩⟩
    | next => exact False.elim hqb
    | brk => exact False.elim hqb
    | cont => exact False.elim hqb
theorem pe_mk (M : Mk X.K C f) (F : FnOk X.prog X.w X.K X.mg X.base (XC X) k f fd ps sp) (hr : Room (k + 1) X.A) (hg : Gl X x) (hm : X.mg x = some (.ref C)) (hb : Binds X.K fd ps []) (hx : ∀ σ, PassesAt (XC X) X σ (E σ))
    (ha : PA X (e :: es) t) (hdb : (x == ("__debug__" : Str)) = false := by decide) (he : starEach (e :: es) X.env = (false, eval e X.env) :: starEach es X.env := by rfl) (hpl : (backTo pos (starEach es X.env)).any (·.1) = false := by rfl) :
    PE X (.Call (.Name x p) (e :: es) [] pos) (tMk C sp E t) := by
  refine ⟨fun pz s σ H Q I h => ?_⟩
  refine wpAny_Call_Name_kw ?_
  refine ld_glob I hg hm ?_ hdb
  refine PySem.W.callWith_K (h₀ := X.base) I.ok.mod.kin M.kp (thn (ha.run pos pz s σ H _ I h) fun us z1 ⟨vs, H1, J1, r, q⟩ => ⟨J1.kIn, ?_⟩) he hpl
  exact run_mk M F hr hb (hx σ) J1 r q
theorem pe_mk0 (M : Mk X.K C f) (F : FnOk X.prog X.w X.K X.mg X.base (XC X) k f fd ps sp) (hr : Room (k + 1) X.A) (hg : Gl X x) (hm : X.mg x = some (.ref C)) (hb : Binds X.K fd ps []) (hx : ∀ σ, PassesAt (XC X) X σ (E σ))
    (hdb : (x == ("__debug__" : Str)) = false := by decide) : PE X (.Call (.Name x p) [] [] pos) (tMk C sp E tNil) := by
  refine ⟨fun pz s σ H Q I h => ?_⟩
  refine wpAny_Call_Name_kw ?_
  refine ld_glob I hg hm ?_ hdb
  exact PySem.W.callWith_K0 I.kIn M.kp (run_mk (us := []) M F hr hb (hx σ) I .nil h)
end

/-! ### by names -/
section
variable (P : Program) (w : World) (K : PySem.W.Frag) (mg : Str → Option Value) (base : Heap)
/-- a def of the module -/
structure Has (k : Nat) (x : Str) (ps : List Str) (sp : Sp) : Prop where
  gl : mg x = some (.ref (He.ga K x))
  kp : PySem.W.keepIn K (.ref (He.ga K x)) = true
  ex : ∃ fd, FnOk P w K mg base (L2.CX P w) k (He.ga K x) fd ps sp ∧ Binds K fd ps []
/-- a method -/
structure HasM (k : Nat) (c m : Str) (ps : List Str) (sp : Sp) : Prop where
  cl : Cls K (He.ga K c)
  me : Meth K (He.ga K c) m (He.ma K (He.ga K c) m)
  ex : ∃ fd, FnOk P w K mg base (L2.CX P w) k (He.ma K (He.ga K c) m) fd ps sp ∧ Binds K fd ps []
/-- a class that is made by its __init__ -/
structure HasI (k : Nat) (c : Str) (ps : List Str) (sp : Sp) : Prop where
  gl : mg c = some (.ref (He.ga K c))
  mkr : Mk K (He.ga K c) (He.ma K (He.ga K c) "__init__")
  ex : ∃ fd, FnOk P w K mg base (L2.CX P w) k (He.ma K (He.ga K c) "__init__") fd ps sp ∧ Binds K fd ps []
end
section
variable {P : Program} {w : World} {K : PySem.W.Frag} {mg : Str → Option Value} {base : Heap}
theorem Has.mono {j k : Nat} {x : Str} {ps : List Str} {sp : Sp} (h : Has P w K mg base j x ps sp) (l : j ≤ k) : Has P w K mg base k x ps sp :=
  ⟨h.gl, h.kp, let ⟨fd, F, b⟩ := h.ex; ⟨fd, F.mono l, b⟩⟩
theorem HasM.mono {j k : Nat} {c m : Str} {ps : List Str} {sp : Sp} (h : HasM P w K mg base j c m ps sp) (l : j ≤ k) : HasM P w K mg base k c m ps sp :=
  ⟨h.cl, h.me, let ⟨fd, F, b⟩ := h.ex; ⟨fd, F.mono l, b⟩⟩
theorem HasI.mono {j k : Nat} {c : Str} {ps : List Str} {sp : Sp} (h : HasI P w K mg base j c ps sp) (l : j ≤ k) : HasI P w K mg base k c ps sp :=
  ⟨h.gl, h.mkr, let ⟨fd, F, b⟩ := h.ex; ⟨fd, F.mono l, b⟩⟩
end
section
variable {X : Cx} {k : Nat} {ps : List Str} {sp : Sp} {E : L2.St → XK} {x c m : Str} {p pos apos : Pos} {e o : Expr} {es : List Expr} {ta : TE} {t : TA}
theorem pe_h (h : Has X.prog X.w X.K X.mg X.base k x ps sp) (hr : Room k X.A) (hg : Gl X x) (hx : ∀ σ, PassesAt (XC X) X σ (E σ)) (ha : PA X (e :: es) t) (hdb : (x == ("__debug__" : Str)) = false := by decide)
    (he : starEach (e :: es) X.env = (false, eval e X.env) :: starEach es X.env := by rfl) (hpl : (backTo pos (starEach es X.env)).any (·.1) = false := by rfl) : PE X (.Call (.Name x p) (e :: es) [] pos) (tCallS sp E t) := by
  obtain ⟨fd, F, b⟩ := h.ex
  exact pe_callS F hr hg h.gl h.kp b hx ha hdb he hpl
theorem pe_h0 (h : Has X.prog X.w X.K X.mg X.base k x ps sp) (hr : Room k X.A) (hg : Gl X x) (hx : ∀ σ, PassesAt (XC X) X σ (E σ)) (hdb : (x == ("__debug__" : Str)) = false := by decide) : PE X (.Call (.Name x p) [] [] pos) (tCallS sp E tNil) := by
  obtain ⟨fd, F, b⟩ := h.ex
  exact pe_callS0 F hr hg h.gl h.kp b hx hdb
theorem pe_i (h : HasI X.prog X.w X.K X.mg X.base k c ps sp) (hr : Room (k + 1) X.A) (hg : Gl X c) (hx : ∀ σ, PassesAt (XC X) X σ (E σ)) (ha : PA X (e :: es) t) (hdb : (c == ("__debug__" : Str)) = false := by decide)
    (he : starEach (e :: es) X.env = (false, eval e X.env) :: starEach es X.env := by rfl) (hpl : (backTo pos (starEach es X.env)).any (·.1) = false := by rfl) : PE X (.Call (.Name c p) (e :: es) [] pos) (tMk (He.ga X.K c) sp E t) := by
  obtain ⟨fd, F, b⟩ := h.ex
  exact pe_mk h.mkr F hr hg h.gl b hx ha hdb he hpl
theorem pe_i0 (h : HasI X.prog X.w X.K X.mg X.base k c ps sp) (hr : Room (k + 1) X.A) (hg : Gl X c) (hx : ∀ σ, PassesAt (XC X) X σ (E σ)) (hdb : (c == ("__debug__" : Str)) = false := by decide) : PE X (.Call (.Name c p) [] [] pos) (tMk (He.ga X.K c) sp E tNil) := by
  obtain ⟨fd, F, b⟩ := h.ex
  exact pe_mk0 h.mkr F hr hg h.gl b hx hdb
theorem pe_m {pl : Sem Bool} (he : PE X o ta) (h : HasM X.prog X.w X.K X.mg X.base k c m ps sp) (hr : Room k X.A) (hx : ∀ σ, PassesAt (XC X) X σ (E σ)) (ha : PA X (e :: es) t)
    (hst : starEach (e :: es) X.env = (false, eval e X.env) :: starEach es X.env := by rfl) (hpl : (backTo pos (starEach es X.env)).any (·.1) = false := by rfl)
    (ht : eval (.Call (.Attribute o m apos) (e :: es) [] pos) X.env = (do
      let ov ← eval o X.env
      standAt apos.atName
      let (f, first) ← holding [ov] (getMethod ov m pl)
      callWith pos f first (backTo pos (starEach (e :: es) X.env)) (backToKw pos (keywordEach [] X.env))) := by rfl) :
    PE X (.Call (.Attribute o m apos) (e :: es) [] pos) (tMt (He.ga X.K c) m sp E ta t) := by
  obtain ⟨fd, F, b⟩ := h.ex
  exact pe_mt he h.cl h.me F hr b hx ha hst hpl ht
theorem pe_m0 {pl : Sem Bool} (he : PE X o ta) (h : HasM X.prog X.w X.K X.mg X.base k c m ps sp) (hr : Room k X.A) (hx : ∀ σ, PassesAt (XC X) X σ (E σ))
    (ht : eval (.Call (.Attribute o m apos) [] [] pos) X.env = (do
      let ov ← eval o X.env
      standAt apos.atName
      let (f, first) ← holding [ov] (getMethod ov m pl)
      callWith pos f first (backTo pos (starEach [] X.env)) (backToKw pos (keywordEach [] X.env))) := by rfl) :
    PE X (.Call (.Attribute o m apos) [] [] pos) (tMt (He.ga X.K c) m sp E ta tNil) := by
  obtain ⟨fd, F, b⟩ := h.ex
  exact pe_mt0 he h.cl h.me F hr b hx ht
/-- raise X('..'), X without an __init__ -/
def tRs (C : Addr) (W : WX) : TS := fun _ σ H => W (.ref C) none σ H
/-- what the class of an own exception must have -/
structure HasX (K : PySem.W.Frag) (mg : Str → Option Value) (c : Str) : Prop where
  gl : mg c = some (.ref (He.ga K c))
  ex : PySem.W.excIn K (He.ga K c) He.veBase "ValueError.__new__" = true
  kp : PySem.W.keepIn K (.ref (He.ga K c)) = true
  sb : PySem.W.subIn K (.ref (He.ga K c)) (.type "BaseException") = some true
  ty : PySem.W.typeIn K (.ref (He.ga K c)) = some (.type "type")
theorem ps_rs {W : WX} {msg : Str} {j : Nat} {p2 pos2 : Pos} (hc : X.calm = true) (tk : Takes X W) (h : HasX X.K X.mg c) (hg : Gl X c) (hdb : (c == ("__debug__" : Str)) = false := by decide) :
    PS X (.Raise (some (.Call (.Name c p) [.Constant (.str msg) j p2] [] pos)) none pos2) (tRs (He.ga X.K c) W) :=
  ps_raise hc tk (pmk_own PySem.F.excBase_ValueError h.ex h.gl h.kp (raises_own h.sb h.ty) hg hdb)
end

/-! ### a def of the text keeps its promise -/
section
variable {P : Program} {w : World} {K : PySem.W.Frag} {mg : Str → Option Value} {base : Heap}
/-- what the body's term and its reading are to give -/
abbrev Body (P : Program) (w : World) (K : PySem.W.Frag) (mg : Str → Option Value) (base : Heap) (k : Nat) (N : List Str) (qual : Str) (scope : Scope) (f : Addr) (body : List Stmt) (sp : Sp) : Prop :=
  ∀ (cdv : Value) (A : Around) (outer : List Env) (s : Shared) (H : Hp) (vs : List V) (Q : VK) (E : XK), Room k (A.deeper (envOfC qual scope s.heap.objs.size f cdv)) → sp vs H Q E →
      ∃ t, PSs (cxOf (L2.CX P w) P w K mg base N qual scope f cdv A outer s H E) body t ∧ t { nx := fun _ H' => Q .non H', rt := Q } (start N vs) H
theorem mk_has {k : Nat} {x qual : Str} {params : Arguments} {body : List Stmt} {scope : Scope} {N ps : List Str} {sp : Sp} (gl : mg x = some (.ref (He.ga K x)))
    (F : ∃ fd, FunD K x qual params body scope [] [] (He.fAd K (x, none)) fd) (S : FnScope N ps scope)
    (hb : ∀ (kV doc pm : Value) (an : Option Addr) (cdv ct : Value) (us : List Value), us.length = ps.length → bindArgs (PySem.W.fnOf x qual params body scope .none kV doc pm an cdv ct) ⟨us, []⟩ = pure (ps.zip us))
    (len : ∀ vs H Q E, sp vs H Q E → vs.length = ps.length) (hbody : Body P w K mg base k N qual scope (He.ga K x) body sp) : Has P w K mg base (k + 1) x ps sp := by
  obtain ⟨fd, F⟩ := F
  exact ⟨gl, F.kp, fd, FunD.ok (CX := L2.CX P w) F S len hbody, F.bindsN hb⟩
theorem mk_hasM {k : Nat} {c m qual : Str} {params : Arguments} {body : List Stmt} {scope : Scope} {N ps : List Str} {sp : Sp} (cl : Cls K (He.ga K c)) (me : Meth K (He.ga K c) m (He.ma K (He.ga K c) m))
    (F : ∃ fd, FunD K m qual params body scope [] [] (He.fAd K (c, some m)) fd) (S : FnScope N ps scope)
    (hb : ∀ (kV doc pm : Value) (an : Option Addr) (cdv ct : Value) (us : List Value), us.length = ps.length → bindArgs (PySem.W.fnOf m qual params body scope .none kV doc pm an cdv ct) ⟨us, []⟩ = pure (ps.zip us))
    (len : ∀ vs H Q E, sp vs H Q E → vs.length = ps.length) (hbody : Body P w K mg base k N qual scope (He.ma K (He.ga K c) m) body sp) : HasM P w K mg base (k + 1) c m ps sp := by
  obtain ⟨fd, F⟩ := F
  exact ⟨cl, me, fd, FunD.ok (CX := L2.CX P w) F S len hbody, F.bindsN hb⟩
theorem mk_hasI {k : Nat} {c qual : Str} {params : Arguments} {body : List Stmt} {scope : Scope} {N ps : List Str} {sp : Sp} (gl : mg c = some (.ref (He.ga K c))) (mk : Mk K (He.ga K c) (He.ma K (He.ga K c) "__init__"))
    (F : ∃ fd, FunD K "__init__" qual params body scope [] [] (He.fAd K (c, some "__init__")) fd) (S : FnScope N ps scope)
    (hb : ∀ (kV doc pm : Value) (an : Option Addr) (cdv ct : Value) (us : List Value), us.length = ps.length → bindArgs (PySem.W.fnOf "__init__" qual params body scope .none kV doc pm an cdv ct) ⟨us, []⟩ = pure (ps.zip us))
    (len : ∀ vs H Q E, sp vs H Q E → vs.length = ps.length) (hbody : Body P w K mg base k N qual scope (He.ma K (He.ga K c) "__init__") body sp) : HasI P w K mg base (k + 1) c ps sp := by
  obtain ⟨fd, F⟩ := F
  exact ⟨gl, mk, fd, FunD.ok (CX := L2.CX P w) F S len hbody, F.bindsN hb⟩
/-- the head's facts -/
structure Tx (fa : List He.Fa) (fn : List He.DefD) (K : PySem.W.Frag) (mg : Str → Option Value) (base : Heap) : Prop where
  kin : K.In base
  ns : base.Ns mainGlobals mg
  says : He.SaysD fa fn K
variable {fa : List He.Fa} {fn : List He.DefD}
theorem Tx.glo (T : Tx fa fn K mg base) {x : Str} (i : Nat) (h : fa[i]? = some (.glo x) := by rfl) : mg x = some (.ref (He.ga K x)) := He.glo_ok T.kin T.ns (T.says.fact i h)
theorem Tx.free (T : Tx fa fn K mg base) {x : Str} (i : Nat) (h : fa[i]? = some (.free x) := by rfl) : mg x = none := He.free_ok T.kin T.ns (T.says.fact i h)
theorem Tx.cls (T : Tx fa fn K mg base) {x : Str} (i : Nat) (h : fa[i]? = some (.cls x) := by rfl) : Cls K (He.ga K x) := He.cls_ok (T.says.fact i h)
theorem Tx.noat (T : Tx fa fn K mg base) {x f : Str} (i : Nat) (h : fa[i]? = some (.noat x f) := by rfl) : NoAttr K (He.ga K x) f := He.noat_ok (T.says.fact i h)
theorem Tx.meth (T : Tx fa fn K mg base) {x m : Str} (i : Nat) (h : fa[i]? = some (.meth x m) := by rfl) : Meth K (He.ga K x) m (He.ma K (He.ga K x) m) := He.meth_ok (T.says.fact i h)
theorem Tx.mkr (T : Tx fa fn K mg base) {x : Str} (i : Nat) (h : fa[i]? = some (.mkr x) := by rfl) : Mk K (He.ga K x) (He.ma K (He.ga K x) "__init__") := He.mkr_ok (T.says.fact i h)
theorem Tx.exm (T : Tx fa fn K mg base) {x y : Str} {b : Bool} (i : Nat) (h : fa[i]? = some (.exm x y b) := by rfl) : PySem.W.exmOne K (.ref (He.ga K x)) (.ref (He.ga K y)) = some b := He.exm_ok (T.says.fact i h)
theorem Tx.exc (T : Tx fa fn K mg base) {x : Str} (i j : Nat) (h : fa[i]? = some (.exc x) := by rfl) (h2 : fa[j]? = some (.glo x) := by rfl) : HasX K mg x :=
  let ⟨a, b, c, d⟩ := He.exc_ok (T.says.fact i h)
  ⟨T.glo j h2, a, b, c, d⟩
end

/-! ### the end, with the script's bits told -/
theorem walk_ofEB {l : PySem.W.OpenLaw} {n k : Nat} {q : Program} {loose : List Str} {XP : (Str → Option Value) → Heap → Prop} {YP : World → Heap → Prop} {d : DefRec} {CX : World → CXT} {x : Str}
    (hn : l.most = some n) (hn2 : n ≤ sizeLine) (hdf : d.params.defaults = []) (hr : Room k callerA)
    (F : ∀ (w : World) (mg : Str → Option Value) (fa : Addr) (h : Heap), YP w h → h.Ns mainGlobals mg → mg d.name = some (.ref fa) →
      ∃ (K : PySem.W.Frag) (fd : FuncData) (sp : Sp), K.In h ∧ (∀ (s : Shared) (u : Value), BindsTo s fd ⟨[u], []⟩ [(x, u)]) ∧
        (∀ (H : Hp) (a : Addr) (ns : List Int), ns.length ≤ n → (∀ z ∈ ns, Builtin.Int.intBits z ≤ 1048576) → Only H → SqL K H a (ns.map V.int) → sp [.ref a] H (fun v _ => v = .bl true) fun _ _ _ => False) ∧
        ∀ base : Heap, K.In base → base.Ns mainGlobals mg → FnOk l.prog w K mg base (CX w) k fa fd [x] sp)
    (hCX : ∀ (w : World) (H : Hp) (s : Shared) (e : Value) (s' : Shared), CX w [] H s (fun _ _ _ => False) e s' → False) :
    PySem.W.WalkO q loose XP YP l.row.toRowW d [] (fun f vs => PySem.call f vs) := by
  refine Att.attach_callB hn hdf fun w sA sB mg mb fa o pm cd doc a vs ns G Y ho hd hcd hmg hobj hints hlen hbits hg => ?_
  obtain ⟨K, fd, sp, kx, bd, sh, FF⟩ := F w mg fa _ Y G.T.g hmg
  exact law_call kx G.T.g G.T.b G.T.builtins G.T.nolimit hg hobj hints (Nat.le_trans hlen hn2) hr FF bd (fun H hO hS => sh H a ns hlen hbits hO hS) fun H e s' => hCX w H sB e s'
end G

/-! readings, step by step -/
namespace G
open PySem PySem.Spec PyProof.Rows L2
/-! ### names of the rules' relations -/
abbrev wB (E : XK) : WX := fun cls d _ H => E cls d H
abbrev gAdd : R2 := rI0 fun i j => .int (i + j)
abbrev gMinus : R2 := rI0 fun i j => .int (i - j)
abbrev gMul : R2 := rI CMul fun i j => .int (i * j)
abbrev gMulW : R2 := rI CMulW fun i j => .int (i * j)
abbrev gDiv : R2 := rI CDiv fun i j => .int (i / j)
abbrev gDivW : R2 := rI CDivW fun i j => .int (i / j)
abbrev gMod : R2 := rI (fun _ j => 0 < j) fun i j => .int (i % j)
abbrev gPow : R2 := rI CPow fun i j => .int (i ^ j.toNat)
abbrev gShl : R2 := rI CPow fun i j => .int (i * 2 ^ j.toNat)
abbrev gShr : R2 := rI (fun _ j => 0 ≤ j) fun i j => .int (i / 2 ^ j.toNat)
abbrev gAnd : R2 := rI0 fun i j => .int (Builtin.bitAnd i j)
abbrev gOr : R2 := rI0 fun i j => .int (Builtin.bitOr i j)
abbrev gXor : R2 := rI0 fun i j => .int (Builtin.bitXor i j)
abbrev gLt : R2 := rI0 fun i j => .bl (decide (i < j))
abbrev gLte : R2 := rI0 fun i j => .bl (decide (i ≤ j))
abbrev gGt : R2 := rI0 fun i j => .bl (decide (j < i))
abbrev gGte : R2 := rI0 fun i j => .bl (decide (j ≤ i))
abbrev gLe : R2 := gLte
abbrev gGe : R2 := gGte
abbrev gNeg : V → Hp → VK → Prop := rU fun i => .int (-i)
abbrev gCatS : R2 := fun x y H Q => ∃ i j, x = .str i ∧ y = .str j ∧ i.length + j.length ≤ sizeLine ∧ Q (.str (i ++ j)) H
abbrev gInS : R2 := rInS
abbrev gNotInS : R2 := rNotInS
abbrev gLen (K : PySem.W.Frag) : List V → Hp → VK → Prop := fun xs H Q => ∃ x n, xs = [x] ∧ LenV K x H n ∧ Q (.int (n : Nat)) H
abbrev gMin2 : List V → Hp → VK → Prop := fun xs H Q => ∃ i j, xs = [.int i, .int j] ∧ Q (.int (if j < i then j else i)) H
abbrev gMax2 : List V → Hp → VK → Prop := fun xs H Q => ∃ i j, xs = [.int i, .int j] ∧ Q (.int (if j > i then j else i)) H
abbrev gAbs : List V → Hp → VK → Prop := fun xs H Q => ∃ i, xs = [.int i] ∧ Q (.int (if i < 0 then -i else i)) H
abbrev gInt1 : List V → Hp → VK → Prop := fun xs H Q => (∃ i, xs = [.int i] ∧ Q (.int i) H) ∨ ∃ k, xs = [.bl k] ∧ Q (.int (if k then 1 else 0)) H
abbrev gBool1 : List V → Hp → VK → Prop := fun xs H Q => (∃ i, xs = [.int i] ∧ Q (.bl (i != 0)) H) ∨ ∃ k, xs = [.bl k] ∧ Q (.bl k) H
abbrev gStr1 : List V → Hp → VK → Prop := fun xs H Q => ∃ i, xs = [.int i] ∧ i.natAbs.log2 < 1920 ∧ Q (.str (toString i)) H
abbrev gListOf (K : PySem.W.Frag) : List V → Hp → VK → Prop := fun xs H Q => ∃ p ys, xs = [.ref p] ∧ (SqL K H p ys ∨ SqT K H p ys) ∧ ∀ l, H l = none → Q (.ref l) (upd H l (.lst ys))
abbrev gTupOf (K : PySem.W.Frag) : List V → Hp → VK → Prop := fun xs H Q => ∃ p ys, xs = [.ref p] ∧ ((SqL K H p ys ∧ ∀ l, H l = none → Q (.ref l) (upd H l (.tup ys))) ∨ (SqT K H p ys ∧ Q (.ref p) H))
section
variable {X : Cx} {x : Str} {pos : Pos}
theorem pe_gint {i : Int} (hg : Gl X x) (hm : ∃ t, X.mg x = some (.int i t)) (hd : (x == ("__debug__" : Str)) = false := by decide) : PE X (.Name x pos) (tC (.int i)) := by
  obtain ⟨t, hm⟩ := hm
  exact pe_glob hg hm ⟨t, rfl⟩ hd
theorem pe_gstr {z : Str} (hg : Gl X x) (hm : ∃ t, X.mg x = some (.str z t)) (hd : (x == ("__debug__" : Str)) = false := by decide) : PE X (.Name x pos) (tC (.str z)) := by
  obtain ⟨t, hm⟩ := hm
  exact pe_glob hg hm ⟨t, rfl⟩ hd
theorem pe_gref {a : Addr} (hg : Gl X x) (hm : X.mg x = some (.ref a)) (hd : (x == ("__debug__" : Str)) = false := by decide) : PE X (.Name x pos) (tC (.ref a)) := pe_glob hg hm rfl hd
end
section
variable {K : PySem.W.Frag} {mg : Str → Option Value} {base : Heap} {fa : List He.Fa} {fn : List He.DefD}
theorem Tx.int (T : Tx fa fn K mg base) {x : Str} {n : Int} (i : Nat) (h : fa[i]? = some (.int x n) := by rfl) : ∃ t, mg x = some (.int n t) := He.int_ok T.kin T.ns (T.says.fact i h)
theorem Tx.str (T : Tx fa fn K mg base) {x z : Str} (i : Nat) (h : fa[i]? = some (.str x z) := by rfl) : ∃ t, mg x = some (.str z t) := He.str_ok T.kin T.ns (T.says.fact i h)
end

/-! ### steps -/
section
variable {K : PySem.W.Frag} {σ : L2.St} {H : Hp} {Q : VK} {v x y : V} {i j : Int} {n : Nat} {ta tb tc te : TE} {r r' : R2} {g : Int → Int → V} {C : Int → Int → Prop} {tA : TA}
theorem w_var (h : σ[n]? = some (some v)) (q : Q v H) : tVar n σ H Q := ⟨v, h, q⟩
theorem w_c (q : Q v H) : tC v σ H Q := q
instance (priority := 900) i_w_c  : Stp (tC v σ H Q) (Q v H) := ⟨w_c⟩
theorem w_op (h : ta σ H fun x H1 => tb σ H1 fun y H2 => r x y H2 Q) : tOp r ta tb σ H Q := h
instance (priority := 900) i_w_op  : Stp (tOp r ta tb σ H Q) (ta σ H fun x H1 => tb σ H1 fun y H2 => r x y H2 Q) := ⟨w_op⟩
theorem w_I0 (q : Q (g i j) H) : rI0 g (.int i) (.int j) H Q := ⟨i, j, rfl, rfl, q⟩
instance (priority := 900) i_w_I0  : Stp (rI0 g (.int i) (.int j) H Q) (Q (g i j) H) := ⟨w_I0⟩
theorem w_I (c : C i j) (q : Q (g i j) H) : rI C g (.int i) (.int j) H Q := ⟨i, j, rfl, rfl, c, q⟩
theorem w_eqI (q : Q (.bl (decide (i = j))) H) : rEq (.int i) (.int j) H Q := ⟨rfl, by
  have e : decide (V.int i = V.int j) = decide (i = j) := by simp
  show Q (.bl (decide (V.int i = V.int j))) H
  rw [e]; exact q⟩
instance (priority := 900) i_w_eqI  : Stp (rEq (.int i) (.int j) H Q) (Q (.bl (decide (i = j))) H) := ⟨w_eqI⟩
theorem w_neI (q : Q (.bl (!decide (i = j))) H) : rNe (.int i) (.int j) H Q := ⟨rfl, by
  have e : decide (V.int i = V.int j) = decide (i = j) := by simp
  show Q (.bl (!decide (V.int i = V.int j))) H
  rw [e]; exact q⟩
instance (priority := 900) i_w_neI  : Stp (rNe (.int i) (.int j) H Q) (Q (.bl (!decide (i = j))) H) := ⟨w_neI⟩
theorem w_eqB {a b : Bool} (q : Q (.bl (decide (a = b))) H) : rEq (.bl a) (.bl b) H Q := ⟨rfl, by
  have e : decide (V.bl a = V.bl b) = decide (a = b) := by simp
  show Q (.bl (decide (V.bl a = V.bl b))) H
  rw [e]; exact q⟩
instance (priority := 900) i_w_eqB {a b : Bool} : Stp (rEq (.bl a) (.bl b) H Q) (Q (.bl (decide (a = b))) H) := ⟨w_eqB⟩
theorem w_neB {a b : Bool} (q : Q (.bl (!decide (a = b))) H) : rNe (.bl a) (.bl b) H Q := ⟨rfl, by
  have e : decide (V.bl a = V.bl b) = decide (a = b) := by simp
  show Q (.bl (!decide (V.bl a = V.bl b))) H
  rw [e]; exact q⟩
instance (priority := 900) i_w_neB {a b : Bool} : Stp (rNe (.bl a) (.bl b) H Q) (Q (.bl (!decide (a = b))) H) := ⟨w_neB⟩
theorem w_eqS {a b : Str} (q : Q (.bl (decide (a = b))) H) : rEq (.str a) (.str b) H Q := ⟨rfl, by
  have e : decide (V.str a = V.str b) = decide (a = b) := by simp
  show Q (.bl (decide (V.str a = V.str b))) H
  rw [e]; exact q⟩
instance (priority := 900) i_w_eqS {a b : Str} : Stp (rEq (.str a) (.str b) H Q) (Q (.bl (decide (a = b))) H) := ⟨w_eqS⟩
theorem w_neS {a b : Str} (q : Q (.bl (!decide (a = b))) H) : rNe (.str a) (.str b) H Q := ⟨rfl, by
  have e : decide (V.str a = V.str b) = decide (a = b) := by simp
  show Q (.bl (!decide (V.str a = V.str b))) H
  rw [e]; exact q⟩
instance (priority := 900) i_w_neS {a b : Str} : Stp (rNe (.str a) (.str b) H Q) (Q (.bl (!decide (a = b))) H) := ⟨w_neS⟩
theorem w_isN (q : Q (.bl (decide (x = .non))) H) : rIsN x .non H Q := ⟨rfl, q⟩
instance (priority := 900) i_w_isN  : Stp (rIsN x .non H Q) (Q (.bl (decide (x = .non))) H) := ⟨w_isN⟩
theorem w_notN (q : Q (.bl (!decide (x = .non))) H) : rNotN x .non H Q := ⟨rfl, q⟩
instance (priority := 900) i_w_notN  : Stp (rNotN x .non H Q) (Q (.bl (!decide (x = .non))) H) := ⟨w_notN⟩
theorem w_un {rr : V → Hp → VK → Prop} (h : ta σ H fun x H1 => rr x H1 Q) : tUn rr ta σ H Q := h
instance (priority := 900) i_w_un {rr : V → Hp → VK → Prop} : Stp (tUn rr ta σ H Q) (ta σ H fun x H1 => rr x H1 Q) := ⟨w_un⟩
theorem w_U {f : Int → V} (q : Q (f i) H) : rU f (.int i) H Q := ⟨i, rfl, q⟩
instance (priority := 900) i_w_U {f : Int → V} : Stp (rU f (.int i) H Q) (Q (f i) H) := ⟨w_U⟩
theorem w_chain (h : ta σ H fun x H1 => tb σ H1 fun y H2 => r x y H2 fun z H3 => ∃ k, z = .bl k ∧ (if k = true then tc σ H3 fun w' H4 => r' y w' H4 Q else Q (.bl false) H3)) : tChain r r' ta tb tc σ H Q := h
instance (priority := 900) i_w_chain  : Stp (tChain r r' ta tb tc σ H Q) (ta σ H fun x H1 => tb σ H1 fun y H2 => r x y H2 fun z H3 => ∃ k, z = .bl k ∧ (if k = true then tc σ H3 fun w' H4 => r' y w' H4 Q else Q (.bl false) H3)) := ⟨w_chain⟩
theorem w_k {b : Bool} {P : Bool → Prop} (h : P b) : ∃ k, V.bl b = .bl k ∧ P k := ⟨b, rfl, h⟩
instance (priority := 900) i_w_k {b : Bool} {P : Bool → Prop} : Stp (∃ k, V.bl b = .bl k ∧ P k) (P b) := ⟨w_k⟩
theorem w_test {Q : Bool → Hp → Prop} (h : te σ H fun x H' => ∃ k, x = .bl k ∧ Q k H') : tTest te σ H Q := h
instance (priority := 900) i_w_test {Q : Bool → Hp → Prop} : Stp (tTest te σ H Q) (te σ H fun x H' => ∃ k, x = .bl k ∧ Q k H') := ⟨w_test⟩
theorem w_tB {Q : Bool → Hp → Prop} (h : te σ H fun x H' => ∃ k, x = .bl k ∧ Q k H') : tB te σ H Q := h
instance (priority := 900) i_w_tB {Q : Bool → Hp → Prop} : Stp (tB te σ H Q) (te σ H fun x H' => ∃ k, x = .bl k ∧ Q k H') := ⟨w_tB⟩
theorem w_tru {Q : Bool → Hp → Prop} (h : te σ H fun x H' => ∃ k, TruV K x H' k ∧ Q k H') : tTru K te σ H Q := h
instance (priority := 900) i_w_tru {Q : Bool → Hp → Prop} : Stp (tTru K te σ H Q) (te σ H fun x H' => ∃ k, TruV K x H' k ∧ Q k H') := ⟨w_tru⟩
theorem w_not {Q : Bool → Hp → Prop} {t : TT} (h : t σ H fun c H1 => Q (!c) H1) : tNot t σ H Q := h
instance (priority := 900) i_w_not {Q : Bool → Hp → Prop} {t : TT} : Stp (tNot t σ H Q) (t σ H fun c H1 => Q (!c) H1) := ⟨w_not⟩
theorem w_and {Q : Bool → Hp → Prop} {t u : TT} (h : t σ H fun c H1 => if c = true then u σ H1 Q else Q false H1) : tAnd t u σ H Q := h
instance (priority := 900) i_w_and {Q : Bool → Hp → Prop} {t u : TT} : Stp (tAnd t u σ H Q) (t σ H fun c H1 => if c = true then u σ H1 Q else Q false H1) := ⟨w_and⟩
theorem w_or {Q : Bool → Hp → Prop} {t u : TT} (h : t σ H fun c H1 => if c = true then Q true H1 else u σ H1 Q) : tOr t u σ H Q := h
instance (priority := 900) i_w_or {Q : Bool → Hp → Prop} {t u : TT} : Stp (tOr t u σ H Q) (t σ H fun c H1 => if c = true then Q true H1 else u σ H1 Q) := ⟨w_or⟩
theorem w_andV (h : ta σ H fun x H1 => ∃ c, x = .bl c ∧ if c = true then tb σ H1 Q else Q (.bl false) H1) : tAndV ta tb σ H Q := h
instance (priority := 900) i_w_andV  : Stp (tAndV ta tb σ H Q) (ta σ H fun x H1 => ∃ c, x = .bl c ∧ if c = true then tb σ H1 Q else Q (.bl false) H1) := ⟨w_andV⟩
theorem w_orV (h : ta σ H fun x H1 => ∃ c, x = .bl c ∧ if c = true then Q (.bl true) H1 else tb σ H1 Q) : tOrV ta tb σ H Q := h
instance (priority := 900) i_w_orV  : Stp (tOrV ta tb σ H Q) (ta σ H fun x H1 => ∃ c, x = .bl c ∧ if c = true then Q (.bl true) H1 else tb σ H1 Q) := ⟨w_orV⟩
theorem w_notV (h : ta σ H fun x H1 => ∃ c, x = .bl c ∧ Q (.bl (!c)) H1) : tNotV ta σ H Q := h
instance (priority := 900) i_w_notV  : Stp (tNotV ta σ H Q) (ta σ H fun x H1 => ∃ c, x = .bl c ∧ Q (.bl (!c)) H1) := ⟨w_notV⟩
theorem w_ife {t : TT} (h : t σ H fun c H1 => if c = true then ta σ H1 Q else tb σ H1 Q) : tIf t ta tb σ H Q := h
instance (priority := 900) i_w_ife {t : TT} : Stp (tIf t ta tb σ H Q) (t σ H fun c H1 => if c = true then ta σ H1 Q else tb σ H1 Q) := ⟨w_ife⟩
theorem w_nil {Q : List V → Hp → Prop} (q : Q [] H) : tNil σ H Q := q
instance (priority := 900) i_w_nil {Q : List V → Hp → Prop} : Stp (tNil σ H Q) (Q [] H) := ⟨w_nil⟩
theorem w_cons {Q : List V → Hp → Prop} (h : te σ H fun x H1 => tA σ H1 fun xs H2 => Q (x :: xs) H2) : tCons te tA σ H Q := h
instance (priority := 900) i_w_cons {Q : List V → Hp → Prop} : Stp (tCons te tA σ H Q) (te σ H fun x H1 => tA σ H1 fun xs H2 => Q (x :: xs) H2) := ⟨w_cons⟩
theorem w_tup (h : tA σ H fun xs H1 => xs.length ≤ sizeLine ∧ ∀ p, H1 p = none → Q (.ref p) (upd H1 p (.tup xs))) : tTup tA σ H Q := h
theorem w_lst (h : tA σ H fun xs H1 => xs.length ≤ sizeLine ∧ ∀ p, H1 p = none → Q (.ref p) (upd H1 p (.lst xs))) : tLst tA σ H Q := h
theorem w_small {xs : List V} {P : Prop} (hl : Nat.ble xs.length 1000 = true) (h : P) : xs.length ≤ sizeLine ∧ P := ⟨Nat.le_trans (Nat.le_of_ble_eq_true hl) (by decide), h⟩
theorem w_call {sp : Sp} {E : L2.St → XK} (h : tA σ H fun vs H1 => sp vs H1 Q (E σ)) : tCallS sp E tA σ H Q := h
instance (priority := 900) i_w_call {sp : Sp} {E : L2.St → XK} : Stp (tCallS sp E tA σ H Q) (tA σ H fun vs H1 => sp vs H1 Q (E σ)) := ⟨w_call⟩
theorem w_mk {Cc : Addr} {sp : Sp} {E : L2.St → XK} (h : tA σ H fun vs H1 => ∀ x dx, H1 x = none → H1 dx = none → dx ≠ x → sp (.ref x :: vs) (upd (upd H1 dx (.own x)) x (.ins Cc dx [])) (fun v H2 => v = .non ∧ Q (.ref x) H2) (E σ)) : tMk Cc sp E tA σ H Q := h
theorem w_mt {Cc : Addr} {m : Str} {sp : Sp} {E : L2.St → XK} (h : ta σ H fun x H1 => ∃ a dx fs, x = .ref a ∧ H1 a = some (.ins Cc dx fs) ∧ fs.lookup m = none ∧ tA σ H1 fun vs H2 => sp (x :: vs) H2 Q (E σ)) : tMt Cc m sp E ta tA σ H Q := h
theorem w_cb {rr : List V → Hp → VK → Prop} (h : tA σ H fun vs H1 => rr vs H1 Q) : tCB rr tA σ H Q := h
instance (priority := 900) i_w_cb {rr : List V → Hp → VK → Prop} : Stp (tCB rr tA σ H Q) (tA σ H fun vs H1 => rr vs H1 Q) := ⟨w_cb⟩
theorem w_min2 (q : Q (.int (if j < i then j else i)) H) : gMin2 [.int i, .int j] H Q := ⟨i, j, rfl, q⟩
instance (priority := 900) i_w_min2  : Stp (gMin2 [.int i, .int j] H Q) (Q (.int (if j < i then j else i)) H) := ⟨w_min2⟩
theorem w_max2 (q : Q (.int (if j > i then j else i)) H) : gMax2 [.int i, .int j] H Q := ⟨i, j, rfl, q⟩
instance (priority := 900) i_w_max2  : Stp (gMax2 [.int i, .int j] H Q) (Q (.int (if j > i then j else i)) H) := ⟨w_max2⟩
theorem w_abs (q : Q (.int (if i < 0 then -i else i)) H) : gAbs [.int i] H Q := ⟨i, rfl, q⟩
instance (priority := 900) i_w_abs  : Stp (gAbs [.int i] H Q) (Q (.int (if i < 0 then -i else i)) H) := ⟨w_abs⟩
theorem w_int (q : Q (.int i) H) : gInt1 [.int i] H Q := .inl ⟨i, rfl, q⟩
instance (priority := 900) i_w_int  : Stp (gInt1 [.int i] H Q) (Q (.int i) H) := ⟨w_int⟩
theorem w_lenL {p : Addr} {xs : List V} (h : SqL K H p xs) (q : Q (.int (xs.length : Int)) H) : gLen K [.ref p] H Q := ⟨_, xs.length, rfl, .inl ⟨xs, h, rfl⟩, q⟩
theorem w_lenT {p : Addr} {xs : List V} (h : SqT K H p xs) (q : Q (.int (xs.length : Int)) H) : gLen K [.ref p] H Q := ⟨_, xs.length, rfl, .inr ⟨xs, h, rfl⟩, q⟩
theorem w_lenS {z : Str} (h : z.length ≤ sizeLine) (q : Q (.int (z.length : Int)) H) : gLen K [.str z] H Q := ⟨_, z.length, rfl, ⟨h, rfl⟩, q⟩
theorem w_listL {p : Addr} {xs : List V} (h : SqL K H p xs) (q : ∀ l, H l = none → Q (.ref l) (upd H l (.lst xs))) : gListOf K [.ref p] H Q := ⟨p, xs, rfl, .inl h, q⟩
theorem w_listT {p : Addr} {xs : List V} (h : SqT K H p xs) (q : ∀ l, H l = none → Q (.ref l) (upd H l (.lst xs))) : gListOf K [.ref p] H Q := ⟨p, xs, rfl, .inr h, q⟩
theorem w_ixL {p : Addr} {xs : List V} (h : SqL K H p xs) (ha : atI xs i = some v) (q : Q v H) : rIxL K (.ref p) (.int i) H Q := ⟨p, xs, i, v, rfl, rfl, h, ha, q⟩
theorem w_ixT {p : Addr} {xs : List V} (h : SqT K H p xs) (ha : atI xs i = some v) (q : Q v H) : rIxT K (.ref p) (.int i) H Q := ⟨p, xs, i, v, rfl, rfl, h, ha, q⟩
theorem w_fld {f : Str} {a Cc dx : Addr} {fs : List (Str × V)} {P : Addr → Addr → Addr → List (Str × V) → V → Prop} (h : H a = some (.ins Cc dx fs)) (c : Cls K Cc) (na : NoAttr K Cc f) (l : fs.lookup f = some v) (q : P a Cc dx fs v) :
    ∃ a' C' dx' fs' v', V.ref a = .ref a' ∧ H a' = some (.ins C' dx' fs') ∧ Cls K C' ∧ NoAttr K C' f ∧ fs'.lookup f = some v' ∧ P a' C' dx' fs' v' := ⟨a, Cc, dx, fs, v, rfl, h, c, na, l, q⟩
theorem w_mt1 {m : Str} {a Cc dx : Addr} {fs : List (Str × V)} {P : Addr → Prop} (h : H a = some (.ins Cc dx fs)) (l : fs.lookup m = none) (q : P a) :
    ∃ a' dx' fs', V.ref a = .ref a' ∧ H a' = some (.ins Cc dx' fs') ∧ fs'.lookup m = none ∧ P a' := ⟨a, dx, fs, rfl, h, l, q⟩
abbrev kGet (K : PySem.W.Frag) (f : Str) (x : V) (H1 : Hp) (Q : VK) : Prop := ∃ a C dx fs v, x = .ref a ∧ H1 a = some (.ins C dx fs) ∧ Cls K C ∧ NoAttr K C f ∧ fs.lookup f = some v ∧ Q v H1
abbrev kMt (C : Addr) (m : Str) (x : V) (H1 : Hp) (P : Prop) : Prop := ∃ a dx fs, x = .ref a ∧ H1 a = some (.ins C dx fs) ∧ fs.lookup m = none ∧ P
instance i_w_fldQ {f : Str} : Stp (tFld K ta f σ H Q) (ta σ H fun x H1 => kGet K f x H1 Q) := ⟨fun h => h⟩
instance i_w_mtQ {Cc : Addr} {m : Str} {sp : Sp} {E : L2.St → XK} : Stp (tMt Cc m sp E ta tA σ H Q) (ta σ H fun x H1 => kMt Cc m x H1 (tA σ H1 fun vs H2 => sp (x :: vs) H2 Q (E σ))) := ⟨fun h => h⟩
theorem w_fld0 {f : Str} (h : ta σ H fun x H1 => ∃ a C dx fs v, x = .ref a ∧ H1 a = some (.ins C dx fs) ∧ Cls K C ∧ NoAttr K C f ∧ fs.lookup f = some v ∧ Q v H1) : tFld K ta f σ H Q := h
theorem w_bm {T : String} {rr : V → List V → Hp → VK → Prop} (h : ta σ H fun x H1 => tyV K T x H1 ∧ tA σ H1 fun xs H2 => rr x xs H2 Q) : tBM K T rr ta tA σ H Q := h
instance (priority := 900) i_w_bm {T : String} {rr : V → List V → Hp → VK → Prop} : Stp (tBM K T rr ta tA σ H Q) (ta σ H fun x H1 => tyV K T x H1 ∧ tA σ H1 fun xs H2 => rr x xs H2 Q) := ⟨w_bm⟩
theorem w_bm0 {T : String} {rr : V → List V → Hp → VK → Prop} (h : ta σ H fun x H1 => tyV K T x H1 ∧ rr x [] H1 Q) : tBM0 K T rr ta σ H Q := h
instance (priority := 900) i_w_bm0 {T : String} {rr : V → List V → Hp → VK → Prop} : Stp (tBM0 K T rr ta σ H Q) (ta σ H fun x H1 => tyV K T x H1 ∧ rr x [] H1 Q) := ⟨w_bm0⟩
theorem w_app {l : Addr} {xs : List V} (h : H l = some (.lst xs)) (hz : xs.length < sizeLine) (q : Q .non (upd H l (.lst (xs ++ [v])))) : rAppend (.ref l) [v] H Q := ⟨l, xs, v, rfl, rfl, h, hz, q⟩
theorem ty_list {l : Addr} {xs : List V} {P : Prop} (h : H l = some (.lst xs)) (q : P) : tyV K "list" (.ref l) H ∧ P := ⟨.inl ⟨rfl, xs, .inl (.inl h)⟩, q⟩
end
section
variable {K : PySem.W.Frag} {σ : L2.St} {H : Hp} {D : Ends} {v x y : V} {n : Nat} {ta tb te : TE} {t u : TS} {tt : TT}
theorem w_seq (h : t { D with nx := u D } σ H) : tSeq t u D σ H := h
instance (priority := 900) i_w_seq  : Stp (tSeq t u D σ H) (t { D with nx := u D } σ H) := ⟨w_seq⟩
theorem w_next (h : D.nx σ H) : tNext D σ H := h
instance (priority := 900) i_w_next  : Stp (tNext D σ H) (D.nx σ H) := ⟨w_next⟩
theorem w_brk (h : D.bk σ H) : tBreak D σ H := h
instance (priority := 900) i_w_brk  : Stp (tBreak D σ H) (D.bk σ H) := ⟨w_brk⟩
theorem w_cont (h : D.ct σ H) : tCont D σ H := h
instance (priority := 900) i_w_cont  : Stp (tCont D σ H) (D.ct σ H) := ⟨w_cont⟩
theorem w_drop (h : te σ H fun _ H1 => D.nx σ H1) : tDrop te D σ H := h
instance (priority := 900) i_w_drop  : Stp (tDrop te D σ H) (te σ H fun _ H1 => D.nx σ H1) := ⟨w_drop⟩
theorem w_ret (h : te σ H D.rt) : tRet te D σ H := h
instance (priority := 900) i_w_ret  : Stp (tRet te D σ H) (te σ H D.rt) := ⟨w_ret⟩
theorem w_retN (h : D.rt .non H) : tRetN D σ H := h
instance (priority := 900) i_w_retN  : Stp (tRetN D σ H) (D.rt .non H) := ⟨w_retN⟩
theorem w_if (h : tt σ H fun b H1 => if b = true then t D σ H1 else u D σ H1) : tIfS tt t u D σ H := h
instance (priority := 900) i_w_if  : Stp (tIfS tt t u D σ H) (tt σ H fun b H1 => if b = true then t D σ H1 else u D σ H1) := ⟨w_if⟩
theorem w_asg {g : TG} (h : te σ H fun x H1 => g x σ H1 D.nx) : tAsg te g D σ H := h
instance (priority := 900) i_w_asg {g : TG} : Stp (tAsg te g D σ H) (te σ H fun x H1 => g x σ H1 D.nx) := ⟨w_asg⟩
theorem w_nm {Q : L2.St → Hp → Prop} (h : Q (σ.set n (some v)) H) : gName n v σ H Q := h
instance (priority := 900) i_w_nm {Q : L2.St → Hp → Prop} : Stp (gName n v σ H Q) (Q (σ.set n (some v)) H) := ⟨w_nm⟩
theorem w_sub {to ti : TE} {ts : TSet} {Q : L2.St → Hp → Prop} (h : to σ H fun o H1 => ti σ H1 fun i H2 => ts o i v H2 fun H3 => Q σ H3) : gSub to ti ts v σ H Q := h
instance (priority := 900) i_w_sub {to ti : TE} {ts : TSet} {Q : L2.St → Hp → Prop} : Stp (gSub to ti ts v σ H Q) (to σ H fun o H1 => ti σ H1 fun i H2 => ts o i v H2 fun H3 => Q σ H3) := ⟨w_sub⟩
theorem w_setL {l : Addr} {xs : List V} {k : Int} {j : Nat} {Q : Hp → Prop} (h : H l = some (.lst xs)) (hj : ixN xs.length k = some j) (q : Q (upd H l (.lst (xs.set j v)))) : rSetL (.ref l) (.int k) v H Q := ⟨l, xs, k, j, rfl, rfl, h, hj, q⟩
theorem w_sfld {f : Str} (h : tb σ H fun y H1 => ta σ H1 fun x H2 => ∃ a C dx fs, x = .ref a ∧ H2 a = some (.ins C dx fs) ∧ Cls K C ∧ NoAttr K C f ∧ fs.length < 1000 ∧ D.nx σ (upd H2 a (.ins C dx (putF f y fs)))) : sFld K ta tb f D σ H := h
theorem w_sput {f : Str} {a C dx : Addr} {fs fs' : List (Str × V)} (h : H a = some (.ins C dx fs)) (c : Cls K C) (na : NoAttr K C f) (e : putF f y fs = fs') (l : Nat.blt fs.length 1000 = true) (q : D.nx σ (upd H a (.ins C dx fs'))) :
    ∃ a' C' dx' fs0, V.ref a = .ref a' ∧ H a' = some (.ins C' dx' fs0) ∧ Cls K C' ∧ NoAttr K C' f ∧ fs0.length < 1000 ∧ D.nx σ (upd H a' (.ins C' dx' (putF f y fs0))) := ⟨a, C, dx, fs, rfl, h, c, na, Nat.le_of_ble_eq_true l, by rw [e]; exact q⟩
theorem w_sfa {f : Str} {rd : V → V → Hp → VK → Prop} (h : ta σ H fun x H1 => ∃ a C dx fs v, x = .ref a ∧ H1 a = some (.ins C dx fs) ∧ Cls K C ∧ NoAttr K C f ∧ fs.lookup f = some v ∧
  tb σ H1 fun y H2 => rd v y H2 fun z H3 => ∃ dx' fs', H3 a = some (.ins C dx' fs') ∧ fs'.length < 1000 ∧ D.nx σ (upd H3 a (.ins C dx' (putF f z fs')))) : sFldAug K ta tb rd f D σ H := h
theorem w_sput2 {f : Str} {a C dx : Addr} {fs fs' : List (Str × V)} (h : H a = some (.ins C dx fs)) (e : putF f y fs = fs') (l : Nat.blt fs.length 1000 = true) (q : D.nx σ (upd H a (.ins C dx fs'))) :
    ∃ dx' fs0, H a = some (.ins C dx' fs0) ∧ fs0.length < 1000 ∧ D.nx σ (upd H a (.ins C dx' (putF f y fs0))) := ⟨dx, fs, h, Nat.le_of_ble_eq_true l, by rw [e]; exact q⟩
theorem w_radd {i j : Int} {Q : VK} (q : Q (.int (i + j)) H) : L2.rAdd (.int i) (.int j) H Q := ⟨i, j, rfl, rfl, q⟩
instance (priority := 900) i_w_radd {i j : Int} {Q : VK} : Stp (L2.rAdd (.int i) (.int j) H Q) (Q (.int (i + j)) H) := ⟨w_radd⟩
theorem w_rsub {i j : Int} {Q : VK} (q : Q (.int (i - j)) H) : L2.rSub (.int i) (.int j) H Q := ⟨i, j, rfl, rfl, q⟩
instance (priority := 900) i_w_rsub {i j : Int} {Q : VK} : Stp (L2.rSub (.int i) (.int j) H Q) (Q (.int (i - j)) H) := ⟨w_rsub⟩
theorem w_aug {te : TE} {ti : TIp} (hx : σ[n]? = some (some x)) (h : te σ H fun y H1 => ti x y H1 fun z H2 => D.nx (σ.set n (some z)) H2) : tAug n te ti D σ H := ⟨x, hx, h⟩
theorem w_ip {f : Int → Int → Int} {i j : Int} {Q : VK} (q : Q (.int (f i j)) H) : ipI f (.int i) (.int j) H Q := ⟨i, j, rfl, rfl, q⟩
instance (priority := 900) i_w_ip {f : Int → Int → Int} {i j : Int} {Q : VK} : Stp (ipI f (.int i) (.int j) H Q) (Q (.int (f i j)) H) := ⟨w_ip⟩
theorem w_rs {C : Addr} {W : WX} (h : W (.ref C) none σ H) : tRs C W D σ H := h
instance (priority := 900) i_w_rs {C : Addr} {W : WX} : Stp (tRs C W D σ H) (W (.ref C) none σ H) := ⟨w_rs⟩
theorem w_par {i j : Nat} {tA : TA} (h : tA σ H fun vs H1 => ∃ v w, vs = [v, w] ∧ D.nx ((σ.set i (some v)).set j (some w)) H1) : tPar i j tA D σ H := h
instance (priority := 900) i_w_par {i j : Nat} {tA : TA} : Stp (tPar i j tA D σ H) (tA σ H fun vs H1 => ∃ v w, vs = [v, w] ∧ D.nx ((σ.set i (some v)).set j (some w)) H1) := ⟨w_par⟩
/-! ### ifs -/
theorem if_d {p : Prop} [Decidable p] {A B : Prop} (h1 : p → A) (h2 : ¬ p → B) : if decide p = true then A else B := by
  by_cases h : p
  · rw [decide_eq_true h]; exact h1 h
  · rw [decide_eq_false h]; exact h2 h
theorem if_nd {p : Prop} [Decidable p] {A B : Prop} (h1 : ¬ p → A) (h2 : p → B) : if (!decide p) = true then A else B := by
  by_cases h : p
  · rw [decide_eq_true h]; exact h2 h
  · rw [decide_eq_false h]; exact h1 h
theorem if_T {A B : Prop} (h : A) : if true = true then A else B := h
instance (priority := 900) i_if_T {A B : Prop} : Stp (if true = true then A else B) (A) := ⟨if_T⟩
theorem if_F {A B : Prop} (h : B) : if false = true then A else B := h
instance (priority := 900) i_if_F {A B : Prop} : Stp (if false = true then A else B) (B) := ⟨if_F⟩
theorem if_nT {A B : Prop} (h : B) : if (!true) = true then A else B := h
instance (priority := 900) i_if_nT {A B : Prop} : Stp (if (!true) = true then A else B) (B) := ⟨if_nT⟩
theorem if_nF {A B : Prop} (h : A) : if (!false) = true then A else B := h
instance (priority := 900) i_if_nF {A B : Prop} : Stp (if (!false) = true then A else B) (A) := ⟨if_nF⟩
theorem if_b {b : Bool} {A B : Prop} (h1 : b = true → A) (h2 : b = false → B) : if b = true then A else B := by
  cases b
  · exact h2 rfl
  · exact h1 rfl
end
/-! ### loops -/
section
variable {K : PySem.W.Frag} {g : TG} {tb : TS} {D : Ends} {σ : L2.St} {H : Hp} {tA : TA} {tl : TE}
def LoopL (K : PySem.W.Frag) (a : Addr) (g : TG) (tb : TS) (D : Ends) (σ : L2.St) (H : Hp) : Prop := (∃ xs, SqL K H a xs) ∧ ∃ W : Nat → Nat → L2.St → Hp → Prop, (∃ m, W 0 m σ H) ∧ ∀ i m σ H, W i m σ H →
  ((Itl K a).stop i H ∧ D.nx σ H) ∨ ((Itl K a).go i H ∧ ∃ N : L2.St → Hp → Prop, (∀ σ' H', N σ' H' → ∃ m', m' < m ∧ W (i + 1) m' σ' H') ∧ ∀ x H', (Itl K a).yld i H x H' → g x σ H' fun σ2 H2 => tb { D with nx := N, ct := N, bk := D.nx } σ2 H2)
def LoopT (K : PySem.W.Frag) (a : Addr) (g : TG) (tb : TS) (D : Ends) (σ : L2.St) (H : Hp) : Prop := (∃ xs, SqT K H a xs) ∧ ∃ W : Nat → Nat → L2.St → Hp → Prop, (∃ m, W 0 m σ H) ∧ ∀ i m σ H, W i m σ H →
  ((Itt K a).stop i H ∧ D.nx σ H) ∨ ((Itt K a).go i H ∧ ∃ N : L2.St → Hp → Prop, (∀ σ' H', N σ' H' → ∃ m', m' < m ∧ W (i + 1) m' σ' H') ∧ ∀ x H', (Itt K a).yld i H x H' → g x σ H' fun σ2 H2 => tb { D with nx := N, ct := N, bk := D.nx } σ2 H2)
/-- the same words by names -/
def rLoop1 (g : TG) (tb : TS) (D : Ends) (σ : L2.St) (vs : List V) (H1 : Hp) : Prop := ∃ j : Int, vs = [.int j] ∧ -(2 ^ 62) ≤ j ∧ j < 2 ^ 62 ∧ ∃ W : Nat → Nat → L2.St → Hp → Prop, (∃ m, W 0 m σ H1) ∧ ∀ i m σ H, W i m σ H →
  ((Itr 0 j.toNat).stop i H ∧ D.nx σ H) ∨ ((Itr 0 j.toNat).go i H ∧ ∃ N : L2.St → Hp → Prop, (∀ σ' H', N σ' H' → ∃ m', m' < m ∧ W (i + 1) m' σ' H') ∧ ∀ x H', (Itr 0 j.toNat).yld i H x H' → g x σ H' fun σ2 H2 => tb { D with nx := N, ct := N, bk := D.nx } σ2 H2)
def rLoop2 (g : TG) (tb : TS) (D : Ends) (σ : L2.St) (vs : List V) (H1 : Hp) : Prop := ∃ i j : Int, vs = [.int i, .int j] ∧ (-(2 ^ 62) ≤ i ∧ i < 2 ^ 62 ∧ -(2 ^ 62) ≤ j ∧ j < 2 ^ 62) ∧ ∃ W : Nat → Nat → L2.St → Hp → Prop, (∃ m, W 0 m σ H1) ∧ ∀ k m σ H, W k m σ H →
  ((Itr i (j - i).toNat).stop k H ∧ D.nx σ H) ∨ ((Itr i (j - i).toNat).go k H ∧ ∃ N : L2.St → Hp → Prop, (∀ σ' H', N σ' H' → ∃ m', m' < m ∧ W (k + 1) m' σ' H') ∧ ∀ x H', (Itr i (j - i).toNat).yld k H x H' → g x σ H' fun σ2 H2 => tb { D with nx := N, ct := N, bk := D.nx } σ2 H2)
def rLoopL (K : PySem.W.Frag) (g : TG) (tb : TS) (D : Ends) (σ : L2.St) (x : V) (H1 : Hp) : Prop := ∃ a, x = .ref a ∧ LoopL K a g tb D σ H1
def rLoopT (K : PySem.W.Frag) (g : TG) (tb : TS) (D : Ends) (σ : L2.St) (x : V) (H1 : Hp) : Prop := ∃ a, x = .ref a ∧ LoopT K a g tb D σ H1
theorem w_forR1 (h : tA σ H fun vs H1 => rLoop1 g tb D σ vs H1) : tFor (iRng1 tA) g tb D σ H := h
instance (priority := 900) i_w_forR1  : Stp (tFor (iRng1 tA) g tb D σ H) (tA σ H fun vs H1 => rLoop1 g tb D σ vs H1) := ⟨w_forR1⟩
theorem w_forR2 (h : tA σ H fun vs H1 => rLoop2 g tb D σ vs H1) : tFor (iRng2 tA) g tb D σ H := h
instance (priority := 900) i_w_forR2  : Stp (tFor (iRng2 tA) g tb D σ H) (tA σ H fun vs H1 => rLoop2 g tb D σ vs H1) := ⟨w_forR2⟩
theorem w_forL (h : tl σ H fun x H1 => rLoopL K g tb D σ x H1) : tFor (iList K tl) g tb D σ H := h
instance (priority := 900) i_w_forL  : Stp (tFor (iList K tl) g tb D σ H) (tl σ H fun x H1 => rLoopL K g tb D σ x H1) := ⟨w_forL⟩
theorem w_forT (h : tl σ H fun x H1 => rLoopT K g tb D σ x H1) : tFor (iTup K tl) g tb D σ H := h
instance (priority := 900) i_w_forT  : Stp (tFor (iTup K tl) g tb D σ H) (tl σ H fun x H1 => rLoopT K g tb D σ x H1) := ⟨w_forT⟩
/-- for i in range(n), n a Nat -/
theorem loop1 {n : Nat} (Pv : Nat → L2.St → Hp → Prop) {j : Int} (hj : j = (n : Int)) (hn : n < 4000000000) (h0 : Pv 0 σ H)
    (hs : ∀ i σ H, i < n → Pv i σ H → g (.int (i : Int)) σ H fun σ2 H2 => tb { D with nx := Pv (i + 1), ct := Pv (i + 1), bk := D.nx } σ2 H2) (hd : ∀ σ H, Pv n σ H → D.nx σ H) : rLoop1 g tb D σ [.int j] H := by
  subst hj
  refine ⟨(n : Int), rfl, by omega, by omega, for_range (lo := 0) (n := (n : Int).toNat) Pv h0 (fun i σ H hi p => ?_) (fun σ H p => hd σ H ?_)⟩
  · have e : (0 : Int) + (i : Int) = (i : Int) := Int.zero_add _
    rw [e]
    exact hs i σ H (by omega) p
  · have e : (n : Int).toNat = n := Int.toNat_natCast n
    rw [e] at p
    exact p
theorem loop2 {lo hi : Int} (Pv : Nat → L2.St → Hp → Prop) (hn : -4000000000 < lo ∧ lo < 4000000000 ∧ -4000000000 < hi ∧ hi < 4000000000) (h0 : Pv 0 σ H)
    (hs : ∀ (i : Nat) σ H, lo + i < hi → Pv i σ H → g (.int (lo + i)) σ H fun σ2 H2 => tb { D with nx := Pv (i + 1), ct := Pv (i + 1), bk := D.nx } σ2 H2) (hd : ∀ σ H, Pv (hi - lo).toNat σ H → D.nx σ H) : rLoop2 g tb D σ [.int lo, .int hi] H := by
  refine ⟨lo, hi, rfl, ⟨by omega, by omega, by omega, by omega⟩, for_range (lo := lo) (n := (hi - lo).toNat) Pv h0 (fun i σ H hi' p => hs i σ H (by omega) p) (fun σ H p => hd σ H p)⟩
theorem loopL {a : Addr} {xs : List V} (Pv : Nat → L2.St → Hp → Prop) (hx : SqL K H a xs) (h0 : Pv 0 σ H) (hl : ∀ i σ H, i ≤ xs.length → Pv i σ H → SqL K H a xs)
    (hs : ∀ i x σ H, xs[i]? = some x → Pv i σ H → g x σ H fun σ2 H2 => tb { D with nx := Pv (i + 1), ct := Pv (i + 1), bk := D.nx } σ2 H2) (hd : ∀ σ H, Pv xs.length σ H → D.nx σ H) : rLoopL K g tb D σ (.ref a) H := ⟨a, rfl, ⟨_, hx⟩, for_list Pv h0 hl hs hd⟩
theorem loopT {a : Addr} {xs : List V} (Pv : Nat → L2.St → Hp → Prop) (hx : SqT K H a xs) (h0 : Pv 0 σ H) (hl : ∀ i σ H, i ≤ xs.length → Pv i σ H → SqT K H a xs)
    (hs : ∀ i x σ H, xs[i]? = some x → Pv i σ H → g x σ H fun σ2 H2 => tb { D with nx := Pv (i + 1), ct := Pv (i + 1), bk := D.nx } σ2 H2) (hd : ∀ σ H, Pv xs.length σ H → D.nx σ H) : rLoopT K g tb D σ (.ref a) H := ⟨a, rfl, ⟨_, hx⟩, for_tup Pv h0 hl hs hd⟩
end
/-! ### heaps -/
theorem up_k {H : Hp} {a b : Addr} {o u : HO} (h : H b = some u) (n : b ≠ a) : upd H a o b = some u := (upd_ne n).trans h
theorem up_n {H : Hp} {a b : Addr} {o u : HO} (h : H b = some u) (n : H a = none) : upd H a o b = some u := up_k h (ne_of_none h n)
theorem same_new {H : Hp} {a : Addr} {o : HO} (n : H a = none) : Same H (upd H a o) := fun _ _ e => up_n e n
theorem same_trans_new {H H1 : Hp} {a : Addr} {o : HO} (s : Same H H1) (n : H1 a = none) : Same H (upd H1 a o) := fun b u e => up_n (s b u e) n
theorem seqL_new {K : PySem.W.Frag} {H : Hp} {a b : Addr} {o : HO} {xs : List V} (h : SqL K H b xs) (n : H a = none) : SqL K (upd H a o) b xs := (same_new n).seq h
theorem seqL_put {K : PySem.W.Frag} {H : Hp} {a b : Addr} {o : HO} {xs : List V} (h : SqL K H b xs) (n : a ≠ b) : SqL K (upd H a o) b xs := by
  rcases h with (h | ⟨u, h⟩) | h
  · exact .inl (.inl (up_k h n.symm))
  · exact .inl (.inr ⟨u, up_k h n.symm⟩)
  · exact .inr h
end G
namespace G
open PySem PySem.Spec PyProof.Rows L2
/-! ### the script, which nobody writes -/
/-- a list that stands still: frozen, or of the written part -/
def Scr (K : PySem.W.Frag) (H : Hp) (a : Addr) (xs : List V) : Prop := (∃ o, H a = some (.frz o (.lst xs))) ∨
    ∃ (o : Obj) (its : Array Value) (n : Nat), K.lookup a = some o ∧ o.cls = .type "list" ∧ o.dict = none ∧ o.data = .seq its n ∧ its.size ≤ sizeLine ∧ Vals xs its.toList
section
variable {K : PySem.W.Frag} {H H' : Hp} {a q : Addr} {xs : List V} {o : HO}
theorem Scr.sq (h : Scr K H a xs) : SqL K H a xs := by
  rcases h with ⟨o, h⟩ | h
  · exact .inl (.inr ⟨o, h⟩)
  · exact .inr h
theorem Scr.same (h : Scr K H a xs) (s : Same H H') : Scr K H' a xs := by
  rcases h with ⟨o, h⟩ | h
  · exact .inl ⟨o, s _ _ h⟩
  · exact .inr h
theorem Scr.of (hO : Only H) (h : SqL K H a xs) : Scr K H a xs := by
  rcases h with (h | ⟨o, h⟩) | h
  · rcases hO a with e | ⟨o, ys, e⟩
    · rw [e] at h; cases h
    · rw [e] at h; cases h
  · exact .inl ⟨o, h⟩
  · exact .inr h
theorem Scr.new (h : Scr K H a xs) (n : H q = none) : Scr K (upd H q o) a xs := h.same (same_new n)
/-- not frozen -/
def Thw (H : Hp) (q : Addr) : Prop := ∀ o u, H q ≠ some (.frz o u)
theorem Thw.lst {xs : List V} (h : H q = some (.lst xs)) : Thw H q := fun _ _ e => by rw [h] at e; cases e
theorem Thw.ins {C dx : Addr} {fs : List (Str × V)} (h : H q = some (.ins C dx fs)) : Thw H q := fun _ _ e => by rw [h] at e; cases e
theorem Scr.put (h : Scr K H a xs) (n : Thw H q) : Scr K (upd H q o) a xs := by
  rcases h with ⟨u, h⟩ | h
  · refine .inl ⟨u, up_k h ?_⟩
    intro e
    subst e
    exact n _ _ h
  · exact .inr h
/-- written objects are not frozen: what was frozen stays so -/
def FrzIn (H H' : Hp) : Prop := ∀ b o u, H b = some (.frz o u) → H' b = some (.frz o u)
theorem Scr.frz (h : Scr K H a xs) (s : FrzIn H H') : Scr K H' a xs := by
  rcases h with ⟨o, h⟩ | h
  · exact .inl ⟨o, s _ _ _ h⟩
  · exact .inr h
end
theorem up_none {H : Hp} {a b : Addr} {o : HO} (h : upd H a o b = none) : b ≠ a ∧ H b = none := by
  by_cases e : b = a
  · subst e; rw [upd_same] at h; cases h
  · rw [upd_ne e] at h; exact ⟨e, h⟩
theorem none_up {H : Hp} {a b : Addr} {o : HO} (n : b ≠ a) (h : H b = none) : upd H a o b = none := (upd_ne n).trans h
theorem if_yes {p : Prop} [Decidable p] {A B : Prop} (h : p) (q : A) : if decide p = true then A else B := by rw [decide_eq_true h]; exact q
theorem if_no {p : Prop} [Decidable p] {A B : Prop} (h : ¬ p) (q : B) : if decide p = true then A else B := by rw [decide_eq_false h]; exact q
theorem if_nyes {p : Prop} [Decidable p] {A B : Prop} (h : ¬ p) (q : A) : if (!decide p) = true then A else B := by rw [decide_eq_false h]; exact q
theorem if_nno {p : Prop} [Decidable p] {A B : Prop} (h : p) (q : B) : if (!decide p) = true then A else B := by rw [decide_eq_true h]; exact q
end G

namespace G
open PySem PySem.Spec PyProof.Rows L2
theorem w_cut {t u : TS} {D : Ends} {σ : L2.St} {H : Hp} (Mid : L2.St → Hp → Prop) (h : t { D with nx := Mid } σ H) (k : ∀ σ' H', Mid σ' H' → u D σ' H') : Evl.tCut t u D σ H := ⟨Mid, h, k⟩
theorem ixN_of {n j : Nat} {k : Int} (e : k = (j : Int)) (h : j < n) : ixN n k = some j := by
  subst e
  unfold ixN
  rw [if_pos (by omega), if_pos (by omega)]; simp
end G

namespace G
open PySem PySem.Spec PyProof.Rows L2
/-! the same, the cheap question first -/
section
variable {K : PySem.W.Frag} {H : Hp} {a b q : Addr} {o u : HO} {xs : List V}
theorem up_k' (n : b ≠ a) (h : H b = some u) : upd H a o b = some u := up_k h n
theorem scr_new' (n : H q = none) (h : Scr K H a xs) : Scr K (upd H q o) a xs := h.new n
theorem scr_put' (n : Thw H q) (h : Scr K H a xs) : Scr K (upd H q o) a xs := h.put n
theorem sq_new' (n : H a = none) (h : SqL K H b xs) : SqL K (upd H a o) b xs := seqL_new h n
theorem sq_put' (n : a ≠ b) (h : SqL K H b xs) : SqL K (upd H a o) b xs := seqL_put h n
end
end G

namespace G
open PySem PySem.Spec PyProof.Rows L2
section
variable {H : Hp} {Q : VK} {i : Int} {a : Addr} {b : Bool} {z : Str}
theorem w_isN0 (q : Q (.bl true) H) : rIsN .non .non H Q := ⟨rfl, q⟩
instance (priority := 900) i_w_isN0  : Stp (rIsN .non .non H Q) (Q (.bl true) H) := ⟨w_isN0⟩
theorem w_isNi (q : Q (.bl false) H) : rIsN (.int i) .non H Q := ⟨rfl, q⟩
instance (priority := 900) i_w_isNi  : Stp (rIsN (.int i) .non H Q) (Q (.bl false) H) := ⟨w_isNi⟩
theorem w_isNr (q : Q (.bl false) H) : rIsN (.ref a) .non H Q := ⟨rfl, q⟩
instance (priority := 900) i_w_isNr  : Stp (rIsN (.ref a) .non H Q) (Q (.bl false) H) := ⟨w_isNr⟩
theorem w_isNb (q : Q (.bl false) H) : rIsN (.bl b) .non H Q := ⟨rfl, q⟩
instance (priority := 900) i_w_isNb  : Stp (rIsN (.bl b) .non H Q) (Q (.bl false) H) := ⟨w_isNb⟩
theorem w_isNs (q : Q (.bl false) H) : rIsN (.str z) .non H Q := ⟨rfl, q⟩
instance (priority := 900) i_w_isNs  : Stp (rIsN (.str z) .non H Q) (Q (.bl false) H) := ⟨w_isNs⟩
theorem w_notN0 (q : Q (.bl false) H) : rNotN .non .non H Q := ⟨rfl, q⟩
instance (priority := 900) i_w_notN0  : Stp (rNotN .non .non H Q) (Q (.bl false) H) := ⟨w_notN0⟩
theorem w_notNi (q : Q (.bl true) H) : rNotN (.int i) .non H Q := ⟨rfl, q⟩
instance (priority := 900) i_w_notNi  : Stp (rNotN (.int i) .non H Q) (Q (.bl true) H) := ⟨w_notNi⟩
theorem w_notNr (q : Q (.bl true) H) : rNotN (.ref a) .non H Q := ⟨rfl, q⟩
instance (priority := 900) i_w_notNr  : Stp (rNotN (.ref a) .non H Q) (Q (.bl true) H) := ⟨w_notNr⟩
theorem w_notNb (q : Q (.bl true) H) : rNotN (.bl b) .non H Q := ⟨rfl, q⟩
instance (priority := 900) i_w_notNb  : Stp (rNotN (.bl b) .non H Q) (Q (.bl true) H) := ⟨w_notNb⟩
theorem w_notNs (q : Q (.bl true) H) : rNotN (.str z) .non H Q := ⟨rfl, q⟩
instance (priority := 900) i_w_notNs  : Stp (rNotN (.str z) .non H Q) (Q (.bl true) H) := ⟨w_notNs⟩
end
end G

/-! properties, own ==, isinstance, further facts of the head -/
namespace G
open PySem PySem.Spec PyProof.Rows L2

/-! ### the Hook with getters and any Bool facts -/
/-- where a property's getter stands -/
def prA (K : PySem.W.Frag) (C f : Str) : Addr := match PySem.W.recIn K (He.ma K (He.ga K C) f) "property" with
  | some (.ref g :: _) => g
  | _ => 0
structure Pr where
  cls : Str
  fld : Str
  d : He.DefD
def fnWA (K : PySem.W.Frag) (a : Addr) : He.FnW := match K.lookup a with
  | some ⟨_, _, .func fd, _⟩ => some (fd.name, fd.qualname, fd.params, fd.body, fd.scope, fd.globals, fd.closure, fd.builtins)
  | _ => none
def okA (K : PySem.W.Frag) (a : Addr) (d : He.DefD) : Bool := PySem.W.keepIn K (.ref a) && (match K.lookup a with
  | some ⟨_, _, .func fd, _⟩ => PySem.W.codeIn K fd.code d.qual && (He.dflB K fd.defaults (d.dvs K) && He.kwdB K fd.kwdefaults (d.kws K))
  | _ => false)
theorem funD_A {K : PySem.W.Frag} {d : He.DefD} {a : Addr} (e : fnWA K a = d.val) (c : okA K a d = true) : ∃ fd, FunD K d.name d.qual d.params d.body d.scope (d.dvs K) (d.kws K) a fd := by
  obtain ⟨kp, c2⟩ := He.ba c
  unfold fnWA at e
  cases q : K.lookup a with
  | none =>
    rw [q] at c2
    cases c2
  | some o =>
    obtain ⟨oc, od, dt, osl⟩ := o
    rw [q] at c2 e
    cases dt with
    | func fd =>
      obtain ⟨n1, n2, n3, n4, n5, n6, n7, n8, n9, n10, n11, n12, n13, n14, n15⟩ := fd
      have e2 : (some (n1, n2, n3, n4, n5, n6, n7, n15) : He.FnW) = some (d.name, d.qual, d.params, .stmts d.body, d.scope, mainGlobals, [], builtinsNs) := e
      simp only [Option.some.injEq, Prod.mk.injEq] at e2
      obtain ⟨h1, h2, h3, h4, h5, h6, h7, h8⟩ := e2
      subst h1 h2 h3 h4 h5 h6 h7 h8
      have c3 : (PySem.W.codeIn K n13 d.qual && (He.dflB K n8 (d.dvs K) && He.kwdB K n9 (d.kws K))) = true := c2
      obtain ⟨k1, k2⟩ := He.ba c3
      obtain ⟨k3, k4⟩ := He.ba k2
      exact ⟨_, ⟨oc, od, n8, n9, n10, n11, n12, n13, n14, osl, rfl, q, k1, He.dflB_ok k3, He.kwdB_ok k4⟩, kp⟩
    | _ => cases c2
def Pr.ok (K : PySem.W.Frag) (p : Pr) : Bool :=
  He.eqO (PySem.W.findIn K (.ref (He.ga K p.cls)) p.fld) (some (some (.ref (He.ma K (He.ga K p.cls) p.fld)))) &&
  (He.eqO (PySem.W.specialIn K (.ref (He.ma K (He.ga K p.cls) p.fld)) "__get__") (some (some (.builtin "property.__get__"))) &&
  (decide (PySem.W.takesIn K (.ref (He.ma K (He.ga K p.cls) p.fld)) = some true) &&
  ((match PySem.W.recIn K (He.ma K (He.ga K p.cls) p.fld) "property" with
    | some (.ref _ :: _) => true
    | _ => false) && okA K (prA K p.cls p.fld) p.d)))
theorem Pr.prop {K : PySem.W.Frag} {p : Pr} (h : p.ok K = true) : PropOf K (He.ga K p.cls) p.fld (He.ma K (He.ga K p.cls) p.fld) (prA K p.cls p.fld) ∧ okA K (prA K p.cls p.fld) p.d = true := by
  obtain ⟨h1, h⟩ := He.ba h
  obtain ⟨h2, h⟩ := He.ba h
  obtain ⟨h3, h⟩ := He.ba h
  obtain ⟨h4, h5⟩ := He.ba h
  refine ⟨⟨He.eqO_ok h1, He.eqO_ok h2, of_decide_eq_true h3, ?_⟩, h5⟩
  unfold prA
  split at h4
  · rename_i g rest q
    rw [q]
    exact ⟨rest, rfl⟩
  · cases h4

abbrev AlB : Type := (He.AlD × List He.FnW) × Bool
abbrev Ex : Type := PySem.W.Frag → Bool
def obsB (fa : List He.Fa) (fn : List He.DefD) (pr : List Pr) (ex : List Ex) (K : PySem.W.Frag) : AlB := ((He.obsD fa fn K, pr.map fun p => fnWA K (prA K p.cls p.fld)), (pr.all fun p => p.ok K) && ex.all fun f => f K)
def valB (fn : List He.DefD) (pr : List Pr) : AlB := ((He.valD fn, pr.map fun p => p.d.val), true)
def SaysB (fa : List He.Fa) (fn : List He.DefD) (pr : List Pr) (ex : List Ex) (K : PySem.W.Frag) : Prop := obsB fa fn pr ex K = valB fn pr
def obsBG (n : Nat) (fa : List He.Fa) (fn : List He.DefD) (pr : List Pr) (ex : List Ex) (g : Addr → Option Obj) : AlB := obsB fa fn pr ex (He.frG g (He.asD g n))
def hookB (n : Nat) (fa : List He.Fa) (fn : List He.DefD) (pr : List Pr) (ex : List Ex) : PySem.W.Hook where
  α := AlB
  obs := fun s => obsBG n fa fn pr ex s.heap.get?
  val := fun _ => valB fn pr
  says := fun _ h => ∃ K : PySem.W.Frag, K.In h ∧ SaysB fa fn pr ex K
  of := fun _ _ e => ⟨_, He.frG_in, e⟩
  keeps := fun _ _ _ ⟨K, hK, c⟩ k => ⟨K, PySem.W.Frag.In.keeps hK k, c⟩
theorem obsBG_eq {n : Nat} {fa : List He.Fa} {fn : List He.DefD} {pr : List Pr} {ex : List Ex} {g : Addr → Option Obj} {s : Shared} (h : ∀ a, g a = s.heap.get? a) : obsBG n fa fn pr ex g = (hookB n fa fn pr ex).obs s := by
  have e : g = s.heap.get? := funext h
  rw [e] <;> rfl
section
variable {fa : List He.Fa} {fn : List He.DefD} {pr : List Pr} {ex : List Ex} {K : PySem.W.Frag}
theorem SaysB.d (c : SaysB fa fn pr ex K) : He.SaysD fa fn K := congrArg (fun z : AlB => z.1.1) c
theorem SaysB.ex_ (c : SaysB fa fn pr ex K) (i : Nat) {f : Ex} (h : ex[i]? = some f := by rfl) : f K = true := by
  have c1 := (He.ba (show ((pr.all fun p => p.ok K) && ex.all fun f => f K) = true from congrArg (fun z : AlB => z.2) c)).2
  exact List.all_eq_true.mp c1 f (List.mem_of_getElem? h)
theorem SaysB.pr_ (c : SaysB fa fn pr ex K) (i : Nat) {p : Pr} (h : pr[i]? = some p := by rfl) :
    PropOf K (He.ga K p.cls) p.fld (He.ma K (He.ga K p.cls) p.fld) (prA K p.cls p.fld) ∧ ∃ fd, FunD K p.d.name p.d.qual p.d.params p.d.body p.d.scope (p.d.dvs K) (p.d.kws K) (prA K p.cls p.fld) fd := by
  have c1 := (He.ba (show ((pr.all fun p => p.ok K) && ex.all fun f => f K) = true from congrArg (fun z : AlB => z.2) c)).1
  obtain ⟨a, b⟩ := Pr.prop (List.all_eq_true.mp c1 p (List.mem_of_getElem? h))
  have e : pr.map (fun p => fnWA K (prA K p.cls p.fld)) = pr.map fun p => p.d.val := congrArg (fun z : AlB => z.1.2) c
  have e2 : (pr.map fun p => fnWA K (prA K p.cls p.fld))[i]? = (pr.map fun p => p.d.val)[i]? := by rw [e]
  rw [List.getElem?_map, List.getElem?_map, h] at e2
  exact ⟨a, funD_A (Option.some.inj e2) b⟩
end
/-- the head's facts, with getters and Bools -/
structure TxB (fa : List He.Fa) (fn : List He.DefD) (pr : List Pr) (ex : List Ex) (K : PySem.W.Frag) (mg : Str → Option Value) (base : Heap) : Prop extends Tx fa fn K mg base where
  b : SaysB fa fn pr ex K

/-! ### properties -/
section
variable (P : Program) (w : World) (K : PySem.W.Frag) (mg : Str → Option Value) (base : Heap)
structure HasP (k : Nat) (c f : Str) (ps : List Str) (sp : Sp) : Prop where
  cl : Cls K (He.ga K c)
  pr : PropOf K (He.ga K c) f (He.ma K (He.ga K c) f) (prA K c f)
  ex : ∃ fd, FnOk P w K mg base (L2.CX P w) k (prA K c f) fd ps sp ∧ Binds K fd ps []
end
theorem HasP.mono {P : Program} {w : World} {K : PySem.W.Frag} {mg : Str → Option Value} {base : Heap} {j k : Nat} {c f : Str} {ps : List Str} {sp : Sp} (h : HasP P w K mg base j c f ps sp) (l : j ≤ k) : HasP P w K mg base k c f ps sp :=
  ⟨h.cl, h.pr, let ⟨fd, F, b⟩ := h.ex; ⟨fd, F.mono l, b⟩⟩
/-- e.f -/
def tPr (C : Addr) (sp : Sp) (ta : TE) : TE := fun σ H Q => ta σ H fun x H1 => ∃ a dx fs, x = .ref a ∧ H1 a = some (.ins C dx fs) ∧ sp [.ref a] H1 Q E0
section
variable {X : Cx} {k : Nat} {C p g a dx : Addr} {fs : List (Str × V)} {c f : Str} {fd : FuncData} {ps : List Str} {sp : Sp} {E : L2.St → XK} {e : Expr} {pos : Pos} {ta : TE}
theorem getprop_okS {pins : List (Addr × Obj)} {σ : L2.St} {H : Hp} {s : Shared} {Q : VK} {b : Bool} (I : Inv X pins σ H s) (ea : H a = some (.ins C dx fs)) (c : Cls X.K C) (hp : PropOf X.K C f p g)
    (F : FnOk X.prog X.w X.K X.mg X.base (XC X) k g fd ps sp) (hr : Room (k + 1) X.A) (hb : Binds X.K fd ps []) (h : sp [.ref a] H Q E0) :
    wpAny (model X.prog X.w) X.A (getAttr (.ref a) f b) (EP X pins σ Q) X.xe s := by
  obtain ⟨mA, O, _, _, _, _⟩ := ins_get I.hok ea
  obtain ⟨od, J, _⟩ := O.look
  obtain ⟨rest, hrec⟩ := hp.rec_
  have I1 := I.tok (s.toks + 1)
  have hl : ([Value.ref a] ++ ([] : List Value)).length = ps.length := by
    rw [← F.len _ _ _ _ h]
    rfl
  have hc : (PySem.W.clsIn X.K C).isSome = true := by
    obtain ⟨cd, hc, _⟩ := PySem.W.any_some c.hd
    rw [hc]
    rfl
  refine PySem.W.get_bind I.kIn J (PySem.W.plainGet_of (c.get f)).1 (PySem.W.findObj_data hc hp.at_ hp.get hp.tak) (PySem.W.plainGet_of (c.get f)).2 (wpAny_call (PySem.W.prop_get (s := { s with toks := s.toks + 1 }) I.kIn hrec ?_))
  refine codeAny_mono (F.run X.A.in1 X.stack { s with toks := s.toks + 1 } H ⟨[.ref a], []⟩ [.ref a] [.ref a] Q E0 hr.in1 I1.env0.in1 (hb _ [.ref a] I1.kIn hl) (.cons rfl .nil) h) fun r s' hq => ?_
  cases r with
  | error er =>
    obtain ⟨_, _, _, _, _, _, _, _, _, _, _, _, z⟩ := hq
    exact z.elim
  | ok fl =>
    cases fl with
    | ret u =>
      obtain ⟨v, H', I3, rv, q3⟩ := I1.after hq
      show wpAny _ _ (handedOut u) _ _ _
      rw [PySem.W.handedOut_of (handed_of rv)]
      exact wpAny_pure ⟨v, H', I3, rv, q3⟩
    | next => exact False.elim hq
    | brk => exact False.elim hq
    | cont => exact False.elim hq
theorem pe_pr (he : PE X e ta) (h : HasP X.prog X.w X.K X.mg X.base k c f ps sp) (hr : Room (k + 1) X.A)
    (hab : attributeBase e f X.env (eval e X.env) = eval e X.env := by rfl) : PE X (.Attribute e f pos) (tPr (He.ga X.K c) sp ta) := by
  obtain ⟨fd, F, b⟩ := h.ex
  refine ⟨fun pins s σ H Q I hh => ?_⟩
  refine attr_of hab (thn (he.run pins s σ H _ I hh) fun u s1 ⟨x, H1, I1, rx, a, dx, fs, ex, ea, q⟩ => ?_)
  subst ex
  obtain rfl : u = Value.ref a := rx
  exact getprop_okS I1 ea h.cl h.pr F hr b q
end
theorem mk_hasP {P : Program} {w : World} {K : PySem.W.Frag} {mg : Str → Option Value} {base : Heap} {k : Nat} {c m name qual : Str} {params : Arguments} {body : List Stmt} {scope : Scope} {N ps : List Str} {sp : Sp} (cl : Cls K (He.ga K c))
    (F : PropOf K (He.ga K c) m (He.ma K (He.ga K c) m) (prA K c m) ∧ ∃ fd, FunD K name qual params body scope [] [] (prA K c m) fd) (S : FnScope N ps scope)
    (hb : ∀ (kV doc pm : Value) (an : Option Addr) (cdv ct : Value) (us : List Value), us.length = ps.length → bindArgs (PySem.W.fnOf name qual params body scope .none kV doc pm an cdv ct) ⟨us, []⟩ = pure (ps.zip us))
    (len : ∀ vs H Q E, sp vs H Q E → vs.length = ps.length) (hbody : Body P w K mg base k N qual scope (prA K c m) body sp) : HasP P w K mg base (k + 1) c m ps sp := by
  obtain ⟨pr, fd, F⟩ := F
  exact ⟨cl, pr, fd, FunD.ok (CX := L2.CX P w) F S len hbody, F.bindsN hb⟩
section
variable {K : PySem.W.Frag} {σ : L2.St} {H : Hp} {Q : VK} {ta : TE}
theorem w_pr {C : Addr} {sp : Sp} (h : ta σ H fun x H1 => ∃ a dx fs, x = .ref a ∧ H1 a = some (.ins C dx fs) ∧ sp [.ref a] H1 Q E0) : tPr C sp ta σ H Q := h
instance (priority := 900) i_w_pr {C : Addr} {sp : Sp} : Stp (tPr C sp ta σ H Q) (ta σ H fun x H1 => ∃ a dx fs, x = .ref a ∧ H1 a = some (.ins C dx fs) ∧ sp [.ref a] H1 Q E0) := ⟨w_pr⟩
theorem w_pr1 {a C dx : Addr} {fs : List (Str × V)} {P : Addr → Prop} (h : H a = some (.ins C dx fs)) (q : P a) : ∃ a' dx' fs', V.ref a = .ref a' ∧ H a' = some (.ins C dx' fs') ∧ P a' := ⟨a, dx, fs, rfl, h, q⟩
end

/-! ### own == -/
/-- what the right side of == may be: its type -/
def tyR (K : PySem.W.Frag) (H : Hp) (y : V) (t : Value) : Prop := (∃ C dx fs b, y = .ref b ∧ H b = some (.ins C dx fs) ∧ t = .ref C) ∨ ((∃ i, y = .int i) ∧ t = .type "int") ∨ (y = .non ∧ t = .type "NoneType") ∨ ((∃ x, y = .str x) ∧ t = .type "str") ∨
  ((∃ b, y = .bl b) ∧ t = .type "bool") ∨ (∃ a xs, y = .ref a ∧ H a = some (.lst xs) ∧ t = .type "list") ∨ (∃ a xs, y = .ref a ∧ H a = some (.tup xs) ∧ t = .type "tuple")
def rOwn (K : PySem.W.Frag) (C : Addr) (sp : Sp) : R2 := fun x y H Q => ∃ a dx fs t, x = .ref a ∧ H a = some (.ins C dx fs) ∧ tyR K H y t ∧ PySem.W.notFirst K C t = true ∧ sp [.ref a, y] H (fun v H' => ∃ b, v = .bl b ∧ Q (.bl b) H') E0
section
variable {X : Cx} {k : Nat} {c : Str} {ps : List Str} {sp : Sp}
theorem op_own (h : HasM X.prog X.w X.K X.mg X.base k c "__eq__" ps sp) (hr : Room k X.A) : OpR X (compareOp .Eq) (rOwn X.K (He.ga X.K c) sp) := by
  intro pins s σ H x y v u Q I rx ry hq
  obtain ⟨fd, F, hb⟩ := h.ex
  obtain ⟨a, dx, fs, t, ex, ea, ty, nf, q⟩ := hq
  subst ex
  obtain rfl : v = Value.ref a := rx
  obtain ⟨mA, J, _⟩ := ins_get I.hok ea
  obtain ⟨od, J, _⟩ := J.look
  obtain ⟨m, hF⟩ := I.fr
  have L : PySem.W.Looks (model X.prog X.w) s.heap (typeOf u) t := by
    rcases ty with ⟨C', dy, gs, b, rfl, eb, rfl⟩ | ⟨⟨i, rfl⟩, rfl⟩ | ⟨rfl, rfl⟩ | ⟨⟨i, rfl⟩, rfl⟩ | ⟨⟨i, rfl⟩, rfl⟩ | ⟨b, xs, rfl, eb, rfl⟩ | ⟨b, xs, rfl, eb, rfl⟩
    · obtain rfl : u = Value.ref b := ry
      obtain ⟨mB, J', _⟩ := ins_get I.hok eb
      obtain ⟨od', J', _⟩ := J'.look
      exact J'.type
    · obtain ⟨t, rfl⟩ := (show ∃ t, u = Value.int i t from ry)
      exact .now
    · obtain rfl := (show u = Value.none from ry)
      exact .now
    · obtain ⟨t, rfl⟩ := (show ∃ t, u = Value.str i t from ry)
      exact .now
    · obtain rfl := (show u = Value.bool i from ry)
      exact .now
    · obtain rfl : u = Value.ref b := ry
      obtain ⟨_, _, n, _, h1⟩ := (show ObjOk X.prog X.w H s.heap b (.lst xs) from I.hok b _ eb)
      exact (PySem.W.Looks.ld (part := none) h1).andThen .now
    · obtain rfl : u = Value.ref b := ry
      obtain ⟨_, _, _, o, h1, h2, _⟩ := (show ObjOk X.prog X.w H s.heap b (.tup xs) from I.hok b _ eb)
      refine (PySem.W.Looks.ld (part := none) h1).andThen ?_
      rw [h2]
      exact .now
  show wpAny (model X.prog X.w) X.A (richCompare .Eq (.ref a) u) (EP X pins σ Q) X.xe s
  refine PySem.W.cmp_K (op := .Eq) hr.units0 hF I.ok.mod.kin J L nf h.me.at_ h.me.fn ?_
  have hl := F.len _ _ _ _ q
  have r2 : Vals [V.ref a, y] [Value.ref a, u] := .cons rfl (.cons ry .nil)
  refine wpAny_call (codeAny_mono (F.run X.A X.stack s H ⟨[.ref a, u], []⟩ [.ref a, u] [.ref a, y] _ E0 hr I.env0 (by
    have := hb s [.ref a, u] I.kIn (by simpa using hl)
    simpa using this) r2 q) fun r s' hq => ?_)
  cases r with
  | error e => exact passZ σ pins H s e s' I hq
  | ok fl =>
    cases fl with
    | ret w =>
      obtain ⟨z, H', I', rz, b, ez, ex⟩ := I.after hq
      subst ez
      obtain rfl : w = Value.bool b := rz
      exact ⟨.bl b, H', I', rfl, ex⟩
    | next => exact False.elim hq
    | brk => exact False.elim hq
    | cont => exact False.elim hq
end
section
variable {K : PySem.W.Frag} {H : Hp} {Q : VK} {y : V} {sp : Sp}
theorem w_own {C a dx : Addr} {fs : List (Str × V)} {t : Value} (h : H a = some (.ins C dx fs)) (ty : tyR K H y t) (nf : PySem.W.notFirst K C t = true) (q : sp [.ref a, y] H (fun v H' => ∃ b, v = .bl b ∧ Q (.bl b) H') E0) : rOwn K C sp (.ref a) y H Q :=
  ⟨a, dx, fs, t, rfl, h, ty, nf, q⟩
theorem tyR_ins {b C dx : Addr} {fs : List (Str × V)} (h : H b = some (.ins C dx fs)) : tyR K H (.ref b) (.ref C) := .inl ⟨C, dx, fs, b, rfl, h, rfl⟩
theorem tyR_lst {b : Addr} {xs : List V} (h : H b = some (.lst xs)) : tyR K H (.ref b) (.type "list") := .inr (.inr (.inr (.inr (.inr (.inl ⟨b, xs, rfl, h, rfl⟩)))))
theorem tyR_tup {b : Addr} {xs : List V} (h : H b = some (.tup xs)) : tyR K H (.ref b) (.type "tuple") := .inr (.inr (.inr (.inr (.inr (.inr ⟨b, xs, rfl, h, rfl⟩)))))
theorem nf_same {C : Addr} : PySem.W.notFirst K C (.ref C) = true := by
  unfold PySem.W.notFirst
  have e : ((Value.ref C) == (Value.ref C)) = true := beq_self_eq_true _
  rw [e]
  rfl
end

/-! ### isinstance -/
/-- what an own class has for isinstance of its instances -/
structure InsC (K : PySem.W.Frag) (C : Addr) : Prop where
  cl : Cls K C
  ha : PySem.W.findIn K (.ref C) "__class__" = some (some (.builtin "object.__class__"))
  hn : PySem.W.specialIn K (.builtin "object.__class__") "__get__" = some (some (.builtin "getset_descriptor.__get__"))
  ht : PySem.W.takesIn K (.builtin "object.__class__") = some true
  hm : PySem.W.mroIn K C (.type "object") = some true
def insB (c : Str) : Ex := fun K => He.Fa.ok K (.cls c) && (He.eqO (PySem.W.findIn K (.ref (He.ga K c)) "__class__") (some (some (.builtin "object.__class__"))) &&
  (He.eqO (PySem.W.specialIn K (.builtin "object.__class__") "__get__") (some (some (.builtin "getset_descriptor.__get__"))) &&
  (decide (PySem.W.takesIn K (.builtin "object.__class__") = some true) && decide (PySem.W.mroIn K (He.ga K c) (.type "object") = some true))))
theorem insB_ok {K : PySem.W.Frag} {c : Str} (h : insB c K = true) : InsC K (He.ga K c) := by
  obtain ⟨h0, h⟩ := He.ba h
  obtain ⟨h1, h⟩ := He.ba h
  obtain ⟨h2, h⟩ := He.ba h
  obtain ⟨h3, h4⟩ := He.ba h
  exact ⟨He.cls_ok h0, He.eqO_ok h1, He.eqO_ok h2, of_decide_eq_true h3, of_decide_eq_true h4⟩
/-- isinstance of a built-in type's values and an own class; of an own class's instances and a class -/
def kitTB (t : String) (c : Str) (b : Bool) : Ex := fun K => decide (PySem.W.kitOne K (.type t) (.ref (He.ga K c)) = some b)
def kitOB (c d : Str) (b : Bool) : Ex := fun K => decide (PySem.W.kitOne K (.ref (He.ga K c)) (.ref (He.ga K d)) = some b)
def kitUB (c : Str) (t : String) (b : Bool) : Ex := fun K => decide (PySem.W.kitOne K (.ref (He.ga K c)) (.type t) = some b)
def nfB (c : Str) (t : String) : Ex := fun K => PySem.W.notFirst K (He.ga K c) (.type t)
def nfOB (c d : Str) : Ex := fun K => PySem.W.notFirst K (He.ga K c) (.ref (He.ga K d))
def tupX (x : Str) (vs : List He.Dv) : Ex := fun K => He.tupB K x vs
def lstX (x : Str) (vs : List He.Dv) : Ex := fun K => He.lstB K x vs
def excCB (c : Str) : Ex := fun K => He.eqO (PySem.W.findIn K (.ref (He.ga K c)) "__getattribute__") (some (some (.builtin "BaseException.__getattribute__"))) &&
  (He.eqO (PySem.W.findIn K (.ref (He.ga K c)) "__getattr__") (some none) && (decide (PySem.W.subIn K (.ref (He.ga K c)) (.type "BaseException") = some true) && (PySem.W.hasDictIn K (He.ga K c) &&
  (He.eqO (PySem.W.findIn K (.ref (He.ga K c)) "__class__") (some (some (.builtin "object.__class__"))) && (He.eqO (PySem.W.specialIn K (.builtin "object.__class__") "__get__") (some (some (.builtin "getset_descriptor.__get__"))) &&
  (decide (PySem.W.takesIn K (.builtin "object.__class__") = some true) && decide (PySem.W.mroIn K (He.ga K c) (.type "object") = some true)))))))
theorem excCB_ok {K : PySem.W.Frag} {c : Str} (h : excCB c K = true) : ExcC K (He.ga K c) := by
  obtain ⟨h1, h⟩ := He.ba h
  obtain ⟨h2, h⟩ := He.ba h
  obtain ⟨h3, h⟩ := He.ba h
  obtain ⟨h4, h⟩ := He.ba h
  obtain ⟨h5, h⟩ := He.ba h
  obtain ⟨h6, h⟩ := He.ba h
  obtain ⟨h7, h8⟩ := He.ba h
  exact ⟨He.eqO_ok h1, He.eqO_ok h2, of_decide_eq_true h3, h4, He.eqO_ok h5, He.eqO_ok h6, of_decide_eq_true h7, of_decide_eq_true h8⟩
/-- isinstance(e, c) in a suite -/
def rIsX (K : PySem.W.Frag) (a : Addr) (clX : Value) (dX : Option Addr) : List V → Hp → VK → Prop := fun xs H Q => ∃ (D : Addr) (c : V) (cv : Value) (b : Bool), clX = .ref D ∧ dX = none ∧ ExcC K D ∧ xs = [.ref a, c] ∧ ClsV c cv ∧ PySem.W.kitOne K (.ref D) cv = some b ∧ Q (.bl b) H
theorem call_isX {X : Cx} {a : Addr} {clX : Value} {dX : Option Addr} {oe : Obj} {pn : List (Addr × Obj)} (hz : Zc clX dX oe) (hf : ∃ vs, oe.data = .fields vs) : CallR (X.suite a ((a, oe) :: pn)) (.builtin "isinstance") (rIsX X.K a clX dX) := by
  intro pins s σ H xs us Q I r h
  obtain ⟨D, c, cv, b, e1, e2, C, ex, hc, k, q⟩ := h
  subst e1 e2
  exact call_isE C hz hf pins s σ H xs us Q I r ⟨c, cv, b, ex, fun u ru => hc.eq ru, k, q⟩
section
variable {K : PySem.W.Frag} {σ : L2.St} {H : Hp} {Q : VK}
theorem w_isX {a D : Addr} {c : V} {cv : Value} {b : Bool} (C : ExcC K D) (hc : ClsV c cv) (k : PySem.W.kitOne K (.ref D) cv = some b) (q : Q (.bl b) H) : rIsX K a (.ref D) none [.ref a, c] H Q := ⟨D, c, cv, b, rfl, rfl, C, rfl, hc, k, q⟩
theorem w_isi {x c : V} {t u : Value} {b : Bool} (k : ClsV c u) (ty : TyX K H x t) (e : PySem.W.kitOne K t u = some b) (q : Q (.bl b) H) : rIsi K [x, c] H Q := ⟨x, c, t, u, b, rfl, k, ty, e, q⟩
theorem w_isi_ii {i : Int} (q : Q (.bl true) H) : rIsi K [.int i, .ty "int"] H Q := w_isi (.ty _) (.base (.int _)) (kit_ty (by decide +kernel)) q
instance (priority := 900) i_w_isi_ii {i : Int} : Stp (rIsi K [.int i, .ty "int"] H Q) (Q (.bl true) H) := ⟨w_isi_ii⟩
theorem w_isi_ib {i : Int} (q : Q (.bl false) H) : rIsi K [.int i, .ty "bool"] H Q := w_isi (.ty _) (.base (.int _)) (kit_ty (by decide +kernel)) q
instance (priority := 900) i_w_isi_ib {i : Int} : Stp (rIsi K [.int i, .ty "bool"] H Q) (Q (.bl false) H) := ⟨w_isi_ib⟩
theorem w_isi_is {i : Int} (q : Q (.bl false) H) : rIsi K [.int i, .ty "str"] H Q := w_isi (.ty _) (.base (.int _)) (kit_ty (by decide +kernel)) q
instance (priority := 900) i_w_isi_is {i : Int} : Stp (rIsi K [.int i, .ty "str"] H Q) (Q (.bl false) H) := ⟨w_isi_is⟩
theorem w_isi_il {i : Int} (q : Q (.bl false) H) : rIsi K [.int i, .ty "list"] H Q := w_isi (.ty _) (.base (.int _)) (kit_ty (by decide +kernel)) q
instance (priority := 900) i_w_isi_il {i : Int} : Stp (rIsi K [.int i, .ty "list"] H Q) (Q (.bl false) H) := ⟨w_isi_il⟩
theorem w_isi_it {i : Int} (q : Q (.bl false) H) : rIsi K [.int i, .ty "tuple"] H Q := w_isi (.ty _) (.base (.int _)) (kit_ty (by decide +kernel)) q
instance (priority := 900) i_w_isi_it {i : Int} : Stp (rIsi K [.int i, .ty "tuple"] H Q) (Q (.bl false) H) := ⟨w_isi_it⟩
theorem w_isi_bi {i : Bool} (q : Q (.bl true) H) : rIsi K [.bl i, .ty "int"] H Q := w_isi (.ty _) (.base (.bl _)) (kit_ty (by decide +kernel)) q
instance (priority := 900) i_w_isi_bi {i : Bool} : Stp (rIsi K [.bl i, .ty "int"] H Q) (Q (.bl true) H) := ⟨w_isi_bi⟩
theorem w_isi_bb {i : Bool} (q : Q (.bl true) H) : rIsi K [.bl i, .ty "bool"] H Q := w_isi (.ty _) (.base (.bl _)) (kit_ty (by decide +kernel)) q
instance (priority := 900) i_w_isi_bb {i : Bool} : Stp (rIsi K [.bl i, .ty "bool"] H Q) (Q (.bl true) H) := ⟨w_isi_bb⟩
theorem w_isi_ss {i : Str} (q : Q (.bl true) H) : rIsi K [.str i, .ty "str"] H Q := w_isi (.ty _) (.base (.str _)) (kit_ty (by decide +kernel)) q
instance (priority := 900) i_w_isi_ss {i : Str} : Stp (rIsi K [.str i, .ty "str"] H Q) (Q (.bl true) H) := ⟨w_isi_ss⟩
theorem w_isi_sl {i : Str} (q : Q (.bl false) H) : rIsi K [.str i, .ty "list"] H Q := w_isi (.ty _) (.base (.str _)) (kit_ty (by decide +kernel)) q
instance (priority := 900) i_w_isi_sl {i : Str} : Stp (rIsi K [.str i, .ty "list"] H Q) (Q (.bl false) H) := ⟨w_isi_sl⟩
theorem w_isi_st {i : Str} (q : Q (.bl false) H) : rIsi K [.str i, .ty "tuple"] H Q := w_isi (.ty _) (.base (.str _)) (kit_ty (by decide +kernel)) q
instance (priority := 900) i_w_isi_st {i : Str} : Stp (rIsi K [.str i, .ty "tuple"] H Q) (Q (.bl false) H) := ⟨w_isi_st⟩
theorem w_isi_nl (q : Q (.bl false) H) : rIsi K [.non, .ty "list"] H Q := w_isi (.ty _) (.base .non) (kit_ty (by decide +kernel)) q
instance (priority := 900) i_w_isi_nl  : Stp (rIsi K [.non, .ty "list"] H Q) (Q (.bl false) H) := ⟨w_isi_nl⟩
theorem w_isi_nt (q : Q (.bl false) H) : rIsi K [.non, .ty "tuple"] H Q := w_isi (.ty _) (.base .non) (kit_ty (by decide +kernel)) q
instance (priority := 900) i_w_isi_nt  : Stp (rIsi K [.non, .ty "tuple"] H Q) (Q (.bl false) H) := ⟨w_isi_nt⟩
theorem w_isi_ll {a : Addr} {xs : List V} (h : H a = some (.lst xs)) (q : Q (.bl true) H) : rIsi K [.ref a, .ty "list"] H Q := w_isi (.ty _) (.base (.lst h)) (kit_ty (by decide +kernel)) q
theorem w_isi_lt {a : Addr} {xs : List V} (h : H a = some (.lst xs)) (q : Q (.bl false) H) : rIsi K [.ref a, .ty "tuple"] H Q := w_isi (.ty _) (.base (.lst h)) (kit_ty (by decide +kernel)) q
theorem w_isi_li {a : Addr} {xs : List V} (h : H a = some (.lst xs)) (q : Q (.bl false) H) : rIsi K [.ref a, .ty "int"] H Q := w_isi (.ty _) (.base (.lst h)) (kit_ty (by decide +kernel)) q
theorem w_isi_tt {a : Addr} {xs : List V} (h : H a = some (.tup xs)) (q : Q (.bl true) H) : rIsi K [.ref a, .ty "tuple"] H Q := w_isi (.ty _) (.base (.tup h)) (kit_ty (by decide +kernel)) q
theorem w_isi_tl {a : Addr} {xs : List V} (h : H a = some (.tup xs)) (q : Q (.bl false) H) : rIsi K [.ref a, .ty "list"] H Q := w_isi (.ty _) (.base (.tup h)) (kit_ty (by decide +kernel)) q
theorem w_isi_own {a C dx : Addr} {fs : List (Str × V)} {c : V} {u : Value} {b : Bool} (h : H a = some (.ins C dx fs)) (i : InsC K C) (k : ClsV c u) (e : PySem.W.kitOne K (.ref C) u = some b) (q : Q (.bl b) H) : rIsi K [.ref a, c] H Q :=
  w_isi k (.base (.ins h i.cl i.ha i.hn i.ht i.hm)) e q
end
end G

/-! == of lists and tuples, by data -/
namespace G
open PySem PySem.Spec PyProof.Rows L2
abbrev rIsB : R2 := fun x y H Q => ∃ a b, x = .bl a ∧ y = .bl b ∧ Q (.bl (decide (a = b))) H
abbrev rNotB : R2 := fun x y H Q => ∃ a b, x = .bl a ∧ y = .bl b ∧ Q (.bl (!decide (a = b))) H
section
variable {K : PySem.W.Frag} {H : Hp} {Q : VK} {x y : V} {d e : PyData} {xs ys : List Int} {a b : Addr}
theorem w_isB {p q : Bool} (h : Q (.bl (decide (p = q))) H) : rIsB (.bl p) (.bl q) H Q := ⟨p, q, rfl, rfl, h⟩
instance (priority := 900) i_w_isB {p q : Bool} : Stp (rIsB (.bl p) (.bl q) H Q) (Q (.bl (decide (p = q))) H) := ⟨w_isB⟩
theorem w_notB {p q : Bool} (h : Q (.bl (!decide (p = q))) H) : rNotB (.bl p) (.bl q) H Q := ⟨p, q, rfl, rfl, h⟩
instance (priority := 900) i_w_notB {p q : Bool} : Stp (rNotB (.bl p) (.bl q) H Q) (Q (.bl (!decide (p = q))) H) := ⟨w_notB⟩
theorem dp_ints : ∀ xs : List Int, DpAll K H (xs.map V.int) (xs.map PyData.int)
  | [] => .nil
  | x :: xs => .cons (.int x) (dp_ints xs)
theorem eqv_ints : ∀ xs ys : List Int, PyData.eqvAll (xs.map PyData.int) (ys.map PyData.int) = decide (xs = ys)
  | [], [] => by simp [PyData.eqvAll]
  | [], y :: ys => by simp [PyData.eqvAll]
  | x :: xs, [] => by simp [PyData.eqvAll]
  | x :: xs, y :: ys => by
    have h := eqv_ints xs ys
    show (PyData.eqv (.int x) (.int y) && PyData.eqvAll (xs.map PyData.int) (ys.map PyData.int)) = _
    rw [h]
    unfold PyData.eqv
    by_cases h1 : x = y <;> by_cases h2 : xs = ys <;> simp [h1, h2]
theorem lay_ints : ∀ xs : List Int, PyData.canLayAll0 (xs.map PyData.int) = true
  | [] => rfl
  | x :: xs => by
    show (PyData.canLay0 (.int x) && PyData.canLayAll0 (xs.map PyData.int)) = true
    rw [lay_ints xs]
    rfl
theorem depth_ints : ∀ xs : List Int, PyData.depthAll (xs.map PyData.int) = 0
  | [] => by simp [PyData.depthAll]
  | x :: xs => by
    have h := depth_ints xs
    simp only [List.map_cons, PyData.depthAll, PyData.depth, h]
    rfl
theorem shaped_li : SeqAt.shaped (.list (xs.map PyData.int)) = true := by
  unfold SeqAt.shaped
  have h := lay_ints xs
  have h2 := depth_ints xs
  simp [PyData.canLay0, PyData.depth, h, h2]
theorem shaped_ti : SeqAt.shaped (.tuple (xs.map PyData.int)) = true := by
  unfold SeqAt.shaped
  have h := lay_ints xs
  have h2 := depth_ints xs
  simp [PyData.canLay0, PyData.depth, h, h2]
theorem w_eqLI (h1 : SqL K H a (xs.map V.int)) (h2 : SqL K H b (ys.map V.int)) (q : Q (.bl (decide (xs = ys))) H) : rEqD K (.ref a) (.ref b) H Q :=
  ⟨_, _, .lst h1 (dp_ints xs), .lst h2 (dp_ints ys), shaped_li, shaped_li, by
    show Q (.bl (PyData.eqvAll _ _)) H
    rw [eqv_ints]; exact q⟩
theorem w_neLI (h1 : SqL K H a (xs.map V.int)) (h2 : SqL K H b (ys.map V.int)) (q : Q (.bl (!decide (xs = ys))) H) : rNeD K (.ref a) (.ref b) H Q :=
  ⟨_, _, .lst h1 (dp_ints xs), .lst h2 (dp_ints ys), shaped_li, shaped_li, by
    show Q (.bl (!PyData.eqvAll _ _)) H
    rw [eqv_ints]; exact q⟩
theorem w_eqTI (h1 : SqT K H a (xs.map V.int)) (h2 : SqT K H b (ys.map V.int)) (q : Q (.bl (decide (xs = ys))) H) : rEqD K (.ref a) (.ref b) H Q :=
  ⟨_, _, .tup h1 (dp_ints xs), .tup h2 (dp_ints ys), shaped_ti, shaped_ti, by
    show Q (.bl (PyData.eqvAll _ _)) H
    rw [eqv_ints]; exact q⟩
theorem w_neTI (h1 : SqT K H a (xs.map V.int)) (h2 : SqT K H b (ys.map V.int)) (q : Q (.bl (!decide (xs = ys))) H) : rNeD K (.ref a) (.ref b) H Q :=
  ⟨_, _, .tup h1 (dp_ints xs), .tup h2 (dp_ints ys), shaped_ti, shaped_ti, by
    show Q (.bl (!PyData.eqvAll _ _)) H
    rw [eqv_ints]; exact q⟩
theorem w_eqL' {vs ws : List V} (xs ys : List Int) (h1 : SqL K H a vs) (h2 : SqL K H b ws) (q : Q (.bl (decide (xs = ys))) H) (e1 : vs = xs.map V.int := by rfl) (e2 : ws = ys.map V.int := by rfl) : rEqD K (.ref a) (.ref b) H Q := by
  subst e1 e2
  exact w_eqLI h1 h2 q
theorem w_neL' {vs ws : List V} (xs ys : List Int) (h1 : SqL K H a vs) (h2 : SqL K H b ws) (q : Q (.bl (!decide (xs = ys))) H) (e1 : vs = xs.map V.int := by rfl) (e2 : ws = ys.map V.int := by rfl) : rNeD K (.ref a) (.ref b) H Q := by
  subst e1 e2
  exact w_neLI h1 h2 q
theorem w_eqT' {vs ws : List V} (xs ys : List Int) (h1 : SqT K H a vs) (h2 : SqT K H b ws) (q : Q (.bl (decide (xs = ys))) H) (e1 : vs = xs.map V.int := by rfl) (e2 : ws = ys.map V.int := by rfl) : rEqD K (.ref a) (.ref b) H Q := by
  subst e1 e2
  exact w_eqTI h1 h2 q
theorem w_neT' {vs ws : List V} (xs ys : List Int) (h1 : SqT K H a vs) (h2 : SqT K H b ws) (q : Q (.bl (!decide (xs = ys))) H) (e1 : vs = xs.map V.int := by rfl) (e2 : ws = ys.map V.int := by rfl) : rNeD K (.ref a) (.ref b) H Q := by
  subst e1 e2
  exact w_neTI h1 h2 q
/-! by data -/
theorem w_eqD (h1 : Dp K H x d) (h2 : Dp K H y e) (s1 : SeqAt.shaped d = true) (s2 : SeqAt.shaped e = true) (q : Q (.bl (PyData.eqv d e)) H) : rEqD K x y H Q := ⟨d, e, h1, h2, s1, s2, q⟩
theorem w_neD (h1 : Dp K H x d) (h2 : Dp K H y e) (s1 : SeqAt.shaped d = true) (s2 : SeqAt.shaped e = true) (q : Q (.bl (!PyData.eqv d e)) H) : rNeD K x y H Q := ⟨d, e, h1, h2, s1, s2, q⟩
mutual
theorem eqv_refl : ∀ d : PyData, d.canLay0 = true → PyData.eqv d d = true
  | .none, _ => by simp [PyData.eqv]
  | .bool b, _ => by simp [PyData.eqv]
  | .int i, _ => by simp [PyData.eqv]
  | .str s, _ => by simp [PyData.eqv]
  | .list xs, h => by
    have := eqvAll_refl xs (by simpa [PyData.canLay0] using h)
    simpa [PyData.eqv] using this
  | .tuple xs, h => by
    have := eqvAll_refl xs (by simpa [PyData.canLay0] using h)
    simpa [PyData.eqv] using this
  | .dict _, h => by simp [PyData.canLay0] at h
theorem eqvAll_refl : ∀ ds : List PyData, PyData.canLayAll0 ds = true → PyData.eqvAll ds ds = true
  | [], _ => by simp [PyData.eqvAll]
  | d :: ds, h => by
    have h1 : PyData.canLay0 d = true ∧ PyData.canLayAll0 ds = true := by simpa [PyData.canLayAll0] using h
    have := eqv_refl d h1.1
    have := eqvAll_refl ds h1.2
    simp [PyData.eqvAll, *]
end
theorem eqv_self {d : PyData} (h : SeqAt.shaped d = true) : PyData.eqv d d = true := eqv_refl d (SeqAt.canLay_of_shaped h)
end
end G

/-! heaps that grow; the drawn cells, as any numbers -/
namespace G
open PySem PySem.Spec PyProof.Rows L2
/-- grown, but for p -/
def ExtP (p : Addr) (H H' : Hp) : Prop := ∀ a o, a ≠ p → H a = some o → H' a = some o
section
variable {K : PySem.W.Frag} {H H1 H' : Hp} {a b p q : Addr} {o u o' : HO} {xs : List V}
theorem ext_get (e : Ext H H') (h : H b = some u) : H' b = some u := e _ _ h
theorem extp_get (e : ExtP p H H') (n : b ≠ p) (h : H b = some u) : H' b = some u := e _ _ n h
theorem ext_toP (e : Ext H H') : ExtP p H H' := fun a o _ h => e a o h
theorem ExtP.rfl' : ExtP p H H := fun _ _ _ h => h
theorem ExtP.trans (e : ExtP p H H1) (f : ExtP p H1 H') : ExtP p H H' := fun a o n h => f a o n (e a o n h)
theorem ext_via (f : Ext H1 H') (e : Ext H H1) : Ext H H' := e.trans f
theorem extp_via (f : ExtP p H1 H') (e : ExtP p H H1) : ExtP p H H' := e.trans f
theorem extp_viae (f : Ext H1 H') (e : ExtP p H H1) : ExtP p H H' := e.trans (ext_toP f)
theorem ext_up (n : H1 a = none) (e : Ext H H1) : Ext H (upd H1 a o) := fun b u h => up_n (e b u h) n
theorem extp_up (n : H1 a = none) (e : ExtP p H H1) : ExtP p H (upd H1 a o) := fun b u hb h => up_n (e b u hb h) n
theorem extp_put (e : ExtP p H H1) : ExtP p H (upd H1 p o) := fun b u hb h => up_k (e b u hb h) hb
/-- an object that was made since is written -/
theorem ext_put (n : H a = none) (e : Ext H H1) : Ext H (upd H1 a o) := fun b u h => up_k (e b u h) (ne_of_none h n)
theorem extp_putn (n : H a = none) (e : ExtP p H H1) : ExtP p H (upd H1 a o) := fun b u hb h => up_k (e b u hb h) (ne_of_none h n)
theorem ext_of_extp (n : H p = none) (e : ExtP p H H') : Ext H H' := fun a o h => e a o (ne_of_none h n) h
theorem extp_of_extp (n : H q = none) (e : ExtP q H H') : ExtP p H H' := ext_toP (ext_of_extp n e)
theorem ext_thr (n : H p = none) (f : ExtP p H1 H') (e : Ext H H1) : Ext H H' := fun a o h => f a o (ne_of_none h n) (e a o h)
theorem extp_thr (n : H q = none) (f : ExtP q H1 H') (e : ExtP p H H1) : ExtP p H H' := fun a o hp h => f a o (ne_of_none h n) (e a o hp h)
theorem Scr.ext (h : Scr K H a xs) (e : Ext H H') : Scr K H' a xs := h.same e
theorem scr_ext (e : Ext H H') (h : Scr K H a xs) : Scr K H' a xs := h.same e
theorem scr_extp (e : ExtP p H H') (n : Thw H p) (h : Scr K H a xs) : Scr K H' a xs := h.frz fun b o u hb => e b _ (fun z => by subst z; exact n o u hb) hb
theorem scr_extn (e : ExtP p H H') (n : H p = none) (h : Scr K H a xs) : Scr K H' a xs := h.frz fun b o u hb => e b _ (ne_of_none hb n) hb
theorem sq_ext (e : Ext H H') (h : SqL K H a xs) : SqL K H' a xs := h.ext e
theorem sqt_ext (e : Ext H H') (h : SqT K H a xs) : SqT K H' a xs := h.ext e
theorem SqT.of' (h : H a = some (.tup xs)) : SqT K H a xs := .inl (.inl h)
theorem ne_of' (h1 : H a = some o) (h2 : H b = some u) (n : o ≠ u) : a ≠ b := fun e => by
  subst e
  rw [h1] at h2
  cases h2
  exact n rfl
theorem up_nn (n : H a = none) (h : H b = some u) : upd H a o b = some u := up_n h n
theorem none_dn (h : upd H a o b = none) : H b = none := (up_none h).2
theorem up_ko (h : H b = some u) (h2 : H a = some o') (n : u ≠ o') : upd H a o b = some u := up_k h (ne_of' h h2 n)
end
/-! ### promises -/
def gsCell (K : PySem.W.Frag) : Sp := fun vs H Q _ => ∃ (a : Addr) (ns : List Int) (k : Int), vs = [.ref a, .int k] ∧ SqL K H a (ns.map V.int) ∧ 0 ≤ k ∧ ∀ n, Q (.int n) H
def gsStart (K : PySem.W.Frag) : Sp := fun vs H Q _ => ∃ (c k : Int), vs = [.int c, .int k] ∧ ∀ n p, H p = none → Q (.ref p) (upd H p (.lst [.int n]))
def gsDigit (K : PySem.W.Frag) : Sp := fun vs H Q _ => ∃ (p : Addr) (n m : Int), vs = [.ref p, .int m] ∧ H p = some (.lst [.int n]) ∧ 0 < m ∧ m < 1099511627776 ∧
  ∀ d n', 0 ≤ d → d < m → Q (.int d) (upd H p (.lst [.int n']))
/-- a bool or not, by isinstance: an integer -/
def gsIsInt (K : PySem.W.Frag) : Sp := fun vs H Q _ => ∃ (x : V), vs = [x] ∧ ((∃ i, x = .int i ∧ Q (.bl true) H) ∨ (∃ b, x = .bl b ∧ Q (.bl false) H))
section
variable {K : PySem.W.Frag} {H : Hp} {Q : VK} {E : XK} {a p : Addr} {k m n c : Int} {ns : List Int}
theorem c_cell (hS : SqL K H a (ns.map V.int)) (h0 : 0 ≤ k) (q : ∀ n, Q (.int n) H) : gsCell K [.ref a, .int k] H Q E := ⟨a, ns, k, rfl, hS, h0, q⟩
theorem c_start (q : ∀ n p, H p = none → Q (.ref p) (upd H p (.lst [.int n]))) : gsStart K [.int c, .int k] H Q E := ⟨c, k, rfl, q⟩
theorem c_digit (h : H p = some (.lst [.int n])) (h0 : 0 < m) (h1 : m < 1099511627776) (q : ∀ d n', 0 ≤ d → d < m → Q (.int d) (upd H p (.lst [.int n']))) : gsDigit K [.ref p, .int m] H Q E := ⟨p, n, m, rfl, h, h0, h1, q⟩
theorem c_isint (q : Q (.bl true) H) : gsIsInt K [.int n] H Q E := ⟨_, rfl, .inl ⟨n, rfl, q⟩⟩
end
theorem pr_pow (i : Nat) (h : i < 4) : (618970019642690137449562111 : Int) ^ i < 618970019642690137449562111 ^ 3 + 1 ∧ (0 : Int) < 618970019642690137449562111 ^ i := by
  have : i = 0 ∨ i = 1 ∨ i = 2 ∨ i = 3 := by omega
  rcases this with rfl | rfl | rfl | rfl <;> decide +kernel
theorem num_step {n m q : Int} (h0 : 0 ≤ n) (h1 : n < q) (h2 : 0 ≤ m) (h3 : m < 618970019642690137449562111) : 0 ≤ n * 618970019642690137449562111 + m ∧ n * 618970019642690137449562111 + m < q * 618970019642690137449562111 := by omega
theorem small_w {x : Int} (h0 : 0 ≤ x) (h : x < 618970019642690137449562111 ^ 3 + 1) : x.natAbs < 2 ^ 300 := by
  have e : (618970019642690137449562111 : Int) ^ 3 + 1 < ((2 ^ 300 : Nat) : Int) := by decide +kernel
  have e2 : x < ((2 ^ 300 : Nat) : Int) := Int.lt_trans h e
  omega
theorem ints_at {gs : List Int} {j : Nat} {z : Int} (h : gs[j]? = some z) {k : Int} (e : k = (j : Int)) : atI (gs.map V.int) k = some (V.int z) := at_of e (by rw [List.getElem?_map, h]; rfl)
theorem digit_div {m : Int} (h0 : 0 < m) (h1 : m < 1099511627776) : ∀ i : Int, CDivW i m := fun i => wide_div (b := 40) h0 (by omega) (by decide) (by decide)
/-! ### slices of lists of integers -/
theorem sum_app (xs ys : List Int) : (xs ++ ys).sum = xs.sum + ys.sum := by
  induction xs with
  | nil => simp
  | cons a r ih => rw [List.cons_append, List.sum_cons, List.sum_cons, ih]; omega
end G

/-! comprehensions whose turns only make objects; slices; indexing -/
namespace G
open PySem PySem.Spec PyProof.Rows L2
section
variable {K : PySem.W.Frag} {σ : L2.St} {H : Hp} {Q : VK} {g : TG} {tt : TT} {te : TE} {vs : List Nat} {tA : TA} {tl : TE}
def rLc (J : It) (g : TG) (tt : TT) (te : TE) (vs : List Nat) (σ : L2.St) (H1 : Hp) (Q : VK) : Prop := ∀ D, H1 D = none → ∃ W : Nat → Nat → Hp → Prop, (∃ m, W 0 m (upd H1 D (.lst []))) ∧ ∀ i m H, W i m H →
  (J.stop i H ∧ Q (.ref D) H) ∨ (J.go i H ∧ ∃ Nx : Hp → Prop, (∀ H', Nx H' → ∃ m', m' < m ∧ W (i + 1) m' H') ∧ ∀ x H', J.yld i H x H' → g x (wipe σ vs) H' fun σ2 H2 => wipe σ2 vs = wipe σ vs ∧ tt σ2 H2 fun b H3 =>
    if b = true then te σ2 H3 fun y H4 => ∃ acc, H4 D = some (.lst acc) ∧ acc.length < sizeLine ∧ Nx (upd H4 D (.lst (acc ++ [y]))) else Nx H3)
def rLcR1 (g : TG) (tt : TT) (te : TE) (ws : List Nat) (σ : L2.St) (Q : VK) (vs : List V) (H1 : Hp) : Prop := ∃ j : Int, vs = [.int j] ∧ -(2 ^ 62) ≤ j ∧ j < 2 ^ 62 ∧ rLc (Itr 0 j.toNat) g tt te ws σ H1 Q
def rLcR2 (g : TG) (tt : TT) (te : TE) (ws : List Nat) (σ : L2.St) (Q : VK) (vs : List V) (H1 : Hp) : Prop := ∃ i j : Int, vs = [.int i, .int j] ∧ (-(2 ^ 62) ≤ i ∧ i < 2 ^ 62 ∧ -(2 ^ 62) ≤ j ∧ j < 2 ^ 62) ∧ rLc (Itr i (j - i).toNat) g tt te ws σ H1 Q
def rLcL (K : PySem.W.Frag) (g : TG) (tt : TT) (te : TE) (ws : List Nat) (σ : L2.St) (Q : VK) (x : V) (H1 : Hp) : Prop := ∃ a, x = .ref a ∧ (∃ xs, SqL K H1 a xs) ∧ rLc (Itl K a) g tt te ws σ H1 Q
def rLcT (K : PySem.W.Frag) (g : TG) (tt : TT) (te : TE) (ws : List Nat) (σ : L2.St) (Q : VK) (x : V) (H1 : Hp) : Prop := ∃ a, x = .ref a ∧ (∃ xs, SqT K H1 a xs) ∧ rLc (Itt K a) g tt te ws σ H1 Q
theorem w_lcR1 (h : tA σ H fun ws H1 => rLcR1 g tt te vs σ Q ws H1) : tLc (iRng1 tA) g tt te vs σ H Q := h
instance (priority := 900) i_w_lcR1  : Stp (tLc (iRng1 tA) g tt te vs σ H Q) (tA σ H fun ws H1 => rLcR1 g tt te vs σ Q ws H1) := ⟨w_lcR1⟩
theorem w_lcR2 (h : tA σ H fun ws H1 => rLcR2 g tt te vs σ Q ws H1) : tLc (iRng2 tA) g tt te vs σ H Q := h
instance (priority := 900) i_w_lcR2  : Stp (tLc (iRng2 tA) g tt te vs σ H Q) (tA σ H fun ws H1 => rLcR2 g tt te vs σ Q ws H1) := ⟨w_lcR2⟩
theorem w_lcL (h : tl σ H fun x H1 => rLcL K g tt te vs σ Q x H1) : tLc (iList K tl) g tt te vs σ H Q := h
instance (priority := 900) i_w_lcL  : Stp (tLc (iList K tl) g tt te vs σ H Q) (tl σ H fun x H1 => rLcL K g tt te vs σ Q x H1) := ⟨w_lcL⟩
theorem w_lcT (h : tl σ H fun x H1 => rLcT K g tt te vs σ Q x H1) : tLc (iTup K tl) g tt te vs σ H Q := h
instance (priority := 900) i_w_lcT  : Stp (tLc (iTup K tl) g tt te vs σ H Q) (tl σ H fun x H1 => rLcT K g tt te vs σ Q x H1) := ⟨w_lcT⟩
theorem wipe1 {v : Nat} {x : Option V} : wipe ((wipe σ [v]).set v x) [v] = wipe σ [v] := by
  show ((σ.set v none).set v x).set v none = σ.set v none
  rw [List.set_set, List.set_set]
def LcAdd (D : Addr) (Pv : Nat → Hp → Prop) (i : Nat) (y : V) (H4 : Hp) : Prop := ∃ acc, H4 D = some (.lst acc) ∧ acc.length < sizeLine ∧ Pv (i + 1) (upd H4 D (.lst (acc ++ [y])))
/-- grown only, the list so far at D -/
def PvE (H : Hp) (D : Addr) (A : Nat → List V) (i : Nat) (H' : Hp) : Prop := Ext H H' ∧ H' D = some (.lst (A i))
theorem lc_add {D : Addr} {A : Nat → List V} {i : Nat} {y : V} {H4 : Hp} (h : H4 D = some (.lst (A i))) (e : Ext H H4) (n : H D = none) (ha : A (i + 1) = A i ++ [y]) (hl : (A i).length < sizeLine) : LcAdd D (PvE H D A) i y H4 :=
  ⟨A i, h, hl, ext_put n e, by rw [upd_same, ha]⟩
theorem lc_skip {D : Addr} {A : Nat → List V} {i : Nat} {H3 : Hp} (h : H3 D = some (.lst (A i))) (e : Ext H H3) (ha : A (i + 1) = A i) : PvE H D A (i + 1) H3 := ⟨e, by rw [ha]; exact h⟩
/-- over any walk, growth only: A i the list so far -/
theorem lcE {J : It} {n : Nat} {G : Hp → Prop} {Y : Nat → Hp → V → Hp → Prop} (w : Walk J n G Y) (A : Nat → List V) (h0 : A 0 = []) (hG : ∀ H', Ext H H' → G H')
    (hs : ∀ i x D H1 H2, i < n → H D = none → Ext H H1 → H1 D = some (.lst (A i)) → Y i H1 x H2 → g x (wipe σ vs) H2 fun σ2 H2 => wipe σ2 vs = wipe σ vs ∧ tt σ2 H2 fun b H3 =>
      if b = true then te σ2 H3 fun y H4 => LcAdd D (PvE H D A) i y H4 else PvE H D A (i + 1) H3)
    (hd : ∀ D H1, H D = none → Ext H H1 → H1 D = some (.lst (A n)) → Q (.ref D) H1) : rLc J g tt te vs σ H Q := fun D hD =>
  lc_it w (PvE H D A) ⟨ext_up hD Ext.rfl', by rw [upd_same, h0]⟩ (fun i H' _ h => hG H' h.1) (fun i x H1 H2 hi h y => hs i x D H1 H2 hi hD h.1 h.2 y) fun H1 h => hd D H1 hD h.1 h.2
abbrev accM (fV : Nat → V) : Nat → List V := fun i => (List.range i).map fV
abbrev accF (p : Nat → Bool) (fV : Nat → V) : Nat → List V := fun i => ((List.range i).filter p).map fV
theorem accM_succ {fV : Nat → V} {i : Nat} : accM fV (i + 1) = accM fV i ++ [fV i] := by
  unfold accM
  rw [List.range_succ, List.map_append]
  rfl
theorem accM_len {fV : Nat → V} {i : Nat} : (accM fV i).length = i := by unfold accM; simp
theorem accF_yes {p : Nat → Bool} {fV : Nat → V} {i : Nat} (h : p i = true) : accF p fV (i + 1) = accF p fV i ++ [fV i] := by
  unfold accF
  rw [List.range_succ, List.filter_append, List.map_append]
  simp [h]
theorem accF_no {p : Nat → Bool} {fV : Nat → V} {i : Nat} (h : p i = false) : accF p fV (i + 1) = accF p fV i := by
  unfold accF
  rw [List.range_succ, List.filter_append, List.map_append]
  simp [h]
theorem accF_len {p : Nat → Bool} {fV : Nat → V} {i : Nat} : (accF p fV i).length ≤ i := by
  unfold accF
  rw [List.length_map]
  exact Nat.le_trans (List.length_filter_le _ _) (by simp)
theorem lc_one {D : Addr} {fV : Nat → V} {i : Nat} {y : V} {H4 : Hp} (h : H4 D = some (.lst (accM fV i))) (e : Ext H H4) (n : H D = none) (hi : i < 16000000) (ha : y = fV i) : LcAdd D (PvE H D (accM fV)) i y H4 :=
  lc_add h e n (by rw [accM_succ, ha]) (by rw [accM_len]; exact Nat.lt_trans hi (by decide))
theorem lc_onef {D : Addr} {p : Nat → Bool} {fV : Nat → V} {i : Nat} {y : V} {H4 : Hp} (h : H4 D = some (.lst (accF p fV i))) (e : Ext H H4) (n : H D = none) (hi : i < 16000000) (hp : p i = true) (ha : y = fV i) : LcAdd D (PvE H D (accF p fV)) i y H4 :=
  lc_add h e n (by rw [accF_yes hp, ha]) (Nat.lt_of_le_of_lt accF_len (Nat.lt_trans hi (by decide)))
theorem lc_nonef {D : Addr} {p : Nat → Bool} {fV : Nat → V} {i : Nat} {H3 : Hp} (h : H3 D = some (.lst (accF p fV i))) (e : Ext H H3) (hp : p i = false) : PvE H D (accF p fV) (i + 1) H3 :=
  lc_skip h e (accF_no hp)
/-! the usual ones: one name -/
variable {v : Nat} {j lo hi : Int}
theorem lcR1 {n : Nat} (fV : Nat → V) (hj : j = (n : Int)) (hn : n < 16000000) (hs : ∀ (i : Nat) D H1, i < n → H D = none → Ext H H1 → H1 D = some (.lst (accM fV i)) → te ((σ.set v none).set v (some (.int (i : Int)))) H1 fun y H4 => LcAdd D (PvE H D (accM fV)) i y H4)
    (hd : ∀ D H1, H D = none → Ext H H1 → H1 D = some (.lst (accM fV n)) → Q (.ref D) H1) : rLcR1 (gName v) tYes te [v] σ Q [.int j] H := by
  subst hj
  refine ⟨(n : Int), rfl, by omega, by omega, lcE walk_range (accM fV) rfl (fun _ _ => trivial) ?_ (by rw [Int.toNat_natCast]; exact hd)⟩
  rintro i x D H1 H2 hi hD e hA ⟨rfl, rfl⟩
  refine ⟨wipe1, ?_⟩
  show te ((σ.set v none).set v (some (.int (0 + (i : Int))))) H2 _
  rw [Int.zero_add]
  exact hs i D H2 (by omega) hD e hA
theorem lcR2 (fV : Nat → V) (hn : -4000000000 < lo ∧ lo < 4000000000 ∧ -4000000000 < hi ∧ hi < 4000000000) (hn2 : hi - lo < 16000000) (hs : ∀ (i : Nat) D H1, lo + i < hi → H D = none → Ext H H1 → H1 D = some (.lst (accM fV i)) → te ((σ.set v none).set v (some (.int (lo + (i : Int))))) H1 fun y H4 => LcAdd D (PvE H D (accM fV)) i y H4)
    (hd : ∀ D H1, H D = none → Ext H H1 → H1 D = some (.lst (accM fV (hi - lo).toNat)) → Q (.ref D) H1) : rLcR2 (gName v) tYes te [v] σ Q [.int lo, .int hi] H := by
  refine ⟨lo, hi, rfl, ⟨by omega, by omega, by omega, by omega⟩, lcE walk_range (accM fV) rfl (fun _ _ => trivial) ?_ hd⟩
  rintro i x D H1 H2 hi hD e hA ⟨rfl, rfl⟩
  exact ⟨wipe1, hs i D H2 (by omega) hD e hA⟩
theorem lcL {a : Addr} {xs : List V} (fV : Nat → V) (hx : SqL K H a xs) (hn : xs.length < 16000000) (hs : ∀ (i : Nat) x D H1, xs[i]? = some x → H D = none → Ext H H1 → H1 D = some (.lst (accM fV i)) → te ((σ.set v none).set v (some x)) H1 fun y H4 => LcAdd D (PvE H D (accM fV)) i y H4)
    (hd : ∀ D H1, H D = none → Ext H H1 → H1 D = some (.lst (accM fV xs.length)) → Q (.ref D) H1) : rLcL K (gName v) tYes te [v] σ Q (.ref a) H := by
  refine ⟨a, rfl, ⟨_, hx⟩, lcE walk_list (accM fV) rfl (fun _ e => hx.ext e) ?_ hd⟩
  rintro i x D H1 H2 hi hD e hA ⟨rfl, hxi⟩
  exact ⟨wipe1, hs i x D H2 hxi hD e hA⟩
theorem lcLF {a : Addr} {xs : List V} (p : Nat → Bool) (fV : Nat → V) (hx : SqL K H a xs) (hn : xs.length < 16000000) (hs : ∀ (i : Nat) x D H1, xs[i]? = some x → H D = none → Ext H H1 → H1 D = some (.lst (accF p fV i)) →
      tt ((σ.set v none).set v (some x)) H1 fun b H3 => if b = true then te ((σ.set v none).set v (some x)) H3 fun y H4 => LcAdd D (PvE H D (accF p fV)) i y H4 else PvE H D (accF p fV) (i + 1) H3)
    (hd : ∀ D H1, H D = none → Ext H H1 → H1 D = some (.lst (accF p fV xs.length)) → Q (.ref D) H1) : rLcL K (gName v) tt te [v] σ Q (.ref a) H := by
  refine ⟨a, rfl, ⟨_, hx⟩, lcE walk_list (accF p fV) rfl (fun _ e => hx.ext e) ?_ hd⟩
  rintro i x D H1 H2 hi hD e hA ⟨rfl, hxi⟩
  exact ⟨wipe1, hs i x D H2 hxi hD e hA⟩
theorem lcT {a : Addr} {xs : List V} (fV : Nat → V) (hx : SqT K H a xs) (hn : xs.length < 16000000) (hs : ∀ (i : Nat) x D H1, xs[i]? = some x → H D = none → Ext H H1 → H1 D = some (.lst (accM fV i)) → te ((σ.set v none).set v (some x)) H1 fun y H4 => LcAdd D (PvE H D (accM fV)) i y H4)
    (hd : ∀ D H1, H D = none → Ext H H1 → H1 D = some (.lst (accM fV xs.length)) → Q (.ref D) H1) : rLcT K (gName v) tYes te [v] σ Q (.ref a) H := by
  refine ⟨a, rfl, ⟨_, hx⟩, lcE walk_tup (accM fV) rfl (fun _ e => hx.ext e) ?_ hd⟩
  rintro i x D H1 H2 hi hD e hA ⟨rfl, hxi⟩
  exact ⟨wipe1, hs i x D H2 hxi hD e hA⟩
end
/-! ### slices -/
section
variable {K : PySem.W.Frag} {σ : L2.St} {H : Hp} {Q : VK} {te : TE} {tl th : TO} {r : V → Option Int → Option Int → Hp → VK → Prop} {a : Addr} {xs : List V} {l h : Option Int} {i j : Int} {Qo : Option Int → Hp → Prop} {t : TE}
theorem w_sl (h : te σ H fun x H1 => tl σ H1 fun l H2 => th σ H2 fun u H3 => r x l u H3 Q) : tSl r te tl th σ H Q := h
instance (priority := 900) i_w_sl  : Stp (tSl r te tl th σ H Q) (te σ H fun x H1 => tl σ H1 fun l H2 => th σ H2 fun u H3 => r x l u H3 Q) := ⟨w_sl⟩
theorem w_nopart (q : Qo none H) : tNoPart σ H Qo := q
instance (priority := 900) i_w_nopart  : Stp (tNoPart σ H Qo) (Qo none H) := ⟨w_nopart⟩
theorem w_part (q : t σ H fun x H1 => ∃ i, x = .int i ∧ Qo (some i) H1) : tPart t σ H Qo := q
instance (priority := 900) i_w_part  : Stp (tPart t σ H Qo) (t σ H fun x H1 => ∃ i, x = .int i ∧ Qo (some i) H1) := ⟨w_part⟩
theorem w_pint {P : Int → Prop} (q : P i) : ∃ k, V.int i = .int k ∧ P k := ⟨i, rfl, q⟩
instance (priority := 900) i_w_pint {P : Int → Prop} : Stp (∃ k, V.int i = .int k ∧ P k) (P i) := ⟨w_pint⟩
theorem w_slL (hx : SqL K H a xs) (q : ∀ p, H p = none → Q (.ref p) (upd H p (.lst (cutV xs l h)))) : rSlL K (.ref a) l h H Q := ⟨a, xs, rfl, hx, q⟩
theorem cut_from {xs : List V} (h0 : 0 ≤ i) : cutV xs (some i) none = xs.drop i.toNat := by
  obtain ⟨n, rfl⟩ := Int.eq_ofNat_of_zero_le h0
  unfold cutV
  rw [HT.sIx_nat, HT.sIx_none, Int.toNat_natCast]
  by_cases hn : n ≤ xs.length
  · rw [Nat.min_eq_left hn, List.take_of_length_le]
    rw [List.length_drop]
    omega
  · rw [Nat.min_eq_right (by omega), List.drop_eq_nil_of_le (Nat.le_refl _), List.drop_eq_nil_of_le (by omega)]
    simp
theorem cut_to {xs : List V} (h0 : 0 ≤ i) : cutV xs none (some i) = xs.take i.toNat := by
  obtain ⟨n, rfl⟩ := Int.eq_ofNat_of_zero_le h0
  unfold cutV
  rw [HT.sIx_nat, HT.sIx_none, Int.toNat_natCast, List.drop_zero, Nat.sub_zero]
  by_cases hn : n ≤ xs.length
  · rw [Nat.min_eq_left hn]
  · rw [Nat.min_eq_right (by omega), List.take_of_length_le (Nat.le_refl _), List.take_of_length_le (by omega)]
theorem cut_mid {xs : List V} (h0 : 0 ≤ i) (h1 : i ≤ j) : cutV xs (some i) (some j) = (xs.drop i.toNat).take (j - i).toNat := by
  obtain ⟨n, rfl⟩ := Int.eq_ofNat_of_zero_le h0
  obtain ⟨m, rfl⟩ := Int.eq_ofNat_of_zero_le (Int.le_trans h0 h1)
  unfold cutV
  rw [HT.sIx_nat, HT.sIx_nat, Int.toNat_natCast]
  have e : ((m : Int) - (n : Int)).toNat = m - n := by omega
  rw [e]
  by_cases hn : n ≤ xs.length
  · rw [Nat.min_eq_left hn]
    by_cases hm : m ≤ xs.length
    · rw [Nat.min_eq_left hm]
    · rw [Nat.min_eq_right (by omega), List.take_of_length_le (by rw [List.length_drop]; omega), List.take_of_length_le (by rw [List.length_drop]; omega)]
  · rw [Nat.min_eq_right (by omega : xs.length ≤ n), List.drop_eq_nil_of_le (Nat.le_refl _), List.drop_eq_nil_of_le (by omega)]
    simp
theorem w_slLfrom (hx : SqL K H a xs) (h0 : 0 ≤ i) (q : ∀ p, H p = none → Q (.ref p) (upd H p (.lst (xs.drop i.toNat)))) : rSlL K (.ref a) (some i) none H Q := w_slL hx fun p hp => by rw [cut_from h0]; exact q p hp
theorem w_slLto (hx : SqL K H a xs) (h0 : 0 ≤ i) (q : ∀ p, H p = none → Q (.ref p) (upd H p (.lst (xs.take i.toNat)))) : rSlL K (.ref a) none (some i) H Q := w_slL hx fun p hp => by rw [cut_to h0]; exact q p hp
theorem w_slLmid (hx : SqL K H a xs) (h0 : 0 ≤ i) (h1 : i ≤ j) (q : ∀ p, H p = none → Q (.ref p) (upd H p (.lst ((xs.drop i.toNat).take (j - i).toNat)))) : rSlL K (.ref a) (some i) (some j) H Q := w_slL hx fun p hp => by rw [cut_mid h0 h1]; exact q p hp
/-! ### more of lists -/
theorem small_le {n : Nat} (h : Nat.ble n 1000 = true) : n ≤ sizeLine := Nat.le_trans (Nat.le_of_ble_eq_true h) (by decide)
theorem w_cat {l b : Addr} {xs zs : List V} (h1 : H l = some (.lst xs)) (h2 : H b = some (.lst zs)) (hz : xs.length + zs.length ≤ sizeLine) (q : ∀ p, H p = none → Q (.ref p) (upd H p (.lst (xs ++ zs)))) : rCat (.ref l) (.ref b) H Q := ⟨l, b, xs, zs, rfl, rfl, h1, h2, hz, q⟩
end
end G

/-! grown, but for some -/
namespace G
open PySem PySem.Spec PyProof.Rows L2
structure ExtS (S : List Addr) (H H' : Hp) : Prop where
  get : ∀ a o, a ∉ S → H a = some o → H' a = some o
  dom : ∀ a, H' a = none → H a = none
/-- each of S' is one of S, or not there in H -/
def SubN (S' S : List Addr) (H : Hp) : Prop := ∀ x ∈ S', x ∈ S ∨ H x = none
section
variable {K : PySem.W.Frag} {H H1 H' : Hp} {a b p q x y : Addr} {o u o' : HO} {xs : List V} {S S' : List Addr}
theorem ext_none (e : Ext H H') (h : H' x = none) : H x = none := by
  cases hx : H x with
  | none => rfl
  | some u => rw [e x u hx] at h; cases h
theorem upd_none (h : upd H a o x = none) : H x = none := (up_none h).2
theorem ExtS.rfl' : ExtS S H H := ⟨fun _ _ _ h => h, fun _ h => h⟩
theorem exts_ext (e : Ext H H') : ExtS S H H' := ⟨fun a o _ h => e a o h, fun a h => ext_none e h⟩
theorem exts_of_p (e : ExtP p H H') (d : H' p = some o) : ExtS [p] H H' := ⟨fun a o n h => e a o (fun z => n (by rw [z]; exact List.mem_singleton.mpr rfl)) h, fun a h => by
  cases hx : H a with
  | none => rfl
  | some u =>
    by_cases z : a = p
    · subst z; rw [d] at h; cases h
    · rw [e a u z hx] at h; cases h⟩
theorem exts_nil (e : ExtS [] H H') : Ext H H' := fun a o h => e.get a o (fun z => nomatch z) h
theorem extp_of_s (e : ExtS [p] H H') : ExtP p H H' := fun a o n h => e.get a o (fun z => n (List.mem_singleton.mp z)) h
theorem exts_mono {S2 : List Addr} (e : ExtS S H H') (h : ∀ x ∈ S, x ∈ S2) : ExtS S2 H H' := ⟨fun a o n => e.get a o fun z => n (h a z), e.dom⟩
theorem SubN.nil : SubN [] S H := fun _ z => nomatch z
theorem SubN.inn (h : x ∈ S) (s : SubN S' S H) : SubN (x :: S') S H := fun y hy => by
  rcases List.mem_cons.mp hy with rfl | hy
  · exact .inl h
  · exact s y hy
theorem SubN.new (h : H x = none) (s : SubN S' S H) : SubN (x :: S') S H := fun y hy => by
  rcases List.mem_cons.mp hy with rfl | hy
  · exact .inr h
  · exact s y hy
theorem SubN.all (h : ∀ x ∈ S', H x = none) : SubN S' S H := fun y hy => .inr (h y hy)
theorem SubN.app {S1 S2 : List Addr} (h : SubN S1 S H) (h2 : SubN S2 S H) : SubN (S1 ++ S2) S H := fun y hy => (List.mem_append.mp hy).elim (h y) (h2 y)
theorem exts_thr (f : ExtS S' H1 H') (n : SubN S' S H) (e : ExtS S H H1) : ExtS S H H' := ⟨fun a o ha h => f.get a o (fun z => (n a z).elim ha (fun z => by rw [z] at h; cases h)) (e.get a o ha h), fun a h => e.dom a (f.dom a h)⟩
theorem exts_thrE (f : Ext H1 H') (e : ExtS S H H1) : ExtS S H H' := ⟨fun a o ha h => f a o (e.get a o ha h), fun a h => e.dom a (ext_none f h)⟩
theorem exts_thrP (f : ExtP p H1 H') (d : H' p = some o) (n : SubN [p] S H) (e : ExtS S H H1) : ExtS S H H' := exts_thr (exts_of_p f d) n e
theorem exts_up (n : H1 a = none) (e : ExtS S H H1) : ExtS S H (upd H1 a o) := ⟨fun b u hb h => up_n (e.get b u hb h) n, fun b h => e.dom b (upd_none h)⟩
theorem exts_put (n : SubN [a] S H) (e : ExtS S H H1) : ExtS S H (upd H1 a o) := ⟨fun b u hb h => up_k (e.get b u hb h) (fun z => (n b (by rw [z]; exact List.mem_singleton.mpr rfl)).elim hb (fun z => by rw [z] at h; cases h)), fun b h => e.dom b (upd_none h)⟩
theorem ni_nil : x ∉ ([] : List Addr) := fun z => nomatch z
theorem ni_cons (n : x ≠ y) (m : x ∉ S) : x ∉ y :: S := fun z => (List.mem_cons.mp z).elim n m
theorem ni_app {S2 : List Addr} (n : x ∉ S) (m : x ∉ S2) : x ∉ S ++ S2 := fun z => (List.mem_append.mp z).elim n m
theorem ni_new (h : H x = some u) (n : ∀ y ∈ S, H y = none) : x ∉ S := fun z => by
  rw [n x z] at h
  cases h
theorem exts_get (e : ExtS S H H') (n : x ∉ S) (h : H x = some u) : H' x = some u := e.get _ _ n h
theorem exts_none (e : ExtS S H H') (h : H' x = none) : H x = none := e.dom x h
theorem mem_hd : x ∈ x :: S := List.mem_cons_self
theorem mem_tl (h : x ∈ S) : x ∈ y :: S := List.mem_cons_of_mem _ h
theorem scr_exts (e : ExtS S H H') (n : ∀ y ∈ S, Thw H y) (h : Scr K H a xs) : Scr K H' a xs := h.frz fun b o u hb => e.get b _ (fun z => n b z o u hb) hb
theorem all_nil {P : Addr → Prop} : ∀ y ∈ ([] : List Addr), P y := fun _ z => nomatch z
theorem all_cons {P : Addr → Prop} (h : P x) (t : ∀ y ∈ S, P y) : ∀ y ∈ x :: S, P y := fun y hy => by
  rcases List.mem_cons.mp hy with rfl | hy
  · exact h
  · exact t y hy
theorem thw_none (h : H x = none) : Thw H x := fun o u z => by rw [h] at z; cases z
theorem sq_exts (e : ExtS S H H') (n : a ∉ S) (h : H a = some (.lst xs)) : SqL K H' a xs := SqL.of (e.get _ _ n h)
end
end G

/-! rows of lists of integers; more steps -/
namespace G
open PySem PySem.Spec PyProof.Rows L2
/-- the lists at these addresses -/
def Rows (H : Hp) (as : List Addr) (ms : List (List Int)) : Prop := as.length = ms.length ∧ ∀ (i : Nat) (a : Addr) (m : List Int), as[i]? = some a → ms[i]? = some m → H a = some (.lst (m.map V.int))
section
variable {K : PySem.W.Frag} {H H1 H' : Hp} {a b p q x y : Addr} {o u o' : HO} {xs zs : List V} {S S' as bs : List Addr} {ms : List (List Int)} {m : List Int} {Q : VK} {σ : L2.St} {i j k : Int}
theorem Rows.nil : Rows H [] [] := ⟨rfl, fun i a m h => by simp at h⟩
theorem Rows.at (h : Rows H as ms) {i : Nat} (hi : i < ms.length) : ∃ (a : Addr) (m : List Int), as[i]? = some a ∧ ms[i]? = some m ∧ H a = some (.lst (m.map V.int)) := by
  have h2 : i < as.length := by rw [h.1]; exact hi
  exact ⟨as[i], ms[i], List.getElem?_eq_getElem h2, List.getElem?_eq_getElem hi, h.2 i _ _ (List.getElem?_eq_getElem h2) (List.getElem?_eq_getElem hi)⟩
theorem Rows.mem (h : Rows H as ms) (ha : a ∈ as) : ∃ m : List Int, H a = some (.lst (m.map V.int)) := by
  obtain ⟨i, hi, e⟩ := List.mem_iff_getElem.mp ha
  obtain ⟨a', m, h1, h2, h3⟩ := h.at (i := i) (by rw [← h.1]; exact hi)
  rw [List.getElem?_eq_getElem hi, e] at h1
  cases h1
  exact ⟨m, h3⟩
theorem Rows.ext (h : Rows H as ms) (e : Ext H H') : Rows H' as ms := ⟨h.1, fun i a m h1 h2 => e _ _ (h.2 i a m h1 h2)⟩
theorem Rows.exts (h : Rows H as ms) (e : ExtS S H H') (n : ∀ a ∈ as, a ∉ S) : Rows H' as ms := ⟨h.1, fun i a m h1 h2 => e.get _ _ (n a (List.mem_of_getElem? h1)) (h.2 i a m h1 h2)⟩
theorem Rows.snoc (h : Rows H as ms) (h1 : H a = Option.some (.lst (m.map V.int))) : Rows H (as ++ [a]) (ms ++ [m]) := by
  refine ⟨by rw [List.length_append, List.length_append, h.1]; rfl, fun i b m' hb hm => ?_⟩
  by_cases hi : i < as.length
  · rw [List.getElem?_append_left hi] at hb
    rw [List.getElem?_append_left (by rw [← h.1]; exact hi)] at hm
    exact h.2 i b m' hb hm
  · rw [List.getElem?_append_right (by omega)] at hb
    rw [List.getElem?_append_right (by rw [← h.1]; omega), ← h.1] at hm
    have e : i - as.length = 0 := by
      have := (List.getElem?_eq_some_iff.mp hb).1
      simp at this
      omega
    rw [e] at hb hm
    cases hb
    cases hm
    exact h1
theorem Rows.new (h : Rows H as ms) (n : H x = none) : Rows (upd H x o) as ms := h.ext (ext_up n Ext.rfl')
theorem Rows.put (h : Rows H as ms) (n : x ∉ as) : Rows (upd H x o) as ms := ⟨h.1, fun i a m h1 h2 => up_k (h.2 i a m h1 h2) fun z => n (by rw [← z]; exact List.mem_of_getElem? h1)⟩
theorem Rows.no (h : Rows H as ms) (n : H x = none) : x ∉ as := fun z => by
  obtain ⟨m, e⟩ := h.mem z
  rw [n] at e
  cases e
theorem Rows.noi (h : Rows H as ms) {C dx : Addr} {fs : List (Str × V)} (n : H x = some (.ins C dx fs)) : x ∉ as := fun z => by
  obtain ⟨m, e⟩ := h.mem z
  rw [n] at e
  cases e
theorem nodup_snoc (h : as.Nodup) (n : x ∉ as) : (as ++ [x]).Nodup := List.nodup_append.mpr ⟨h, by simp, fun a ha b hb => by
  rw [List.mem_singleton.mp hb]
  intro z
  rw [z] at ha
  exact n ha⟩
theorem mem_snoc {P : Addr → Prop} (h : ∀ a ∈ as, P a) (n : P x) : ∀ a ∈ as ++ [x], P a := fun a ha => (List.mem_append.mp ha).elim (h a) fun z => by
  rw [List.mem_singleton.mp z]
  exact n
theorem ni_snoc (h : y ∉ as) (n : y ≠ x) : y ∉ as ++ [x] := fun z => (List.mem_append.mp z).elim h fun z => n (List.mem_singleton.mp z)
theorem Rows.take (h : Rows H as ms) (n : Nat) : Rows H (as.take n) (ms.take n) := ⟨by rw [List.length_take, List.length_take, h.1], fun i a m h1 h2 => by
  rw [List.getElem?_take] at h1 h2
  by_cases hi : i < n
  · rw [if_pos hi] at h1 h2
    exact h.2 i a m h1 h2
  · rw [if_neg hi] at h1
    cases h1⟩
theorem Rows.drop (h : Rows H as ms) (n : Nat) : Rows H (as.drop n) (ms.drop n) := ⟨by rw [List.length_drop, List.length_drop, h.1], fun i a m h1 h2 => by
  rw [List.getElem?_drop] at h1 h2
  exact h.2 _ a m h1 h2⟩
theorem w_sum {ns : List Int} {a : Addr} (h : SqL K H a (ns.map V.int)) (q : Q (.int ns.sum) H) : rSum K [.ref a] H Q := ⟨a, ns, rfl, h, q⟩
theorem w_extend {l b : Addr} (h1 : H l = some (.lst xs)) (h2 : H b = some (.lst zs)) (hz : xs.length + zs.length ≤ sizeLine) (q : Q .non (upd H l (.lst (xs ++ zs)))) : rExtend (.ref l) [.ref b] H Q := ⟨l, b, xs, zs, rfl, rfl, h1, h2, hz, q⟩
theorem w_rep {l : Addr} (h1 : H l = some (.lst xs)) (h0 : 0 ≤ k) (hk : k < 4611686018427387904) (hz : xs.length * k.toNat ≤ sizeLine) (q : ∀ p, H p = none → Q (.ref p) (upd H p (.lst (List.replicate k.toNat xs).flatten))) : rRep (.ref l) (.int k) H Q :=
  ⟨l, k, xs, rfl, rfl, h1, by omega, by omega, hz, q⟩
theorem w_intb {c : Bool} (q : Q (.int (if c then 1 else 0)) H) : gInt1 [.bl c] H Q := .inr ⟨c, rfl, q⟩
instance (priority := 900) i_w_intb {c : Bool} : Stp (gInt1 [.bl c] H Q) (Q (.int (if c then 1 else 0)) H) := ⟨w_intb⟩
theorem w_tryas {tb : WX → TS} {c : Value} {n : Nat} {ts : Addr → Value → Option Addr → TS} {Wout : WX} {D : Ends} (h : tb (wAs K c n ts Wout D) D σ H) : (fun D σ H => (fun W1 : WX => tb W1) (wAs K c n ts Wout D) D σ H) D σ H := h
/-- while, the test's reading told by a fact of monotony -/
theorem w_while {c : TT} {tb : TS} {D : Ends} (Pv : L2.St → Hp → Prop) (μ : L2.St → Hp → Nat) (h0 : Pv σ H)
    (hs : ∀ σ H, Pv σ H → c σ H fun b H1 => if b = true then tb { D with nx := fun σ' H' => Pv σ' H' ∧ μ σ' H' < μ σ H, ct := fun σ' H' => Pv σ' H' ∧ μ σ' H' < μ σ H, bk := D.nx } σ H1 else D.nx σ H1)
    (mono : ∀ σ H Q Q', (∀ b H1, Q b H1 → Q' b H1) → c σ H Q → c σ H Q') : tWhile c tb D σ H := while_by Pv μ h0 hs mono
end
theorem small16 {n : Nat} (h : n ≤ 16000000) : n ≤ sizeLine := Nat.le_trans h (by decide)
theorem small16l {n : Nat} (h : n < 16000000) : n < sizeLine := Nat.lt_of_lt_of_le h (by decide)
theorem map_inj_int {xs ys : List Int} (h : xs.map V.int = ys.map V.int) : xs = ys := by
  induction xs generalizing ys with
  | nil => cases ys with
    | nil => rfl
    | cons y ys => simp at h
  | cons x xs ih => cases ys with
    | nil => simp at h
    | cons y ys =>
      simp only [List.map_cons, List.cons.injEq, V.int.injEq] at h
      rw [h.1, ih h.2]
theorem atI_int {L : List Int} {a : Nat} (h : a < L.length) {k : Int} (e : k = (a : Int)) : atI (L.map V.int) k = some (V.int (L.getD a 0)) := at_of e (by
  rw [List.getElem?_map, List.getElem?_eq_getElem h, List.getD_eq_getElem?_getD, List.getElem?_eq_getElem h]
  rfl)
theorem atI_ref {L : List Addr} {a : Nat} {r : Addr} (h : L[a]? = some r) {k : Int} (e : k = (a : Int)) : atI (L.map V.ref) k = some (V.ref r) := at_of e (by rw [List.getElem?_map, h]; rfl)
end G

/-! tuples of texts, dict displays, comprehensions with any word -/
namespace G
open PySem PySem.Spec PyProof.Rows L2
/-- t.index(x), t of texts, x there -/
def rTIdxS (K : PySem.W.Frag) : V → List V → Hp → VK → Prop := fun x xs H Q => ∃ (a : Addr) (ys : List Str) (k : Str), x = .ref a ∧ xs = [.str k] ∧ SqT K H a (ys.map V.str) ∧ k ∈ ys ∧ Q (.int (ys.idxOf k : Nat)) H
theorem mt_tindexS {X : Cx} : MtR X "tuple.index" (rTIdxS X.K) := by
  intro pins s σ H x xs v us Q I rx rxs h
  obtain ⟨a, ys, k, rfl, rfl, hs, hk, q⟩ := h
  cases rx
  cases rxs with
  | cons ry rt =>
    cases rt
    obtain ⟨t, rfl⟩ := ry
    obtain ⟨its, rv, e, z⟩ := I.tuple hs
    exact SeqAt.tuple_index_strs e (strsAre_of rv) hk ⟨.int (ys.idxOf k : Nat), H, I.tok _, ⟨_, rfl⟩, q⟩
def tyTB (x : Str) : Ex := fun K => match K.lookup (He.ga K x) with
  | some o => (match o.cls with | .type n => decide (n = "tuple") | _ => false) && o.dict.isNone
  | none => false
theorem tyTB_ok {K : PySem.W.Frag} {x : Str} (h : tyTB x K = true) (H : Hp) : tyV K "tuple" (.ref (He.ga K x)) H := by
  unfold tyTB at h
  cases q : K.lookup (He.ga K x) with
  | none => rw [q] at h; cases h
  | some o =>
    rw [q] at h
    obtain ⟨oc, od, dt, sl⟩ := o
    obtain ⟨h1, h2⟩ := He.ba h
    refine .inr (.inl ⟨rfl, _, q, ?_, ?_⟩)
    · cases oc with
      | type n => exact congrArg Value.type (of_decide_eq_true h1)
      | _ => cases h1
    · cases od with
      | none => rfl
      | some d => cases h2
section
variable {K : PySem.W.Frag} {σ : L2.St} {H : Hp} {Q : VK} {x y v : V} {a : Addr} {k : Str} {ys : List Str} {kvs : List (Key × V)}
theorem ty_tupX {x : Str} {P : Prop} (h : tyTB x K = true) (q : P) : tyV K "tuple" (.ref (He.ga K x)) H ∧ P := ⟨tyTB_ok h H, q⟩
theorem w_tidxS (h : SqT K H a (ys.map V.str)) (hk : k ∈ ys) (q : Q (.int (ys.idxOf k : Nat)) H) : rTIdxS K (.ref a) [.str k] H Q := ⟨a, ys, k, rfl, rfl, h, hk, q⟩
/-! dicts -/
abbrev gDGet := tDGet
theorem w_dget {td ty : TE} (h : td σ H fun x H1 => ty σ H1 fun y H2 => ∃ a v, x = .ref a ∧ DGet H2 a y (some v) ∧ Q v H2) : tDGet td ty σ H Q := h
instance (priority := 900) i_w_dget {td ty : TE} : Stp (tDGet td ty σ H Q) (td σ H fun x H1 => ty σ H1 fun y H2 => ∃ a v, x = .ref a ∧ DGet H2 a y (some v) ∧ Q v H2) := ⟨w_dget⟩
theorem w_dgetS (h : H a = some (.dK kvs)) (e : valV kvs (.inr k : Key) = some v) (q : Q v H) : ∃ a' v', V.ref a = .ref a' ∧ DGet H a' (.str k) (some v') ∧ Q v' H := ⟨a, v, rfl, e ▸ DGet.k (k := .inr k) h, q⟩
theorem w_dgetI {i : Int} (h : H a = some (.dK kvs)) (e : valV kvs (.inl i : Key) = some v) (q : Q v H) : ∃ a' v', V.ref a = .ref a' ∧ DGet H a' (.int i) (some v') ∧ Q v' H := ⟨a, v, rfl, e ▸ DGet.k (k := .inl i) h, q⟩
theorem w_disp {trs : List (TE × TE)} (h : ∀ p, H p = none → tPairs trs σ (upd H p (.dK [])) fun ps H2 => H2 p = some (.dK []) ∧ ∃ kvs : List (Key × V), ps = kvs.map (fun kv => (kV kv.1, kv.2)) ∧ kvs.length ≤ 15 ∧ Q (.ref p) (upd H2 p (.dK (mergeK [] kvs)))) : tDisp trs σ H Q := h
instance (priority := 900) i_w_disp {trs : List (TE × TE)} : Stp (tDisp trs σ H Q) (∀ p, H p = none → tPairs trs σ (upd H p (.dK [])) fun ps H2 => H2 p = some (.dK []) ∧ ∃ kvs : List (Key × V), ps = kvs.map (fun kv => (kV kv.1, kv.2)) ∧ kvs.length ≤ 15 ∧ Q (.ref p) (upd H2 p (.dK (mergeK [] kvs)))) := ⟨w_disp⟩
theorem w_prs {tk tv : TE} {r : List (TE × TE)} {Q : List (V × V) → Hp → Prop} (h : tk σ H fun x H1 => tv σ H1 fun y H2 => tPairs r σ H2 fun ps H3 => Q ((x, y) :: ps) H3) : tPairs ((tk, tv) :: r) σ H Q := h
instance (priority := 900) i_w_prs {tk tv : TE} {r : List (TE × TE)} {Q : List (V × V) → Hp → Prop} : Stp (tPairs ((tk, tv) :: r) σ H Q) (tk σ H fun x H1 => tv σ H1 fun y H2 => tPairs r σ H2 fun ps H3 => Q ((x, y) :: ps) H3) := ⟨w_prs⟩
theorem w_prn {Q : List (V × V) → Hp → Prop} (h : Q [] H) : tPairs [] σ H Q := h
instance (priority := 900) i_w_prn {Q : List (V × V) → Hp → Prop} : Stp (tPairs [] σ H Q) (Q [] H) := ⟨w_prn⟩
/-! in -/
theorem w_inT {xs : List V} (h : SqT K H a xs) (fx : flatV x = true) (fs : xs.all flatV = true) (q : Q (.bl (inV x xs)) H) : rIn K false x (.ref a) H Q := ⟨a, xs, rfl, .inr h, fx, fs, q⟩
theorem w_inL {xs : List V} (h : SqL K H a xs) (fx : flatV x = true) (fs : xs.all flatV = true) (q : Q (.bl (inV x xs)) H) : rIn K false x (.ref a) H Q := ⟨a, xs, rfl, .inl h, fx, fs, q⟩
theorem w_ninT {xs : List V} (h : SqT K H a xs) (fx : flatV x = true) (fs : xs.all flatV = true) (q : Q (.bl (!inV x xs)) H) : rIn K true x (.ref a) H Q := ⟨a, xs, rfl, .inr h, fx, fs, q⟩
theorem w_ninL {xs : List V} (h : SqL K H a xs) (fx : flatV x = true) (fs : xs.all flatV = true) (q : Q (.bl (!inV x xs)) H) : rIn K true x (.ref a) H Q := ⟨a, xs, rfl, .inl h, fx, fs, q⟩
/-! tuple(list), list of a tuple -/
theorem w_tupL {xs : List V} (h : SqL K H a xs) (q : ∀ l, H l = none → Q (.ref l) (upd H l (.tup xs))) : gTupOf K [.ref a] H Q := ⟨a, xs, rfl, .inl ⟨h, q⟩⟩
end
/-! ### comprehensions, any word -/
section
variable {K : PySem.W.Frag} {σ : L2.St} {H : Hp} {Q : VK} {g : TG} {tt : TT} {te : TE} {vs : List Nat} {tA : TA} {tl : TE} {v : Nat} {j lo hi : Int}
theorem w_yes {Q : Bool → Hp → Prop} (h : Q true H) : tYes σ H Q := h
instance (priority := 900) i_w_yes {Q : Bool → Hp → Prop} : Stp (tYes σ H Q) (Q true H) := ⟨w_yes⟩
theorem lc_addG {D : Addr} {Pv : Addr → Nat → Hp → Prop} {i : Nat} {y : V} {H4 : Hp} {A : List V} (h : H4 D = some (.lst A)) (hl : A.length < sizeLine) (q : Pv D (i + 1) (upd H4 D (.lst (A ++ [y])))) : LcAdd D (Pv D) i y H4 := ⟨A, h, hl, q⟩
theorem lcG {J : It} {n : Nat} {G : Hp → Prop} {Y : Nat → Hp → V → Hp → Prop} (w : Walk J n G Y) (Pv : Addr → Nat → Hp → Prop) (h0 : ∀ D, H D = none → Pv D 0 (upd H D (.lst []))) (hG : ∀ D i H', Pv D i H' → G H')
    (hs : ∀ i x D H1 H2, i < n → H D = none → Pv D i H1 → Y i H1 x H2 → g x (wipe σ vs) H2 fun σ2 H2 => wipe σ2 vs = wipe σ vs ∧ tt σ2 H2 fun b H3 =>
      if b = true then te σ2 H3 fun y H4 => LcAdd D (Pv D) i y H4 else Pv D (i + 1) H3)
    (hd : ∀ D H1, H D = none → Pv D n H1 → Q (.ref D) H1) : rLc J g tt te vs σ H Q := fun D hD =>
  lc_it w (Pv D) (h0 D hD) (fun i H' _ h => hG D i H' h) (fun i x H1 H2 hi h y => hs i x D H1 H2 hi hD h y) fun H1 h => hd D H1 hD h
theorem lcR1G {n : Nat} (Pv : Addr → Nat → Hp → Prop) (hj : j = (n : Int)) (hn : n < 16000000) (h0 : ∀ D, H D = none → Pv D 0 (upd H D (.lst [])))
    (hs : ∀ (i : Nat) D H1, i < n → H D = none → Pv D i H1 → te ((σ.set v none).set v (some (.int (i : Int)))) H1 fun y H4 => LcAdd D (Pv D) i y H4)
    (hd : ∀ D H1, H D = none → Pv D n H1 → Q (.ref D) H1) : rLcR1 (gName v) tYes te [v] σ Q [.int j] H := by
  subst hj
  refine ⟨(n : Int), rfl, by omega, by omega, lcG walk_range Pv h0 (fun _ _ _ _ => trivial) ?_ (by rw [Int.toNat_natCast]; exact hd)⟩
  rintro i x D H1 H2 hi hD hP ⟨rfl, rfl⟩
  refine ⟨wipe1, ?_⟩
  show te ((σ.set v none).set v (some (.int (0 + (i : Int))))) H2 _
  rw [Int.zero_add]
  exact hs i D H2 (by omega) hD hP
/-- drawn numbers: [digit(state, m) for k in range(n)] -/
theorem lcDraw {s : Addr} {n0 m : Int} {n : Nat} (hj : j = (n : Int)) (hn : n < 16000000) (hs : H s = some (.lst [.int n0])) (h0 : 0 < m)
    (hb : ∀ (i : Nat) D H1 n1, i < n → H D = none → ExtP s H H1 → H1 s = some (.lst [.int n1]) → s ≠ D → te ((σ.set v none).set v (some (.int (i : Int)))) H1 fun y H4 => ∃ d n2, y = .int d ∧ 0 ≤ d ∧ d < m ∧ H4 = upd H1 s (.lst [.int n2]))
    (mono : ∀ (σ : L2.St) H (Q Q' : VK), (∀ y H1, Q y H1 → Q' y H1) → te σ H Q → te σ H Q')
    (hd : ∀ D H1 (ds : List Int) n1, H D = none → ExtP s H H1 → H1 s = some (.lst [.int n1]) → ds.length = n → (∀ d ∈ ds, 0 ≤ d ∧ d < m) → H1 D = some (.lst (ds.map V.int)) → Q (.ref D) H1) : rLcR1 (gName v) tYes te [v] σ Q [.int j] H := by
  refine lcR1G (fun D i H' => ExtP s H H' ∧ (∃ n1, H' s = some (.lst [.int n1])) ∧ ∃ ds : List Int, ds.length = i ∧ (∀ d ∈ ds, 0 ≤ d ∧ d < m) ∧ H' D = some (.lst (ds.map V.int))) hj hn (fun D hD => ⟨extp_up hD ExtP.rfl', ⟨n0, up_n hs hD⟩, [], rfl, (fun d hd => by cases hd), upd_same⟩) ?_ ?_
  · rintro i D H1 hi hD ⟨e, ⟨n1, hs1⟩, ds, hl, hds, hA⟩
    have nsD : s ≠ D := ne_of_none hs hD
    refine mono _ _ _ _ ?_ (hb i D H1 n1 hi hD e hs1 nsD)
    rintro y H4 ⟨d, n2, rfl, d0, d1, rfl⟩
    refine lc_addG (Pv := fun D i H' => ExtP s H H' ∧ (∃ n1, H' s = some (.lst [.int n1])) ∧ ∃ ds : List Int, ds.length = i ∧ (∀ d ∈ ds, 0 ≤ d ∧ d < m) ∧ H' D = some (.lst (ds.map V.int))) (A := ds.map V.int) (up_k hA nsD.symm) (by rw [List.length_map]; exact small16l (by omega)) ⟨extp_putn hD (extp_put e), ⟨n2, up_k upd_same nsD⟩, ds ++ [d], by rw [List.length_append, hl]; rfl, ?_, by rw [upd_same, List.map_append]; rfl⟩
    intro z hz
    rcases List.mem_append.mp hz with hz | hz
    · exact hds z hz
    · rw [List.mem_singleton.mp hz]
      exact ⟨d0, d1⟩
  · rintro D H1 hD ⟨e, ⟨n1, hs1⟩, ds, hl, hds, hA⟩
    exact hd D H1 ds n1 hD e hs1 hl hds hA
end
end G

/-! classes made with keywords -/
namespace G
open PySem PySem.Spec PyProof.Rows L2
section
variable (P : Program) (w : World) (K : PySem.W.Frag) (mg : Str → Option Value) (base : Heap)
/-- a class made with n positional values and the keywords ks; gV: in the parameters' order -/
structure HasK (k : Nat) (c : Str) (n : Nat) (ks ps : List Str) (gV : List V → List V → List V) (sp : Sp) : Prop where
  gl : mg c = some (.ref (He.ga K c))
  mkr : Mk K (He.ga K c) (He.ma K (He.ga K c) "__init__")
  ex : ∃ (fd : FuncData) (g : List Value → List Value → List Value), FnOk P w K mg base (L2.CX P w) k (He.ma K (He.ga K c) "__init__") fd ps sp ∧ KBn K fd ps (n + 1) ks g gV
end
theorem HasK.mono {P : Program} {w : World} {K : PySem.W.Frag} {mg : Str → Option Value} {base : Heap} {j k n : Nat} {c : Str} {ks ps : List Str} {gV : List V → List V → List V} {sp : Sp} (h : HasK P w K mg base j c n ks ps gV sp) (l : j ≤ k) : HasK P w K mg base k c n ks ps gV sp :=
  ⟨h.gl, h.mkr, let ⟨fd, g, F, b⟩ := h.ex; ⟨fd, g, F.mono l, b⟩⟩
/-- C(.., k = v, ..) -/
def tMkK (C : Addr) (n m : Nat) (sp : Sp) (gV : List V → List V → List V) (E : L2.St → XK) (t tk : TA) : TE := fun σ H Q => t σ H fun vs H1 => tk σ H1 fun zs H2 => vs.length = n ∧ zs.length = m ∧ ∀ x dx, H2 x = none → H2 dx = none → dx ≠ x →
  sp (gV (.ref x :: vs) zs) (upd (upd H2 dx (.own x)) x (.ins C dx [])) (fun v H3 => v = .non ∧ Q (.ref x) H3) (E σ)
section
variable {X : Cx} {k n : Nat} {f C : Addr} {fd : FuncData} {ps ks : List Str} {sp : Sp} {E : L2.St → XK} {x c : Str} {p pos : Pos} {e : Expr} {es : List Expr} {kws : List Keyword} {t tk : TA} {g : List Value → List Value → List Value} {gV : List V → List V → List V}
theorem run_mkK {pins : List (Addr × Obj)} {σ : L2.St} {H : Hp} {s : Shared} {Q : VK} {us ws : List Value} {vs zs : List V} (M : Mk X.K C f) (F : FnOk X.prog X.w X.K X.mg X.base (XC X) k f fd ps sp) (hr : Room (k + 1) X.A) (hb : KBn X.K fd ps (n + 1) ks g gV) (hx : PassesAt (XC X) X σ (E σ))
    (I : Inv X pins σ H s) (r : Vals vs us) (rz : Vals zs ws) (l1 : vs.length = n) (l2 : zs.length = ks.length)
    (h : ∀ x dx, H x = none → H dx = none → dx ≠ x → sp (gV (.ref x :: vs) zs) (upd (upd H dx (.own x)) x (.ins C dx [])) (fun v H2 => v = .non ∧ Q (.ref x) H2) (E σ)) :
    wpAny (model X.prog X.w) X.A (call (.ref C) us (ks.zip ws)) (EP X pins σ Q) X.xe s := by
  have hq := h (s.heap.objs.size + 1) s.heap.objs.size (I.hok.fresh (Nat.le_succ _)) (I.hok.fresh (Nat.le_refl _)) (Nat.ne_of_lt (Nat.lt_succ_self _))
  have I2 := Inv.made (C := C) I
  have r1 : Vals (V.ref (s.heap.objs.size + 1) :: vs) (Value.ref (s.heap.objs.size + 1) :: us) := .cons rfl r
  have r2 := hb.rel r1 rz
  have n1 : (Value.ref (s.heap.objs.size + 1) :: us).length = n + 1 := by
    rw [List.length_cons, ← r.length, l1]
  refine wpAny_call (make_map (f := f) I.kIn M.makes M.init (beq_iff_eq.mp M.fn) (codeAny_mono (F.run _ X.stack _ _ ⟨Value.ref (s.heap.objs.size + 1) :: us, ks.zip ws⟩ (g (Value.ref (s.heap.objs.size + 1) :: us) ws) _ _ (E σ) (hr.make C us (ks.zip ws))
    (I2.env0.make C us (ks.zip ws)) (hb.to _ (Value.ref (s.heap.objs.size + 1) :: us) ws I2.kIn n1 (rz.length.symm.trans l2)) r2 hq) fun r s' hq' => ?_))
  cases r with
  | error e => exact hx pins _ _ e s' I2 hq'
  | ok fl =>
    cases fl with
    | ret u =>
      obtain ⟨v, H', I3, rv, ev, q3⟩ := I2.after hq'
      subst ev
      exact ⟨rv, ⟨V.ref (s.heap.objs.size + 1), H', I3, rfl, q3⟩⟩
    | next => exact False.elim hq'
    | brk => exact False.elim hq'
    | cont => exact False.elim hq'
theorem pe_mkK0 (h : HasK X.prog X.w X.K X.mg X.base k c 0 ks ps gV sp) (hr : Room (k + 1) X.A) (hg : Gl X c) (hx : ∀ σ, PassesAt (XC X) X σ (E σ)) (hkw : PK X kws tk)
    (hall : (backToKw pos (keywordEach kws X.env)).all (·.1.isSome) = true := by rfl) (hks : (backToKw pos (keywordEach kws X.env)).filterMap (·.1) = ks := by rfl) (hdb : (c == ("__debug__" : Str)) = false := by decide)
    (hpl : ((backTo pos (starEach [] X.env)).any (·.1) || (backToKw pos (keywordEach kws X.env)).any (·.1.isNone)) = false := by rfl) :
    PE X (.Call (.Name c p) [] kws pos) (tMkK (He.ga X.K c) 0 ks.length sp gV E tNil tk) := by
  obtain ⟨fd, g, F, hb⟩ := h.ex
  refine ⟨fun pins s σ H Q I hh => ?_⟩
  refine wpAny_Call_Name_kw (ld_glob I hg h.gl ?_ hdb)
  refine PySem.W.callWith_KW0 (h₀ := X.base) I.ok.mod.kin h.mkr.kp hall ?_ hpl
  refine thn (hkw.run pos pins s σ H _ I hh) fun ws s2 ⟨zs, H2, I2, rz, l1, l2, q2⟩ => ⟨I2.kIn, ?_⟩
  rw [hks]
  exact run_mkK (us := []) (vs := []) h.mkr F hr hb (hx σ) I2 .nil rz rfl l2 q2
theorem pe_mkK (h : HasK X.prog X.w X.K X.mg X.base k c n ks ps gV sp) (hr : Room (k + 1) X.A) (hg : Gl X c) (hx : ∀ σ, PassesAt (XC X) X σ (E σ)) (ha : PA X (e :: es) t) (hkw : PK X kws tk)
    (hall : (backToKw pos (keywordEach kws X.env)).all (·.1.isSome) = true := by rfl) (hks : (backToKw pos (keywordEach kws X.env)).filterMap (·.1) = ks := by rfl) (hdb : (c == ("__debug__" : Str)) = false := by decide)
    (he : starEach (e :: es) X.env = (false, eval e X.env) :: starEach es X.env := by rfl) (hpl : ((backTo pos (starEach (e :: es) X.env)).any (·.1) || (backToKw pos (keywordEach kws X.env)).any (·.1.isNone)) = false := by rfl) :
    PE X (.Call (.Name c p) (e :: es) kws pos) (tMkK (He.ga X.K c) n ks.length sp gV E t tk) := by
  obtain ⟨fd, g, F, hb⟩ := h.ex
  refine ⟨fun pins s σ H Q I hh => ?_⟩
  refine wpAny_Call_Name_kw (ld_glob I hg h.gl ?_ hdb)
  refine PySem.W.callWith_KW (h₀ := X.base) I.ok.mod.kin h.mkr.kp hall (thn (ha.run pos pins s σ H _ I hh) fun us s1 ⟨vs, H1, I1, r, q⟩ => ?_) hpl he
  refine thn (hkw.run pos pins s1 σ H1 _ I1 q) fun ws s2 ⟨zs, H2, I2, rz, l1, l2, q2⟩ => ⟨I2.kIn, ?_⟩
  rw [hks]
  exact run_mkK h.mkr F hr hb (hx σ) I2 r rz l1 l2 q2
end
/-- every keyword-only parameter is written -/
theorem kbn_all {K : PySem.W.Frag} {x qual : Str} {params : Arguments} {body : List Stmt} {scope : Scope} {kws : List (Str × V)} {f : Addr} {fd : FuncData} {ps : List Str} (F : FunD K x qual params body scope [] kws f fd) (n : Nat) (ks : List Str)
    (g : {α : Type} → List α → List α → List α) (hrel : ∀ {vs zs : List V} {us ws : List Value}, Vals vs us → Vals zs ws → Vals (g vs zs) (g us ws))
    (h : ∀ (kV doc pm : Value) (an : Option Addr) (cdv ct : Value) (us ws : List Value), us.length = n → ws.length = ks.length → bindArgs (PySem.W.fnOf x qual params body scope .none kV doc pm an cdv ct) ⟨us, ks.zip ws⟩ = pure (ps.zip (g us ws))) :
    KBn K fd ps n ks (fun us ws => g us ws) (fun vs zs => g vs zs) := by
  obtain ⟨oc, od, dV, kV, doc, pm, an, cdv, ct, osl, rfl, lk, hcd, hD, hK⟩ := F.ex
  rcases hD with ⟨_, rfl⟩ | ⟨e, _⟩
  · exact ⟨fun s us ws X l1 l2 => .of_eq (h kV doc pm an cdv ct us ws l1 l2), fun r1 r2 => hrel r1 r2⟩
  · exact absurd rfl e
/-- what a def with keyword-only parameters promises, before it is called -/
theorem mk_fn {P : Program} {w : World} {K : PySem.W.Frag} {mg : Str → Option Value} {base : Heap} {k : Nat} {x qual : Str} {params : Arguments} {body : List Stmt} {scope : Scope} {N ps : List Str} {sp : Sp} {dvs : List V} {kws : List (Str × V)} {f : Addr}
    (F : ∃ fd, FunD K x qual params body scope dvs kws f fd) (S : FnScope N ps scope) (len : ∀ vs H Q E, sp vs H Q E → vs.length = ps.length) (hbody : Body P w K mg base k N qual scope f body sp) :
    ∃ fd, FunD K x qual params body scope dvs kws f fd ∧ FnOk P w K mg base (L2.CX P w) (k + 1) f fd ps sp := by
  obtain ⟨fd, F⟩ := F
  exact ⟨fd, F, FunD.ok (CX := L2.CX P w) F S len hbody⟩
section
variable {K : PySem.W.Frag} {σ : L2.St} {H : Hp} {Q : VK}
theorem w_mkK {C : Addr} {n m : Nat} {sp : Sp} {gV : List V → List V → List V} {E : L2.St → XK} {t tk : TA} (h : t σ H fun vs H1 => tk σ H1 fun zs H2 => vs.length = n ∧ zs.length = m ∧ ∀ x dx, H2 x = none → H2 dx = none → dx ≠ x →
  sp (gV (.ref x :: vs) zs) (upd (upd H2 dx (.own x)) x (.ins C dx [])) (fun v H3 => v = .non ∧ Q (.ref x) H3) (E σ)) : tMkK C n m sp gV E t tk σ H Q := h
theorem w_ll {a b c d : Nat} {P : Prop} (h1 : a = b) (h2 : c = d) (p : P) : a = b ∧ c = d ∧ P := ⟨h1, h2, p⟩
end
end G

/-! data at values, through a heap that grows -/
namespace G
open PySem PySem.Spec PyProof.Rows L2
section
variable {K : PySem.W.Frag} {H H' : Hp}
mutual
theorem dp_ext (e : Ext H H') : ∀ {v : V} {d : PyData}, Dp K H v d → Dp K H' v d
  | _, _, .non => .non
  | _, _, .bl b => .bl b
  | _, _, .int i => .int i
  | _, _, .str x => .str x
  | _, _, .lst h a => .lst (h.ext e) (dpAll_ext e a)
  | _, _, .tup h a => .tup (h.ext e) (dpAll_ext e a)
theorem dpAll_ext (e : Ext H H') : ∀ {vs : List V} {ds : List PyData}, DpAll K H vs ds → DpAll K H' vs ds
  | _, _, .nil => .nil
  | _, _, .cons h a => .cons (dp_ext e h) (dpAll_ext e a)
end
theorem dpAll_snoc {v : V} {d : PyData} : ∀ {vs : List V} {ds : List PyData}, DpAll K H vs ds → Dp K H v d → DpAll K H (vs ++ [v]) (ds ++ [d])
  | _, _, .nil, h => .cons h .nil
  | _, _, .cons h1 a, h => .cons h1 (dpAll_snoc a h)
end
theorem lay_map {α : Type} {f : α → PyData} : ∀ {xs : List α}, (∀ x ∈ xs, (f x).canLay0 = true) → PyData.canLayAll0 (xs.map f) = true
  | [], _ => rfl
  | x :: xs, h => by
    show (PyData.canLay0 (f x) && PyData.canLayAll0 (xs.map f)) = true
    rw [h x List.mem_cons_self, lay_map fun y hy => h y (List.mem_cons_of_mem _ hy)]
    rfl
theorem depth_map {α : Type} {f : α → PyData} {n : Nat} : ∀ {xs : List α}, (∀ x ∈ xs, (f x).depth ≤ n) → PyData.depthAll (xs.map f) ≤ n
  | [], _ => by simp [PyData.depthAll]
  | x :: xs, h => by
    have h1 := h x List.mem_cons_self
    have h2 := depth_map (xs := xs) fun y hy => h y (List.mem_cons_of_mem _ hy)
    simp only [List.map_cons, PyData.depthAll]
    omega
theorem shaped_of {d : PyData} (h1 : d.canLay0 = true) (h2 : d.depth ≤ 64) : SeqAt.shaped d = true := by
  unfold SeqAt.shaped
  rw [h1, decide_eq_true h2]
  rfl
theorem shaped_lm {α : Type} {f : α → PyData} {xs : List α} (h1 : ∀ x ∈ xs, (f x).canLay0 = true) (h2 : ∀ x ∈ xs, (f x).depth ≤ 63) : SeqAt.shaped (.list (xs.map f)) = true := by
  refine shaped_of ?_ ?_
  · show PyData.canLayAll0 (xs.map f) = true
    exact lay_map h1
  · have := depth_map h2
    simp only [PyData.depth]
    omega
/-- two data that are the same -/
theorem w_eqS' {K : PySem.W.Frag} {H : Hp} {Q : VK} {x y : V} {d : PyData} (h1 : Dp K H x d) (h2 : Dp K H y d) (s : SeqAt.shaped d = true) (q : Q (.bl true) H) : rEqD K x y H Q := w_eqD h1 h2 s s (by rw [eqv_self s]; exact q)
theorem w_neS' {K : PySem.W.Frag} {H : Hp} {Q : VK} {x y : V} {d : PyData} (h1 : Dp K H x d) (h2 : Dp K H y d) (s : SeqAt.shaped d = true) (q : Q (.bl false) H) : rNeD K x y H Q := w_neD h1 h2 s s (by rw [eqv_self s]; exact q)
/-! range with a step -/
theorem w_forR3 {g : TG} {tb : TS} {D : Ends} {σ : L2.St} {H : Hp} {tA : TA} (h : tA σ H fun vs H1 => ∃ (i j c : Int) (n : Nat), vs = [.int i, .int j, .int c] ∧ RgC i j c n ∧ ∃ W : Nat → Nat → L2.St → Hp → Prop, (∃ m, W 0 m σ H1) ∧ ∀ k m σ H, W k m σ H →
  ((Itc i c n).stop k H ∧ D.nx σ H) ∨ ((Itc i c n).go k H ∧ ∃ N : L2.St → Hp → Prop, (∀ σ' H', N σ' H' → ∃ m', m' < m ∧ W (k + 1) m' σ' H') ∧ ∀ x H', (Itc i c n).yld k H x H' → g x σ H' fun σ2 H2 => tb { D with nx := N, ct := N, bk := D.nx } σ2 H2)) : tFor (iRng3 tA) g tb D σ H := h
theorem rgC_pos {n c : Int} (h0 : 0 ≤ n) (h1 : n < 10000000) (c0 : 1 ≤ c) (c1 : c < 1073741824) : RgC 0 n c ((n + c - 1) / c).toNat := by
  have e := rangeSize_pos (len := n) c0 h0
  have q0 : 0 ≤ (n + c - 1) / c := Int.ediv_nonneg (by omega) (by omega)
  have q1 : (n + c - 1) / c ≤ n + c - 1 := Int.ediv_le_self _ (by omega)
  refine ⟨by omega, by omega, ?_, ?_⟩
  · unfold Builtin.Range.small
    rw [e]
    simp only [Builtin.Range.rangeFitsLong, Bool.and_eq_true, Bool.or_eq_true, decide_eq_true_eq, beq_iff_eq]
    rw [if_pos (by omega)]
    simp only [Bool.and_eq_true, decide_eq_true_eq]
    generalize (n + c - 1) / c = z at *
    omega
  · rw [e]
    omega
def rLoop3 (g : TG) (tb : TS) (D : Ends) (σ : L2.St) (vs : List V) (H1 : Hp) : Prop := ∃ (i j c : Int) (n : Nat), vs = [.int i, .int j, .int c] ∧ RgC i j c n ∧ ∃ W : Nat → Nat → L2.St → Hp → Prop, (∃ m, W 0 m σ H1) ∧ ∀ k m σ H, W k m σ H →
  ((Itc i c n).stop k H ∧ D.nx σ H) ∨ ((Itc i c n).go k H ∧ ∃ N : L2.St → Hp → Prop, (∀ σ' H', N σ' H' → ∃ m', m' < m ∧ W (k + 1) m' σ' H') ∧ ∀ x H', (Itc i c n).yld k H x H' → g x σ H' fun σ2 H2 => tb { D with nx := N, ct := N, bk := D.nx } σ2 H2)
theorem w_for3 {g : TG} {tb : TS} {D : Ends} {σ : L2.St} {H : Hp} {tA : TA} (h : tA σ H fun vs H1 => rLoop3 g tb D σ vs H1) : tFor (iRng3 tA) g tb D σ H := h
instance (priority := 900) i_w_for3 {g : TG} {tb : TS} {D : Ends} {σ : L2.St} {H : Hp} {tA : TA} : Stp (tFor (iRng3 tA) g tb D σ H) (tA σ H fun vs H1 => rLoop3 g tb D σ vs H1) := ⟨w_for3⟩
/-- for x in range(0, n, c) -/
theorem loop3 {g : TG} {tb : TS} {D : Ends} {σ : L2.St} {H : Hp} {n c : Int} (Pv : Nat → L2.St → Hp → Prop) (h0 : 0 ≤ n) (h1 : n < 10000000) (c0 : 1 ≤ c) (c1 : c < 1073741824) (hb : Pv 0 σ H)
    (hs : ∀ (i : Nat) σ H, (i : Int) * c < n → Pv i σ H → g (.int ((i : Int) * c)) σ H fun σ2 H2 => tb { D with nx := Pv (i + 1), ct := Pv (i + 1), bk := D.nx } σ2 H2) (hd : ∀ (N : Nat) σ H, n ≤ (N : Int) * c → (N : Int) * c < n + c → Pv N σ H → D.nx σ H) : rLoop3 g tb D σ [.int 0, .int n, .int c] H := by
  have q0 : 0 ≤ (n + c - 1) / c := Int.ediv_nonneg (by omega) (by omega)
  have e1 := Int.emod_add_mul_ediv (n + c - 1) c
  have e2 := Int.emod_nonneg (n + c - 1) (b := c) (by omega)
  have e3 := Int.emod_lt_of_pos (n + c - 1) (b := c) (by omega)
  have em : c * ((n + c - 1) / c) = ((n + c - 1) / c) * c := Int.mul_comm _ _
  have ez : ((((n + c - 1) / c).toNat : Nat) : Int) = (n + c - 1) / c := by omega
  refine ⟨0, n, c, _, rfl, rgC_pos h0 h1 c0 c1, for_rangeC (lo := 0) (c := c) (n := ((n + c - 1) / c).toNat) Pv hb (fun i σ H hi p => ?_) (fun σ H p => hd _ σ H ?_ ?_ p)⟩
  · have e : (0 : Int) + (i : Nat) * c = (i : Int) * c := Int.zero_add _
    rw [e]
    refine hs i σ H ?_ p
    have hi2 : (i : Int) + 1 ≤ (n + c - 1) / c := by omega
    have hm := Int.mul_le_mul_of_nonneg_right hi2 (show 0 ≤ c by omega)
    rw [Int.add_mul, Int.one_mul] at hm
    omega
  · rw [ez]; omega
  · rw [ez]; omega
theorem upd_thru {H : Hp} {p m : Addr} {x y z : HO} (n : m ≠ p) : upd (upd (upd H p x) m y) p z = upd (upd H m y) p z := by
  funext a
  by_cases h : a = p
  · subst h
    rw [upd_same, upd_same]
  · rw [upd_ne h, upd_ne h]
    by_cases h2 : a = m
    · subst h2
      rw [upd_same, upd_same]
    · rw [upd_ne h2, upd_ne h2, upd_ne h]
end G

/-! what a run owns: a list of claims on disjoint parts of the heap; a marked cell is only read, and may be claimed often -/
namespace G
open PySem PySem.Spec PyProof.Rows L2
abbrev LH : Type := Addr → Option (HO × Bool)
abbrev HP : Type := LH → Prop
def LHle (h : LH) (H : Hp) : Prop := ∀ a o b, h a = some (o, b) → H a = some o
def Dis (h k : LH) : Prop := ∀ a x y, h a = some x → k a = some y → x.2 = true
def LSub (h k : LH) : Prop := ∀ a x, h a = some x → k a = some x
def LHor (h k : LH) : LH := fun a => match h a with
  | some x => some x
  | none => k a
def LHupd (h : LH) (a : Addr) (x : HO × Bool) : LH := fun b => if b = a then some x else h b
def LHnone : LH := fun _ => none
def AllRo (h : LH) : Prop := ∀ a x, h a = some x → x.2 = true
def stars : List HP → HP
  | [] => fun _ => True
  | P :: L => fun h => ∃ h1 h2, Dis h1 h2 ∧ LSub h1 h ∧ LSub h2 h ∧ P h1 ∧ stars L h2
def Own (L : List HP) (H : Hp) : Prop := ∃ h, LHle h H ∧ stars L h
def cell (b : Bool) (a : Addr) (o : HO) : HP := fun h => h a = some (o, b)
abbrev pt (a : Addr) (o : HO) : HP := cell false a o
abbrev ro (a : Addr) (o : HO) : HP := cell true a o
def hex {α : Sort _} (f : α → HP) : HP := fun h => ∃ x, f x h
def hpu (p : Prop) : HP := fun _ => p
section
variable {h k h1 h2 h3 g : LH} {a b : Addr} {x y : HO × Bool} {L M R : List HP} {P Q : HP} {H H' : Hp} {o u : HO}
theorem LSub.rfl' : LSub h h := fun _ _ e => e
theorem LSub.trans (s : LSub h k) (t : LSub k g) : LSub h g := fun a x e => t a x (s a x e)
theorem lor_l : LSub h (LHor h k) := fun a x e => by unfold LHor; rw [e]
theorem lor_sub (s : LSub h g) (t : LSub k g) : LSub (LHor h k) g := fun a x e => by
  unfold LHor at e
  cases q : h a with
  | some z => rw [q] at e; cases e; exact s a _ q
  | none => rw [q] at e; exact t a x e
theorem lor_r (s : LSub h g) (t : LSub k g) : LSub k (LHor h k) := fun a x e => by
  unfold LHor
  cases q : h a with
  | some z =>
    have e1 := s a z q
    rw [t a x e] at e1
    cases e1
    rfl
  | none => exact e
theorem lor_of (e : LHor h k a = some x) : h a = some x ∨ k a = some x := by
  unfold LHor at e
  split at e
  · rename_i z q
    cases e
    exact .inl q
  · exact .inr e
theorem Dis.symm (d : Dis h k) (s : LSub h g) (t : LSub k g) : Dis k h := fun a x y e f => by
  have e1 := t a x e
  rw [s a y f] at e1
  cases e1
  exact d a _ _ f e
theorem dis_or (d : Dis h k) (e : Dis h g) : Dis h (LHor k g) := fun a x y p q => (lor_of q).elim (d a x y p) (e a x y p)
theorem or_dis (d : Dis h g) (e : Dis k g) : Dis (LHor h k) g := fun a x y p q => (lor_of p).elim (fun p => d a x y p q) fun p => e a x y p q
theorem Dis.sub_l (d : Dis h k) (s : LSub g h) : Dis g k := fun a x y p q => d a x y (s a x p) q
theorem Dis.sub_r (d : Dis h k) (s : LSub g k) : Dis h g := fun a x y p q => d a x y p (s a y q)
theorem dis_none : Dis LHnone h := fun a x y e _ => nomatch e
theorem dis_none_r : Dis h LHnone := fun a x y _ e => nomatch e
theorem sub_none : LSub LHnone h := fun a x e => nomatch e
theorem stars_mono : ∀ {L : List HP} {h k : LH}, stars L h → LSub h k → stars L k
  | [], _, _, _, _ => trivial
  | _ :: _, _, _, ⟨h1, h2, d, s1, s2, p, q⟩, s => ⟨h1, h2, d, s1.trans s, s2.trans s, p, q⟩
theorem stars_swap (s : stars (P :: Q :: L) h) : stars (Q :: P :: L) h := by
  obtain ⟨h1, h2, d, s1, s2, p, h3, h4, d2, s3, s4, q, t⟩ := s
  refine ⟨h3, LHor h1 h4, dis_or ((d.sub_r s3).symm s1 (s3.trans s2)) d2, s3.trans s2, lor_sub s1 (s4.trans s2), q, h1, h4, d.sub_r s4, lor_l, lor_r s1 (s4.trans s2), p, t⟩
theorem stars_cons (t : ∀ h, stars L h → stars M h) (s : stars (P :: L) h) : stars (P :: M) h := by
  obtain ⟨h1, h2, d, s1, s2, p, q⟩ := s
  exact ⟨h1, h2, d, s1, s2, p, t _ q⟩
theorem stars_head (t : ∀ h, P h → Q h) (s : stars (P :: L) h) : stars (Q :: L) h := by
  obtain ⟨h1, h2, d, s1, s2, p, q⟩ := s
  exact ⟨h1, h2, d, s1, s2, t _ p, q⟩
theorem stars_perm (p : L.Perm M) : ∀ {h}, stars L h → stars M h := by
  induction p with
  | nil => exact fun s => s
  | cons x _ ih => exact fun s => stars_cons (fun h => ih) s
  | swap x y l => exact fun s => stars_swap s
  | trans _ _ i1 i2 => exact fun s => i2 (i1 s)
theorem stars_app : ∀ {L M : List HP} {h : LH}, stars (L ++ M) h ↔ ∃ h1 h2, Dis h1 h2 ∧ LSub h1 h ∧ LSub h2 h ∧ stars L h1 ∧ stars M h2
  | [], M, h => ⟨fun s => ⟨LHnone, h, dis_none, sub_none, LSub.rfl', trivial, s⟩, fun ⟨_, _, _, _, s, _, q⟩ => stars_mono q s⟩
  | P :: L, M, h => by
    constructor
    · rintro ⟨hp, h', d, s1, s2, p, q⟩
      obtain ⟨h1, h2, d2, s3, s4, q1, q2⟩ := stars_app.mp q
      exact ⟨LHor hp h1, h2, or_dis (d.sub_r s4) d2, lor_sub s1 (s3.trans s2), s4.trans s2, ⟨hp, h1, d.sub_r s3, lor_l, lor_r s1 (s3.trans s2), p, q1⟩, q2⟩
    · rintro ⟨h1, h2, d, s1, s2, ⟨hp, h3, d2, s3, s4, p, q1⟩, q2⟩
      exact ⟨hp, LHor h3 h2, dis_or d2 (d.sub_l s3), s3.trans s1, lor_sub (s4.trans s1) s2, p, stars_app.mpr ⟨h3, h2, d.sub_l s4, lor_l, lor_r (s4.trans s1) s2, q1, q2⟩⟩
theorem stars_flat : stars (stars L :: M) h ↔ stars (L ++ M) h := by
  rw [stars_app]
  rfl
/-! ### claims -/
theorem Own.nil : Own [] H := ⟨LHnone, (fun _ _ _ e => nomatch e), trivial⟩
theorem Own.map (t : ∀ h, stars L h → stars M h) (o : Own L H) : Own M H := let ⟨h, e, s⟩ := o; ⟨h, e, t h s⟩
theorem Own.perm (o : Own L H) (p : L.Perm M) : Own M H := o.map fun _ => stars_perm p
theorem Own.swap (o : Own (P :: Q :: L) H) : Own (Q :: P :: L) H := o.map fun _ => stars_swap
theorem Own.tail (o : Own (P :: L) H) : Own L H := o.map fun h s => by
  obtain ⟨_, _, _, _, s2, _, q⟩ := s
  exact stars_mono q s2
theorem Own.flat (o : Own (stars L :: M) H) : Own (L ++ M) H := o.map fun _ => stars_flat.mp
theorem Own.fold (o : Own (L ++ M) H) : Own (stars L :: M) H := o.map fun _ => stars_flat.mpr
theorem Own.head (t : ∀ h, P h → Q h) (o : Own (P :: L) H) : Own (Q :: L) H := o.map fun _ => stars_head t
theorem Own.rest (t : ∀ h, stars L h → stars M h) (o : Own (P :: L) H) : Own (P :: M) H := o.map fun _ => stars_cons t
theorem Own.ex {α : Sort _} {f : α → HP} (o : Own (hex f :: L) H) : ∃ x, Own (f x :: L) H := by
  obtain ⟨h, e, h1, h2, d, s1, s2, ⟨x, p⟩, q⟩ := o
  exact ⟨x, h, e, h1, h2, d, s1, s2, p, q⟩
theorem Own.exi {α : Sort _} {f : α → HP} (x : α) (o : Own (f x :: L) H) : Own (hex f :: L) H := o.head fun _ p => ⟨x, p⟩
theorem Own.pu {p : Prop} (o : Own (hpu p :: L) H) : p ∧ Own L H := by
  obtain ⟨h, e, h1, h2, d, s1, s2, z, q⟩ := o
  exact ⟨z, h, e, stars_mono q s2⟩
theorem Own.pui {p : Prop} (z : p) (o : Own L H) : Own (hpu p :: L) H := o.map fun h s => ⟨LHnone, h, dis_none, sub_none, LSub.rfl', z, s⟩
/-- a claim that needs no cell -/
theorem Own.free (z : P LHnone) (o : Own L H) : Own (P :: L) H := o.map fun h s => ⟨LHnone, h, dis_none, sub_none, LSub.rfl', z, s⟩
/-! ### what a claim tells -/
def Ent (L : List HP) (φ : Hp → Prop) : Prop := ∀ h, stars L h → ∀ H, LHle h H → φ H
def Tell (P : HP) (φ : Hp → Prop) : Prop := ∀ h, P h → ∀ H, LHle h H → φ H
theorem LHle.sub (e : LHle k H) (s : LSub h k) : LHle h H := fun a o b z => e a o b (s a _ z)
theorem Ent.here {φ : Hp → Prop} (t : Tell P φ) : Ent (P :: L) φ := fun _ ⟨_, _, _, s1, _, p, _⟩ _ e => t _ p _ (e.sub s1)
theorem Ent.next {φ : Hp → Prop} (t : Ent L φ) : Ent (P :: L) φ := fun _ ⟨_, _, _, _, s2, _, q⟩ _ e => t _ q _ (e.sub s2)
theorem Own.ent {φ : Hp → Prop} (o : Own L H) (t : Ent L φ) : φ H := let ⟨_, e, s⟩ := o; t _ s _ e
theorem tell_cell {c : Bool} : Tell (cell c a o) (fun H => H a = some o) := fun _ p _ e => e _ _ _ p
/-- the cell at a holds o -/
abbrev Got (L : List HP) (a : Addr) (o : HO) : Prop := Ent L fun H => H a = some o
theorem Got.here {c : Bool} : Got (cell c a o :: L) a o := Ent.here tell_cell
theorem Got.next (t : Got L a o) : Got (P :: L) a o := Ent.next t
theorem Own.get (w : Own L H) (t : Got L a o) : H a = some o := w.ent t
theorem Own.get' {c : Bool} (w : Own (cell c a o :: L) H) : H a = some o := w.get Got.here
/-! ### taking a claim out -/
def Pick (L : List HP) (P : HP) (R : List HP) : Prop := ∀ h, stars L h → stars (P :: R) h
class Ro (P : HP) : Prop where
  ro : ∀ h, P h → ∃ g, LSub g h ∧ AllRo g ∧ P g
theorem stars_dup (c : Ro P) (s : stars (P :: L) h) : stars (P :: P :: L) h := by
  obtain ⟨h1, h2, d, s1, s2, p, q⟩ := s
  obtain ⟨g, t, r, p'⟩ := c.ro _ p
  exact ⟨g, h, fun a x y e f => r a x e, t.trans s1, LSub.rfl', p', h1, h2, d, s1, s2, p, q⟩
theorem Pick.here : Pick (P :: R) P R := fun _ s => s
theorem Pick.keep [c : Ro P] : Pick (P :: R) P (P :: R) := fun _ s => stars_dup c s
theorem Pick.next (p : Pick L P R) : Pick (Q :: L) P (Q :: R) := fun _ s => stars_swap (stars_cons p s)
theorem Own.pick (o : Own L H) (p : Pick L P R) : Own (P :: R) H := o.map p
theorem Own.dup [c : Ro P] (o : Own (P :: L) H) : Own (P :: P :: L) H := o.map fun _ s => stars_dup c s
theorem lup_none {z : HO × Bool} (e : LHupd LHnone a z b = some x) : b = a ∧ x = z := by
  unfold LHupd at e
  split at e
  · rename_i q
    cases e
    exact ⟨q, rfl⟩
  · cases e
instance : Ro (cell true a o) := ⟨fun h p => ⟨LHupd LHnone a (o, true), (fun b x e => by
    obtain ⟨rfl, rfl⟩ := lup_none e
    exact p), (fun b x e => by
    obtain ⟨rfl, rfl⟩ := lup_none e
    rfl), if_pos rfl⟩⟩
instance {α : Sort _} {f : α → HP} [c : ∀ x, Ro (f x)] : Ro (hex f) := ⟨fun h ⟨x, p⟩ => let ⟨g, s, r, q⟩ := (c x).ro h p; ⟨g, s, r, x, q⟩⟩
instance {p : Prop} : Ro (hpu p) := ⟨fun h z => ⟨LHnone, sub_none, (fun _ _ e => nomatch e), z⟩⟩
theorem allRo_or (p : AllRo h) (q : AllRo k) : AllRo (LHor h k) := fun a x e => (lor_of e).elim (p a x) (q a x)
instance : Ro (stars []) := ⟨fun h _ => ⟨LHnone, sub_none, (fun _ _ e => nomatch e), trivial⟩⟩
instance [c : Ro P] [d : Ro (stars L)] : Ro (stars (P :: L)) := ⟨fun h ⟨h1, h2, _, s1, s2, p, q⟩ => by
  obtain ⟨g1, t1, r1, p'⟩ := c.ro _ p
  obtain ⟨g2, t2, r2, q'⟩ := d.ro _ q
  exact ⟨LHor g1 g2, lor_sub (t1.trans s1) (t2.trans s2), allRo_or r1 r2, g1, g2, fun a x y e f => r1 a x e, lor_l, lor_r (t1.trans s1) (t2.trans s2), p', q'⟩⟩
/-! ### writing -/
theorem lup_same : LHupd h a x a = some x := if_pos rfl
theorem lup_ne (n : b ≠ a) : LHupd h a x b = h b := if_neg n
theorem le_lup (e : LHle h H) {c : Bool} : LHle (LHupd h a (o, c)) (upd H a o) := fun b u d z => by
  by_cases n : b = a
  · subst n
    rw [lup_same] at z
    cases z
    exact upd_same
  · rw [lup_ne n] at z
    rw [upd_ne n]
    exact e b u d z
def Put (L : List HP) (a : Addr) (u o : HO) (M : List HP) : Prop := ∀ h, stars L h → h a = some (u, false) ∧ stars M (LHupd h a (o, false))
theorem Put.here : Put (pt a u :: L) a u o (pt a o :: L) := by
  rintro h ⟨h1, h2, d, s1, s2, p, q⟩
  have n2 : h2 a = none := by
    cases z : h2 a with
    | none => rfl
    | some y => exact absurd (d a _ _ p z) Bool.false_ne_true
  refine ⟨s1 _ _ p, LHupd LHnone a (o, false), h2, ?_, ?_, ?_, lup_same, q⟩
  · intro b x y e f
    by_cases n : b = a
    · subst n
      rw [n2] at f
      cases f
    · rw [lup_ne n] at e
      cases e
  · intro b x e
    by_cases n : b = a
    · subst n
      rw [lup_same] at e ⊢
      exact e
    · rw [lup_ne n] at e
      cases e
  · intro b x e
    have n : b ≠ a := fun z => by
      subst z
      rw [n2] at e
      cases e
    rw [lup_ne n]
    exact s2 b x e
theorem Put.next (t : Put L a u o M) : Put (P :: L) a u o (P :: M) := by
  rintro h ⟨h1, h2, d, s1, s2, p, q⟩
  obtain ⟨e2, q2⟩ := t _ q
  have n1 : h1 a = none := by
    cases z : h1 a with
    | none => rfl
    | some y =>
      have e1 := s1 _ _ z
      rw [s2 _ _ e2] at e1
      cases e1
      exact absurd (d a _ _ z e2) Bool.false_ne_true
  refine ⟨s2 _ _ e2, h1, LHupd h2 a (o, false), ?_, ?_, ?_, p, q2⟩
  · intro b x y e f
    have n : b ≠ a := fun z => by
      subst z
      rw [n1] at e
      cases e
    rw [lup_ne n] at f
    exact d b x y e f
  · intro b x e
    have n : b ≠ a := fun z => by
      subst z
      rw [n1] at e
      cases e
    rw [lup_ne n]
    exact s1 b x e
  · intro b x e
    by_cases n : b = a
    · subst n
      rw [lup_same] at e ⊢
      exact e
    · rw [lup_ne n] at e ⊢
      exact s2 b x e
theorem Own.put (w : Own L H) (t : Put L a u o M) : Own M (upd H a o) := by
  obtain ⟨h, e, s⟩ := w
  exact ⟨_, le_lup e, (t h s).2⟩
theorem Own.putGet (w : Own L H) (t : Put L a u o M) : H a = some u := by
  obtain ⟨h, e, s⟩ := w
  exact e _ _ _ (t h s).1
theorem Own.newC (c : Bool) (n : H a = none) (w : Own L H) : Own (cell c a o :: L) (upd H a o) := by
  obtain ⟨h, e, s⟩ := w
  have n2 : h a = none := by
    cases z : h a with
    | none => rfl
    | some y =>
      obtain ⟨y1, y2⟩ := y
      rw [e a y1 y2 z] at n
      cases n
  refine ⟨LHupd h a (o, c), le_lup e, LHupd LHnone a (o, c), h, ?_, ?_, ?_, lup_same, s⟩
  · intro b x y e f
    by_cases n : b = a
    · subst n
      rw [n2] at f
      cases f
    · rw [lup_ne n] at e
      cases e
  · intro b x e
    by_cases n : b = a
    · subst n
      rw [lup_same] at e ⊢
      exact e
    · rw [lup_ne n] at e
      cases e
  · intro b x e
    have n : b ≠ a := fun z => by
      subst z
      rw [n2] at e
      cases e
    rw [lup_ne n]
    exact e
theorem Own.new (n : H a = none) (w : Own L H) : Own (pt a o :: L) (upd H a o) := w.newC false n
theorem Own.newT {xs : List V} (n : H a = none) (w : Own L H) : Own (ro a (.tup xs) :: L) (upd H a (.tup xs)) := w.newC true n
/-- an object and its dict -/
theorem Own.made {C dx : Addr} (n : H a = none) (m : H dx = none) (ne : dx ≠ a) (w : Own L H) : Own (pt a (.ins C dx []) :: L) (upd (upd H dx (.own a)) a (.ins C dx [])) :=
  (w.new m).tail.new (none_up ne.symm n)
/-- a claim that does not look at the marks is only read from now on -/
def Mk0 (P : HP) : Prop := ∀ h k : LH, (∀ a o b, h a = some (o, b) → ∃ c, k a = some (o, c)) → P h → P k
theorem AllRo.or_ro (q : AllRo h) : Dis h k := fun a x y e _ => q a x e
def mark (h : LH) : LH := fun a => match h a with
  | some (o, _) => some (o, true)
  | none => none
/-- h, with the cells of h1 marked -/
def over (h1 h : LH) : LH := fun a => match h1 a with
  | some (o, _) => some (o, true)
  | none => h a
theorem mark_of (e : mark h a = some x) : ∃ b, h a = some (x.1, b) ∧ x.2 = true := by
  unfold mark at e
  split at e
  · rename_i o b q
    cases e
    exact ⟨b, q, rfl⟩
  · cases e
theorem mark_to {c : Bool} (e : h a = some (o, c)) : mark h a = some (o, true) := by
  unfold mark
  rw [e]
theorem Own.freeze (m : ∀ h, P h → P (mark h)) (w : Own (P :: L) H) : Own (P :: L) H ∧ ∃ h1, AllRo h1 ∧ P h1 ∧ LHle h1 H ∧ ∃ h, LHle h H ∧ LSub h1 h ∧ ∃ h2, LSub h2 h ∧ stars L h2 := by
  refine ⟨w, ?_⟩
  obtain ⟨h, e, h1, h2, d, s1, s2, p, q⟩ := w
  have o1 : ∀ a o c, h1 a = some (o, c) → over h1 h a = some (o, true) := fun a o c z => by
    unfold over
    rw [z]
  have o2 : ∀ a, h1 a = none → over h1 h a = h a := fun a z => by
    unfold over
    rw [z]
  refine ⟨mark h1, fun a x e => (mark_of e).elim fun b z => z.2, m _ p, ?_, over h1 h, ?_, ?_, h2, ?_, q⟩
  · intro a o b z
    obtain ⟨c, z1, _⟩ := mark_of z
    exact e a o c (s1 _ _ z1)
  · intro a o b z
    cases z1 : h1 a with
    | none =>
      rw [o2 a z1] at z
      exact e a o b z
    | some y =>
      obtain ⟨y1, y2⟩ := y
      rw [o1 a y1 y2 z1] at z
      cases z
      exact e a _ _ (s1 _ _ z1)
  · intro a x z
    obtain ⟨c, z1, z2⟩ := mark_of z
    rw [o1 a _ c z1]
    obtain ⟨x1, x2⟩ := x
    cases z2
    rfl
  · intro a x z
    cases z1 : h1 a with
    | none =>
      rw [o2 a z1]
      exact s2 a x z
    | some y =>
      obtain ⟨y1, y2⟩ := y
      have t := d a _ _ z1 z
      have e1 := s1 _ _ z1
      rw [s2 _ _ z] at e1
      cases e1
      rw [o1 a _ _ z1]
      cases t
      rfl
/-- only read from now on -/
def Rd (P : HP) : HP := fun h => ∃ g, LSub g h ∧ AllRo g ∧ P g
instance : Ro (Rd P) := ⟨fun h ⟨g, s, r, p⟩ => ⟨g, s, r, g, LSub.rfl', r, p⟩⟩
theorem Own.toRd (m : ∀ h, P h → P (mark h)) (w : Own (P :: L) H) : Own (Rd P :: L) H := by
  obtain ⟨_, h1, r, p, _, h, e, s1, h2, s2, q⟩ := w.freeze m
  exact ⟨h, e, h1, h2, fun a x y z _ => r a x z, s1, s2, ⟨h1, LSub.rfl', r, p⟩, q⟩
theorem tell_rd {φ : Hp → Prop} (t : Tell P φ) : Tell (Rd P) φ := fun h ⟨g, s, _, p⟩ H e => t g p H (e.sub s)
theorem Own.toRo (w : Own (pt a o :: L) H) : Own (ro a o :: L) H := by
  obtain ⟨h, e, h1, h2, d, s1, s2, p, q⟩ := w
  have n2 : h2 a = none := by
    cases z : h2 a with
    | none => rfl
    | some y => exact absurd (d a _ _ p z) Bool.false_ne_true
  refine ⟨LHupd h a (o, true), ?_, LHupd LHnone a (o, true), h2, ?_, ?_, ?_, lup_same, q⟩
  · intro b u c z
    by_cases n : b = a
    · subst n
      rw [lup_same] at z
      cases z
      exact e _ _ _ (s1 _ _ p)
    · rw [lup_ne n] at z
      exact e b u c z
  · intro b x y e f
    by_cases n : b = a
    · subst n
      rw [n2] at f
      cases f
    · rw [lup_ne n] at e
      cases e
  · intro b x e
    by_cases n : b = a
    · subst n
      rw [lup_same] at e ⊢
      exact e
    · rw [lup_ne n] at e
      cases e
  · intro b x e
    have n : b ≠ a := fun z => by
      subst z
      rw [n2] at e
      cases e
    rw [lup_ne n]
    exact s2 b x e
end
end G

/-! claims: data, rows of claims, the script, drawn numbers; the steps that write -/
namespace G
open PySem PySem.Spec PyProof.Rows L2
section
variable {K : PySem.W.Frag} {h k h1 h2 : LH} {a b : Addr} {L M R : List HP} {P P' Q : HP} {H H' : Hp} {o u : HO} {v : V} {vs : List V} {d : PyData} {ds : List PyData} {c : Bool} {xs : List Int}
/-! ### data -/
def DT (K : PySem.W.Frag) (v : V) (d : PyData) : HP := fun h => ∀ H, LHle h H → Dp K H v d
def DTs (K : PySem.W.Frag) (vs : List V) (ds : List PyData) : HP := fun h => ∀ H, LHle h H → DpAll K H vs ds
theorem tell_DT : Tell (DT K v d) (fun H => Dp K H v d) := fun h p H e => p H e
theorem tell_DTs : Tell (DTs K vs ds) (fun H => DpAll K H vs ds) := fun h p H e => p H e
theorem mark_le (e : LHle (mark h) H) : LHle h H := fun a o b z => e a o true (mark_to z)
theorem le_mark (e : LHle h H) : LHle (mark h) H := fun a o b z => let ⟨c, z1, _⟩ := mark_of z; e a o c z1
theorem DT.mark (p : DT K v d h) : DT K v d (mark h) := fun H e => p H (mark_le e)
theorem DTs.mark (p : DTs K vs ds h) : DTs K vs ds (G.mark h) := fun H e => p H (mark_le e)
theorem lor_le (e : LHle k H) (s : LSub h1 k) (t : LSub h2 k) : LHle (LHor h1 h2) H := e.sub (lor_sub s t)
/-- two claims, told at once -/
theorem Own.join (t : ∀ h1 h2 h, LSub h1 h → LSub h2 h → P h1 → Q h2 → P' h) (w : Own (P :: Q :: L) H) : Own (P' :: L) H := w.map fun h s => by
  obtain ⟨h1, h2, d, s1, s2, p, h3, h4, d2, s3, s4, q, z⟩ := s
  exact ⟨LHor h1 h3, h4, or_dis (d.sub_r s4) d2, lor_sub s1 (s3.trans s2), s4.trans s2, t _ _ _ lor_l (lor_r s1 (s3.trans s2)) p q, z⟩
theorem Own.dtScalar (z : ∀ H, Dp K H v d) (w : Own L H) : Own (DT K v d :: L) H := w.free fun H _ => z H
theorem Own.dtNil (w : Own L H) : Own (DTs K [] [] :: L) H := w.free fun H _ => .nil
theorem Own.dtCons (w : Own (DT K v d :: DTs K vs ds :: L) H) : Own (DTs K (v :: vs) (d :: ds) :: L) H := w.join fun h1 h2 h s t p q H e => .cons (p H (e.sub s)) (q H (e.sub t))
theorem Own.dtSnoc (w : Own (DTs K vs ds :: DT K v d :: L) H) : Own (DTs K (vs ++ [v]) (ds ++ [d]) :: L) H := w.join fun h1 h2 h s t p q H e => dpAll_snoc (p H (e.sub s)) (q H (e.sub t))
theorem Own.dtLst (w : Own (cell c a (.lst vs) :: DTs K vs ds :: L) H) : Own (DT K (.ref a) (.list ds) :: L) H := w.join fun h1 h2 h s t p q H e => .lst (SqL.of (e _ _ _ (s _ _ p))) (q H (e.sub t))
theorem Own.dtTup (w : Own (cell c a (.tup vs) :: DTs K vs ds :: L) H) : Own (DT K (.ref a) (.tuple ds) :: L) H := w.join fun h1 h2 h s t p q H e => .tup (SqT.of' (e _ _ _ (s _ _ p))) (q H (e.sub t))
theorem Own.dtInts (w : Own (cell c a (.lst (xs.map V.int)) :: L) H) : Own (DT K (.ref a) (.list (xs.map PyData.int)) :: L) H := w.head fun h p H e => .lst (SqL.of (e _ _ _ p)) (dp_ints xs)
theorem Own.dtRd (w : Own (DT K v d :: L) H) : Own (Rd (DT K v d) :: L) H := w.toRd fun _ => DT.mark
theorem Own.dp (w : Own (DT K v d :: L) H) : Dp K H v d := w.ent (Ent.here tell_DT)
abbrev GotD (K : PySem.W.Frag) (L : List HP) (v : V) (d : PyData) : Prop := Ent L fun H => Dp K H v d
theorem Own.dpG (w : Own L H) (t : GotD K L v d) : Dp K H v d := w.ent t
theorem GotD.here : GotD K (DT K v d :: L) v d := Ent.here tell_DT
theorem GotD.hereR : GotD K (Rd (DT K v d) :: L) v d := Ent.here (tell_rd tell_DT)
theorem GotD.ints : GotD K (cell c a (.lst (xs.map V.int)) :: L) (.ref a) (.list (xs.map PyData.int)) := Ent.here fun h p H e => .lst (SqL.of (e _ _ _ p)) (dp_ints xs)
theorem GotD.next (t : GotD K L v d) : GotD K (P :: L) v d := Ent.next t
/-! ### lists that are read -/
abbrev GotL (K : PySem.W.Frag) (L : List HP) (a : Addr) (vs : List V) : Prop := Ent L fun H => SqL K H a vs
/-- a list that stands still -/
def ScP (K : PySem.W.Frag) (a : Addr) (vs : List V) : HP := fun h => (∃ o, h a = some (.frz o (.lst vs), true)) ∨
    ∃ (o : Obj) (its : Array Value) (n : Nat), K.lookup a = some o ∧ o.cls = .type "list" ∧ o.dict = none ∧ o.data = .seq its n ∧ its.size ≤ sizeLine ∧ Vals vs its.toList
theorem tell_scr : Tell (ScP K a vs) (fun H => Scr K H a vs) := fun h p H e => p.elim (fun ⟨o, z⟩ => .inl ⟨o, e _ _ _ z⟩) .inr
instance : Ro (ScP K a vs) := ⟨fun h p => p.elim (fun ⟨o, z⟩ => ⟨LHupd LHnone a (.frz o (.lst vs), true), (fun b x e => by
    obtain ⟨rfl, rfl⟩ := lup_none e
    exact z), (fun b x e => by
    obtain ⟨rfl, rfl⟩ := lup_none e
    rfl), .inl ⟨o, if_pos rfl⟩⟩) fun z => ⟨LHnone, sub_none, (fun _ _ e => nomatch e), .inr z⟩⟩
theorem Own.ofScr (s : Scr K H a vs) : Own [ScP K a vs] H := by
  rcases s with ⟨o, z⟩ | z
  · refine ⟨LHupd LHnone a (.frz o (.lst vs), true), fun b x c e => ?_, LHupd LHnone a (.frz o (.lst vs), true), LHnone, dis_none_r, LSub.rfl', sub_none, .inl ⟨o, if_pos rfl⟩, trivial⟩
    obtain ⟨rfl, e2⟩ := lup_none e
    cases e2
    exact z
  · exact ⟨LHnone, (fun _ _ _ e => nomatch e), LHnone, LHnone, dis_none, sub_none, sub_none, .inr z, trivial⟩
theorem GotL.here : GotL K (cell c a (.lst vs) :: L) a vs := Ent.here fun h p H e => SqL.of (e _ _ _ p)
theorem GotL.hereS : GotL K (ScP K a vs :: L) a vs := Ent.here fun h p H e => (tell_scr h p H e).sq
theorem GotL.next (t : GotL K L a vs) : GotL K (P :: L) a vs := Ent.next t
theorem Own.sql (w : Own L H) (t : GotL K L a vs) : SqL K H a vs := w.ent t
/-! ### drawn numbers -/
def Drw (s : Addr) : HP := hex fun n : Int => pt s (.lst [.int n])
theorem Own.drw {n : Int} (w : Own (pt a (.lst [.int n]) :: L) H) : Own (Drw a :: L) H := w.exi n
/-! ### rows of claims -/
def big {α β : Type} (f : α → β → HP) : List α → List β → HP
  | [], [] => fun _ => True
  | a :: as, b :: bs => stars [f a b, big f as bs]
  | _, _ => fun _ => False
section
variable {α β : Type} {f : α → β → HP} {as as' : List α} {bs bs' : List β} {x : α} {y : β}
theorem big_len_h : ∀ {as : List α} {bs : List β} {h : LH}, big f as bs h → as.length = bs.length
  | [], [], _, _ => rfl
  | _ :: _, _ :: _, _, ⟨_, _, _, _, _, _, _, _, _, _, _, q, _⟩ => congrArg (· + 1) (big_len_h q)
  | [], _ :: _, _, p => p.elim
  | _ :: _, [], _, p => p.elim
theorem Own.bigLen (w : Own (big f as bs :: L) H) : as.length = bs.length := w.ent (Ent.here fun _ p _ _ => big_len_h p)
theorem Own.bigNil (w : Own L H) : Own (big f [] [] :: L) H := w.free trivial
theorem Own.bigCons (w : Own (f x y :: big f as bs :: L) H) : Own (big f (x :: as) (y :: bs) :: L) H := Own.fold (L := [_, _]) w
theorem Own.bigUncons (w : Own (big f (x :: as) (y :: bs) :: L) H) : Own (f x y :: big f as bs :: L) H := Own.flat (L := [_, _]) w
theorem Own.unFalse (z : ∀ h, P h → False) (w : Own (P :: L) H) : False := w.ent (φ := fun _ => False) (Ent.here fun h p _ _ => z h p)
theorem big_mono : ∀ {as : List α} {bs : List β} {h k : LH}, big f as bs h → LSub h k → big f as bs k
  | [], [], _, _, _, _ => trivial
  | _ :: _, _ :: _, _, _, p, s => stars_mono (L := [_, _]) p s
  | [], _ :: _, _, _, p, _ => p.elim
  | _ :: _, [], _, _, p, _ => p.elim
theorem big_app_h : ∀ {as : List α} {bs : List β} {h1 h2 h : LH}, big f as bs h1 → big f as' bs' h2 → Dis h1 h2 → LSub h1 h → LSub h2 h → big f (as ++ as') (bs ++ bs') h
  | [], [], _, _, _, _, q, _, _, t => big_mono q t
  | _ :: _, _ :: _, h1, h2, h, ⟨g1, g2, d, s1, s2, p, g3, g4, d2, s3, s4, r, _⟩, q, e, s, t => by
    refine ⟨g1, LHor g3 h2, dis_or (d.sub_r s3) (e.sub_l s1), s1.trans s, lor_sub (s3.trans (s2.trans s)) t, p, LHor g3 h2, LHnone, dis_none_r, LSub.rfl', sub_none, ?_, trivial⟩
    exact big_app_h r q (e.sub_l (s3.trans s2)) lor_l (lor_r (s3.trans (s2.trans s)) t)
  | [], _ :: _, _, _, _, p, _, _, _, _ => p.elim
  | _ :: _, [], _, _, _, p, _, _, _, _ => p.elim
theorem Own.bigApp (w : Own (big f as bs :: big f as' bs' :: L) H) : Own (big f (as ++ as') (bs ++ bs') :: L) H := w.map fun h s => by
  obtain ⟨h1, h2, d, s1, s2, p, h3, h4, d2, s3, s4, q, z⟩ := s
  exact ⟨LHor h1 h3, h4, or_dis (d.sub_r s4) d2, lor_sub s1 (s3.trans s2), s4.trans s2, big_app_h p q (d.sub_r s3) lor_l (lor_r s1 (s3.trans s2)), z⟩
theorem Own.bigSnoc (w : Own (big f as bs :: f x y :: L) H) : Own (big f (as ++ [x]) (bs ++ [y]) :: L) H :=
  Own.bigApp (Own.swap (Own.bigCons (Own.swap (Own.bigNil (Own.swap w)))).swap.swap)
theorem Own.big1 (w : Own (f x y :: L) H) : Own (big f [x] [y] :: L) H := Own.bigCons (Own.swap (Own.bigNil w))
theorem Own.bigSplit : ∀ {as : List α} {bs : List β} {as' : List α} {bs' : List β} {L : List HP}, as.length = bs.length → Own (big f (as ++ as') (bs ++ bs') :: L) H → Own (big f as bs :: big f as' bs' :: L) H
  | [], [], _, _, _, _, w => w.bigNil
  | _ :: as, _ :: bs, as', bs', L, e, w => by
    have w1 : Own (big f (as ++ as') (bs ++ bs') :: f _ _ :: L) H := w.bigUncons.swap
    have w2 := Own.bigSplit (Nat.succ.inj e) w1
    have w3 : Own (f _ _ :: big f as bs :: big f as' bs' :: L) H := w2.perm (((List.Perm.swap _ _ _).cons _).trans (List.Perm.swap _ _ _))
    exact w3.bigCons
  | [], _ :: _, _, _, _, e, _ => nomatch e
  | _ :: _, [], _, _, _, e, _ => nomatch e
/-- one of the row -/
theorem Own.bigOut {i : Nat} (w : Own (big f as bs :: L) H) (h1 : as[i]? = some x) (h2 : bs[i]? = some y) : Own (f x y :: big f (as.take i) (bs.take i) :: big f (as.drop (i + 1)) (bs.drop (i + 1)) :: L) H := by
  have e1 : as = as.take i ++ x :: as.drop (i + 1) := by
    obtain ⟨q, rfl⟩ := List.getElem?_eq_some_iff.mp h1
    rw [List.getElem_cons_drop, List.take_append_drop]
  have e2 : bs = bs.take i ++ y :: bs.drop (i + 1) := by
    obtain ⟨q, rfl⟩ := List.getElem?_eq_some_iff.mp h2
    rw [List.getElem_cons_drop, List.take_append_drop]
  have l := w.bigLen
  rw [e1, e2] at w
  have w2 := w.bigSplit (by rw [List.length_take, List.length_take, l])
  exact (w2.swap.bigUncons).perm (List.Perm.cons _ (List.Perm.swap _ _ _))
theorem Own.bigIn {i : Nat} (w : Own (f x y :: big f (as.take i) (bs.take i) :: big f (as.drop (i + 1)) (bs.drop (i + 1)) :: L) H) (l : i < as.length) (l2 : i < bs.length) : Own (big f (as.set i x) (bs.set i y) :: L) H := by
  rw [List.set_eq_take_append_cons_drop, List.set_eq_take_append_cons_drop, if_pos l, if_pos l2]
  refine Own.bigApp (Own.swap (Own.bigCons ?_))
  exact w.perm (List.Perm.cons _ (List.Perm.swap _ _ _))
/-- one of the row is changed in place -/
theorem Own.bigBack {i : Nat} (w : Own (f x y :: big f (as.take i) (bs.take i) :: big f (as.drop (i + 1)) (bs.drop (i + 1)) :: L) H) (h1 : as[i]? = some x) (l2 : i < bs.length) : Own (big f as (bs.set i y) :: L) H := by
  have l := (List.getElem?_eq_some_iff.mp h1).1
  have e : as.set i x = as := by
    have := (List.getElem?_eq_some_iff.mp h1).2
    rw [← this]
    exact List.set_getElem_self l
  have w2 := w.bigIn l l2
  rw [e] at w2
  exact w2
/-- one of the row is taken out -/
theorem Own.bigErase {i : Nat} (w : Own (big f as bs :: L) H) (h1 : as[i]? = some x) (h2 : bs[i]? = some y) : Own (f x y :: big f (as.eraseIdx i) (bs.eraseIdx i) :: L) H := by
  rw [List.eraseIdx_eq_take_drop_succ, List.eraseIdx_eq_take_drop_succ]
  have w2 := w.bigOut h1 h2
  exact (Own.bigApp (w2.perm ((List.Perm.swap _ _ _).trans (List.Perm.cons _ (List.Perm.swap _ _ _))))).swap
theorem ro_big (c : ∀ x y, Ro (f x y)) : ∀ (as : List α) (bs : List β), Ro (big f as bs)
  | [], [] => ⟨fun h _ => ⟨LHnone, sub_none, (fun _ _ e => nomatch e), trivial⟩⟩
  | a :: as, b :: bs => by
    have := c a b
    have := ro_big c as bs
    show Ro (stars [f a b, big f as bs])
    infer_instance
  | [], _ :: _ => ⟨fun h p => p.elim⟩
  | _ :: _, [] => ⟨fun h p => p.elim⟩
instance [c : ∀ x y, Ro (f x y)] : Ro (big f as bs) := ro_big c as bs
/-- one of a row that is only read -/
theorem big_at_h : ∀ {as : List α} {bs : List β} {h : LH} {i : Nat}, big f as bs h → as[i]? = some x → bs[i]? = some y → ∃ g, LSub g h ∧ f x y g
  | _ :: _, _ :: _, _, 0, ⟨g1, _, _, s1, _, p, _⟩, e, e2 => by
    cases e
    cases e2
    exact ⟨g1, s1, p⟩
  | _ :: _, _ :: _, _, i + 1, ⟨_, _, _, _, s2, _, g3, _, _, s3, _, q, _⟩, e, e2 => by
    obtain ⟨g, s, p⟩ := big_at_h (i := i) q e e2
    exact ⟨g, s.trans (s3.trans s2), p⟩
  | [], [], _, _, _, e, _ => nomatch e
  | [], _ :: _, _, _, p, _, _ => p.elim
  | _ :: _, [], _, _, p, _, _ => p.elim
/-- what one of the row tells -/
theorem Own.bigTell {φ : Hp → Prop} {i : Nat} (w : Own (big f as bs :: L) H) (h1 : as[i]? = some x) (h2 : bs[i]? = some y) (t : Tell (f x y) φ) : φ H := w.ent (Ent.here fun h p H e => by
  obtain ⟨g, s, z⟩ := big_at_h p h1 h2
  exact t g z H (e.sub s))
theorem Own.bigAt [c : ∀ x y, Ro (f x y)] {i : Nat} (w : Own (big f as bs :: L) H) (h1 : as[i]? = some x) (h2 : bs[i]? = some y) : Own (f x y :: big f as bs :: L) H := w.map fun h s => by
  obtain ⟨g1, g2, d, s1, s2, p, q⟩ := s
  obtain ⟨g, t, z⟩ := big_at_h p h1 h2
  obtain ⟨g', t', r, z'⟩ := (c x y).ro g z
  exact ⟨g', h, fun a x y e _ => r a x e, t'.trans (t.trans s1), LSub.rfl', z', g1, g2, d, s1, s2, p, q⟩
theorem Own.bigAt' (c : ∀ x y, Ro (f x y)) {i : Nat} (w : Own (big f as bs :: L) H) (h1 : as[i]? = some x) (h2 : bs[i]? = some y) : Own (f x y :: big f as bs :: L) H := w.bigAt h1 h2
theorem Own.bigHead {g : α → β → HP} (t : ∀ x y h, f x y h → g x y h) (w : Own (big f as bs :: L) H) : Own (big g as bs :: L) H := w.head fun h p => by
  have : ∀ {as : List α} {bs : List β} {h : LH}, big f as bs h → big g as bs h := by
    intro as
    induction as with
    | nil => intro bs h p; cases bs with
      | nil => trivial
      | cons b bs => exact p.elim
    | cons a as ih => intro bs h p; cases bs with
      | nil => exact p.elim
      | cons b bs =>
        obtain ⟨g1, g2, d, s1, s2, p, g3, g4, d2, s3, s4, q, z⟩ := p
        exact ⟨g1, g2, d, s1, s2, t _ _ _ p, g3, g4, d2, s3, s4, ih q, z⟩
  exact this p
end
end
end G

/-! the steps that write, by claims -/
namespace G
open PySem PySem.Spec PyProof.Rows L2
section
variable {K : PySem.W.Frag} {a b l s : Addr} {L M R : List HP} {P P' : HP} {H H' : Hp} {o u : HO} {v x y : V} {vs xs zs : List V} {c : Bool} {Q : VK} {E : L2.St → XK} {EX : XK} {σ : L2.St} {D : Ends} {tA tB : TA} {ta tb : TE} {sp : Sp} {n m : Nat} {i j k : Int}
/-! new tuples, lists -/
def kTup (Q : VK) : List V → Hp → Prop := fun xs H1 => xs.length ≤ sizeLine ∧ ∀ p, H1 p = none → Q (.ref p) (upd H1 p (.tup xs))
def kLst (Q : VK) : List V → Hp → Prop := fun xs H1 => xs.length ≤ sizeLine ∧ ∀ p, H1 p = none → Q (.ref p) (upd H1 p (.lst xs))
theorem w_tupK (h : tA σ H (kTup Q)) : tTup tA σ H Q := h
instance (priority := 900) i_w_tupK  : Stp (tTup tA σ H Q) (tA σ H (kTup Q)) := ⟨w_tupK⟩
theorem w_lstK (h : tA σ H (kLst Q)) : tLst tA σ H Q := h
instance (priority := 900) i_w_lstK  : Stp (tLst tA σ H Q) (tA σ H (kLst Q)) := ⟨w_lstK⟩
theorem k_tup (hl : Nat.ble xs.length 1000 = true) (w : Own L H) (q : ∀ p H', Own (ro p (.tup xs) :: L) H' → Q (.ref p) H') : kTup Q xs H := ⟨small_le hl, fun p hp => q p _ (w.newT hp)⟩
theorem k_lst (hl : Nat.ble xs.length 1000 = true) (w : Own L H) (q : ∀ p H', Own (pt p (.lst xs) :: L) H' → Q (.ref p) H') : kLst Q xs H := ⟨small_le hl, fun p hp => q p _ (w.new hp)⟩
/-! objects -/
def kMk (Cc : Addr) (sp : Sp) (E : L2.St → XK) (σ : L2.St) (Q : VK) : List V → Hp → Prop := fun vs H1 => ∀ x dx, H1 x = none → H1 dx = none → dx ≠ x → sp (.ref x :: vs) (upd (upd H1 dx (.own x)) x (.ins Cc dx [])) (fun v H2 => v = .non ∧ Q (.ref x) H2) (E σ)
theorem w_mkQ {Cc : Addr} (h : tA σ H (kMk Cc sp E σ Q)) : tMk Cc sp E tA σ H Q := h
instance (priority := 900) i_w_mkQ {Cc : Addr} : Stp (tMk Cc sp E tA σ H Q) (tA σ H (kMk Cc sp E σ Q)) := ⟨w_mkQ⟩
/-- what is wanted of an __init__ -/
def kIni (Q : VK) (x : Addr) : VK := fun v H2 => v = .non ∧ Q (.ref x) H2
theorem k_mk {Cc : Addr} (w : Own L H) (q : ∀ x dx H', Own (pt x (.ins Cc dx []) :: L) H' → sp (.ref x :: vs) H' (kIni Q x) (E σ)) : kMk Cc sp E σ Q vs H := fun x dx hx hd ne => q x dx _ (w.made hx hd ne)
def kMkK (Cc : Addr) (n m : Nat) (sp : Sp) (gV : List V → List V → List V) (E : L2.St → XK) (σ : L2.St) (Q : VK) (vs zs : List V) (H2 : Hp) : Prop := vs.length = n ∧ zs.length = m ∧ ∀ x dx, H2 x = none → H2 dx = none → dx ≠ x →
  sp (gV (.ref x :: vs) zs) (upd (upd H2 dx (.own x)) x (.ins Cc dx [])) (fun v H3 => v = .non ∧ Q (.ref x) H3) (E σ)
theorem w_mkKQ {Cc : Addr} {gV : List V → List V → List V} (h : tA σ H fun vs H1 => tB σ H1 fun zs H2 => kMkK Cc n m sp gV E σ Q vs zs H2) : tMkK Cc n m sp gV E tA tB σ H Q := h
instance (priority := 900) i_w_mkKQ {Cc : Addr} {gV : List V → List V → List V} : Stp (tMkK Cc n m sp gV E tA tB σ H Q) (tA σ H fun vs H1 => tB σ H1 fun zs H2 => kMkK Cc n m sp gV E σ Q vs zs H2) := ⟨w_mkKQ⟩
theorem k_mkK {Cc : Addr} {gV : List V → List V → List V} (h1 : vs.length = n) (h2 : zs.length = m) (w : Own L H) (q : ∀ x dx H', Own (pt x (.ins Cc dx []) :: L) H' → sp (gV (.ref x :: vs) zs) H' (kIni Q x) (E σ)) : kMkK Cc n m sp gV E σ Q vs zs H :=
  ⟨h1, h2, fun x dx hx hd ne => q x dx _ (w.made hx hd ne)⟩
theorem k_mkK' {Cc : Addr} {gV : List V → List V → List V} {as : List V} (e : ∀ x : Addr, gV (.ref x :: vs) zs = .ref x :: as) (h1 : vs.length = n) (h2 : zs.length = m) (w : Own L H) (q : ∀ x dx H', Own (pt x (.ins Cc dx []) :: L) H' → sp (.ref x :: as) H' (kIni Q x) (E σ)) : kMkK Cc n m sp gV E σ Q vs zs H :=
  k_mkK h1 h2 w fun x dx H' w' => by rw [e]; exact q x dx H' w'
theorem w_mtE {C : Addr} {m : Str} {P : Addr → Prop} (h : ∃ dx fs, H a = some (.ins C dx fs) ∧ fs.lookup m = none) (q : P a) : ∃ a' dx' fs', V.ref a = .ref a' ∧ H a' = some (.ins C dx' fs') ∧ fs'.lookup m = none ∧ P a' :=
  let ⟨dx, fs, h1, h2⟩ := h
  ⟨a, dx, fs, rfl, h1, h2, q⟩
theorem w_fldE {C : Addr} {f : Str} {v : V} {P : Addr → Addr → Addr → List (Str × V) → V → Prop} (h : ∃ dx fs, H a = some (.ins C dx fs) ∧ fs.lookup f = some v) (c : Cls K C) (na : NoAttr K C f) (q : ∀ dx fs, P a C dx fs v) : ∃ a' C' dx' fs' v', V.ref a = .ref a' ∧ H a' = some (.ins C' dx' fs') ∧ Cls K C' ∧ NoAttr K C' f ∧ fs'.lookup f = some v' ∧ P a' C' dx' fs' v' :=
  let ⟨dx, fs, h1, h2⟩ := h
  ⟨a, C, dx, fs, v, rfl, h1, c, na, h2, q dx fs⟩
/-- a claim tells an attribute; that there is a method -/
abbrev TFld (X : HP) (a C : Addr) (f : Str) (v : V) : Prop := Tell X fun H => ∃ dx fs, H a = some (.ins C dx fs) ∧ fs.lookup f = some v
abbrev TMt (X : HP) (a C : Addr) (m : Str) : Prop := Tell X fun H => ∃ dx fs, H a = some (.ins C dx fs) ∧ fs.lookup m = none
/-- an attribute that a claim tells -/
theorem w_fldT {C : Addr} {f : Str} {v : V} {P : Addr → Addr → Addr → List (Str × V) → V → Prop} {X : HP} (t : Tell X (fun H => ∃ dx fs, H a = some (.ins C dx fs) ∧ fs.lookup f = some v)) (w : Own L H) (pk : Pick L X R) (c : Cls K C) (na : NoAttr K C f) (q : ∀ dx fs, P a C dx fs v) : ∃ a' C' dx' fs' v', V.ref a = .ref a' ∧ H a' = some (.ins C' dx' fs') ∧ Cls K C' ∧ NoAttr K C' f ∧ fs'.lookup f = some v' ∧ P a' C' dx' fs' v' :=
  w_fldE ((w.pick pk).ent (.here t)) c na q
/-- a method of an object that a claim tells -/
theorem w_mtT {C : Addr} {m : Str} {P : Addr → Prop} {X : HP} (t : Tell X (fun H => ∃ dx fs, H a = some (.ins C dx fs) ∧ fs.lookup m = none)) (w : Own L H) (pk : Pick L X R) (q : P a) : ∃ a' dx' fs', V.ref a = .ref a' ∧ H a' = some (.ins C dx' fs') ∧ fs'.lookup m = none ∧ P a' :=
  w_mtE ((w.pick pk).ent (.here t)) q
theorem k_ini (q : Q (.ref a) H) : kIni Q a .non H := ⟨rfl, q⟩
instance (priority := 900) i_k_ini  : Stp (kIni Q a .non H) (Q (.ref a) H) := ⟨k_ini⟩
/-- some of the claims -/
def Sel (L M : List HP) : Prop := ∀ h, stars L h → stars M h
theorem Sel.rf : Sel L L := fun _ s => s
theorem Sel.nil : Sel L [] := fun _ _ => trivial
theorem Sel.cons (p : Pick L P R) (s : Sel R M) : Sel L (P :: M) := fun h z => stars_cons s (p h z)
theorem Sel.drop (s : Sel L M) : Sel (P :: L) M := fun h z => s h (by
  obtain ⟨_, _, _, _, s2, _, q⟩ := z
  exact stars_mono q s2)
theorem Own.sel (w : Own L H) (s : Sel L M) : Own M H := w.map s
theorem Own.restS (w : Own (P :: L) H) (s : Sel L M) : Own (P :: M) H := w.rest s
theorem Own.take2 {P1 P2 : HP} {L1 : List HP} (w : Own L H) (p1 : Pick L P1 L1) (p2 : Pick L1 P2 R) : Own (P1 :: P2 :: R) H := (w.pick p1).rest p2
theorem Own.take3 {P1 P2 P3 : HP} {L1 L2 : List HP} (w : Own L H) (p1 : Pick L P1 L1) (p2 : Pick L1 P2 L2) (p3 : Pick L2 P3 R) : Own (P1 :: P2 :: P3 :: R) H := (w.pick p1).rest (Sel.cons p2 p3)
theorem Own.take4 {P1 P2 P3 P4 : HP} {L1 L2 L3 : List HP} (w : Own L H) (p1 : Pick L P1 L1) (p2 : Pick L1 P2 L2) (p3 : Pick L2 P3 L3) (p4 : Pick L3 P4 R) : Own (P1 :: P2 :: P3 :: P4 :: R) H := (w.pick p1).rest (Sel.cons p2 (Sel.cons p3 p4))
theorem Pick.st (p : Pick L P R) : ∀ h, stars L h → stars (P :: R) h := p
theorem Own.pick2 (w : Own (P' :: L) H) (p : Pick L P R) : Own (P' :: P :: R) H := w.rest p
theorem Own.cellRo (w : Own (cell c a o :: L) H) : Own (ro a o :: L) H := by
  cases c
  · exact w.toRo
  · exact w
/-! attributes -/
def kFld (K : PySem.W.Frag) (f : Str) (D : Ends) (σ : L2.St) (y x : V) (H2 : Hp) : Prop := ∃ a C dx fs, x = .ref a ∧ H2 a = some (.ins C dx fs) ∧ Cls K C ∧ NoAttr K C f ∧ fs.length < 1000 ∧ D.nx σ (upd H2 a (.ins C dx (putF f y fs)))
theorem w_sfldQ {f : Str} (h : tb σ H fun y H1 => ta σ H1 fun x H2 => kFld K f D σ y x H2) : sFld K ta tb f D σ H := h
instance (priority := 900) i_w_sfldQ {f : Str} : Stp (sFld K ta tb f D σ H) (tb σ H fun y H1 => ta σ H1 fun x H2 => kFld K f D σ y x H2) := ⟨w_sfldQ⟩
theorem k_fld {f : Str} {C dx : Addr} {fs fs' : List (Str × V)} (w : Own L H) (p : Put L a (.ins C dx fs) (.ins C dx fs') M) (c : Cls K C) (na : NoAttr K C f) (e : putF f y fs = fs') (l : Nat.blt fs.length 1000 = true) (q : ∀ H', Own M H' → D.nx σ H') : kFld K f D σ y (.ref a) H :=
  ⟨a, C, dx, fs, rfl, w.putGet p, c, na, Nat.le_of_ble_eq_true l, by rw [e]; exact q _ (w.put p)⟩
def kFA (a C : Addr) (f : Str) (D : Ends) (σ : L2.St) (z : V) (H3 : Hp) : Prop := ∃ dx' fs', H3 a = some (.ins C dx' fs') ∧ fs'.length < 1000 ∧ D.nx σ (upd H3 a (.ins C dx' (putF f z fs')))
theorem w_sfaQ {f : Str} {rd : V → V → Hp → VK → Prop} (h : ta σ H fun x H1 => ∃ a C dx fs v, x = .ref a ∧ H1 a = some (.ins C dx fs) ∧ Cls K C ∧ NoAttr K C f ∧ fs.lookup f = some v ∧
  tb σ H1 fun y H2 => rd v y H2 fun z H3 => kFA a C f D σ z H3) : sFldAug K ta tb rd f D σ H := h
instance (priority := 900) i_w_sfaQ {f : Str} {rd : V → V → Hp → VK → Prop} : Stp (sFldAug K ta tb rd f D σ H) (ta σ H fun x H1 => ∃ a C dx fs v, x = .ref a ∧ H1 a = some (.ins C dx fs) ∧ Cls K C ∧ NoAttr K C f ∧ fs.lookup f = some v ∧ tb σ H1 fun y H2 => rd v y H2 fun z H3 => kFA a C f D σ z H3) := ⟨w_sfaQ⟩
theorem k_fa {f : Str} {C dx : Addr} {fs fs' : List (Str × V)} (w : Own L H) (p : Put L a (.ins C dx fs) (.ins C dx fs') M) (e : putF f y fs = fs') (l : Nat.blt fs.length 1000 = true) (q : ∀ H', Own M H' → D.nx σ H') : kFA a C f D σ y H :=
  ⟨dx, fs, w.putGet p, Nat.le_of_ble_eq_true l, by rw [e]; exact q _ (w.put p)⟩
/-! lists -/
theorem k_app (w : Own L H) (p : Put L l (.lst xs) (.lst (xs ++ [v])) M) (hz : xs.length < sizeLine) (q : ∀ H', Own M H' → Q .non H') : rAppend (.ref l) [v] H Q := w_app (w.putGet p) hz (q _ (w.put p))
theorem k_setL {Qo : Hp → Prop} {z : Nat} (w : Own L H) (p : Put L l (.lst xs) (.lst (xs.set z v)) M) (hj : ixN xs.length k = some z) (q : ∀ H', Own M H' → Qo H') : rSetL (.ref l) (.int k) v H Qo := w_setL (w.putGet p) hj (q _ (w.put p))
theorem k_extend (w : Own L H) (p : Put L l (.lst xs) (.lst (xs ++ zs)) M) (g : Got L b (.lst zs)) (hz : xs.length + zs.length ≤ sizeLine) (q : ∀ H', Own M H' → Q .non H') : rExtend (.ref l) [.ref b] H Q := w_extend (w.putGet p) (w.get g) hz (q _ (w.put p))
theorem k_cat (w : Own L H) (g1 : Got L l (.lst xs)) (g2 : Got L b (.lst zs)) (hz : xs.length + zs.length ≤ sizeLine) (q : ∀ p H', Own (pt p (.lst (xs ++ zs)) :: L) H' → Q (.ref p) H') : rCat (.ref l) (.ref b) H Q := w_cat (w.get g1) (w.get g2) hz fun p hp => q p _ (w.new hp)
theorem k_rep (w : Own L H) (g1 : Got L l (.lst xs)) (h0 : 0 ≤ k) (hk : k < 4611686018427387904) (hz : xs.length * k.toNat ≤ sizeLine) (q : ∀ p H', Own (pt p (.lst (List.replicate k.toNat xs).flatten) :: L) H' → Q (.ref p) H') : rRep (.ref l) (.int k) H Q := w_rep (w.get g1) h0 hk hz fun p hp => q p _ (w.new hp)
theorem k_listL (w : Own L H) (g : SqL K H a xs) (q : ∀ p H', Own (pt p (.lst xs) :: L) H' → Q (.ref p) H') : gListOf K [.ref a] H Q := w_listL g fun p hp => q p _ (w.new hp)
theorem k_listT (w : Own L H) (g : SqT K H a xs) (q : ∀ p H', Own (pt p (.lst xs) :: L) H' → Q (.ref p) H') : gListOf K [.ref a] H Q := w_listT g fun p hp => q p _ (w.new hp)
theorem k_tupL (w : Own L H) (g : SqL K H a xs) (q : ∀ p H', Own (ro p (.tup xs) :: L) H' → Q (.ref p) H') : gTupOf K [.ref a] H Q := w_tupL g fun p hp => q p _ (w.newT hp)
theorem k_slfrom (w : Own L H) (g : SqL K H a xs) (h0 : 0 ≤ i) (q : ∀ p H', Own (pt p (.lst (xs.drop i.toNat)) :: L) H' → Q (.ref p) H') : rSlL K (.ref a) (some i) none H Q := w_slLfrom g h0 fun p hp => q p _ (w.new hp)
theorem k_slto (w : Own L H) (g : SqL K H a xs) (h0 : 0 ≤ i) (q : ∀ p H', Own (pt p (.lst (xs.take i.toNat)) :: L) H' → Q (.ref p) H') : rSlL K (.ref a) none (some i) H Q := w_slLto g h0 fun p hp => q p _ (w.new hp)
theorem k_slmid (w : Own L H) (g : SqL K H a xs) (h0 : 0 ≤ i) (h1 : i ≤ j) (q : ∀ p H', Own (pt p (.lst ((xs.drop i.toNat).take (j - i).toNat)) :: L) H' → Q (.ref p) H') : rSlL K (.ref a) (some i) (some j) H Q := w_slLmid g h0 h1 fun p hp => q p _ (w.new hp)
variable {ns ms : List Int} {ps : List Addr} {r : Addr}
theorem eraseIdx_map' {α β : Type} (f : α → β) : ∀ (l : List α) (i : Nat), (l.eraseIdx i).map f = (l.map f).eraseIdx i
  | [], i => by simp
  | a :: l, 0 => rfl
  | a :: l, i + 1 => by simp [eraseIdx_map' f l i]
theorem k_slfromI (w : Own L H) (g : SqL K H a (ns.map V.int)) (h0 : 0 ≤ i) (q : ∀ p H', Own (pt p (.lst ((ns.drop i.toNat).map V.int)) :: L) H' → Q (.ref p) H') : rSlL K (.ref a) (some i) none H Q := k_slfrom w g h0 (by rw [← List.map_drop]; exact q)
theorem k_sltoI (w : Own L H) (g : SqL K H a (ns.map V.int)) (h0 : 0 ≤ i) (q : ∀ p H', Own (pt p (.lst ((ns.take i.toNat).map V.int)) :: L) H' → Q (.ref p) H') : rSlL K (.ref a) none (some i) H Q := k_slto w g h0 (by rw [← List.map_take]; exact q)
theorem k_slmidI (w : Own L H) (g : SqL K H a (ns.map V.int)) (h0 : 0 ≤ i) (h1 : i ≤ j) (q : ∀ p H', Own (pt p (.lst (((ns.drop i.toNat).take (j - i).toNat).map V.int)) :: L) H' → Q (.ref p) H') : rSlL K (.ref a) (some i) (some j) H Q := k_slmid w g h0 h1 (by rw [← List.map_drop, ← List.map_take]; exact q)
theorem k_catI (w : Own L H) (g1 : Got L l (.lst (ns.map V.int))) (g2 : Got L b (.lst (ms.map V.int))) (hz : ns.length + ms.length ≤ sizeLine) (q : ∀ p H', Own (pt p (.lst ((ns ++ ms).map V.int)) :: L) H' → Q (.ref p) H') : rCat (.ref l) (.ref b) H Q := k_cat w g1 g2 (by rw [List.length_map, List.length_map]; exact hz) (by rw [← List.map_append]; exact q)
theorem k_catR {qs : List Addr} (w : Own L H) (g1 : Got L l (.lst (ps.map V.ref))) (g2 : Got L b (.lst (qs.map V.ref))) (hz : ps.length + qs.length ≤ sizeLine) (q : ∀ p H', Own (pt p (.lst ((ps ++ qs).map V.ref)) :: L) H' → Q (.ref p) H') : rCat (.ref l) (.ref b) H Q := k_cat w g1 g2 (by rw [List.length_map, List.length_map]; exact hz) (by rw [← List.map_append]; exact q)
theorem k_slfromR (w : Own L H) (g : SqL K H a (ps.map V.ref)) (h0 : 0 ≤ i) (q : ∀ p H', Own (pt p (.lst ((ps.drop i.toNat).map V.ref)) :: L) H' → Q (.ref p) H') : rSlL K (.ref a) (some i) none H Q := k_slfrom w g h0 (by rw [← List.map_drop]; exact q)
theorem k_sltoR (w : Own L H) (g : SqL K H a (ps.map V.ref)) (h0 : 0 ≤ i) (q : ∀ p H', Own (pt p (.lst ((ps.take i.toNat).map V.ref)) :: L) H' → Q (.ref p) H') : rSlL K (.ref a) none (some i) H Q := k_slto w g h0 (by rw [← List.map_take]; exact q)
theorem k_slfromRs {j : Nat} (w : Own L H) (g : SqL K H a (ps.map V.ref)) (q : ∀ p H', Own (pt p (.lst ((ps.drop (j + 1)).map V.ref)) :: L) H' → Q (.ref p) H') : rSlL K (.ref a) (some ((j : Int) + 1)) none H Q := k_slfromR w g (by omega) (by rw [show ((j : Int) + 1).toNat = j + 1 by omega]; exact q)
theorem k_slfromRn {j : Nat} (w : Own L H) (g : SqL K H a (ps.map V.ref)) (q : ∀ p H', Own (pt p (.lst ((ps.drop j).map V.ref)) :: L) H' → Q (.ref p) H') : rSlL K (.ref a) (some (j : Int)) none H Q := k_slfromR w g (by omega) q
theorem k_slfromR1 (w : Own L H) (g : SqL K H a (ps.map V.ref)) (q : ∀ p H', Own (pt p (.lst ((ps.drop 1).map V.ref)) :: L) H' → Q (.ref p) H') : rSlL K (.ref a) (some 1) none H Q := k_slfromR w g (by decide) q
theorem k_sltoRn {j : Nat} (w : Own L H) (g : SqL K H a (ps.map V.ref)) (q : ∀ p H', Own (pt p (.lst ((ps.take j).map V.ref)) :: L) H' → Q (.ref p) H') : rSlL K (.ref a) none (some (j : Int)) H Q := k_sltoR w g (by omega) q
theorem k_sltoR1 (w : Own L H) (g : SqL K H a (ps.map V.ref)) (q : ∀ p H', Own (pt p (.lst ((ps.take 1).map V.ref)) :: L) H' → Q (.ref p) H') : rSlL K (.ref a) none (some 1) H Q := k_sltoR w g (by decide) q
theorem k_slfromIs {j : Nat} (w : Own L H) (g : SqL K H a (ns.map V.int)) (q : ∀ p H', Own (pt p (.lst ((ns.drop (j + 1)).map V.int)) :: L) H' → Q (.ref p) H') : rSlL K (.ref a) (some ((j : Int) + 1)) none H Q := k_slfromI w g (by omega) (by rw [show ((j : Int) + 1).toNat = j + 1 by omega]; exact q)
theorem k_slfromIn {j : Nat} (w : Own L H) (g : SqL K H a (ns.map V.int)) (q : ∀ p H', Own (pt p (.lst ((ns.drop j).map V.int)) :: L) H' → Q (.ref p) H') : rSlL K (.ref a) (some (j : Int)) none H Q := k_slfromI w g (by omega) q
theorem k_slfromI1 (w : Own L H) (g : SqL K H a (ns.map V.int)) (q : ∀ p H', Own (pt p (.lst ((ns.drop 1).map V.int)) :: L) H' → Q (.ref p) H') : rSlL K (.ref a) (some 1) none H Q := k_slfromI w g (by decide) q
theorem k_sltoIn {j : Nat} (w : Own L H) (g : SqL K H a (ns.map V.int)) (q : ∀ p H', Own (pt p (.lst ((ns.take j).map V.int)) :: L) H' → Q (.ref p) H') : rSlL K (.ref a) none (some (j : Int)) H Q := k_sltoI w g (by omega) q
theorem k_sltoI1 (w : Own L H) (g : SqL K H a (ns.map V.int)) (q : ∀ p H', Own (pt p (.lst ((ns.take 1).map V.int)) :: L) H' → Q (.ref p) H') : rSlL K (.ref a) none (some 1) H Q := k_sltoI w g (by decide) q
theorem k_appI (w : Own L H) (p : Put L l (.lst (ns.map V.int)) (.lst ((ns ++ [i]).map V.int)) M) (hz : ns.length < sizeLine) (q : ∀ H', Own M H' → Q .non H') : rAppend (.ref l) [.int i] H Q := k_app w (by rw [List.map_append] at p; exact p) (by rw [List.length_map]; exact hz) q
theorem k_appR (w : Own L H) (p : Put L l (.lst (ps.map V.ref)) (.lst ((ps ++ [r]).map V.ref)) M) (hz : ps.length < sizeLine) (q : ∀ H', Own M H' → Q .non H') : rAppend (.ref l) [.ref r] H Q := k_app w (by rw [List.map_append] at p; exact p) (by rw [List.length_map]; exact hz) q
theorem k_extendI (w : Own L H) (p : Put L l (.lst (ns.map V.int)) (.lst ((ns ++ ms).map V.int)) M) (g : Got L b (.lst (ms.map V.int))) (hz : ns.length + ms.length ≤ sizeLine) (q : ∀ H', Own M H' → Q .non H') : rExtend (.ref l) [.ref b] H Q := k_extend w (by rw [List.map_append] at p; exact p) g (by rw [List.length_map, List.length_map]; exact hz) q
theorem k_pop (w : Own L H) (p : Put L l (.lst xs) (.lst xs.dropLast) M) (h : xs[xs.length - 1]? = some y) (q : ∀ H', Own M H' → Q y H') : rPop (.ref l) [] H Q := ⟨l, xs, y, rfl, rfl, w.putGet p, h, q _ (w.put p)⟩
theorem k_popAt {z : Nat} (w : Own L H) (p : Put L l (.lst xs) (.lst (xs.eraseIdx z)) M) (h0 : -(2 ^ 63) ≤ i) (h1 : i < 2 ^ 63) (hz : seqIndex? i xs.length = some z) (h : xs[z]? = some y) (q : ∀ H', Own M H' → Q y H') : rPopAt (.ref l) [.int i] H Q := ⟨l, xs, i, z, y, rfl, rfl, w.putGet p, h0, h1, hz, h, q _ (w.put p)⟩
theorem k_pop0 (w : Own L H) (p : Put L l (.lst (y :: xs)) (.lst xs) M) (q : ∀ H', Own M H' → Q y H') : rPopAt (.ref l) [.int 0] H Q :=
  k_popAt (z := 0) (xs := y :: xs) w p (by decide) (by decide) (by simp [seqIndex?]) rfl q
def kDelL (D : Ends) (σ : L2.St) (x y : V) (H2 : Hp) : Prop := ∃ (l : Addr) (xs : List V) (i : Int) (k : Nat), x = .ref l ∧ y = .int i ∧ H2 l = some (.lst xs) ∧ -(2 ^ 63) ≤ i ∧ i < 2 ^ 63 ∧ seqIndex? i xs.length = some k ∧ D.nx σ (upd H2 l (.lst (xs.eraseIdx k)))
theorem w_delQ (h : ta σ H fun x H1 => tb σ H1 fun y H2 => kDelL D σ x y H2) : tDelL ta tb D σ H := h
instance (priority := 900) i_w_delQ  : Stp (tDelL ta tb D σ H) (ta σ H fun x H1 => tb σ H1 fun y H2 => kDelL D σ x y H2) := ⟨w_delQ⟩
theorem seqIx {i : Int} {n : Nat} (h0 : 0 ≤ i) (h1 : i < (n : Int)) : seqIndex? i n = some i.toNat := by
  unfold seqIndex?
  simp only [decide_eq_true_eq]
  repeat' split <;> first | rfl | omega | (simp at *; omega)
/-- del xs[i], the i-th of addresses -/
theorem k_delR {i : Int} {j : Nat} (w : Own L H) (e : i = (j : Int)) (h1 : j < ps.length) (h2 : ps.length ≤ 16000000) (p : Put L l (.lst (ps.map V.ref)) (.lst ((ps.eraseIdx j).map V.ref)) M) (q : ∀ H', Own M H' → D.nx σ H') : kDelL D σ (.ref l) (.int i) H :=
  ⟨l, ps.map V.ref, i, j, rfl, rfl, w.putGet p, by omega, by omega, by rw [seqIx (by omega) (by rw [List.length_map]; omega)]; subst e; rfl, by rw [← eraseIdx_map']; exact q _ (w.put p)⟩
theorem k_popAtR {i : Int} {j : Nat} {y : Addr} (w : Own L H) (e : i = (j : Int)) (h2 : ps.length ≤ 16000000) (hy : ps[j]? = some y) (p : Put L l (.lst (ps.map V.ref)) (.lst ((ps.eraseIdx j).map V.ref)) M) (q : ∀ H', Own M H' → Q (.ref y) H') : rPopAt (.ref l) [.int i] H Q := by
  have h1 := (List.getElem?_eq_some_iff.mp hy).1
  exact k_popAt (z := j) w (by rw [eraseIdx_map'] at p; exact p) (by omega) (by omega) (by rw [seqIx (by omega) (by rw [List.length_map]; omega)]; subst e; rfl) (by rw [List.getElem?_map, hy]; rfl) q
theorem k_clear (w : Own L H) (p : Put L l (.lst xs) (.lst []) M) (q : ∀ H', Own M H' → Q .non H') : rClear (.ref l) [] H Q := ⟨l, xs, rfl, rfl, w.putGet p, q _ (w.put p)⟩
theorem k_reverse (w : Own L H) (p : Put L l (.lst xs) (.lst xs.reverse) M) (q : ∀ H', Own M H' → Q .non H') : rReverse (.ref l) [] H Q := ⟨l, xs, rfl, rfl, w.putGet p, q _ (w.put p)⟩
theorem w_ixR {j : Nat} (g : SqL K H a (ps.map V.ref)) (h : ps[j]? = some r) (q : Q (.ref r) H) : rIxL K (.ref a) (.int (j : Int)) H Q := w_ixL g (atI_ref h rfl) q
theorem w_ixR0 (g : SqL K H a (ps.map V.ref)) (h : ps[0]? = some r) (q : Q (.ref r) H) : rIxL K (.ref a) (.int 0) H Q := w_ixL g (atI_ref (a := 0) h rfl) q
theorem w_ixRc (g : SqL K H a ((r :: ps).map V.ref)) (q : Q (.ref r) H) : rIxL K (.ref a) (.int 0) H Q := w_ixL g (atI_ref (a := 0) rfl rfl) q
theorem ix_neg1 {α : Type} {xs : List α} {y : α} (h : xs.getLast? = some y) : atI xs (-1) = some y := by
  have hl : 0 < xs.length := by
    cases xs with
    | nil => cases h
    | cons _ _ => exact Nat.succ_pos _
  unfold atI ixN
  rw [if_neg (by omega)]
  rw [List.getLast?_eq_getElem?] at h
  split
  · show xs[_]? = _
    rw [← h]
    congr 1
    omega
  · omega
theorem w_ixLastR (g : SqL K H a (ps.map V.ref)) (h : ps.getLast? = some r) (q : Q (.ref r) H) : rIxL K (.ref a) (.int (-1)) H Q := w_ixL g (ix_neg1 (by rw [List.getLast?_map, h]; rfl)) q
theorem cut_init {xs : List V} : cutV xs none (some (-1)) = xs.dropLast := by
  have e : HT.sIx xs.length xs.length (some (-1)) = xs.length - 1 := by
    show (if (-1 : Int) < 0 then ((-1 : Int) + (xs.length : Int)).toNat else min (-1 : Int).toNat xs.length) = _
    rw [if_pos (by decide)]
    omega
  unfold cutV
  rw [HT.sIx_none, e, List.drop_zero, Nat.sub_zero, List.dropLast_eq_take]
theorem k_slinitR (w : Own L H) (g : SqL K H a (ps.map V.ref)) (q : ∀ p H', Own (pt p (.lst (ps.dropLast.map V.ref)) :: L) H' → Q (.ref p) H') : rSlL K (.ref a) none (some (-1)) H Q := w_slL g fun p hp => by
  rw [cut_init, ← List.map_dropLast]
  exact q p _ (w.new hp)
theorem k_lst1R (w : Own L H) (q : ∀ p H', Own (pt p (.lst ([r].map V.ref)) :: L) H' → Q (.ref p) H') : kLst Q [.ref r] H := k_lst rfl w q
theorem k_lst1I (w : Own L H) (q : ∀ p H', Own (pt p (.lst ([i].map V.int)) :: L) H' → Q (.ref p) H') : kLst Q [.int i] H := k_lst rfl w q
theorem w_gTup {nn : Nat} {t : TGs} {Qs : L2.St → Hp → Prop} (g : SqT K H a xs) (h : xs.length = nn) (q : t xs σ H Qs) : gTup K nn t (.ref a) σ H Qs := ⟨a, xs, rfl, g, h, q⟩
theorem w_gCons {t : TG} {u : TGs} {Qs : L2.St → Hp → Prop} (q : t v σ H fun σ' H' => u xs σ' H' Qs) : gCons t u (v :: xs) σ H Qs := ⟨v, xs, rfl, q⟩
instance (priority := 900) i_w_gCons {t : TG} {u : TGs} {Qs : L2.St → Hp → Prop} : Stp (gCons t u (v :: xs) σ H Qs) (t v σ H fun σ' H' => u xs σ' H' Qs) := ⟨w_gCons⟩
theorem w_gNil {Qs : L2.St → Hp → Prop} (q : Qs σ H) : gNil [] σ H Qs := ⟨rfl, q⟩
instance (priority := 900) i_w_gNil {Qs : L2.St → Hp → Prop} : Stp (gNil [] σ H Qs) (Qs σ H) := ⟨w_gNil⟩
theorem w_lenLI (g : SqL K H a (ns.map V.int)) (q : Q (.int (ns.length : Int)) H) : gLen K [.ref a] H Q := w_lenL g (by rw [List.length_map]; exact q)
theorem w_lenLR (g : SqL K H a (ps.map V.ref)) (q : Q (.int (ps.length : Int)) H) : gLen K [.ref a] H Q := w_lenL g (by rw [List.length_map]; exact q)
theorem w_ixI (g : SqL K H a (ns.map V.int)) (h0 : 0 ≤ i) (h1 : i < (ns.length : Int)) (q : Q (.int (ns.getD i.toNat 0)) H) : rIxL K (.ref a) (.int i) H Q := w_ixL g (atI_int (a := i.toNat) (by omega) (by omega)) q
theorem emp_len {α : Type} (xs : List α) : (!xs.isEmpty) = decide (0 < xs.length) := by cases xs <;> simp
theorem k_truR {P : Bool → Prop} (g : SqL K H a (ps.map V.ref)) (q : P (decide (0 < ps.length))) : ∃ k, TruV K (.ref a) H k ∧ P k := ⟨_, .inl ⟨_, g, rfl⟩, by rw [emp_len, List.length_map]; exact q⟩
theorem k_truI {P : Bool → Prop} (g : SqL K H a (ns.map V.int)) (q : P (decide (0 < ns.length))) : ∃ k, TruV K (.ref a) H k ∧ P k := ⟨_, .inl ⟨_, g, rfl⟩, by rw [emp_len, List.length_map]; exact q⟩
theorem k_truL {P : Bool → Prop} (g : SqL K H a xs) (q : P (decide (0 < xs.length))) : ∃ k, TruV K (.ref a) H k ∧ P k := ⟨_, .inl ⟨_, g, rfl⟩, by rw [emp_len]; exact q⟩
/-! while -/
def NV (Pv : Nat → L2.St → Hp → Prop) (m : Nat) : L2.St → Hp → Prop := fun σ' H' => ∃ m', m' < m ∧ Pv m' σ' H'
def kWhT (Pv : Nat → L2.St → Hp → Prop) (tb : TS) (D : Ends) (m : Nat) (σ : L2.St) (H1 : Hp) : Prop := ∃ N : L2.St → Hp → Prop, (∀ σ' H', N σ' H' → ∃ m', m' < m ∧ Pv m' σ' H') ∧ tb { D with nx := N, ct := N, bk := D.nx } σ H1
theorem w_whileO {c : TT} {tb : TS} {m0 : Nat} (Pv : Nat → L2.St → Hp → Prop) (h0 : Pv m0 σ H) (hs : ∀ m σ H, Pv m σ H → c σ H fun b H1 => if b = true then kWhT Pv tb D m σ H1 else D.nx σ H1) : tWhile c tb D σ H := ⟨Pv, ⟨m0, h0⟩, hs⟩
theorem k_whT {Pv : Nat → L2.St → Hp → Prop} {tb : TS} {m : Nat} (h : tb { D with nx := NV Pv m, ct := NV Pv m, bk := D.nx } σ H) : kWhT Pv tb D m σ H := ⟨NV Pv m, fun _ _ h => h, h⟩
instance (priority := 900) i_k_whT {Pv : Nat → L2.St → Hp → Prop} {tb : TS} {m : Nat} : Stp (kWhT Pv tb D m σ H) (tb { D with nx := NV Pv m, ct := NV Pv m, bk := D.nx } σ H) := ⟨k_whT⟩
/-! the laws' helpers -/
theorem o_start {n c : Int} (w : Own L H) (q : ∀ p H', Own (Drw p :: L) H' → Q (.ref p) H') : gsStart K [.int c, .int n] H Q EX := c_start fun n p hp => q p _ (w.new hp).drw
theorem o_digit {m : Int} (w : Own L H) (p : Pick L (Drw s) R) (h0 : 0 < m) (h1 : m < 1099511627776) (q : ∀ d H', 0 ≤ d → d < m → Own (Drw s :: R) H' → Q (.int d) H') : gsDigit K [.ref s, .int m] H Q EX := by
  obtain ⟨n, w1⟩ := (w.pick p).ex
  exact c_digit w1.get' h0 h1 fun d n' d0 d1 => q d _ d0 d1 (w1.put .here).drw
/-! comprehensions -/
def PvO (Pv : Nat → List V → List HP → Prop) (D : Addr) (i : Nat) (H' : Hp) : Prop := ∃ A L, Pv i A L ∧ Own (pt D (.lst A) :: L) H'
theorem lc_addO {Pv : Nat → List V → List HP → Prop} {Da : Addr} {i : Nat} {A : List V} (w : Own L H) (p : Pick L (pt Da (.lst A)) R) (hl : A.length < sizeLine) (q : Pv (i + 1) (A ++ [y]) R) : LcAdd Da (PvO Pv Da) i y H := by
  have w1 := w.pick p
  exact ⟨A, w1.get', hl, _, R, q, w1.put .here⟩
theorem lc_skipO {Pv : Nat → List V → List HP → Prop} {Da : Addr} {i : Nat} {A : List V} (w : Own L H) (p : Pick L (pt Da (.lst A)) R) (q : Pv (i + 1) A R) : PvO Pv Da (i + 1) H := ⟨A, R, q, w.pick p⟩
variable {g : TG} {tt : TT} {te : TE} {ws : List Nat} {w₀ : Nat}
/-- over any walk -/
theorem lcO {J : It} {n : Nat} {G : Hp → Prop} {Y : Nat → Hp → V → Hp → Prop} (wk : Walk J n G Y) (Pv : Nat → List V → List HP → Prop) (w : Own L H) (h0 : Pv 0 [] L) (hG : ∀ i A L D H', Pv i A L → Own (pt D (.lst A) :: L) H' → G H')
    (hs : ∀ i x D A L H1 H2, i < n → Pv i A L → Own (pt D (.lst A) :: L) H1 → Y i H1 x H2 → g x (wipe σ ws) H2 fun σ2 H2 => wipe σ2 ws = wipe σ ws ∧ tt σ2 H2 fun b H3 =>
      if b = true then te σ2 H3 fun y H4 => LcAdd D (PvO Pv D) i y H4 else PvO Pv D (i + 1) H3)
    (hd : ∀ D A L H1, Pv n A L → Own (pt D (.lst A) :: L) H1 → Q (.ref D) H1) : rLc J g tt te ws σ H Q :=
  lcG wk (PvO Pv) (fun D hD => ⟨[], L, h0, w.new hD⟩) (fun D i H' ⟨A, L, p, w⟩ => hG i A L D H' p w) (fun i x D H1 H2 hi _ ⟨A, L, p, w⟩ y => hs i x D A L H1 H2 hi p w y) fun D H1 _ ⟨A, L, p, w⟩ => hd D A L H1 p w
theorem lcR1O {n : Nat} (Pv : Nat → List V → List HP → Prop) (w : Own L H) (h0 : Pv 0 [] L) (hj : j = (n : Int)) (hn : n < 16000000)
    (hs : ∀ (i : Nat) D A L H1, i < n → Pv i A L → Own (pt D (.lst A) :: L) H1 → te ((σ.set w₀ none).set w₀ (some (.int (i : Int)))) H1 fun y H4 => LcAdd D (PvO Pv D) i y H4)
    (hd : ∀ D A L H1, Pv n A L → Own (pt D (.lst A) :: L) H1 → Q (.ref D) H1) : rLcR1 (gName w₀) tYes te [w₀] σ Q [.int j] H := by
  subst hj
  refine ⟨(n : Int), rfl, by omega, by omega, lcO walk_range Pv w h0 (fun _ _ _ _ _ _ _ => trivial) ?_ (by rw [Int.toNat_natCast]; exact hd)⟩
  rintro i x D A L H1 H2 hi hP ho ⟨rfl, rfl⟩
  refine ⟨wipe1, ?_⟩
  show te ((σ.set w₀ none).set w₀ (some (.int (0 + (i : Int))))) H2 _
  rw [Int.zero_add]
  exact hs i D A L H2 (by omega) hP ho
theorem lcR1FO {n : Nat} (Pv : Nat → List V → List HP → Prop) (w : Own L H) (h0 : Pv 0 [] L) (hj : j = (n : Int)) (hn : n < 16000000)
    (hs : ∀ (i : Nat) D A L H1, i < n → Pv i A L → Own (pt D (.lst A) :: L) H1 → tt ((σ.set w₀ none).set w₀ (some (.int (i : Int)))) H1 fun b H3 => if b = true then te ((σ.set w₀ none).set w₀ (some (.int (i : Int)))) H3 fun y H4 => LcAdd D (PvO Pv D) i y H4 else PvO Pv D (i + 1) H3)
    (hd : ∀ D A L H1, Pv n A L → Own (pt D (.lst A) :: L) H1 → Q (.ref D) H1) : rLcR1 (gName w₀) tt te [w₀] σ Q [.int j] H := by
  subst hj
  refine ⟨(n : Int), rfl, by omega, by omega, lcO walk_range Pv w h0 (fun _ _ _ _ _ _ _ => trivial) ?_ (by rw [Int.toNat_natCast]; exact hd)⟩
  rintro i x D A L H1 H2 hi hP ho ⟨rfl, rfl⟩
  refine ⟨wipe1, ?_⟩
  have e : (0 : Int) + (i : Int) = (i : Int) := Int.zero_add _
  show tt ((σ.set w₀ none).set w₀ (some (.int (0 + (i : Int))))) H2 (fun b H3 => if b = true then te ((σ.set w₀ none).set w₀ (some (.int (0 + (i : Int))))) H3 fun y H4 => LcAdd D (PvO Pv D) i y H4 else PvO Pv D (i + 1) H3)
  rw [e]
  exact hs i D A L H2 (by omega) hP ho
theorem lcR2O {lo hi : Int} (Pv : Nat → List V → List HP → Prop) (w : Own L H) (h0 : Pv 0 [] L) (hn : -4000000000 < lo ∧ lo < 4000000000 ∧ -4000000000 < hi ∧ hi < 4000000000) (hn2 : hi - lo < 16000000)
    (hs : ∀ (i : Nat) D A L H1, lo + i < hi → Pv i A L → Own (pt D (.lst A) :: L) H1 → te ((σ.set w₀ none).set w₀ (some (.int (lo + (i : Int))))) H1 fun y H4 => LcAdd D (PvO Pv D) i y H4)
    (hd : ∀ D A L H1, Pv (hi - lo).toNat A L → Own (pt D (.lst A) :: L) H1 → Q (.ref D) H1) : rLcR2 (gName w₀) tYes te [w₀] σ Q [.int lo, .int hi] H := by
  refine ⟨lo, hi, rfl, ⟨by omega, by omega, by omega, by omega⟩, lcO walk_range Pv w h0 (fun _ _ _ _ _ _ _ => trivial) ?_ hd⟩
  rintro i x D A L H1 H2 hi hP ho ⟨rfl, rfl⟩
  exact ⟨wipe1, hs i D A L H2 (by omega) hP ho⟩
theorem lcLO {vs : List V} (Pv : Nat → List V → List HP → Prop) (w : Own L H) (h0 : Pv 0 [] L) (hx : ∀ i A L D H', Pv i A L → Own (pt D (.lst A) :: L) H' → SqL K H' a vs)
    (hx0 : SqL K H a vs) (hs : ∀ (i : Nat) x D A L H1, vs[i]? = some x → Pv i A L → Own (pt D (.lst A) :: L) H1 → te ((σ.set w₀ none).set w₀ (some x)) H1 fun y H4 => LcAdd D (PvO Pv D) i y H4)
    (hd : ∀ D A L H1, Pv vs.length A L → Own (pt D (.lst A) :: L) H1 → Q (.ref D) H1) : rLcL K (gName w₀) tYes te [w₀] σ Q (.ref a) H := by
  refine ⟨a, rfl, ⟨_, hx0⟩, lcO walk_list Pv w h0 hx ?_ hd⟩
  rintro i x D A L H1 H2 hi hP ho ⟨rfl, hxi⟩
  exact ⟨wipe1, hs i x D A L H2 hxi hP ho⟩
theorem lcLFO {vs : List V} (Pv : Nat → List V → List HP → Prop) (w : Own L H) (h0 : Pv 0 [] L) (hx : ∀ i A L D H', Pv i A L → Own (pt D (.lst A) :: L) H' → SqL K H' a vs)
    (hx0 : SqL K H a vs) (hs : ∀ (i : Nat) x D A L H1, vs[i]? = some x → Pv i A L → Own (pt D (.lst A) :: L) H1 → tt ((σ.set w₀ none).set w₀ (some x)) H1 fun b H3 =>
      if b = true then te ((σ.set w₀ none).set w₀ (some x)) H3 fun y H4 => LcAdd D (PvO Pv D) i y H4 else PvO Pv D (i + 1) H3)
    (hd : ∀ D A L H1, Pv vs.length A L → Own (pt D (.lst A) :: L) H1 → Q (.ref D) H1) : rLcL K (gName w₀) tt te [w₀] σ Q (.ref a) H := by
  refine ⟨a, rfl, ⟨_, hx0⟩, lcO walk_list Pv w h0 hx ?_ hd⟩
  rintro i x D A L H1 H2 hi hP ho ⟨rfl, hxi⟩
  exact ⟨wipe1, hs i x D A L H2 hxi hP ho⟩
theorem lcTO {vs : List V} (Pv : Nat → List V → List HP → Prop) (w : Own L H) (h0 : Pv 0 [] L) (hx : ∀ i A L D H', Pv i A L → Own (pt D (.lst A) :: L) H' → SqT K H' a vs)
    (hx0 : SqT K H a vs) (hs : ∀ (i : Nat) x D A L H1, vs[i]? = some x → Pv i A L → Own (pt D (.lst A) :: L) H1 → te ((σ.set w₀ none).set w₀ (some x)) H1 fun y H4 => LcAdd D (PvO Pv D) i y H4)
    (hd : ∀ D A L H1, Pv vs.length A L → Own (pt D (.lst A) :: L) H1 → Q (.ref D) H1) : rLcT K (gName w₀) tYes te [w₀] σ Q (.ref a) H := by
  refine ⟨a, rfl, ⟨_, hx0⟩, lcO walk_tup Pv w h0 hx ?_ hd⟩
  rintro i x D A L H1 H2 hi hP ho ⟨rfl, hxi⟩
  exact ⟨wipe1, hs i x D A L H2 hxi hP ho⟩
/-- drawn numbers: [digit(state, m) for k in range(n)] -/
theorem lcDrawO {m : Int} {n : Nat} (w : Own L H) (p : Pick L (Drw s) R) (hj : j = (n : Int)) (hn : n < 16000000) (h0 : 0 < m) 
    (hb : ∀ (i : Nat) H1 n1, H1 s = some (.lst [.int n1]) → te ((σ.set w₀ none).set w₀ (some (.int (i : Int)))) H1 fun y H4 => ∃ d n2, y = .int d ∧ 0 ≤ d ∧ d < m ∧ H4 = upd H1 s (.lst [.int n2]))
    (mono : ∀ (σ : L2.St) H (Q Q' : VK), (∀ y H1, Q y H1 → Q' y H1) → te σ H Q → te σ H Q')
    (hd : ∀ D (ds : List Int) H1, ds.length = n → (∀ d ∈ ds, 0 ≤ d ∧ d < m) → Own (pt D (.lst (ds.map V.int)) :: Drw s :: R) H1 → Q (.ref D) H1) : rLcR1 (gName w₀) tYes te [w₀] σ Q [.int j] H := by
  refine lcR1O (fun i A L => L = Drw s :: R ∧ ∃ ds : List Int, ds.length = i ∧ (∀ d ∈ ds, 0 ≤ d ∧ d < m) ∧ A = ds.map V.int) (w.pick p) ⟨rfl, [], rfl, (fun d hd => by cases hd), rfl⟩ hj hn ?_ ?_
  · rintro i D A L H1 hi ⟨rfl, ds, hl, hds, rfl⟩ ho
    obtain ⟨n1, w1⟩ := ho.swap.ex
    refine mono _ _ _ _ ?_ (hb i H1 n1 w1.get')
    rintro y H4 ⟨d, n2, rfl, d0, d1, rfl⟩
    refine lc_addO ((w1.put .here).drw.swap) .here (by rw [List.length_map]; exact small16l (by omega)) ⟨rfl, ds ++ [d], by rw [List.length_append, hl]; rfl, ?_, by rw [List.map_append]; rfl⟩
    intro z hz
    rcases List.mem_append.mp hz with hz | hz
    · exact hds z hz
    · rw [List.mem_singleton.mp hz]
      exact ⟨d0, d1⟩
  · rintro D A L H1 ⟨rfl, ds, hl, hds, rfl⟩ ho
    exact hd D ds H1 hl hds ho
theorem mono_digit {t1 t2 : TE} {K : PySem.W.Frag} (m1 : ∀ (σ : L2.St) H (Q Q' : VK), (∀ y H1, Q y H1 → Q' y H1) → t1 σ H Q → t1 σ H Q') (m2 : ∀ (σ : L2.St) H (Q Q' : VK), (∀ y H1, Q y H1 → Q' y H1) → t2 σ H Q → t2 σ H Q') :
    ∀ (σ : L2.St) H (Q Q' : VK), (∀ y H1, Q y H1 → Q' y H1) → tCallS (gsDigit K) E (tCons t1 (tCons t2 tNil)) σ H Q → tCallS (gsDigit K) E (tCons t1 (tCons t2 tNil)) σ H Q' := fun σ H Q Q' hq h =>
  m1 σ H _ _ (fun y H1 h => m2 σ H1 _ _ (fun z H2 h => by
    obtain ⟨p, n, m, e, h1, h2, h3, h4⟩ := h
    exact ⟨p, n, m, e, h1, h2, h3, fun d n' a b => hq _ _ (h4 d n' a b)⟩) h) h
theorem mono_var {n : Nat} : ∀ (σ : L2.St) H (Q Q' : VK), (∀ y H1, Q y H1 → Q' y H1) → tVar n σ H Q → tVar n σ H Q' := fun _ _ _ _ hq ⟨v, e, q⟩ => ⟨v, e, hq _ _ q⟩
theorem mono_c {v : V} : ∀ (σ : L2.St) H (Q Q' : VK), (∀ y H1, Q y H1 → Q' y H1) → tC v σ H Q → tC v σ H Q' := fun _ _ _ _ hq q => hq _ _ q
end
end G

/-! the laws' own helpers, once for all laws -/
namespace G
open PySem PySem.Spec PyProof.Rows L2
abbrev GN_law_cell : List Str := ["script", "k"]
abbrev GN_law_start : List Str := ["cell", "k", "prime", "mixed", "number", "turn"]
abbrev GN_law_digit : List Str := ["state", "many", "digit"]
abbrev GN_law_is_integer : List Str := ["told"]
def gt_law_cell (K : PySem.W.Frag) (E : XK) : TS :=
  (tSeq (tIfS (tTest (tOp gLt (tVar 1) (tCB (gLen K) (tCons (tVar 0) tNil))))
  (tRet (tOp (rIxL K) (tVar 0) (tVar 1)))
  tNext)
  (tRet (tC (.int 0))))
def gt_law_start (K : PySem.W.Frag) (E : XK) : TS :=
  (tSeq (tAsg (tC (.int 618970019642690137449562111)) (gName 2))
  (tSeq (tIfS (tTest (tChain gLt gLt (tUn gNeg (tC (.int 1000000000000000000))) (tVar 0) (tC (.int 1000000000000000000))))
  (tSeq (tAsg (tOp gMod (tCB gInt1 (tCons (tOp gAdd (tOp gMul (tVar 0) (tC (.int 2654435761))) (tOp gMul (tOp gAdd (tVar 1) (tC (.int 1))) (tC (.int 6700417)))) tNil)) (tVar 2)) (gName 3))
  (tSeq (tAsg (tC (.int 0)) (gName 4))
  (tSeq (tFor (iRng1 (tCons (tC (.int 4)) tNil)) (gName 5)
  (tSeq (tAsg (tOp gMod (tCB gInt1 (tCons (tOp gAdd (tOp gAdd (tOp gAdd (tOp gMulW (tVar 3) (tVar 3)) (tOp gMul (tC (.int 7)) (tVar 3))) (tVar 1)) (tVar 5)) tNil)) (tVar 2)) (gName 3))
  (tAsg (tOp gAdd (tOp gMulW (tVar 4) (tVar 2)) (tVar 3)) (gName 4))))
  (tRet (tLst (tCons (tVar 4) tNil))))))
  tNext)
  (tRet (tLst (tCons (tVar 0) tNil)))))
def gt_law_digit (K : PySem.W.Frag) (E : XK) : TS :=
  (tSeq (tAsg (tOp gMod (tCB gInt1 (tCons (tOp (rIxL K) (tVar 0) (tC (.int 0))) tNil)) (tVar 1)) (gName 2))
  (tSeq (tAsg (tOp gDivW (tOp (rIxL K) (tVar 0) (tC (.int 0))) (tVar 1)) (gSub (tVar 0) (tC (.int 0)) rSetL))
  (tRet (tVar 2))))
def gt_law_is_integer (K : PySem.W.Frag) (E : XK) : TS :=
  (tRet (tAndV (tCB (rIsi K) (tCons (tVar 0) (tCons (tC (.ty "int")) tNil))) (tNotV (tCB (rIsi K) (tCons (tVar 0) (tCons (tC (.ty "bool")) tNil))))))
section
local macro_rules | `(tactic| wtm_at "g_get") => `(tactic| first | fail)
local macro_rules | `(tactic| wtm_at "g_set") => `(tactic| first | fail)
local macro_rules | `(tactic| wtm_at "g_set2") => `(tactic| first | fail)
local macro_rules | `(tactic| wtm_at "g_mt") => `(tactic| first | fail)
local macro_rules | `(tactic| wtm_at "g_call") => `(tactic| first | fail)
local macro_rules | `(tactic| wtm_at "g_eq") => `(tactic| first | fail)
local macro_rules | `(tactic| wtm_at "g_ne") => `(tactic| first
  | (with_reducible assumption) | (with_reducible exact Ne.symm (by assumption)) | (with_reducible exact ne_of_none (by assumption) (by assumption)) | (with_reducible exact (ne_of_none (by assumption) (by assumption)).symm)
  | fail)
local macro_rules | `(tactic| wtm_at "g_hp") => `(tactic| first
  | (with_reducible assumption) | (with_reducible exact upd_same) | ((with_reducible refine' up_nn ?k1 ?k2); (case k1 => with_reducible assumption); (case k2 => wtm_at "g_hp")) | ((with_reducible refine' up_k' ?k1 ?k2); (case k1 => wtm_at "g_ne"); (case k2 => wtm_at "g_hp"))
  | ((with_reducible refine' up_ko ?k1 ?k2 ?k3); (case k1 => wtm_at "g_hp"); (case k2 => wtm_at "g_hp"); (case k3 => (intro z; cases z)))
  | ((with_reducible refine' ext_get ?k1 ?k2); (case k1 => assumption); (case k2 => wtm_at "g_hp"))
  | ((with_reducible refine' extp_get ?k1 ?k2 ?k3); (case k1 => assumption); (case k2 => wtm_at "g_ne"); (case k3 => wtm_at "g_hp"))
  | ((with_reducible refine' exts_get ?k1 ?k2 ?k3); (case k1 => assumption); (case k2 => wtm_at "g_ni"); (case k3 => wtm_at "g_hp"))
  | fail)
local macro_rules | `(tactic| wtm_at "g_ni") => `(tactic| first
  | (with_reducible assumption) | (with_reducible exact ni_nil)
  | ((with_reducible refine' ni_cons ?k1 ?k2); (case k1 => wtm_at "g_ne"); (case k2 => wtm_at "g_ni"))
  | fail)
local macro_rules | `(tactic| wtm_at "g_mem") => `(tactic| first
  | (with_reducible assumption) | (with_reducible exact mem_hd)
  | ((with_reducible refine' mem_tl ?k1); (case k1 => wtm_at "g_mem"))
  | fail)
local macro_rules | `(tactic| wtm_at "g_sub") => `(tactic| first
  | (with_reducible assumption) | (with_reducible exact SubN.nil)
  | ((with_reducible refine' SubN.inn ?k1 ?k2); (case k1 => wtm_at "g_mem"); (case k2 => wtm_at "g_sub"))
  | ((with_reducible refine' SubN.new ?k1 ?k2); (case k1 => wtm_at "g_nn"); (case k2 => wtm_at "g_sub"))
  | fail)
local macro_rules | `(tactic| wtm_at "g_nn") => `(tactic| first
  | (with_reducible assumption) | ((with_reducible refine' none_up ?k1 ?k2); (case k1 => wtm_at "g_ne"); (case k2 => wtm_at "g_nn")) | ((with_reducible refine' none_dn ?k1); (case k1 => with_reducible assumption))
  | ((with_reducible refine' exts_none ?k1 ?k2); (case k1 => assumption); (case k2 => with_reducible assumption)) | ((with_reducible refine' ext_none ?k1 ?k2); (case k1 => assumption); (case k2 => with_reducible assumption))
  | fail)
local macro_rules | `(tactic| wtm_at "g_ex") => `(tactic| first
  | (with_reducible assumption) | (with_reducible exact Ext.rfl') | (with_reducible exact ExtP.rfl')
  | ((with_reducible refine' ext_up ?k1 ?k2); (case k1 => wtm_at "g_nn"); (case k2 => wtm_at "g_ex"))
  | ((with_reducible refine' ext_put ?k1 ?k2); (case k1 => wtm_at "g_nn"); (case k2 => wtm_at "g_ex"))
  | ((with_reducible refine' ext_via ?k1 ?k2); (case k1 => assumption); (case k2 => wtm_at "g_ex"))
  | ((with_reducible refine' ext_thr ?k1 ?k2 ?k3); (case k2 => assumption); (case k1 => wtm_at "g_nn"); (case k3 => wtm_at "g_ex"))
  | ((with_reducible refine' extp_put ?k1); (case k1 => wtm_at "g_ex"))
  | ((with_reducible refine' extp_up ?k1 ?k2); (case k1 => wtm_at "g_nn"); (case k2 => wtm_at "g_ex"))
  | ((with_reducible refine' extp_putn ?k1 ?k2); (case k1 => wtm_at "g_nn"); (case k2 => wtm_at "g_ex"))
  | ((with_reducible refine' extp_via ?k1 ?k2); (case k1 => assumption); (case k2 => wtm_at "g_ex"))
  | ((with_reducible refine' extp_viae ?k1 ?k2); (case k1 => assumption); (case k2 => wtm_at "g_ex"))
  | ((with_reducible refine' extp_thr ?k1 ?k2 ?k3); (case k2 => assumption); (case k1 => wtm_at "g_nn"); (case k3 => wtm_at "g_ex"))
  | (with_reducible exact ExtS.rfl')
  | ((with_reducible refine' exts_up ?k1 ?k2); (case k1 => wtm_at "g_nn"); (case k2 => wtm_at "g_ex"))
  | ((with_reducible refine' exts_put ?k1 ?k2); (case k1 => wtm_at "g_sub"); (case k2 => wtm_at "g_ex"))
  | ((with_reducible refine' exts_thrE ?k1 ?k2); (case k1 => assumption); (case k2 => wtm_at "g_ex"))
  | ((with_reducible refine' exts_thrP ?k1 ?k2 ?k3 ?k4); (case k1 => assumption); (case k2 => assumption); (case k3 => wtm_at "g_sub"); (case k4 => wtm_at "g_ex"))
  | ((with_reducible refine' exts_thr ?k1 ?k2 ?k3); (case k1 => assumption); (case k2 => wtm_at "g_sub"); (case k3 => wtm_at "g_ex"))
  | fail)
local macro_rules | `(tactic| wtm_at "g_thw") => `(tactic| first
  | (with_reducible assumption) | ((with_reducible refine' Thw.lst ?k1); (case k1 => wtm_at "g_hp")) | ((with_reducible refine' Thw.ins ?k1); (case k1 => wtm_at "g_hp"))
  | fail)
local macro_rules | `(tactic| wtm_at "g_sc") => `(tactic| first
  | (with_reducible assumption) | ((with_reducible refine' scr_new' ?k1 ?k2); (case k1 => wtm_at "g_nn"); (case k2 => wtm_at "g_sc")) | ((with_reducible refine' scr_put' ?k1 ?k2); (case k1 => wtm_at "g_thw"); (case k2 => wtm_at "g_sc"))
  | ((with_reducible refine' scr_ext ?k1 ?k2); (case k1 => assumption); (case k2 => wtm_at "g_sc")) | ((with_reducible refine' scr_extp ?k1 ?k2 ?k3); (case k1 => assumption); (case k2 => wtm_at "g_thw"); (case k3 => wtm_at "g_sc")) | ((with_reducible refine' scr_extn ?k1 ?k2 ?k3); (case k1 => assumption); (case k2 => wtm_at "g_nn"); (case k3 => wtm_at "g_sc"))
  | fail)
local macro_rules | `(tactic| wtm_at "g_sq") => `(tactic| first
  | (with_reducible assumption) | ((with_reducible refine' SqL.of ?k1); (case k1 => wtm_at "g_hp")) | ((with_reducible refine' Scr.sq ?k1); (case k1 => wtm_at "g_sc")) | ((with_reducible refine' sq_new' ?k1 ?k2); (case k1 => wtm_at "g_nn"); (case k2 => wtm_at "g_sq")) | ((with_reducible refine' sq_put' ?k1 ?k2); (case k1 => wtm_at "g_ne"); (case k2 => wtm_at "g_sq"))
  | ((with_reducible refine' sq_ext ?k1 ?k2); (case k1 => assumption); (case k2 => wtm_at "g_sq"))
  | fail)
local macro_rules | `(tactic| wtm_at "g_sqt") => `(tactic| first
  | (with_reducible assumption) | ((with_reducible refine' SqT.of' ?k1); (case k1 => wtm_at "g_hp")) | ((with_reducible refine' sqt_ext ?k1 ?k2); (case k1 => assumption); (case k2 => wtm_at "g_sqt"))
  | fail)
local macro_rules | `(tactic| wtm_at "g_st") => `(tactic| first
  | (with_reducible first
      | refine w_seq ?_ | refine w_asg ?_ | refine w_nm ?_ | refine w_next ?_ | refine w_if ?_ | refine w_ret ?_ | refine w_retN ?_ | refine w_drop ?_
      | refine w_var rfl ?_ | refine w_c ?_ | refine w_op ?_ | refine w_I0 ?_
      | refine w_eqI ?_ | refine w_neI ?_ | refine w_eqB ?_ | refine w_neB ?_ | refine w_eqS ?_ | refine w_neS ?_ | refine w_isN0 ?_ | refine w_isNi ?_ | refine w_isNr ?_ | refine w_isNb ?_ | refine w_isNs ?_ | refine w_notN0 ?_ | refine w_notNi ?_ | refine w_notNr ?_ | refine w_notNb ?_ | refine w_notNs ?_ | refine w_isN ?_ | refine w_notN ?_ | refine w_isB ?_ | refine w_notB ?_
      | refine w_un ?_ | refine w_U ?_ | refine w_chain ?_ | refine w_k ?_ | refine w_test ?_ | refine w_tB ?_ | refine w_tru ?_ | refine w_not ?_ | refine w_and ?_ | refine w_or ?_
      | refine w_andV ?_ | refine w_orV ?_ | refine w_notV ?_ | refine w_ife ?_ | refine w_nil ?_ | refine w_cons ?_ | refine w_tup ?_ | refine w_lst ?_ | refine w_small rfl ?_
      | refine w_call ?_ | refine w_mk ?_ | refine w_mt ?_ | refine w_cb ?_ | refine w_min2 ?_ | refine w_max2 ?_ | refine w_abs ?_ | refine w_int ?_
      | refine w_fld0 ?_ | refine w_bm ?_ | refine w_bm0 ?_ | refine w_sub ?_ | refine w_sfld ?_ | refine w_sfa ?_ | refine w_radd ?_ | refine w_rsub ?_ | refine w_ip ?_ | refine w_rs ?_ | refine w_pr ?_
      | refine w_lcR1 ?_ | refine w_lcR2 ?_ | refine w_lcL ?_ | refine w_lcT ?_ | refine w_yes ?_ | refine w_disp ?_ | refine w_prs ?_ | refine w_prn ?_ | refine w_dget ?_ | refine w_sl ?_ | refine w_nopart ?_ | refine w_part ?_ | refine w_pint ?_
      | refine w_for3 ?_ | refine w_mkK ?_ | refine w_forR1 ?_ | refine w_forR2 ?_ | refine w_forL ?_ | refine w_forT ?_ | refine w_aug rfl ?_ | refine w_par ?_ | refine w_brk ?_ | refine w_cont ?_
      | refine w_isi_ii ?_ | refine w_isi_ib ?_ | refine w_isi_bi ?_ | refine w_isi_bb ?_ | refine w_isi_ss ?_ | refine w_isi_is ?_ | refine w_isi_il ?_ | refine w_isi_it ?_ | refine w_isi_sl ?_ | refine w_isi_st ?_ | refine w_isi_nl ?_ | refine w_isi_nt ?_
      | refine if_T ?_ | refine if_F ?_ | refine if_nT ?_ | refine if_nF ?_)
  | ((with_reducible refine' w_lenL ?k1 ?_); (case k1 => wtm_at "g_sq"))
  | ((with_reducible refine' w_lenT ?k1 ?_); (case k1 => wtm_at "g_sqt"))
  | ((with_reducible refine' w_isi_ll ?k1 ?_); (case k1 => wtm_at "g_hp"))
  | ((with_reducible refine' w_isi_tt ?k1 ?_); (case k1 => wtm_at "g_hp"))
  | ((with_reducible refine' w_isi_lt ?k1 ?_); (case k1 => wtm_at "g_hp"))
  | ((with_reducible refine' w_isi_tl ?k1 ?_); (case k1 => wtm_at "g_hp"))
  | ((with_reducible refine' w_ll ?k1 ?k2 ?_); (case k1 => rfl); (case k2 => rfl))
  | wtm_at "g_get"
  | wtm_at "g_mt"
  | wtm_at "g_set"
  | wtm_at "g_set2"
  | wtm_at "g_call"
  | fail)
local macro_rules | `(tactic| wtm_at "g_go") => `(tactic| repeat wtm_at "g_st")
local macro_rules | `(tactic| wtm_at "g_ifo") => `(tactic| first
  | (refine if_nno rfl ?_) | (refine if_yes rfl ?_)
  | (refine if_no (by omega) ?_)
  | (refine if_yes (by omega) ?_)
  | (refine if_nno (by omega) ?_)
  | (refine if_nyes (by omega) ?_)
  | (refine if_nno (decide_eq_false (by omega)).symm ?_)
  | (refine if_nno (decide_eq_true (by omega)).symm ?_)
  | fail)
local macro_rules | `(tactic| wtm_at "g_goo") => `(tactic| repeat (first | wtm_at "g_st" | wtm_at "g_ifo"))
section
variable {K : PySem.W.Frag} {mg : Str → Option Value} {base : Heap}
theorem g_law_cell (vs : List V) (H : Hp) (Q : VK) (E : XK) (h : gsCell K vs H Q E) : gt_law_cell K E { nx := fun _ H' => Q .non H', rt := Q } (start GN_law_cell vs) H := by
  obtain ⟨a, ns, k, rfl, hS, h0, q⟩ := h
  unfold gt_law_cell
  wtm_at "g_go"
  rw [List.length_map]
  refine if_d (fun hk => ?_) (fun hk => ?_)
  · wtm_at "g_go"
    obtain ⟨z, hz⟩ : ∃ z, ns[k.toNat]? = some z := ⟨ns[k.toNat], List.getElem?_eq_getElem (by omega)⟩
    refine w_ixL hS (at_of (j := k.toNat) (v := V.int z) (by omega) (by rw [List.getElem?_map, hz]; rfl)) (q z)
  · wtm_at "g_go"
    exact q 0
theorem g_law_digit (vs : List V) (H : Hp) (Q : VK) (E : XK) (h : gsDigit K vs H Q E) : gt_law_digit K E { nx := fun _ H' => Q .non H', rt := Q } (start GN_law_digit vs) H := by
  obtain ⟨p, n, m, rfl, hp, h0, h1, q⟩ := h
  unfold gt_law_digit
  wtm_at "g_go"
  refine w_ixL (SqL.of hp) (v := .int n) rfl ?_
  wtm_at "g_go"
  refine w_I h0 ?_
  wtm_at "g_go"
  refine w_ixL (SqL.of hp) (v := .int n) rfl ?_
  wtm_at "g_go"
  refine w_I (digit_div h0 h1 _) ?_
  wtm_at "g_go"
  refine w_setL hp (j := 0) rfl ?_
  wtm_at "g_go"
  exact q _ _ (Int.emod_nonneg _ (by omega)) (Int.emod_lt_of_pos _ h0)
theorem g_law_start (vs : List V) (H : Hp) (Q : VK) (E : XK) (h : gsStart K vs H Q E) : gt_law_start K E { nx := fun _ H' => Q .non H', rt := Q } (start GN_law_start vs) H := by
  obtain ⟨c, k, rfl, q⟩ := h
  unfold gt_law_start
  wtm_at "g_go"
  refine if_d (fun h1 => ?_) (fun h1 => ?_)
  · wtm_at "g_go"
    refine if_d (fun h2 => ?_) (fun h2 => ?_)
    · wtm_at "g_go"
      refine w_I (.inr (by decide)) ?_
      wtm_at "g_go"
      refine w_I (.inr (by decide)) ?_
      wtm_at "g_go"
      refine w_I (by decide) ?_
      wtm_at "g_go"
      refine loop1 (n := 4) (fun i σ H' => H' = H ∧ ∃ (m n : Int) (v : Option V), σ = [some (.int c), some (.int k), some (.int 618970019642690137449562111), some (.int m), some (.int n), v] ∧ 0 ≤ m ∧ m < 618970019642690137449562111 ∧ 0 ≤ n ∧ n < (618970019642690137449562111 : Int) ^ i) rfl (by decide)
        ⟨rfl, _, _, _, rfl, Int.emod_nonneg _ (by decide), Int.emod_lt_of_pos _ (by decide), by decide, by decide⟩ ?_ ?_
      · rintro i σ H' hi ⟨rfl, m, n, v, rfl, m0, m1, n0, n1⟩
        obtain ⟨b1, b2⟩ := pr_pow i hi
        have e3 : (618970019642690137449562111 : Int) < 618970019642690137449562111 ^ 3 + 1 := by decide +kernel
        wtm_at "g_go"
        refine w_I (wide_mul (a := 300) (b := 300) (small_w m0 (Int.lt_trans m1 e3)) (small_w m0 (Int.lt_trans m1 e3)) (by decide) (by decide) (by decide)) ?_
        wtm_at "g_go"
        refine w_I (.inl (by decide)) ?_
        wtm_at "g_go"
        refine w_I (by decide) ?_
        wtm_at "g_go"
        refine w_I (wide_mul (a := 300) (b := 300) (small_w n0 (Int.lt_trans n1 b1)) (small_w (by decide) e3) (by decide) (by decide) (by decide)) ?_
        wtm_at "g_go"
        refine ⟨rfl, _, _, _, rfl, Int.emod_nonneg _ (by decide), Int.emod_lt_of_pos _ (by decide), ?_⟩
        rw [Int.pow_succ]
        exact num_step n0 n1 (Int.emod_nonneg _ (by decide)) (Int.emod_lt_of_pos _ (by decide))
      · rintro σ H' ⟨rfl, m, n, v, rfl, m0, m1, n0, n1⟩
        wtm_at "g_go"
        exact q n
    · wtm_at "g_go"
      exact q c
  · wtm_at "g_go"
    exact q c
end
section
variable {K : PySem.W.Frag} {mg : Str → Option Value} {base : Heap}
theorem g_law_is_integer (vs : List V) (H : Hp) (Q : VK) (E : XK) (h : gsIsInt K vs H Q E) : gt_law_is_integer K E { nx := fun _ H' => Q .non H', rt := Q } (start GN_law_is_integer vs) H := by
  obtain ⟨x, rfl, ⟨i, rfl, q⟩ | ⟨i, rfl, q⟩⟩ := h
  · unfold gt_law_is_integer
    wtm_at "g_go"
    exact q
  · unfold gt_law_is_integer
    wtm_at "g_go"
    exact q
end
end
end G

/-! a op b op c op d as a test -/
namespace G
open PySem PySem.Spec PyProof.Rows L2
def tChain3 (r r' r2 : R2) (ta tb tc td : TE) : TE := fun σ H Q => ta σ H fun x H1 => tb σ H1 fun y H2 => r x y H2 fun z H3 => ∃ k, z = .bl k ∧
  (if k = true then tc σ H3 fun u H4 => r' y u H4 fun z' H5 => ∃ k', z' = .bl k' ∧ (if k' = true then td σ H5 fun v H6 => r2 u v H6 Q else Q (.bl false) H5) else Q (.bl false) H3)
section
variable {X : Cx} {a b c d : Expr} {pos : Pos} {ta tb tc td : TE}
theorem pt_chain3 {op op' op2 : CmpOp} {r r' r2 : R2} (ho : OpR X (compareOp op) r) (ho' : OpR X (compareOp op') r') (ho2 : OpR X (compareOp op2) r2) (ha : PE X a ta) (hb : PE X b tb) (hc : PE X c tc) (hd : PE X d td)
    (hm : lastMarks [op, op', op2] [b, c, d] = false := by with_unfolding_all rfl) : PT X (.Compare a [op, op', op2] [b, c, d] pos) (tTest (tChain3 r r' r2 ta tb tc td)) := by
  refine ⟨fun pins s σ H Q I h => ?_⟩
  refine isTrue_chain (thn (ha.run pins s σ H _ I h) fun v s1 ⟨x, H1, I1, r1, q1⟩ => test_link (thn (hb.run pins s1 σ H1 _ I1 q1) fun u s2 ⟨y, H2, I2, r2, q2⟩ =>
    thn (ho pins s2 σ H2 x y v u _ I2 r1 r2 q2) fun d s3 ⟨z, H3, I3, r3, k, e, q3⟩ => ?_)) hm
  subst e
  cases r3
  refine wpAny_truthy_bool ?_
  cases k with
  | false =>
    obtain ⟨k', e', q'⟩ := q3
    cases e'
    exact ite_ff ⟨H3, I3, q'⟩
  | true =>
    refine ite_tt (test_link (thn (hc.run pins s3 σ H3 _ I3 q3) fun w' s4 ⟨z', H4, I4, r4, q4⟩ => thn (ho' pins s4 σ H4 y z' u w' _ I4 r2 r4 q4) fun d' s5 ⟨z2, H5, I5, r5, k2, e2, q5⟩ => ?_))
    subst e2
    cases r5
    refine wpAny_truthy_bool ?_
    cases k2 with
    | false =>
      obtain ⟨k', e', q'⟩ := q5
      cases e'
      exact ite_ff ⟨H5, I5, q'⟩
    | true =>
      refine ite_tt (test_last (thn (hd.run pins s5 σ H5 _ I5 q5) fun w2 s6 ⟨z6, H6, I6, r6, q6⟩ => thn (ho2 pins s6 σ H6 z' z6 w' w2 _ I6 r4 r6 q6) fun d2 s7 ⟨z7, H7, I7, r7, k7, e7, q7⟩ => ?_))
      subst e7
      cases r7
      exact wpAny_truthy_bool ⟨H7, I7, q7⟩
theorem pe_chain3 {op op' op2 : CmpOp} {r r' r2 : R2} (ho : OpR X (compareOp op) r) (ho' : OpR X (compareOp op') r') (ho2 : OpR X (compareOp op2) r2) (ha : PE X a ta) (hb : PE X b tb) (hc : PE X c tc) (hd : PE X d td)
    (hm : lastMarks [op, op', op2] [b, c, d] = false := by with_unfolding_all rfl) : PE X (.Compare a [op, op', op2] [b, c, d] pos) (tChain3 r r' r2 ta tb tc td) := by
  refine ⟨fun pins s σ H Q I h => ?_⟩
  refine Compare_chain (thn (ha.run pins s σ H _ I h) fun v s1 ⟨x, H1, I1, r1, q1⟩ => chain_link (thn (hb.run pins s1 σ H1 _ I1 q1) fun u s2 ⟨y, H2, I2, r2, q2⟩ =>
    thn (ho pins s2 σ H2 x y v u _ I2 r1 r2 q2) fun d s3 ⟨z, H3, I3, r3, k, e, q3⟩ => ?_)) hm
  subst e
  cases r3
  refine wpAny_truthy_bool ?_
  cases k with
  | false => exact ite_ff ⟨.bl false, H3, I3, rfl, q3⟩
  | true =>
    refine ite_tt (chain_link (thn (hc.run pins s3 σ H3 _ I3 q3) fun w' s4 ⟨z', H4, I4, r4, q4⟩ => thn (ho' pins s4 σ H4 y z' u w' _ I4 r2 r4 q4) fun d' s5 ⟨z2, H5, I5, r5, k2, e2, q5⟩ => ?_))
    subst e2
    cases r5
    refine wpAny_truthy_bool ?_
    cases k2 with
    | false => exact ite_ff ⟨.bl false, H5, I5, rfl, q5⟩
    | true => exact ite_tt (chain_last (thn (hd.run pins s5 σ H5 _ I5 q5) fun w2 s6 ⟨z6, H6, I6, r6, q6⟩ => ho2 pins s6 σ H6 z' z6 w' w2 Q I6 r4 r6 q6))
theorem w_chain3 {σ : L2.St} {H : Hp} {Q : VK} {r r' r2 : R2} (h : ta σ H fun x H1 => tb σ H1 fun y H2 => r x y H2 fun z H3 => ∃ k, z = .bl k ∧
  (if k = true then tc σ H3 fun u H4 => r' y u H4 fun z' H5 => ∃ k', z' = .bl k' ∧ (if k' = true then td σ H5 fun v H6 => r2 u v H6 Q else Q (.bl false) H5) else Q (.bl false) H3)) : tChain3 r r' r2 ta tb tc td σ H Q := h
end
end G

/-! sorted: tuples that their first items, ints, tell apart -/
namespace SrtO
open PySem PySem.Spec PyProof.Rows Srt
section
variable {prog : Program} {w : World} {A : Around} {E : Value → Shared → Prop} {s : Shared}
theorem eqBool_self {v : Value} {Q : Bool → Shared → Prop} (h : Q true s) : wpAny (model prog w) A (eqBool v v) Q E s := by
  unfold eqBool
  refine wpAny_holding ?_
  refine wpAny_ite_split (fun _ => ?_) (fun e => absurd (beq_self_eq_true v) e)
  exact wpAny_bind (wpAny_rule (wpAny_pure h))
theorem kat_same {b fin : Bool} {Q : Bool → Shared → Prop} (h : Q fin s) : ∀ (l : List Value) (i : Nat), PySem.W.KatLex prog w A b fin Q (l.zip l) i s
  | [], _ => PySem.W.kat_nil h
  | v :: l, i => PySem.W.kat_cons (eqBool_self (PySem.W.kat_yes (kat_same h l (i + 1))))
def IsKey (h : Heap) (v : Value) (x : Int) : Prop := ∃ a o t xs tl n, v = .ref a ∧ h.get? a = some o ∧ o.cls = .type "tuple" ∧ o.data = .seq xs n ∧ xs.toList = .int x t :: tl
theorem IsKey.keeps {h h' : Heap} {v : Value} {x : Int} (p : IsKey h v x) (k : ∀ b o, h.get? b = some o → o.cls = .type "tuple" → h'.get? b = some o) : IsKey h' v x := by
  obtain ⟨a, o, t, xs, tl, n, e, ho, hc, hd⟩ := p
  exact ⟨a, o, t, xs, tl, n, e, k _ _ ho hc, hc, hd⟩
theorem swo_key (k : Value → Int) : Swo fun v u => decide (k v < k u) := by
  refine ⟨fun x y h => ?_, fun x y z h1 h2 => ?_⟩
  · have a := of_decide_eq_true h
    exact decide_eq_false (by omega)
  · have a := of_decide_eq_false h1
    have b := of_decide_eq_false h2
    exact decide_eq_false (by omega)
theorem key_cmp {vs : List Value} {k : Value → Int} (hp : ∀ v ∈ vs, IsKey s.heap v (k v)) (inj : ∀ v ∈ vs, ∀ u ∈ vs, k v = k u → v = u) : Cmp prog w A s (tuples' true) (fun p => p.1 ∈ vs) (lt2 fun v u => decide (k v < k u)) := by
  intro p q hm hm'
  show wpAny (model prog w) A (keyLt' (tuples' true) p.1 q.1) (fun r s' => s' = s ∧ r = decide (k p.1 < k q.1)) (fun _ _ => False) s
  by_cases e : k p.1 = k q.1
  · have ev := inj _ hm _ hm' e
    obtain ⟨a, o, t, xs, tl, n, e1, ho, hc, hd, hx⟩ := hp _ hm
    rw [← ev, e1]
    refine PySem.W.kat_lt ho hd ho hd ?_
    refine kat_same ?_ _ _
    exact ⟨rfl, by rw [decide_eq_false (Nat.lt_irrefl _), decide_eq_false (Int.lt_irrefl _)]⟩
  · obtain ⟨a, o, t, xs, tl, n, e1, ho, hc, hd, hx⟩ := hp _ hm
    obtain ⟨a', o', t', xs', tl', n', e1', ho', hc', hd', hx'⟩ := hp _ hm'
    generalize k p.1 = i at *
    generalize k q.1 = j at *
    rw [e1, e1']
    refine PySem.W.kat_lt ho hd ho' hd' ?_
    rw [hx, hx']
    show PySem.W.KatLex prog w A true _ _ ((Value.int i t, Value.int j t') :: tl.zip tl') 0 s
    refine PySem.W.kat_cons (SeqAt.EqAt.int_int i t j t' prog w _ _ ?_)
    refine PySem.W.kat_go (fun e1 => absurd (show i = j by simpa using e1) e) (fun e1 => ?_)
    exact PySem.W.kat_no (oneLt_int ⟨rfl, rfl⟩)
theorem keyfirsts_of {h : Heap} {k : Value → Int} : ∀ {vs : List Value}, (∀ v ∈ vs, IsKey h v (k v)) → ∃ fs : List Value, PySem.W.KatTups h vs fs ∧ fs.length = vs.length ∧ ∀ f ∈ fs, ∃ x t, f = Value.int x t
  | [], _ => ⟨[], PySem.W.KatTups.nil, rfl, fun _ hm => by simp at hm⟩
  | v :: vs, hp => by
    obtain ⟨fs, h1, h2, h3⟩ := keyfirsts_of (vs := vs) fun v' hm => hp v' (List.mem_cons_of_mem _ hm)
    obtain ⟨a, o, t, xs, tl, n, e, ho, hc, hd, hx⟩ := hp v (List.mem_cons_self ..)
    rw [e]
    refine ⟨.int (k v) t :: fs, PySem.W.KatTups.cons ho hc hd ?_ h1, by rw [List.length_cons, List.length_cons, h2], fun f hm => ?_⟩
    · have z := congrArg (fun l : List Value => l[0]?) hx
      simpa using z
    · rcases List.mem_cons.mp hm with rfl | hm
      · exact ⟨_, t, rfl⟩
      · exact h3 f hm
theorem key_sortableO {a : Addr} {vs : List Value} {k : Value → Int} (h0 : 0 < vs.length) (hp : ∀ v ∈ vs, IsKey s.heap v (k v)) (inj : ∀ v ∈ vs, ∀ u ∈ vs, k v = k u → v = u) (ha : ∀ o, s.heap.get? a = some o → o.cls ≠ .type "tuple") : SortableO prog w A s a vs fun v u => decide (k v < k u) := by
  intro h' keep
  have hp' : ∀ v ∈ vs, IsKey h' v (k v) := fun v hm => (hp v hm).keeps fun b o e c => keep b o (fun z => by subst z; exact ha o e c) e
  obtain ⟨fs, h1, h2, h3⟩ := keyfirsts_of hp'
  refine ⟨tuples' true, fun Q E hq => ?_, key_cmp hp' inj⟩
  refine PySem.W.kat_kind (T := .type "int") h1 (by omega) (fun f hm => ?_) (by rfl) ?_
  · obtain ⟨x, t, rfl⟩ := h3 f hm
    exact PySem.W.Looks.now
  · have e : (Value.type "int" != Value.type "tuple") = true := by first | decide +kernel | rfl | decide
    rw [e]
    exact hq
theorem sorted_keyO {l : Addr} {vs : List Value} {k : Value → Int} {Q : Value → Shared → Prop} (hl : s.heap.IsList l vs.toArray) (hz : vs.length ≤ sizeLine) (hp : ∀ v ∈ vs, IsKey s.heap v (k v)) (inj : ∀ v ∈ vs, ∀ u ∈ vs, k v = k u → v = u)
    (h : ∀ (h' : Heap) (d : Addr) (out : List Value), Srtd (fun v u => decide (k v < k u)) out → Stb (fun v u => decide (k v < k u)) out vs → (∀ b o, s.heap.get? b = some o → h'.get? b = some o) → s.heap.objs.size ≤ d → (∃ n, h'.get? d = some (seqObj "list" out.toArray n)) → Q (.ref d) { s with heap := h' }) :
    wpAny (model prog w) A (call (.builtin "sorted") [.ref l]) Q E s := by
  refine sorted_ord (swo_key k) hl hz (fun h2 h₁ a ha kk => ?_) fun out hs hb => ?_
  · refine key_sortableO (s := { s with heap := h₁ }) (by omega) (fun v hm => (hp v hm).keeps fun b o e _ => (kk b o e).2) inj fun o e => ?_
    have e' : some o = some (seqObj "list" vs.toArray 0) := e.symm.trans ha
    cases e'
    intro c
    exact absurd (Value.type.inj c) (by decide)
  · exact h _ _ out hs hb (fun b o e => sortedAll_old e) (Nat.le_succ _) (sortedAll_at s.heap vs out.toArray)
end
end SrtO
namespace G
open PySem PySem.Spec PyProof.Rows L2
theorem units65 {k : Nat} {A : Around} (r : Room k A) : A.units + 65 < cLine := by
  have := r.un
  omega
/-- sorted(xs): xs are tuples that their first items, ints, tell apart -/
def rSortedD (K : PySem.W.Frag) : List V → Hp → VK → Prop := fun vs H Q => ∃ (a : Addr) (xs : List V) (k : V → Int), vs = [V.ref a] ∧ SqL K H a xs ∧ (∀ x ∈ xs, ∃ t tl, x = V.ref t ∧ H t = some (.tup (.int (k x) :: tl))) ∧ (∀ x ∈ xs, ∀ y ∈ xs, k x = k y → x = y) ∧
  ∀ ys p, ys.Pairwise (fun x y => k x ≤ k y) → ys.Perm xs → H p = none → Q (.ref p) (upd H p (.lst ys))
theorem cr_sortedD {X : Cx} : CallR X (.builtin "sorted") (rSortedD X.K) := by
  intro pins s σ H vs us Q I r h
  obtain ⟨a, xs, k, rfl, hs, hx, hj, q⟩ := h
  obtain ⟨its, rv, hl, hz⟩ := I.list hs
  obtain ⟨u, rfl, ru⟩ := vals1 r
  obtain rfl : u = Value.ref a := ru
  obtain ⟨e1, e2⟩ := refs_back rv fun x m => by
    obtain ⟨t, _, e, _⟩ := hx x m
    exact ⟨t, e⟩
  refine SrtO.sorted_keyO (k := fun u => k (backV u)) hl.isList (by rw [← rv.length]; exact hz) (fun v hv => ?_) (fun v hv u hu e => ?_) fun h' d out h1 h2 kp hd hn => ?_
  · obtain ⟨t, rfl⟩ := e2 v hv
    have hm : V.ref t ∈ xs := by rw [e1]; exact List.mem_map.mpr ⟨_, hv, rfl⟩
    obtain ⟨t', tl, e, ht⟩ := hx _ hm
    cases e
    obtain ⟨_, its2, r2, o, ho, hc, n, hd⟩ := I.hok _ _ ht
    cases r2 with
    | cons ri rt =>
      obtain ⟨t1, rfl⟩ := ri
      exact ⟨t, o, t1, _, _, n, rfl, ho, hc, hd, rfl⟩
  · have m1 : backV v ∈ xs := by rw [e1]; exact List.mem_map.mpr ⟨_, hv, rfl⟩
    have m2 : backV u ∈ xs := by rw [e1]; exact List.mem_map.mpr ⟨_, hu, rfl⟩
    obtain ⟨a1, rfl⟩ := e2 v hv
    obtain ⟨a2, rfl⟩ := e2 u hu
    have := hj _ m1 _ m2 e
    cases this
    rfl
  · have h3 : ∀ u ∈ out, ∃ a, u = Value.ref a := fun u hu => e2 u (h2.perm.mem_iff.mp hu)
    obtain ⟨n, hn⟩ := hn
    refine ⟨.ref d, upd H d (.lst (out.map backV)), I.laid (t' := s.toks) kp hd ⟨?_, out, n, vals_back h3, hn⟩, rfl, q _ d ?_ ?_ (I.hok.fresh hd)⟩
    · rw [List.length_map, h2.perm.length_eq, ← rv.length]; exact hz
    · refine List.pairwise_map.mpr (h1.imp fun {x y} h => ?_)
      have := of_decide_eq_false h
      omega
    · rw [e1]; exact h2.perm.map backV
end G

/-! comprehensions over a list whose rows are claims -/
namespace G
open PySem PySem.Spec PyProof.Rows L2
theorem mra {ps : List Addr} {i : Nat} {x : V} (h : (ps.map V.ref)[i]? = some x) : ∃ p, ps[i]? = some p ∧ V.ref p = x := by
  rw [List.getElem?_map] at h
  cases e : ps[i]? with
  | none => rw [e] at h; cases h
  | some p => rw [e] at h; cases h; exact ⟨p, rfl, rfl⟩
theorem aol {α β : Type} {as : List α} {bs : List β} {i : Nat} {a : α} (h : as[i]? = some a) (l : as.length = bs.length) : ∃ b, bs[i]? = some b := by
  have := (List.getElem?_eq_some_iff.mp h).1
  exact ⟨bs[i]'(by omega), List.getElem?_eq_getElem (by omega)⟩
theorem fltT {α : Type} {P : α → Bool} {xs : List α} {i : Nat} {x : α} (h : xs[i]? = some x) : (xs.take (i + 1)).filter P = (xs.take i).filter P ++ if P x = true then [x] else [] := by
  rw [List.take_add_one, h, List.filter_append]
  congr 1
  show [x].filter P = _
  rw [List.filter_cons, List.filter_nil]
theorem filter_tt {α : Type} (xs : List α) : xs.filter (fun _ => true) = xs := List.filter_eq_self.mpr fun _ _ => rfl
section
variable {K : PySem.W.Frag} {l : Addr} {L L1 R : List HP} {H : Hp} {Q : VK} {σ : L2.St} {c : Bool} {g : TG} {tt : TT} {te : TE} {ws : List Nat} {β γ : Type} {F : Addr → β → HP} {G : Addr → γ → HP} {ps : List Addr} {xs : List β}
/-- the heap stays -/
theorem lcSel (P : β → Bool) (gv : β → V) (hn : xs.length ≤ 1000000) (w : Own L H) (p1 : Pick L (cell c l (.lst (ps.map V.ref))) L1) (p2 : Pick L1 (big F ps xs) R)
    (ht : ∀ (i : Nat) (a : Addr) (x : β) (H1 : Hp) (X : HP) (B0 : Hp → Prop) (B1 : VK), ps[i]? = some a → xs[i]? = some x → Own (X :: cell c l (.lst (ps.map V.ref)) :: big F ps xs :: R) H1 →
      (P x = false → B0 H1) → (P x = true → B1 (gv x) H1) → g (.ref a) (wipe σ ws) H1 fun σ2 H2 => wipe σ2 ws = wipe σ ws ∧ tt σ2 H2 fun b H3 => if b = true then te σ2 H3 B1 else B0 H3)
    (q : ∀ D H', Own (pt D (.lst ((xs.filter P).map gv)) :: cell c l (.lst (ps.map V.ref)) :: big F ps xs :: R) H' → Q (.ref D) H') : rLcL K g tt te ws σ Q (.ref l) H := by
  have w1 := w.take2 p1 p2
  have hlen := w1.swap.bigLen
  refine ⟨l, rfl, ⟨_, w1.sql .here⟩, lcO (walk_list (xs := ps.map V.ref)) (fun i A L => A = ((xs.take i).filter P).map gv ∧ L = cell c l (.lst (ps.map V.ref)) :: big F ps xs :: R) w1 ⟨rfl, rfl⟩ ?_ ?_ ?_⟩
  · rintro i A L D H' ⟨rfl, rfl⟩ w'
    exact w'.sql (.next .here)
  · rintro i y D A L H1 H2 hi ⟨rfl, rfl⟩ w' ⟨rfl, hy⟩
    obtain ⟨a, ha, rfl⟩ := mra hy
    obtain ⟨x, hx⟩ := aol ha hlen
    have hil := (List.getElem?_eq_some_iff.mp hx).1
    refine ht i a x _ _ _ _ ha hx w' (fun hP => ?_) (fun hP => ?_)
    · refine lc_skipO w' .here ⟨?_, rfl⟩
      rw [fltT hx, if_neg (by rw [hP]; decide), List.append_nil]
    · refine lc_addO w' .here (by rw [List.length_map]; exact small16l (Nat.lt_of_le_of_lt (List.length_filter_le _ _) (by rw [List.length_take]; omega))) ⟨?_, rfl⟩
      rw [fltT hx, if_pos hP, List.map_append]
      rfl
  · rintro D A L H1 ⟨rfl, rfl⟩ w'
    rw [List.length_map, hlen, List.take_length] at w'
    exact q D H1 w'
/-- new objects, one for each -/
theorem lcBig (P : β → Bool) (gv : β → γ) (G : Addr → γ → HP) (hn : xs.length ≤ 1000000) (w : Own L H) (p1 : Pick L (cell c l (.lst (ps.map V.ref))) L1) (p2 : Pick L1 (big F ps xs) R)
    (ht : ∀ (i : Nat) (a : Addr) (x : β) (H1 : Hp) (X Y : HP) (B0 : Hp → Prop) (B1 : VK), ps[i]? = some a → xs[i]? = some x → Own (X :: Y :: cell c l (.lst (ps.map V.ref)) :: big F ps xs :: R) H1 →
      (P x = false → ∀ H2, Own (X :: Y :: cell c l (.lst (ps.map V.ref)) :: big F ps xs :: R) H2 → B0 H2) → (P x = true → ∀ H2 t, Own (G t (gv x) :: X :: Y :: cell c l (.lst (ps.map V.ref)) :: big F ps xs :: R) H2 → B1 (.ref t) H2) →
      g (.ref a) (wipe σ ws) H1 fun σ2 H2 => wipe σ2 ws = wipe σ ws ∧ tt σ2 H2 fun b H3 => if b = true then te σ2 H3 B1 else B0 H3)
    (q : ∀ D ts H', Own (pt D (.lst (ts.map V.ref)) :: big G ts ((xs.filter P).map gv) :: cell c l (.lst (ps.map V.ref)) :: big F ps xs :: R) H' → Q (.ref D) H') : rLcL K g tt te ws σ Q (.ref l) H := by
  have w1 := w.take2 p1 p2
  have hlen := w1.swap.bigLen
  refine ⟨l, rfl, ⟨_, w1.sql .here⟩, lcO (walk_list (xs := ps.map V.ref)) (fun i A L => ∃ ts : List Addr, A = ts.map V.ref ∧ ts.length ≤ i ∧ L = big G ts (((xs.take i).filter P).map gv) :: cell c l (.lst (ps.map V.ref)) :: big F ps xs :: R) (Own.bigNil w1) ⟨[], rfl, Nat.le_refl _, rfl⟩ ?_ ?_ ?_⟩
  · rintro i A L D H' ⟨ts, rfl, hts, rfl⟩ w'
    exact w'.sql (.next (.next .here))
  · rintro i y D A L H1 H2 hi ⟨ts, rfl, hts, rfl⟩ w' ⟨rfl, hy⟩
    obtain ⟨a, ha, rfl⟩ := mra hy
    obtain ⟨x, hx⟩ := aol ha hlen
    have hil := (List.getElem?_eq_some_iff.mp hx).1
    refine ht i a x _ _ _ _ _ ha hx w' (fun hP H2 w2 => ?_) (fun hP H2 t w2 => ?_)
    · refine lc_skipO w2 .here ⟨ts, rfl, Nat.le_succ_of_le hts, ?_⟩
      rw [fltT hx, if_neg (by rw [hP]; decide), List.append_nil]
    · have w3 : Own (big G ts (((xs.take i).filter P).map gv) :: G t (gv x) :: pt D (.lst (ts.map V.ref)) :: cell c l (.lst (ps.map V.ref)) :: big F ps xs :: R) H2 := Own.sel w2 (Sel.cons (.next (.next .here)) .rf)
      have w4 := w3.bigSnoc.swap
      refine lc_addO w4 .here (by rw [List.length_map]; exact small16l (by omega)) ⟨ts ++ [t], by rw [List.map_append]; rfl, by rw [List.length_append]; simp only [List.length_cons, List.length_nil]; omega, ?_⟩
      rw [fltT hx, if_pos hP, List.map_append]
      rfl
  · rintro D A L H1 ⟨ts, rfl, hts, rfl⟩ w'
    rw [List.length_map, hlen, List.take_length] at w'
    exact q D ts H1 w'
/-- some of a row of claims that are only read -/
theorem Own.bigPickAt [rc : ∀ x y, Ro (F x y)] {d1 : Addr} {d2 : β} {as : List Addr} {bs : List β} {L : List HP} : ∀ {ns : List Nat}, (∀ n ∈ ns, n < as.length) → Own (big F as bs :: L) H → Own (big F (ns.map (fun n => as.getD n d1)) (ns.map (fun n => bs.getD n d2)) :: big F as bs :: L) H
  | [], _, w => w.bigNil
  | n :: ns, h, w => by
    have ih := Own.bigPickAt (d1 := d1) (d2 := d2) (ns := ns) (fun m hm => h m (List.mem_cons_of_mem _ hm)) w
    have hl := w.bigLen
    have hn := h n List.mem_cons_self
    have w2 := (ih.swap).bigAt (i := n) (List.getElem?_eq_getElem hn) (List.getElem?_eq_getElem (by omega))
    have e1 : as[n] = as.getD n d1 := by rw [List.getD_eq_getElem?_getD, List.getElem?_eq_getElem hn]; rfl
    have e2 : bs[n]'(by omega) = bs.getD n d2 := by rw [List.getD_eq_getElem?_getD, List.getElem?_eq_getElem (by omega)]; rfl
    rw [e1, e2] at w2
    exact Own.bigCons (Own.sel w2 (Sel.cons .here (Sel.cons (.next .here) .rf)))
end
section
variable {K : PySem.W.Frag} {a b : Addr} {L : List HP} {H : Hp} {Q : VK} {xs ys : List V} {lo hi : Option Int}
theorem k_slT (w : Own L H) (g : Got L a (.tup xs)) (ne : (Nat.beq (HT.sIx xs.length 0 lo) 0 && Nat.beq (HT.sIx xs.length xs.length hi) xs.length) = false) (e : cutV xs lo hi = ys) (q : ∀ p H', Own (ro p (.tup ys) :: L) H' → Q (.ref p) H') : rSlT K (.ref a) lo hi H Q :=
  ⟨a, xs, rfl, SqT.of' (w.get g), (fun ⟨h1, h2⟩ => by rw [h1, h2, Nat.beq_refl, Nat.beq_refl] at ne; cases ne), fun p hp => by rw [e]; exact q p _ (w.newT hp)⟩
theorem k_catT (w : Own L H) (g1 : Got L a (.tup xs)) (g2 : Got L b (.tup ys)) (hx : xs.isEmpty = false) (hy : ys.isEmpty = false) (hl : Nat.ble (xs.length + ys.length) 1000 = true) (q : ∀ p H', Own (ro p (.tup (xs ++ ys)) :: L) H' → Q (.ref p) H') : rCatT K (.ref a) (.ref b) H Q :=
  ⟨a, b, xs, ys, rfl, rfl, SqT.of' (w.get g1), SqT.of' (w.get g2), (fun e => by rw [e] at hx; cases hx), Nat.le_trans (Nat.le_of_ble_eq_true hl) (by decide), (fun e => by rw [e] at hy; cases hy), fun _ p hp => q p _ (w.newT hp)⟩
end
end G

/-! len of an own instance; dicts by claims; enumerate -/
namespace G
open PySem PySem.Spec PyProof.Rows L2
/-! ### len(x), x with an own __len__ -/
section
variable {prog : Program} {w : World} {A : Around} {E : Value → Shared → Prop} {s : Shared} {K : PySem.W.Frag} {x C f : Addr} {ox : Obj} {odd : Option Obj}
open Builtin in
theorem len_inst {Q : Value → Shared → Prop} (X : K.In s.heap) (I : PySem.W.InstAt s.heap x ox C odd) (hs : PySem.W.findIn K (.ref C) "__len__" = some (some (.ref f))) (hf : PySem.W.isFn K (.ref f) = true)
    (h : wpAny (model prog w) A.in1 (call (.ref f) [.ref x]) (fun r s₁ => ∃ n u, r = Value.int n u ∧ 0 ≤ n ∧ n < 2 ^ 63 ∧ Q (.int n s₁.toks) { s₁ with toks := s₁.toks + 1 }) E s) : wpAny (model prog w) A (call (.builtin "len") [.ref x]) Q E s := by
  refine Calls.call_function_entry kind_len plain_len entry_len (args_len1 _) ?_
  unfold Builtin.«len»
  refine wpAny_bind (m := oneArg "len" _) (wpAny_pure ?_)
  refine wpAny_bind (m := callSpecial? (.ref x) (Str.ofString "__len__")) (PySem.W.special_fn X I hs (beq_iff_eq.mp hf) (wpAny_mono h (fun r s' hr => ?_) fun _ _ y => y))
  obtain ⟨n, u, rfl, h0, h1, hq⟩ := hr
  refine wpAny_bind (wpAny_holding (wpAny_pure ?_))
  refine wpAny_bind (wpAny_letGo ?_)
  show wpAny _ _ (if n < 0 then _ else _) _ _ _
  rw [if_neg (by omega)]
  show wpAny _ _ (if n ≥ 2 ^ 63 then _ else _) _ _ _
  rw [if_neg (by omega)]
  exact wpAny_bind (wpAny_mkInt (wpAny_pure ⟨_, rfl, hq⟩))
end
def rLenO (C : Addr) (sp : Sp) : List V → Hp → VK → Prop := fun xs H Q => ∃ a dx fs, xs = [.ref a] ∧ H a = some (.ins C dx fs) ∧ sp [.ref a] H (fun v H' => ∃ n : Int, v = .int n ∧ 0 ≤ n ∧ n < 2 ^ 63 ∧ Q (.int n) H') E0
theorem call_lenO {X : Cx} {k : Nat} {c : Str} {ps : List Str} {sp : Sp} (h : HasM X.prog X.w X.K X.mg X.base k c "__len__" ps sp) (hr : Room (k + 1) X.A) : CallR X (.builtin "len") (rLenO (He.ga X.K c) sp) := by
  intro pins s σ H xs us Q I r hh
  obtain ⟨fd, F, hb⟩ := h.ex
  obtain ⟨a, dx, fs, rfl, ea, q⟩ := hh
  obtain ⟨u, rfl, ru⟩ := vals1 r
  obtain rfl : u = Value.ref a := ru
  obtain ⟨mA, O, _⟩ := ins_get I.hok ea
  obtain ⟨od, J, _⟩ := O.look
  have hl : ([Value.ref a] ++ ([] : List Value)).length = ps.length := by
    rw [← F.len _ _ _ _ q]
    rfl
  refine len_inst I.kIn J h.me.at_ h.me.fn (wpAny_call (codeAny_mono (F.run X.A.in1 X.stack s H ⟨[.ref a], []⟩ [.ref a] [.ref a] _ E0 hr.in1 I.env0.in1 (hb s [.ref a] I.kIn hl) (.cons rfl .nil) q) fun r s' hq => ?_))
  cases r with
  | error e => exact passZ σ pins H s e s' I hq
  | ok fl =>
    cases fl with
    | ret w =>
      obtain ⟨z, H', I', rz, n, ez, h0, h1, qz⟩ := I.after hq
      subst ez
      obtain ⟨t, rfl⟩ := (show ∃ t, w = Value.int n t from rz)
      exact ⟨n, t, rfl, h0, h1, .int n, H', I'.tok _, ⟨_, rfl⟩, qz⟩
    | next => exact False.elim hq
    | brk => exact False.elim hq
    | cont => exact False.elim hq
section
variable {K : PySem.W.Frag} {a b d l : Addr} {L M R : List HP} {H H' : Hp} {v x y : V} {xs : List V} {Q : VK} {σ : L2.St} {D : Ends} {td tb ty tv : TE} {sp : Sp} {C dx : Addr} {fs : List (Str × V)} {kvs : List (Key × V)} {k : Key}
theorem w_lenO (h : H a = some (.ins C dx fs)) (q : sp [.ref a] H (fun v H' => ∃ n : Int, v = .int n ∧ 0 ≤ n ∧ n < 2 ^ 63 ∧ Q (.int n) H') E0) : rLenO C sp [.ref a] H Q := ⟨a, dx, fs, rfl, h, q⟩
/-! ### dicts -/
abbrev gLenD : List V → Hp → VK → Prop := fun xs H Q => ∃ a kvs, xs = [V.ref a] ∧ H a = some (.dK kvs) ∧ Q (.int kvs.length) H
abbrev gDictD : List V → Hp → VK → Prop := fun xs H Q => ∃ (a : Addr) (kvs : List (Key × V)), xs = [.ref a] ∧ L2.Rd H a (.dK kvs) ∧ ∀ p, H p = none → Q (.ref p) (upd H p (.dK kvs))
def kDIn (x y : V) (Q : VK) (H : Hp) : Prop := ∃ a o, x = .ref a ∧ DGet H a y o ∧ Q (.bl o.isSome) H
def kDNin (x y : V) (Q : VK) (H : Hp) : Prop := ∃ a o, x = .ref a ∧ DGet H a y o ∧ Q (.bl (!o.isSome)) H
def kDPut (D : Ends) (σ : L2.St) (x y v : V) (H : Hp) : Prop := ∃ a H4, x = .ref a ∧ DPut H a y v H4 ∧ D.nx σ H4
def kDDel (D : Ends) (σ : L2.St) (x y : V) (H : Hp) : Prop := ∃ a kvs k, x = .ref a ∧ H a = some (.dK kvs) ∧ y = kV k ∧ (valV kvs k).isSome = true ∧ D.nx σ (upd H a (.dK (dropK kvs k)))
def kDG (x y : V) (Q : VK) (H : Hp) : Prop := ∃ a v, x = .ref a ∧ DGet H a y (some v) ∧ Q v H
def kDG2 (a : Addr) (y z : V) (Q : VK) (H : Hp) : Prop := ∃ o, DGet H a y o ∧ Q (o.getD z) H
def kDNew (Q : VK) (H : Hp) : Prop := ∀ p, H p = none → Q (.ref p) (upd H p (.dK []))
instance (priority := 900) i_d_in : Stp (tDIn ty td σ H Q) (ty σ H fun y H1 => td σ H1 fun x H2 => kDIn x y Q H2) := ⟨fun h => h⟩
instance (priority := 900) i_d_nin : Stp (tDNotIn ty td σ H Q) (ty σ H fun y H1 => td σ H1 fun x H2 => kDNin x y Q H2) := ⟨fun h => h⟩
instance (priority := 950) i_d_get : Stp (tDGet td ty σ H Q) (td σ H fun x H1 => ty σ H1 fun y H2 => kDG x y Q H2) := ⟨fun h => h⟩
instance (priority := 900) i_d_put : Stp (sDPut td ty tv D σ H) (tv σ H fun v H1 => td σ H1 fun x H2 => ty σ H2 fun y H3 => kDPut D σ x y v H3) := ⟨fun h => h⟩
instance (priority := 900) i_d_del : Stp (sDDel td ty D σ H) (td σ H fun x H1 => ty σ H1 fun y H2 => kDDel D σ x y H2) := ⟨fun h => h⟩
instance (priority := 900) i_d_new : Stp (tDNewK σ H Q) (kDNew Q H) := ⟨fun h => h⟩
instance (priority := 900) i_d_get2 {tx : TE} : Stp (tDGet2 td ty tx σ H Q) (td σ H fun x H1 => ∃ a, x = .ref a ∧ IsD H1 a ∧ ty σ H1 fun y H2 => tx σ H2 fun z H3 => kDG2 a y z Q H3) := ⟨fun h => h⟩
theorem k_isD {P : Addr → Prop} (h : H d = some (.dK kvs)) (q : P d) : ∃ a, V.ref d = .ref a ∧ IsD H a ∧ P a := ⟨d, rfl, .inl ⟨kvs, .inl h⟩, q⟩
theorem k_dinI {i : Int} (h : H d = some (.dK kvs)) (q : Q (.bl (valV kvs (.inl i : Key)).isSome) H) : kDIn (.ref d) (.int i) Q H := ⟨d, _, rfl, DGet.k (k := .inl i) h, q⟩
theorem k_dinS {i : Str} (h : H d = some (.dK kvs)) (q : Q (.bl (valV kvs (.inr i : Key)).isSome) H) : kDIn (.ref d) (.str i) Q H := ⟨d, _, rfl, DGet.k (k := .inr i) h, q⟩
theorem k_dninI {i : Int} (h : H d = some (.dK kvs)) (q : Q (.bl (!(valV kvs (.inl i : Key)).isSome)) H) : kDNin (.ref d) (.int i) Q H := ⟨d, _, rfl, DGet.k (k := .inl i) h, q⟩
theorem k_dninS {i : Str} (h : H d = some (.dK kvs)) (q : Q (.bl (!(valV kvs (.inr i : Key)).isSome)) H) : kDNin (.ref d) (.str i) Q H := ⟨d, _, rfl, DGet.k (k := .inr i) h, q⟩
theorem k_dgI {i : Int} (h : H d = some (.dK kvs)) (e : valV kvs (.inl i : Key) = some v) (q : Q v H) : kDG (.ref d) (.int i) Q H := ⟨d, v, rfl, e ▸ DGet.k (k := .inl i) h, q⟩
theorem k_dgS {i : Str} (h : H d = some (.dK kvs)) (e : valV kvs (.inr i : Key) = some v) (q : Q v H) : kDG (.ref d) (.str i) Q H := ⟨d, v, rfl, e ▸ DGet.k (k := .inr i) h, q⟩
theorem k_dg2I {i : Int} (h : H d = some (.dK kvs)) (q : Q ((valV kvs (.inl i : Key)).getD y) H) : kDG2 d (.int i) y Q H := ⟨_, DGet.k (k := .inl i) h, q⟩
theorem k_dg2S {i : Str} (h : H d = some (.dK kvs)) (q : Q ((valV kvs (.inr i : Key)).getD y) H) : kDG2 d (.str i) y Q H := ⟨_, DGet.k (k := .inr i) h, q⟩
theorem k_dputI {i : Int} (w : Own L H) (p : Put L d (.dK kvs) (.dK (putK kvs (.inl i) v)) M) (hl : kvs.length < 1000000) (q : ∀ H', Own M H' → D.nx σ H') : kDPut D σ (.ref d) (.int i) v H := ⟨d, _, rfl, DPut.k (k := .inl i) (w.putGet p) (small16l (by omega)), q _ (w.put p)⟩
theorem k_dputS {i : Str} (w : Own L H) (p : Put L d (.dK kvs) (.dK (putK kvs (.inr i) v)) M) (hl : kvs.length < 1000000) (q : ∀ H', Own M H' → D.nx σ H') : kDPut D σ (.ref d) (.str i) v H := ⟨d, _, rfl, DPut.k (k := .inr i) (w.putGet p) (small16l (by omega)), q _ (w.put p)⟩
theorem k_dnew (w : Own L H) (q : ∀ p H', Own (pt p (.dK []) :: L) H' → Q (.ref p) H') : kDNew Q H := fun p hp => q p _ (w.new hp)
theorem k_dictD (w : Own L H) (h : H d = some (.dK kvs)) (q : ∀ p H', Own (pt p (.dK kvs) :: L) H' → Q (.ref p) H') : gDictD [.ref d] H Q := ⟨d, kvs, rfl, .inl h, fun p hp => q p _ (w.new hp)⟩
theorem k_lenD (h : H d = some (.dK kvs)) (q : Q (.int kvs.length) H) : gLenD [.ref d] H Q := ⟨d, kvs, rfl, h, q⟩
/-! ### enumerate -/
def rLoopE (K : PySem.W.Frag) (g : TG) (tb : TS) (D : Ends) (σ : L2.St) (vs : List V) (H1 : Hp) : Prop := ∃ a xs, vs = [.ref a] ∧ SqL K H1 a xs ∧ ∃ W : Nat → Nat → L2.St → Hp → Prop, (∃ m, W 0 m σ H1) ∧ ∀ i m σ H, W i m σ H →
  ((Ite K a).stop i H ∧ D.nx σ H) ∨ ((Ite K a).go i H ∧ ∃ N : L2.St → Hp → Prop, (∀ σ' H', N σ' H' → ∃ m', m' < m ∧ W (i + 1) m' σ' H') ∧ ∀ x H', (Ite K a).yld i H x H' → g x σ H' fun σ2 H2 => tb { D with nx := N, ct := N, bk := D.nx } σ2 H2)
instance (priority := 900) i_w_forE {tA : TA} {g : TG} {tb : TS} : Stp (tFor (iEnum K tA) g tb D σ H) (tA σ H fun vs H1 => rLoopE K g tb D σ vs H1) := ⟨fun h => h⟩
/-- Pv with the claims -/
def PO (Pv : Nat → L2.St → List HP → Prop) (i : Nat) : L2.St → Hp → Prop := fun σ H => ∃ L, Pv i σ L ∧ Own L H
theorem po_mk {Pv : Nat → L2.St → List HP → Prop} {i : Nat} (w : Own L H) (h : Pv i σ L) : PO Pv i σ H := ⟨L, h, w⟩
theorem loopEO {g : TG} {tb : TS} (Pv : Nat → L2.St → List HP → Prop) (w : Own L H) (h0 : Pv 0 σ L) (hx : ∀ i σ L, Pv i σ L → GotL K L a xs)
    (hs : ∀ i x T σ L H', xs[i]? = some x → Pv i σ L → Own (ro T (.tup [.int (i : Nat), x]) :: L) H' → g (.ref T) σ H' fun σ2 H2 => tb { D with nx := PO Pv (i + 1), ct := PO Pv (i + 1), bk := D.nx } σ2 H2)
    (hd : ∀ σ L H, Pv xs.length σ L → Own L H → D.nx σ H) : rLoopE K g tb D σ [.ref a] H := by
  refine ⟨a, xs, rfl, w.sql (hx _ _ _ h0), for_it (walk_enum (xs := xs)) (PO Pv) ⟨L, h0, w⟩ (fun i σ H _ ⟨L, h, w⟩ => w.sql (hx _ _ _ h)) ?_ (fun σ H ⟨L, h, w⟩ => hd σ L H h w)⟩
  rintro i x σ H H' hi ⟨L, h, w⟩ ⟨T, y, z, rfl, hn, rfl, e1, e2⟩
  cases e1
  exact hs i z T σ L _ e2 h (w.newT hn)
/-- over a list, with the claims -/
theorem loopLO {g : TG} {tb : TS} (Pv : Nat → L2.St → List HP → Prop) (w : Own L H) (h0 : Pv 0 σ L) (hx : ∀ i σ L, Pv i σ L → GotL K L a xs)
    (hs : ∀ i x σ L H', xs[i]? = some x → Pv i σ L → Own L H' → g x σ H' fun σ2 H2 => tb { D with nx := PO Pv (i + 1), ct := PO Pv (i + 1), bk := D.nx } σ2 H2)
    (hd : ∀ σ L H, Pv xs.length σ L → Own L H → D.nx σ H) : rLoopL K g tb D σ (.ref a) H :=
  loopL (PO Pv) (w.sql (hx _ _ _ h0)) ⟨L, h0, w⟩ (fun i σ H _ ⟨L, h, w⟩ => w.sql (hx _ _ _ h)) (fun i x σ H e ⟨L, h, w⟩ => hs i x σ L H e h w) (fun σ H ⟨L, h, w⟩ => hd σ L H h w)
theorem loop1O {g : TG} {tb : TS} {n : Nat} (Pv : Nat → L2.St → List HP → Prop) {j : Int} (w : Own L H) (hj : j = (n : Int)) (hn : n < 4000000000) (h0 : Pv 0 σ L)
    (hs : ∀ i σ L H, i < n → Pv i σ L → Own L H → g (.int (i : Int)) σ H fun σ2 H2 => tb { D with nx := PO Pv (i + 1), ct := PO Pv (i + 1), bk := D.nx } σ2 H2) (hd : ∀ σ L H, Pv n σ L → Own L H → D.nx σ H) : rLoop1 g tb D σ [.int j] H :=
  loop1 (PO Pv) hj hn ⟨L, h0, w⟩ (fun i σ H hi ⟨L, h, w⟩ => hs i σ L H hi h w) (fun σ H ⟨L, h, w⟩ => hd σ L H h w)
/-! enumerate in a comprehension -/
def rLcE (K : PySem.W.Frag) (g : TG) (tt : TT) (te : TE) (ws : List Nat) (σ : L2.St) (Q : VK) (vs : List V) (H : Hp) : Prop := ∃ a xs, vs = [.ref a] ∧ SqL K H a xs ∧ rLc (Ite K a) g tt te ws σ H Q
instance (priority := 900) i_w_lcE {tA : TA} {g : TG} {tt : TT} {te : TE} {ws : List Nat} : Stp (tLc (iEnum K tA) g tt te ws σ H Q) (tA σ H fun vs H1 => rLcE K g tt te ws σ Q vs H1) := ⟨fun h => h⟩
theorem lcEO {g : TG} {tt : TT} {te : TE} {ws : List Nat} (Pv : Nat → List V → List HP → Prop) (w : Own L H) (h0 : Pv 0 [] L) (hx : ∀ i A L, Pv i A L → GotL K L a xs)
    (hs : ∀ (i : Nat) x T Da A L H1, xs[i]? = some x → Pv i A L → Own (ro T (.tup [.int (i : Nat), x]) :: pt Da (.lst A) :: L) H1 → g (.ref T) (wipe σ ws) H1 fun σ2 H2 => wipe σ2 ws = wipe σ ws ∧ tt σ2 H2 fun b H3 =>
      if b = true then te σ2 H3 fun y H4 => LcAdd Da (PvO Pv Da) i y H4 else PvO Pv Da (i + 1) H3)
    (hd : ∀ Da A L H1, Pv xs.length A L → Own (pt Da (.lst A) :: L) H1 → Q (.ref Da) H1) : rLcE K g tt te ws σ Q [.ref a] H := by
  refine ⟨a, xs, rfl, w.sql (hx _ _ _ h0), lcO (walk_enum (xs := xs)) Pv w h0 (fun i A L Da H' h w' => w'.sql (.next (hx _ _ _ h))) ?_ hd⟩
  rintro i x Da A L H1 H2 hi h w' ⟨T, y, z, rfl, hn, rfl, e1, e2⟩
  cases e1
  exact hs i z T Da A L _ e2 h (w'.newT hn)
end
/-! ### dicts of ints -/
def kI (rows : List (Int × Int)) : List (Key × V) := rows.map fun r => (.inl r.1, .int r.2)
def lkI (rows : List (Int × Int)) (p : Int) : Option Int := (rows.find? fun r => decide (r.1 = p)).map (·.2)
theorem kI_len {rows : List (Int × Int)} : (kI rows).length = rows.length := List.length_map _
theorem valV_kI (rows : List (Int × Int)) (p : Int) : valV (kI rows) (.inl p : Key) = (lkI rows p).map V.int := by
  induction rows with
  | nil => rfl
  | cons r rs ih =>
    by_cases e : r.1 = p
    · have h1 : lkI (r :: rs) p = some r.2 := by unfold lkI; rw [List.find?_cons, decide_eq_true e]; rfl
      rw [h1]
      exact valV_pos (p := (Sum.inl r.1, V.int r.2)) (by rw [e])
    · have h1 : lkI (r :: rs) p = lkI rs p := by unfold lkI; rw [List.find?_cons, decide_eq_false e]
      rw [h1, ← ih]
      exact valV_neg (p := (Sum.inl r.1, V.int r.2)) (fun z => e (Sum.inl.inj z))
theorem putK_kI {rows : List (Int × Int)} {p v : Int} (h : lkI rows p = none) : putK (kI rows) (.inl p) (.int v) = kI (rows ++ [(p, v)]) := by
  rw [putK_new _ (by rw [valV_kI, h]; rfl)]
  unfold kI
  rw [List.map_append]
  rfl
end G

/-! sorted rows of claims -/
namespace G
open PySem PySem.Spec PyProof.Rows L2
theorem perm_inv {α β : Type} {f : α → β} : ∀ {ys : List β} {zs : List α}, ys.Perm (zs.map f) → ∃ zs' : List α, zs'.Perm zs ∧ zs'.map f = ys
  | [], zs, h => ⟨[], by have := h.length_eq; rw [List.length_map] at this; rw [List.eq_nil_of_length_eq_zero this.symm], rfl⟩
  | y :: ys, zs, h => by
    obtain ⟨z, hz, e⟩ := List.mem_map.mp (h.mem_iff.mp List.mem_cons_self)
    obtain ⟨a, b, rfl⟩ := List.append_of_mem hz
    have h2 : (y :: ys).Perm (y :: (a ++ b).map f) := by
      refine h.trans ?_
      rw [List.map_append, List.map_cons, e, List.map_append]
      exact List.perm_middle
    obtain ⟨zs', p, e2⟩ := perm_inv h2.cons_inv
    exact ⟨z :: zs', (p.cons z).trans List.perm_middle.symm, by rw [List.map_cons, e, e2]⟩
theorem big_perm {α : Type} {P : Addr → α → HP} {zs' zs : List (Addr × α)} (p : zs.Perm zs') : ∀ {L : List HP} {H : Hp}, Own (big P (zs.map (·.1)) (zs.map (·.2)) :: L) H → Own (big P (zs'.map (·.1)) (zs'.map (·.2)) :: L) H := by
  induction p with
  | nil => exact fun w => w
  | cons x _ ih => exact fun w => Own.bigCons (Own.swap (ih (Own.swap w.bigUncons)))
  | swap x y l =>
      intro L H w
      exact Own.bigCons (Own.swap (Own.bigCons (Own.sel (Own.swap w.bigUncons).bigUncons (Sel.cons (.next (.next .here)) (Sel.cons (.next .here) (Sel.cons .here .rf))))))
  | trans _ _ h1 h2 => exact fun w => h2 (h1 w)
theorem nodup_at' {l : List Int} (h : l.Nodup) {i j : Nat} {a : Int} (hi : l[i]? = some a) (hj : l[j]? = some a) : i = j :=
  (List.getElem?_inj (List.getElem?_eq_some_iff.mp hi).1 h).mp (hi.trans hj.symm)
section
variable {K : PySem.W.Frag}
theorem k_sortG {α : Type} {F : Addr → α → HP} {num : α → Int} (tl : ∀ t x, Tell (F t x) fun H => ∃ tl, H t = some (.tup (.int (num x) :: tl))) {L L1 R : List HP} {H : Hp} {Q : VK} {l : Addr} {c : Bool} {ts : List Addr} {xs : List α} (hn : (xs.map num).Nodup) (w : Own L H) (p1 : Pick L (cell c l (.lst (ts.map V.ref))) L1) (p2 : Pick L1 (big F ts xs) R)
    (q : ∀ D ts' xs' H', xs'.Perm xs → xs'.Pairwise (fun a b => num a ≤ num b) → Own (pt D (.lst (ts'.map V.ref)) :: big F ts' xs' :: cell c l (.lst (ts.map V.ref)) :: R) H' → Q (.ref D) H') : rSortedD K [.ref l] H Q := by
  have w1 := w.take2 p1 p2
  have hlen := w1.swap.bigLen
  have e1 : (ts.zip xs).map (·.1) = ts := List.map_fst_zip (by omega)
  have e2 : (ts.zip xs).map (·.2) = xs := List.map_snd_zip (by omega)
  have tell : ∀ z ∈ ts.zip xs, ∃ tl, H z.1 = some (.tup (.int (num z.2) :: tl)) := fun z hz => by
    obtain ⟨i, hi⟩ := List.getElem?_of_mem hz
    obtain ⟨ha, hb⟩ := List.getElem?_zip_eq_some.mp hi
    exact w1.swap.bigTell ha hb (tl _ _)
  have hk : ∀ z ∈ ts.zip xs, (match H z.1 with | some (.tup (.int n :: _)) => n | _ => 0) = num z.2 := fun z hz => by
    obtain ⟨tl, e⟩ := tell z hz
    rw [e]
  refine ⟨l, ts.map V.ref, fun v => match v with | .ref t => (match H t with | some (.tup (.int n :: _)) => n | _ => 0) | _ => 0, rfl, w1.sql .here, fun x hx => ?_, fun x hx y hy e => ?_, fun ys D hp1 hp2 hD => ?_⟩
  · rw [← e1] at hx
    obtain ⟨t, ht, rfl⟩ := List.mem_map.mp hx
    obtain ⟨z, hz, rfl⟩ := List.mem_map.mp ht
    obtain ⟨tl, e⟩ := tell z hz
    refine ⟨z.1, tl, rfl, ?_⟩
    show H z.1 = some (.tup (.int (match H z.1 with | some (.tup (.int n :: _)) => n | _ => 0) :: tl))
    rw [hk z hz]
    exact e
  · rw [← e1] at hx hy
    obtain ⟨t, ht, rfl⟩ := List.mem_map.mp hx
    obtain ⟨z, hz, rfl⟩ := List.mem_map.mp ht
    obtain ⟨t', ht', rfl⟩ := List.mem_map.mp hy
    obtain ⟨z', hz', rfl⟩ := List.mem_map.mp ht'
    have e' : num z.2 = num z'.2 := (hk z hz).symm.trans (e.trans (hk z' hz'))
    obtain ⟨i, hi⟩ := List.getElem?_of_mem hz
    obtain ⟨j, hj⟩ := List.getElem?_of_mem hz'
    have hi2 : (xs.map num)[i]? = some (num z.2) := by rw [List.getElem?_map, (List.getElem?_zip_eq_some.mp hi).2]; rfl
    have hj2 : (xs.map num)[j]? = some (num z.2) := by rw [List.getElem?_map, (List.getElem?_zip_eq_some.mp hj).2, e']; rfl
    have := nodup_at' hn hi2 hj2
    subst this
    rw [hi] at hj
    cases hj
    rfl
  · have e3 : ts.map V.ref = (ts.zip xs).map (fun z => V.ref z.1) := by
      have := congrArg (List.map V.ref) e1
      rw [List.map_map] at this
      exact this.symm
    rw [e3] at hp2
    obtain ⟨zs', hz, e4⟩ := perm_inv hp2
    have w2 : Own (big F ((ts.zip xs).map (·.1)) ((ts.zip xs).map (·.2)) :: cell c l (.lst (ts.map V.ref)) :: R) H := by rw [e1, e2]; exact w1.swap
    have w3 := (big_perm hz.symm w2).new hD (o := .lst ys)
    have e5 : ys = (zs'.map (·.1)).map V.ref := by rw [List.map_map]; exact e4.symm
    rw [e5] at w3 ⊢
    refine q D (zs'.map (·.1)) (zs'.map (·.2)) _ ?_ ?_ w3
    · have := hz.map (·.2)
      rw [e2] at this
      exact this
    · rw [← e4] at hp1
      rw [List.pairwise_map] at hp1 ⊢
      refine hp1.imp_of_mem fun {a b} ha hb h => ?_
      have h1 := hk a (hz.mem_iff.mp ha)
      have h2 := hk b (hz.mem_iff.mp hb)
      have h' : (match H a.1 with | some (.tup (.int n :: _)) => n | _ => 0) ≤ (match H b.1 with | some (.tup (.int n :: _)) => n | _ => 0) := h
      rw [h1, h2] at h'
      exact h'
end
/-- an ascending row of n numbers from lo on, below lo + n -/
theorem asc_all : ∀ {l : List Int} {lo : Int}, l.Pairwise (· < ·) → (∀ p ∈ l, lo ≤ p ∧ p < lo + (l.length : Int)) → ∀ i (h : i < l.length), l[i] = lo + (i : Int)
  | [], _, _, _, i, h => by simp at h
  | a :: t, lo, hp, hb, i, h => by
    obtain ⟨h1, h2⟩ := List.pairwise_cons.mp hp
    have ha := hb a List.mem_cons_self
    rw [List.length_cons] at ha
    have ih := asc_all (l := t) (lo := lo + 1) h2 (fun p hp => by
      have := hb p (List.mem_cons_of_mem _ hp)
      have := h1 p hp
      rw [List.length_cons] at *
      omega)
    have ea : a = lo := by
      cases t with
      | nil => simp at ha; omega
      | cons b t =>
        have hb0 := ih 0 (by simp)
        have := h1 b List.mem_cons_self
        simp at hb0
        omega
    cases i with
    | zero => simp [ea]
    | succ j =>
      have := ih j (by simpa using h)
      rw [List.getElem_cons_succ, this]
      omega
end G

/-! comprehensions: rows of data; some of the rows -/
namespace G
open PySem PySem.Spec PyProof.Rows L2
theorem big_filter {α : Type} {P : Addr → α → HP} (p : Addr × α → Bool) : ∀ {zs : List (Addr × α)} {L : List HP} {H : Hp}, Own (big P (zs.map (·.1)) (zs.map (·.2)) :: L) H → Own (big P ((zs.filter p).map (·.1)) ((zs.filter p).map (·.2)) :: L) H
  | [], _, _, w => w
  | z :: zs, L, H, w => by
    have w1 := w.bigUncons
    by_cases h : p z = true
    · rw [List.filter_cons, if_pos h]
      exact Own.bigCons (Own.swap (big_filter p (Own.swap w1)))
    · rw [List.filter_cons, if_neg h]
      exact big_filter p w1.tail
theorem zip_filter {α : Type} (P : α → Bool) : ∀ {ps : List Addr} {xs : List α}, ps.length = xs.length → ((ps.zip xs).filter (fun z => P z.2)).map (·.2) = xs.filter P
  | [], [], _ => rfl
  | p :: ps, x :: xs, h => by
    have ih := zip_filter P (ps := ps) (xs := xs) (by simpa using h)
    rw [List.zip_cons_cons, List.filter_cons, List.filter_cons]
    by_cases e : P x = true
    · rw [if_pos e, if_pos e, List.map_cons, ih]
    · rw [if_neg e, if_neg e, ih]
/-- a row again, one of it back -/
theorem Own.bigRet {α β : Type} {f : α → β → HP} {as : List α} {bs : List β} {x : α} {y : β} {i : Nat} {L : List HP} {H : Hp} (w : Own (f x y :: big f (as.take i) (bs.take i) :: big f (as.drop (i + 1)) (bs.drop (i + 1)) :: L) H) (h1 : as[i]? = some x) (h2 : bs[i]? = some y) : Own (big f as bs :: L) H := by
  obtain ⟨l1, e1⟩ := List.getElem?_eq_some_iff.mp h1
  obtain ⟨l2, e2⟩ := List.getElem?_eq_some_iff.mp h2
  have w1 := w.bigIn l1 l2
  have h1' : as.set i x = as := by rw [← e1]; exact List.set_getElem_self l1
  have h2' : bs.set i y = bs := by rw [← e2]; exact List.set_getElem_self l2
  rw [h1', h2'] at w1
  exact w1
/-- a row, one of it gone -/
theorem Own.bigGone {α β : Type} {f : α → β → HP} {as : List α} {bs : List β} {i : Nat} {L : List HP} {H : Hp} (w : Own (big f (as.take i) (bs.take i) :: big f (as.drop (i + 1)) (bs.drop (i + 1)) :: L) H) : Own (big f (as.eraseIdx i) (bs.eraseIdx i) :: L) H := by
  rw [List.eraseIdx_eq_take_drop_succ, List.eraseIdx_eq_take_drop_succ]
  exact w.bigApp
theorem Own.bigDropN {α β : Type} {f : α → β → HP} {as : List α} {bs : List β} {L : List HP} {H : Hp} (n : Nat) (w : Own (big f as bs :: L) H) : Own (big f (as.drop n) (bs.drop n) :: L) H := by
  have hl := w.bigLen
  have w1 : Own (big f (as.take n ++ as.drop n) (bs.take n ++ bs.drop n) :: L) H := by
    rw [List.take_append_drop, List.take_append_drop]
    exact w
  exact (Own.bigSplit (by rw [List.length_take, List.length_take, hl]) w1).tail
/-- a cell that is only read, found within the claims -/
theorem Own.roOf {α : Type} {a : α → Addr} {o : α → HO} {P : α → Hp → Prop} {L : List HP} {H : Hp} (t : ∀ h, stars L h → ∃ x, h (a x) = some (o x, true) ∧ ∀ H, LHle h H → P x H) (w : Own L H) : ∃ x, P x H ∧ Own (ro (a x) (o x) :: L) H := by
  obtain ⟨h, e, s⟩ := w
  obtain ⟨x, h1, h2⟩ := t h s
  exact ⟨x, h2 H e, h, e, LHupd LHnone (a x) (o x, true), h, (fun b y z e1 _ => by
    obtain ⟨rfl, rfl⟩ := lup_none e1
    rfl), (fun b y e1 => by
    obtain ⟨rfl, rfl⟩ := lup_none e1
    exact h1), LSub.rfl', lup_same, s⟩
section
variable {K : PySem.W.Frag} {l : Addr} {L L1 R : List HP} {H : Hp} {Q : VK} {σ : L2.St} {c : Bool} {g : TG} {tt : TT} {te : TE} {ws : List Nat} {β : Type} {F : Addr → β → HP} {ps : List Addr} {xs : List β}
/-- a row of data -/
theorem lcDT (P : β → Bool) (dv : β → PyData) (hn : xs.length ≤ 1000000) (w : Own L H) (p1 : Pick L (cell c l (.lst (ps.map V.ref))) L1) (p2 : Pick L1 (big F ps xs) R)
    (ht : ∀ (i : Nat) (a : Addr) (x : β) (H1 : Hp) (X Y : HP) (B0 : Hp → Prop) (B1 : VK), ps[i]? = some a → xs[i]? = some x → Own (X :: Y :: cell c l (.lst (ps.map V.ref)) :: big F ps xs :: R) H1 →
      (P x = false → ∀ H2, Own (X :: Y :: cell c l (.lst (ps.map V.ref)) :: big F ps xs :: R) H2 → B0 H2) → (P x = true → ∀ H2 y, Own (DT K y (dv x) :: X :: Y :: cell c l (.lst (ps.map V.ref)) :: big F ps xs :: R) H2 → B1 y H2) →
      g (.ref a) (wipe σ ws) H1 fun σ2 H2 => wipe σ2 ws = wipe σ ws ∧ tt σ2 H2 fun b H3 => if b = true then te σ2 H3 B1 else B0 H3)
    (q : ∀ D H', Own (Rd (DT K (.ref D) (.list ((xs.filter P).map dv))) :: cell c l (.lst (ps.map V.ref)) :: big F ps xs :: R) H' → Q (.ref D) H') : rLcL K g tt te ws σ Q (.ref l) H := by
  have w1 := w.take2 p1 p2
  have hlen := w1.swap.bigLen
  refine ⟨l, rfl, ⟨_, w1.sql .here⟩, lcO (walk_list (xs := ps.map V.ref)) (fun i A L => A.length ≤ i ∧ L = DTs K A (((xs.take i).filter P).map dv) :: cell c l (.lst (ps.map V.ref)) :: big F ps xs :: R) (Own.dtNil w1) ⟨Nat.le_refl _, rfl⟩ ?_ ?_ ?_⟩
  · rintro i A L D H' ⟨hA, rfl⟩ w'
    exact w'.sql (.next (.next .here))
  · rintro i y D A L H1 H2 hi ⟨hA, rfl⟩ w' ⟨rfl, hy⟩
    obtain ⟨a, ha, rfl⟩ := mra hy
    obtain ⟨x, hx⟩ := aol ha hlen
    have hil := (List.getElem?_eq_some_iff.mp hx).1
    refine ht i a x _ _ _ _ _ ha hx w' (fun hP H2 w2 => ?_) (fun hP H2 y w2 => ?_)
    · refine lc_skipO w2 .here ⟨Nat.le_succ_of_le hA, ?_⟩
      rw [fltT hx, if_neg (by rw [hP]; decide), List.append_nil]
    · have w3 : Own (DTs K A (((xs.take i).filter P).map dv) :: DT K y (dv x) :: pt D (.lst A) :: cell c l (.lst (ps.map V.ref)) :: big F ps xs :: R) H2 := Own.sel w2 (Sel.cons (.next (.next .here)) .rf)
      have w4 := w3.dtSnoc.swap
      refine lc_addO w4 .here (small16l (by omega)) ⟨by rw [List.length_append]; simp only [List.length_cons, List.length_nil]; omega, ?_⟩
      rw [fltT hx, if_pos hP, List.map_append]
      rfl
  · rintro D A L H1 ⟨hA, rfl⟩ w'
    rw [List.length_map, hlen, List.take_length] at w'
    exact q D H1 (w'.dtLst).dtRd
/-- some of the rows -/
theorem lcFil (P : β → Bool) (hn : xs.length ≤ 1000000) (w : Own L H) (p1 : Pick L (cell c l (.lst (ps.map V.ref))) L1) (p2 : Pick L1 (big F ps xs) R)
    (ht : ∀ (i : Nat) (a : Addr) (x : β) (H1 : Hp) (X : HP) (B0 : Hp → Prop) (B1 : VK), ps[i]? = some a → xs[i]? = some x → Own (X :: cell c l (.lst (ps.map V.ref)) :: big F ps xs :: R) H1 →
      (P x = false → ∀ H2, Own (X :: cell c l (.lst (ps.map V.ref)) :: big F ps xs :: R) H2 → B0 H2) → (P x = true → ∀ H2, Own (X :: cell c l (.lst (ps.map V.ref)) :: big F ps xs :: R) H2 → B1 (.ref a) H2) → g (.ref a) (wipe σ ws) H1 fun σ2 H2 => wipe σ2 ws = wipe σ ws ∧ tt σ2 H2 fun b H3 => if b = true then te σ2 H3 B1 else B0 H3)
    (q : ∀ D qs H', qs.length = (xs.filter P).length → Own (pt D (.lst (qs.map V.ref)) :: big F qs (xs.filter P) :: cell c l (.lst (ps.map V.ref)) :: R) H' → Q (.ref D) H') : rLcL K g tt te ws σ Q (.ref l) H := by
  have w1 := w.take2 p1 p2
  have hlen := w1.swap.bigLen
  have e1 : (ps.zip xs).map (·.1) = ps := List.map_fst_zip (by omega)
  have e2 : (ps.zip xs).map (·.2) = xs := List.map_snd_zip (by omega)
  refine ⟨l, rfl, ⟨_, w1.sql .here⟩, lcO (walk_list (xs := ps.map V.ref)) (fun i A L => A = ((((ps.zip xs).take i).filter (fun z => P z.2)).map (·.1)).map V.ref ∧ L = cell c l (.lst (ps.map V.ref)) :: big F ps xs :: R) w1 ⟨rfl, rfl⟩ ?_ ?_ ?_⟩
  · rintro i A L D H' ⟨rfl, rfl⟩ w'
    exact w'.sql (.next .here)
  · rintro i y D A L H1 H2 hi ⟨rfl, rfl⟩ w' ⟨rfl, hy⟩
    obtain ⟨a, ha, rfl⟩ := mra hy
    obtain ⟨x, hx⟩ := aol ha hlen
    have hil := (List.getElem?_eq_some_iff.mp hx).1
    have hz : (ps.zip xs)[i]? = some (a, x) := List.getElem?_zip_eq_some.mpr ⟨ha, hx⟩
    refine ht i a x _ _ _ _ ha hx w' (fun hP H2 w2 => ?_) (fun hP H2 w2 => ?_)
    · refine lc_skipO w2 .here ⟨?_, rfl⟩
      rw [fltT hz, if_neg (by show ¬ P x = true; rw [hP]; decide), List.append_nil]
    · refine lc_addO w2 .here (by rw [List.length_map, List.length_map]; exact small16l (Nat.lt_of_le_of_lt (List.length_filter_le _ _) (by rw [List.length_take]; omega))) ⟨?_, rfl⟩
      rw [fltT hz, if_pos hP, List.map_append, List.map_append]
      rfl
  · rintro D A L H1 ⟨rfl, rfl⟩ w'
    rw [List.length_map, List.take_of_length_le (by rw [List.length_zip]; omega)] at w'
    have w2 : Own (big F ((ps.zip xs).map (·.1)) ((ps.zip xs).map (·.2)) :: pt D (.lst ((((ps.zip xs).filter (fun z => P z.2)).map (·.1)).map V.ref)) :: cell c l (.lst (ps.map V.ref)) :: R) H1 := by
      rw [e1, e2]
      exact Own.sel w' (Sel.cons (.next (.next .here)) .rf)
    have w3 := big_filter (fun z => P z.2) w2
    rw [zip_filter P hlen] at w3
    exact q D _ H1 w3.bigLen w3.swap
end
end G

/-! sorted: tuples that their first items, texts, tell apart -/
namespace SrtO
open PySem PySem.Spec PyProof.Rows Srt
section
variable {prog : Program} {w : World} {A : Around} {E : Value → Shared → Prop} {s : Shared}
def ltS (a b : PySem.Str) : Bool := decide (a.cps.toList < b.cps.toList)
def IsKeyS (h : Heap) (v : Value) (x : PySem.Str) : Prop := ∃ a o t xs tl n, v = .ref a ∧ h.get? a = some o ∧ o.cls = .type "tuple" ∧ o.data = .seq xs n ∧ xs.toList = .str x t :: tl
theorem IsKeyS.keeps {h h' : Heap} {v : Value} {x : PySem.Str} (p : IsKeyS h v x) (k : ∀ b o, h.get? b = some o → o.cls = .type "tuple" → h'.get? b = some o) : IsKeyS h' v x := by
  obtain ⟨a, o, t, xs, tl, n, e, ho, hc, hd⟩ := p
  exact ⟨a, o, t, xs, tl, n, e, k _ _ ho hc, hc, hd⟩
theorem ltS_self (a : PySem.Str) : ltS a a = false := decide_eq_false (List.lt_irrefl _)
theorem swo_keyS (k : Value → PySem.Str) : Swo fun v u => ltS (k v) (k u) := by
  refine ⟨fun x y h => ?_, fun x y z h1 h2 => ?_⟩
  · exact decide_eq_false (fun h2 => List.lt_irrefl _ (List.lt_trans (of_decide_eq_true h) h2))
  · have a := List.not_lt.mp (of_decide_eq_false h1)
    have b := List.not_lt.mp (of_decide_eq_false h2)
    exact decide_eq_false (List.not_lt.mpr (List.le_trans (by assumption) (by assumption)))
theorem keyS_cmp {vs : List Value} {k : Value → PySem.Str} (hp : ∀ v ∈ vs, IsKeyS s.heap v (k v)) (inj : ∀ v ∈ vs, ∀ u ∈ vs, k v = k u → v = u) : Cmp prog w A s (tuples' true) (fun p => p.1 ∈ vs) (lt2 fun v u => ltS (k v) (k u)) := by
  intro p q hm hm'
  show wpAny (model prog w) A (keyLt' (tuples' true) p.1 q.1) (fun r s' => s' = s ∧ r = ltS (k p.1) (k q.1)) (fun _ _ => False) s
  by_cases e : k p.1 = k q.1
  · have ev := inj _ hm _ hm' e
    obtain ⟨a, o, t, xs, tl, n, e1, ho, hc, hd, hx⟩ := hp _ hm
    rw [← ev, e1]
    refine PySem.W.kat_lt ho hd ho hd ?_
    refine kat_same ?_ _ _
    exact ⟨rfl, by rw [decide_eq_false (Nat.lt_irrefl _), ltS_self]⟩
  · obtain ⟨a, o, t, xs, tl, n, e1, ho, hc, hd, hx⟩ := hp _ hm
    obtain ⟨a', o', t', xs', tl', n', e1', ho', hc', hd', hx'⟩ := hp _ hm'
    generalize k p.1 = i at *
    generalize k q.1 = j at *
    rw [e1, e1']
    refine PySem.W.kat_lt ho hd ho' hd' ?_
    rw [hx, hx']
    show PySem.W.KatLex prog w A true _ _ ((Value.str i t, Value.str j t') :: tl.zip tl') 0 s
    refine PySem.W.kat_cons (SeqAt.EqAt.str_str i t j t' prog w _ _ ?_)
    refine PySem.W.kat_go (fun e1 => absurd (show i = j by simpa using e1) e) (fun e1 => ?_)
    exact PySem.W.kat_no (oneLt_str ⟨rfl, rfl⟩)
theorem keySfirsts_of {h : Heap} {k : Value → PySem.Str} : ∀ {vs : List Value}, (∀ v ∈ vs, IsKeyS h v (k v)) → ∃ fs : List Value, PySem.W.KatTups h vs fs ∧ fs.length = vs.length ∧ ∀ f ∈ fs, ∃ x t, f = Value.str x t
  | [], _ => ⟨[], PySem.W.KatTups.nil, rfl, fun _ hm => by simp at hm⟩
  | v :: vs, hp => by
    obtain ⟨fs, h1, h2, h3⟩ := keySfirsts_of (vs := vs) fun v' hm => hp v' (List.mem_cons_of_mem _ hm)
    obtain ⟨a, o, t, xs, tl, n, e, ho, hc, hd, hx⟩ := hp v (List.mem_cons_self ..)
    rw [e]
    refine ⟨.str (k v) t :: fs, PySem.W.KatTups.cons ho hc hd ?_ h1, by rw [List.length_cons, List.length_cons, h2], fun f hm => ?_⟩
    · have z := congrArg (fun l : List Value => l[0]?) hx
      simpa using z
    · rcases List.mem_cons.mp hm with rfl | hm
      · exact ⟨_, t, rfl⟩
      · exact h3 f hm
theorem keyS_sortableO {a : Addr} {vs : List Value} {k : Value → PySem.Str} (h0 : 0 < vs.length) (hp : ∀ v ∈ vs, IsKeyS s.heap v (k v)) (inj : ∀ v ∈ vs, ∀ u ∈ vs, k v = k u → v = u) (ha : ∀ o, s.heap.get? a = some o → o.cls ≠ .type "tuple") : SortableO prog w A s a vs fun v u => ltS (k v) (k u) := by
  intro h' keep
  have hp' : ∀ v ∈ vs, IsKeyS h' v (k v) := fun v hm => (hp v hm).keeps fun b o e c => keep b o (fun z => by subst z; exact ha o e c) e
  obtain ⟨fs, h1, h2, h3⟩ := keySfirsts_of hp'
  refine ⟨tuples' true, fun Q E hq => ?_, keyS_cmp hp' inj⟩
  refine PySem.W.kat_kind (T := .type "str") h1 (by omega) (fun f hm => ?_) (by rfl) ?_
  · obtain ⟨x, t, rfl⟩ := h3 f hm
    exact PySem.W.Looks.now
  · have e : (Value.type "str" != Value.type "tuple") = true := by first | decide +kernel | rfl | decide
    rw [e]
    exact hq
theorem sorted_keySO {l : Addr} {vs : List Value} {k : Value → PySem.Str} {Q : Value → Shared → Prop} (hl : s.heap.IsList l vs.toArray) (hz : vs.length ≤ sizeLine) (hp : ∀ v ∈ vs, IsKeyS s.heap v (k v)) (inj : ∀ v ∈ vs, ∀ u ∈ vs, k v = k u → v = u)
    (h : ∀ (h' : Heap) (d : Addr) (out : List Value), Srtd (fun v u => ltS (k v) (k u)) out → Stb (fun v u => ltS (k v) (k u)) out vs → (∀ b o, s.heap.get? b = some o → h'.get? b = some o) → s.heap.objs.size ≤ d → (∃ n, h'.get? d = some (seqObj "list" out.toArray n)) → Q (.ref d) { s with heap := h' }) :
    wpAny (model prog w) A (call (.builtin "sorted") [.ref l]) Q E s := by
  refine sorted_ord (swo_keyS k) hl hz (fun h2 h₁ a ha kk => ?_) fun out hs hb => ?_
  · refine keyS_sortableO (s := { s with heap := h₁ }) (by omega) (fun v hm => (hp v hm).keeps fun b o e _ => (kk b o e).2) inj fun o e => ?_
    have e' : some o = some (seqObj "list" vs.toArray 0) := e.symm.trans ha
    cases e'
    intro c
    exact absurd (Value.type.inj c) (by decide)
  · exact h _ _ out hs hb (fun b o e => sortedAll_old e) (Nat.le_succ _) (sortedAll_at s.heap vs out.toArray)
end
end SrtO
namespace G
open PySem PySem.Spec PyProof.Rows L2
/-- sorted(xs): xs are tuples that their first items, ints, tell apart -/
def rSortedTS (K : PySem.W.Frag) : List V → Hp → VK → Prop := fun vs H Q => ∃ (a : Addr) (xs : List V) (k : V → Str), vs = [V.ref a] ∧ SqL K H a xs ∧ (∀ x ∈ xs, ∃ t tl, x = V.ref t ∧ H t = some (.tup (.str (k x) :: tl))) ∧ (∀ x ∈ xs, ∀ y ∈ xs, k x = k y → x = y) ∧
  ∀ ys p, ys.Pairwise (fun x y => SrtO.ltS (k y) (k x) = false) → ys.Perm xs → H p = none → Q (.ref p) (upd H p (.lst ys))
theorem cr_sortedTS {X : Cx} : CallR X (.builtin "sorted") (rSortedTS X.K) := by
  intro pins s σ H vs us Q I r h
  obtain ⟨a, xs, k, rfl, hs, hx, hj, q⟩ := h
  obtain ⟨its, rv, hl, hz⟩ := I.list hs
  obtain ⟨u, rfl, ru⟩ := vals1 r
  obtain rfl : u = Value.ref a := ru
  obtain ⟨e1, e2⟩ := refs_back rv fun x m => by
    obtain ⟨t, _, e, _⟩ := hx x m
    exact ⟨t, e⟩
  refine SrtO.sorted_keySO (k := fun u => k (backV u)) hl.isList (by rw [← rv.length]; exact hz) (fun v hv => ?_) (fun v hv u hu e => ?_) fun h' d out h1 h2 kp hd hn => ?_
  · obtain ⟨t, rfl⟩ := e2 v hv
    have hm : V.ref t ∈ xs := by rw [e1]; exact List.mem_map.mpr ⟨_, hv, rfl⟩
    obtain ⟨t', tl, e, ht⟩ := hx _ hm
    cases e
    obtain ⟨_, its2, r2, o, ho, hc, n, hd⟩ := I.hok _ _ ht
    cases r2 with
    | cons ri rt =>
      obtain ⟨t1, rfl⟩ := ri
      exact ⟨t, o, t1, _, _, n, rfl, ho, hc, hd, rfl⟩
  · have m1 : backV v ∈ xs := by rw [e1]; exact List.mem_map.mpr ⟨_, hv, rfl⟩
    have m2 : backV u ∈ xs := by rw [e1]; exact List.mem_map.mpr ⟨_, hu, rfl⟩
    obtain ⟨a1, rfl⟩ := e2 v hv
    obtain ⟨a2, rfl⟩ := e2 u hu
    have := hj _ m1 _ m2 e
    cases this
    rfl
  · have h3 : ∀ u ∈ out, ∃ a, u = Value.ref a := fun u hu => e2 u (h2.perm.mem_iff.mp hu)
    obtain ⟨n, hn⟩ := hn
    refine ⟨.ref d, upd H d (.lst (out.map backV)), I.laid (t' := s.toks) kp hd ⟨?_, out, n, vals_back h3, hn⟩, rfl, q _ d ?_ ?_ (I.hok.fresh hd)⟩
    · rw [List.length_map, h2.perm.length_eq, ← rv.length]; exact hz
    · refine List.pairwise_map.mpr (h1.imp fun {x y} h => ?_)
      exact h
    · rw [e1]; exact h2.perm.map backV
end G

/-! lists of the same things, compared -/
namespace G
open PySem PySem.Spec PyProof.Rows L2
def rNeI (K : PySem.W.Frag) : R2 := fun x y H Q => ∃ p q, ∃ rs : List Addr, x = .ref p ∧ y = .ref q ∧ SqL K H p (rs.map V.ref) ∧ SqL K H q (rs.map V.ref) ∧ Q (.bl false) H
theorem vals_refs : ∀ {rs : List Addr} {us ws : List Value}, Vals (rs.map V.ref) us → Vals (rs.map V.ref) ws → us = ws
  | [], _, _, h1, h2 => by cases h1; cases h2; rfl
  | r :: rs, _, _, h1, h2 => by
    cases h1 with
    | cons a1 a2 =>
      cases h2 with
      | cons b1 b2 =>
        cases a1
        cases b1
        rw [vals_refs a2 b2]
theorem op_neI {X : Cx} (hu : X.A.units + 64 < cLine) : OpR X (compareOp .NotEq) (rNeI X.K) := by
  intro pins s σ H x y v u Q I rx ry h
  obtain ⟨p, q, rs, rfl, rfl, h1, h2, hq⟩ := h
  cases rx
  cases ry
  obtain ⟨its, r1, ⟨o, n, ho, hc, _, hd⟩, _⟩ := I.list h1
  obtain ⟨its2, r2, ⟨o2, n2, ho2, hc2, _, hd2⟩, _⟩ := I.list h2
  cases vals_refs r1 r2
  have e : (!(List.range its.toArray.size).all fun _ => true) = false := by simp
  exact SeqAt.RcNeAt.lists (e := fun _ => true) ⟨o, ho, hc, n, hd⟩ ⟨o2, ho2, hc2, n2, hd2⟩ rfl (by omega) (fun j _ _ => SeqAt.EqAt.same _) _ _ _ _ (by rw [e]; exact ⟨.bl _, H, I, rfl, hq⟩)
section
variable {K : PySem.W.Frag} {H : Hp} {Q : VK} {p q : Addr} {rs : List Addr}
theorem w_neSI (h1 : SqL K H p (rs.map V.ref)) (h2 : SqL K H q (rs.map V.ref)) (k : Q (.bl false) H) : rNeI K (.ref p) (.ref q) H Q := ⟨p, q, rs, rfl, rfl, h1, h2, k⟩
end
end G
namespace G
open PySem PySem.Spec PyProof.Rows L2
section
variable {K : PySem.W.Frag} {H : Hp} {Q : VK} {σ : L2.St} {a : Addr} {xs : List V} {L : List HP}
/-- over a list that some claims tell of -/
theorem lcLX {g : TG} {tt : TT} {te : TE} {ws : List Nat} (Pv : Nat → List V → List HP → Prop) (w : Own L H) (h0 : Pv 0 [] L) (hx : ∀ i A L, Pv i A L → GotL K L a xs)
    (hs : ∀ (i : Nat) x Da A L H1, xs[i]? = some x → Pv i A L → Own (pt Da (.lst A) :: L) H1 → g x (wipe σ ws) H1 fun σ2 H2 => wipe σ2 ws = wipe σ ws ∧ tt σ2 H2 fun b H3 =>
      if b = true then te σ2 H3 fun y H4 => LcAdd Da (PvO Pv Da) i y H4 else PvO Pv Da (i + 1) H3)
    (hd : ∀ Da A L H1, Pv xs.length A L → Own (pt Da (.lst A) :: L) H1 → Q (.ref Da) H1) : rLcL K g tt te ws σ Q (.ref a) H := by
  refine ⟨a, rfl, ⟨_, w.sql (hx _ _ _ h0)⟩, lcO (walk_list (xs := xs)) Pv w h0 (fun i A L Da H' h w' => w'.sql (.next (hx _ _ _ h))) ?_ hd⟩
  rintro i x Da A L H1 H2 hi h w' ⟨rfl, e⟩
  exact hs i x Da A L _ e h w'
end
end G

/-! comprehensions within comprehensions -/
namespace G
open PySem PySem.Spec PyProof.Rows L2
theorem map_lookup {x : Str} {g : Str × NameKind → Str × NameKind} (h1 : ∀ p, (g p).1 = p.1) (h2 : ∀ p, p.2 = .cell ∨ p.2 = .free → (g p).2 = .cell ∨ (g p).2 = .free) : ∀ {ns : List (Str × NameKind)},
    (ns.lookup x = some .cell ∨ ns.lookup x = some .free) → (ns.map g).lookup x = some .cell ∨ (ns.map g).lookup x = some .free
  | [], h => by simp at h
  | p :: ns, h => by
    rw [List.map_cons]
    have e1 : (p :: ns).lookup x = if (x == p.1) = true then some p.2 else ns.lookup x := by
      cases p
      rw [List.lookup_cons]
      split <;> simp_all
    have e2 : (g p :: ns.map g).lookup x = if (x == p.1) = true then some (g p).2 else (ns.map g).lookup x := by
      rw [← h1 p]
      generalize g p = q
      cases q
      rw [List.lookup_cons]
      split <;> simp_all
    rw [e1] at h
    rw [e2]
    by_cases e : (x == p.1) = true
    · rw [if_pos e] at h ⊢
      rw [Option.some.injEq, Option.some.injEq] at h ⊢
      exact h2 p h
    · rw [if_neg e] at h ⊢
      exact map_lookup h1 h2 h
theorem blkOk_rel {N : List Str} {scope scope' : Scope} {own : List (Str × Nat)} {env : Env} (h : BlkOk N scope scope' own) : BlkOk N (relabel scope env) scope' own :=
  ⟨h.kind, h.uniq, h.ix, fun y hy e => map_lookup (fun p => by split; split <;> rfl) (fun p hp => by
    split
    rename_i n k
    split
    · exact .inl rfl
    · exact hp) (h.free y hy e), h.own⟩
theorem vals_take : ∀ (n : Nat) {vs : List V} {us : List Value}, Vals vs us → Vals (vs.take n) (us.take n)
  | 0, _, _, _ => .nil
  | _ + 1, _, _, .nil => .nil
  | n + 1, _, _, .cons h t => .cons h (vals_take n t)
theorem vals_drop : ∀ (n : Nat) {vs : List V} {us : List Value}, Vals vs us → Vals (vs.drop n) (us.drop n)
  | 0, _, _, h => h
  | _ + 1, _, _, .nil => .nil
  | n + 1, _, _, .cons _ t => vals_drop n t
end G

/-! comprehensions over dicts (locked meanwhile), over tuples; rows as data; sorted rows by texts -/
namespace G
open PySem PySem.Spec PyProof.Rows L2
section
variable {K : PySem.W.Frag} {H : Hp} {Q : VK} {σ : L2.St} {a d : Addr} {xs : List V} {L L1 M R : List HP} {v : V} {o : Obj} {kvs : List (Key × V)} {c : Bool}
def rLcK (g : TG) (tt : TT) (te : TE) (ws : List Nat) (σ : L2.St) (Q : VK) (x : V) (H1 : Hp) : Prop := ∃ d o, x = .ref d ∧ ((∃ kvs, H1 d = some (.frz o (.dK kvs)) ∧ rLc (Itk d o kvs) g tt te ws σ H1 Q) ∨ ∃ kvs, H1 d = some (.frz o (.dT kvs)) ∧ rLc (Itkt d o kvs) g tt te ws σ H1 Q)
instance (priority := 900) i_w_lcK {td : TE} {g : TG} {tt : TT} {te : TE} {ws : List Nat} : Stp (tLc (iKeys td) g tt te ws σ H Q) (td σ H fun x H1 => rLcK g tt te ws σ Q x H1) := ⟨fun h => h⟩
theorem lcKO {g : TG} {tt : TT} {te : TE} {ws : List Nat} (Pv : Nat → List V → List HP → Prop) (w : Own L H) (h0 : Pv 0 [] L) (hx : ∀ i A L, Pv i A L → Got L d (.frz o (.dK kvs)))
    (hs : ∀ (i : Nat) k v Da A L H1, kvs[i]? = some (k, v) → Pv i A L → Own (pt Da (.lst A) :: L) H1 → g (kV k) (wipe σ ws) H1 fun σ2 H2 => wipe σ2 ws = wipe σ ws ∧ tt σ2 H2 fun b H3 =>
      if b = true then te σ2 H3 fun y H4 => LcAdd Da (PvO Pv Da) i y H4 else PvO Pv Da (i + 1) H3)
    (hd : ∀ Da A L H1, Pv kvs.length A L → Own (pt Da (.lst A) :: L) H1 → Q (.ref Da) H1) : rLcK g tt te ws σ Q (.ref d) H := by
  refine ⟨d, o, rfl, .inl ⟨kvs, w.get (hx _ _ _ h0), lcO walk_keys Pv w h0 (fun i A L Da H' h w' => w'.get (.next (hx _ _ _ h))) ?_ hd⟩⟩
  rintro i x Da A L H1 H2 hi h w' ⟨rfl, k, v, e, rfl⟩
  exact hs i k v Da A L _ e h w'
/-- the dict is locked meanwhile -/
theorem k_lock {t : TE} {M : Obj → List HP} (w : Own L H) (g : Got L d (.dK kvs)) (h : ∀ od, Put L d (.dK kvs) (.frz od (.dK kvs)) (M od)) (q : ∀ od H1, Own (M od) H1 → t σ H1 fun v H' => H' d = some (.frz od (.dK kvs)) ∧ Q v (upd H' d (.dK kvs))) : tLockE t σ H Q :=
  ⟨d, .dK kvs, w.get g, trivial, fun od => q od _ (w.put (h od))⟩
theorem k_unlock {od : Obj} (w : Own L H) (p : Put L d (.frz od (.dK kvs)) (.dK kvs) M) (q : ∀ H', Own M H' → Q v H') : H d = some (.frz od (.dK kvs)) ∧ Q v (upd H d (.dK kvs)) := ⟨w.putGet p, q _ (w.put p)⟩
theorem k_dgFS {i : Str} (h : H d = some (.frz o (.dK kvs))) (e : valV kvs (.inr i : Key) = some v) (q : Q v H) : kDG (.ref d) (.str i) Q H := ⟨d, v, rfl, .inl ⟨kvs, .inr i, .inr ⟨o, h⟩, rfl, e.symm⟩, q⟩
theorem k_dgFI {i : Int} (h : H d = some (.frz o (.dK kvs))) (e : valV kvs (.inl i : Key) = some v) (q : Q v H) : kDG (.ref d) (.int i) Q H := ⟨d, v, rfl, .inl ⟨kvs, .inl i, .inr ⟨o, h⟩, rfl, e.symm⟩, q⟩
/-- over a tuple that some claims tell of -/
theorem lcTX {g : TG} {tt : TT} {te : TE} {ws : List Nat} (Pv : Nat → List V → List HP → Prop) (w : Own L H) (h0 : Pv 0 [] L) (hx : ∀ i A L, Pv i A L → Got L a (.tup xs))
    (hs : ∀ (i : Nat) x Da A L H1, xs[i]? = some x → Pv i A L → Own (pt Da (.lst A) :: L) H1 → g x (wipe σ ws) H1 fun σ2 H2 => wipe σ2 ws = wipe σ ws ∧ tt σ2 H2 fun b H3 =>
      if b = true then te σ2 H3 fun y H4 => LcAdd Da (PvO Pv Da) i y H4 else PvO Pv Da (i + 1) H3)
    (hd : ∀ Da A L H1, Pv xs.length A L → Own (pt Da (.lst A) :: L) H1 → Q (.ref Da) H1) : rLcT K g tt te ws σ Q (.ref a) H := by
  refine ⟨a, rfl, ⟨_, SqT.of' (w.get (hx _ _ _ h0))⟩, lcO (walk_tup (xs := xs)) Pv w h0 (fun i A L Da H' h w' => SqT.of' (w'.get (.next (hx _ _ _ h)))) ?_ hd⟩
  rintro i x Da A L H1 H2 hi h w' ⟨rfl, e⟩
  exact hs i x Da A L _ e h w'
theorem w_ixT' {i : Int} (g : SqT K H a xs) (h : atI xs i = some v) (q : Q v H) : rIx K (.ref a) (.int i) H Q := .inr (.inl ⟨a, xs, i, v, rfl, rfl, g, h, q⟩)
theorem w_ixL' {i : Int} (g : SqL K H a xs) (h : atI xs i = some v) (q : Q v H) : rIx K (.ref a) (.int i) H Q := .inl ⟨a, xs, i, v, rfl, rfl, g, h, q⟩
theorem k_sum {ns : List Int} (g : SqL K H a (ns.map V.int)) (q : Q (.int ns.sum) H) : rSum K [.ref a] H Q := ⟨a, ns, rfl, g, q⟩
theorem k_truB {b : Bool} {P : Bool → Prop} (q : P b) : ∃ k, TruV K (.bl b) H k ∧ P k := ⟨b, rfl, q⟩
instance (priority := 950) i_truB {b : Bool} {P : Bool → Prop} : Stp (∃ k, TruV K (.bl b) H k ∧ P k) (P b) := ⟨k_truB⟩
end
/-! rows as data -/
section
variable {K : PySem.W.Frag} {β : Type} {f : Addr → β → HP} {dv : β → PyData}
theorem dp_rows (t : ∀ x y, Tell (f x y) fun H => Dp K H (.ref x) (dv y)) : ∀ {as : List Addr} {bs : List β} {L : List HP} {H : Hp}, Own (big f as bs :: L) H → DpAll K H (as.map V.ref) (bs.map dv)
  | [], [], _, _, _ => .nil
  | a :: as, b :: bs, L, H, w => .cons (w.bigUncons.ent (.here (t a b))) (dp_rows t w.bigUncons.tail)
  | [], _ :: _, _, _, w => nomatch w.bigLen
  | _ :: _, [], _, _, w => nomatch w.bigLen
theorem Own.bigDts {as : List Addr} {bs : List β} {L : List HP} {H : Hp} (t : ∀ x y, Tell (f x y) fun H => Dp K H (.ref x) (dv y)) (w : Own (big f as bs :: L) H) : Own (DTs K (as.map V.ref) (bs.map dv) :: L) H :=
  w.head fun h p H e => dp_rows t (L := []) ⟨h, e, h, LHnone, dis_none_r, LSub.rfl', sub_none, p, trivial⟩
/-- a list of rows is data -/
theorem Own.bigDT {c : Bool} {l : Addr} {as : List Addr} {bs : List β} {L : List HP} {H : Hp} (t : ∀ x y, Tell (f x y) fun H => Dp K H (.ref x) (dv y)) (w : Own (cell c l (.lst (as.map V.ref)) :: big f as bs :: L) H) : Own (DT K (.ref l) (.list (bs.map dv)) :: L) H :=
  Own.dtLst ((Own.bigDts t w.swap).swap)
end
section
variable {K : PySem.W.Frag}
theorem k_sortGS {α : Type} {F : Addr → α → HP} {num : α → Str} (tl : ∀ t x, Tell (F t x) fun H => ∃ tl, H t = some (.tup (.str (num x) :: tl))) {L L1 R : List HP} {H : Hp} {Q : VK} {l : Addr} {c : Bool} {ts : List Addr} {xs : List α} (hn : (xs.map num).Nodup) (w : Own L H) (p1 : Pick L (cell c l (.lst (ts.map V.ref))) L1) (p2 : Pick L1 (big F ts xs) R)
    (q : ∀ D ts' xs' H', xs'.Perm xs → xs'.Pairwise (fun a b => SrtO.ltS (num b) (num a) = false) → Own (pt D (.lst (ts'.map V.ref)) :: big F ts' xs' :: cell c l (.lst (ts.map V.ref)) :: R) H' → Q (.ref D) H') : rSortedTS K [.ref l] H Q := by
  have w1 := w.take2 p1 p2
  have hlen := w1.swap.bigLen
  have e1 : (ts.zip xs).map (·.1) = ts := List.map_fst_zip (by omega)
  have e2 : (ts.zip xs).map (·.2) = xs := List.map_snd_zip (by omega)
  have tell : ∀ z ∈ ts.zip xs, ∃ tl, H z.1 = some (.tup (.str (num z.2) :: tl)) := fun z hz => by
    obtain ⟨i, hi⟩ := List.getElem?_of_mem hz
    obtain ⟨ha, hb⟩ := List.getElem?_zip_eq_some.mp hi
    exact w1.swap.bigTell ha hb (tl _ _)
  have hk : ∀ z ∈ ts.zip xs, (match H z.1 with | some (.tup (.str n :: _)) => n | _ => Str.empty) = num z.2 := fun z hz => by
    obtain ⟨tl, e⟩ := tell z hz
    rw [e]
  refine ⟨l, ts.map V.ref, fun v => match v with | .ref t => (match H t with | some (.tup (.str n :: _)) => n | _ => Str.empty) | _ => Str.empty, rfl, w1.sql .here, fun x hx => ?_, fun x hx y hy e => ?_, fun ys D hp1 hp2 hD => ?_⟩
  · rw [← e1] at hx
    obtain ⟨t, ht, rfl⟩ := List.mem_map.mp hx
    obtain ⟨z, hz, rfl⟩ := List.mem_map.mp ht
    obtain ⟨tl, e⟩ := tell z hz
    refine ⟨z.1, tl, rfl, ?_⟩
    show H z.1 = some (.tup (.str (match H z.1 with | some (.tup (.str n :: _)) => n | _ => Str.empty) :: tl))
    rw [hk z hz]
    exact e
  · rw [← e1] at hx hy
    obtain ⟨t, ht, rfl⟩ := List.mem_map.mp hx
    obtain ⟨z, hz, rfl⟩ := List.mem_map.mp ht
    obtain ⟨t', ht', rfl⟩ := List.mem_map.mp hy
    obtain ⟨z', hz', rfl⟩ := List.mem_map.mp ht'
    have e' : num z.2 = num z'.2 := (hk z hz).symm.trans (e.trans (hk z' hz'))
    obtain ⟨i, hi⟩ := List.getElem?_of_mem hz
    obtain ⟨j, hj⟩ := List.getElem?_of_mem hz'
    have hi2 : (xs.map num)[i]? = some (num z.2) := by rw [List.getElem?_map, (List.getElem?_zip_eq_some.mp hi).2]; rfl
    have hj2 : (xs.map num)[j]? = some (num z.2) := by rw [List.getElem?_map, (List.getElem?_zip_eq_some.mp hj).2, e']; rfl
    have : i = j := (List.getElem?_inj (List.getElem?_eq_some_iff.mp hi2).1 hn).mp (hi2.trans hj2.symm)
    subst this
    rw [hi] at hj
    cases hj
    rfl
  · have e3 : ts.map V.ref = (ts.zip xs).map (fun z => V.ref z.1) := by
      have := congrArg (List.map V.ref) e1
      rw [List.map_map] at this
      exact this.symm
    rw [e3] at hp2
    obtain ⟨zs', hz, e4⟩ := perm_inv hp2
    have w2 : Own (big F ((ts.zip xs).map (·.1)) ((ts.zip xs).map (·.2)) :: cell c l (.lst (ts.map V.ref)) :: R) H := by rw [e1, e2]; exact w1.swap
    have w3 := (big_perm hz.symm w2).new hD (o := .lst ys)
    have e5 : ys = (zs'.map (·.1)).map V.ref := by rw [List.map_map]; exact e4.symm
    rw [e5] at w3 ⊢
    refine q D (zs'.map (·.1)) (zs'.map (·.2)) _ ?_ ?_ w3
    · have := hz.map (·.2)
      rw [e2] at this
      exact this
    · rw [← e4] at hp1
      rw [List.pairwise_map] at hp1 ⊢
      refine hp1.imp_of_mem fun {a b} ha hb h => ?_
      have h1 := hk a (hz.mem_iff.mp ha)
      have h2 := hk b (hz.mem_iff.mp hb)
      have h' : SrtO.ltS (match H b.1 with | some (.tup (.str n :: _)) => n | _ => Str.empty) (match H a.1 with | some (.tup (.str n :: _)) => n | _ => Str.empty) = false := h
      rw [h1, h2] at h'
      exact h'
end
/-! the order of texts -/
theorem ltS_tri {a b : Str} (h1 : SrtO.ltS b a = false) (h2 : a ≠ b) : SrtO.ltS a b = true := by
  unfold SrtO.ltS at h1 ⊢
  rw [decide_eq_true_eq]
  have h1 := of_decide_eq_false h1
  refine Classical.byContradiction fun h3 => h2 ?_
  have e : a.cps.toList = b.cps.toList := List.le_antisymm (List.not_lt.mp h1) (List.not_lt.mp h3)
  cases a; cases b
  congr 1
  exact Array.toList_inj.mp e
theorem ltS_irr {a : Str} : SrtO.ltS a a ≠ true := by rw [SrtO.ltS_self]; exact Bool.false_ne_true
theorem ltS_trans {a b c : Str} (h1 : SrtO.ltS a b = true) (h2 : SrtO.ltS b c = true) : SrtO.ltS a c = true := by
  unfold SrtO.ltS at *
  rw [decide_eq_true_eq] at *
  exact List.lt_trans h1 h2
/-- strictly ascending rows with the same members are the same -/
theorem asc_ext {α : Type} {lt : α → α → Prop} (irr : ∀ a, ¬ lt a a) (tr : ∀ a b c, lt a b → lt b c → lt a c) : ∀ {l m : List α}, l.Pairwise lt → m.Pairwise lt → (∀ x, x ∈ l ↔ x ∈ m) → l = m
  | [], [], _, _, _ => rfl
  | [], b :: m, _, _, h => absurd ((h b).mpr List.mem_cons_self) (fun z => nomatch z)
  | a :: l, [], _, _, h => absurd ((h a).mp List.mem_cons_self) (fun z => nomatch z)
  | a :: l, b :: m, h1, h2, h => by
    obtain ⟨p1, p2⟩ := List.pairwise_cons.mp h1
    obtain ⟨q1, q2⟩ := List.pairwise_cons.mp h2
    have e : a = b := by
      rcases List.mem_cons.mp ((h a).mp List.mem_cons_self) with e | e
      · exact e
      · rcases List.mem_cons.mp ((h b).mpr List.mem_cons_self) with e2 | e2
        · exact e2.symm
        · exact absurd (tr _ _ _ (p1 b e2) (q1 a e)) (irr a)
    subst e
    rw [asc_ext irr tr p2 q2 fun x => ⟨fun hx => ?_, fun hx => ?_⟩]
    · rcases List.mem_cons.mp ((h x).mp (List.mem_cons_of_mem _ hx)) with e | e
      · subst e; exact absurd (p1 x hx) (irr x)
      · exact e
    · rcases List.mem_cons.mp ((h x).mpr (List.mem_cons_of_mem _ hx)) with e | e
      · subst e; exact absurd (q1 x hx) (irr x)
      · exact e
/-! in lists of texts, of numbers -/
theorem szl {n : Nat} (h : n < 16000000) : n < sizeLine := small16 (n := n + 1) h
theorem inV_strs {n : Str} : ∀ {ns : List Str}, inV (.str n) (ns.map V.str) = decide (n ∈ ns)
  | [] => by simp [inV]
  | m :: ns => by
    have ih := inV_strs (n := n) (ns := ns)
    unfold inV at ih ⊢
    rw [List.map_cons, List.any_cons, ih, Bool.eq_iff_iff, Bool.or_eq_true, decide_eq_true_eq, decide_eq_true_eq, List.mem_cons]
    have e : eqV (.str m) (.str n) = decide (m = n) := by
      show (m == n) = decide (m = n)
      rw [Bool.eq_iff_iff, beq_iff_eq, decide_eq_true_eq]
    rw [e, decide_eq_true_eq]
    exact ⟨fun z => z.elim (fun q => .inl q.symm) .inr, fun z => z.elim (fun q => .inl q.symm) .inr⟩
theorem strs_flat {ns : List Str} : (ns.map V.str).all flatV = true := by
  rw [List.all_map]
  exact List.all_eq_true.mpr fun _ _ => rfl
theorem mra_str {ps : List Str} {i : Nat} {x : V} (h : (ps.map V.str)[i]? = some x) : ∃ p, ps[i]? = some p ∧ V.str p = x := by
  rw [List.getElem?_map] at h
  cases e : ps[i]? with
  | none => rw [e] at h; cases h
  | some p => rw [e] at h; cases h; exact ⟨p, rfl, rfl⟩
theorem inV_ints {i : Int} : ∀ {ns : List Int}, inV (.int i) (ns.map V.int) = decide (i ∈ ns)
  | [] => by simp [inV]
  | n :: ns => by
    have ih := inV_ints (i := i) (ns := ns)
    unfold inV at ih ⊢
    rw [List.map_cons, List.any_cons, ih, Bool.eq_iff_iff, Bool.or_eq_true, decide_eq_true_eq, decide_eq_true_eq, List.mem_cons]
    have e : eqV (.int n) (.int i) = decide (n = i) := by
      show (n == i) = decide (n = i)
      rw [Bool.eq_iff_iff, beq_iff_eq, decide_eq_true_eq]
    rw [e, decide_eq_true_eq]
    exact ⟨fun z => z.elim (fun q => .inl q.symm) .inr, fun z => z.elim (fun q => .inl q.symm) .inr⟩
theorem ints_flat {ns : List Int} : (ns.map V.int).all flatV = true := by
  rw [List.all_map]
  exact List.all_eq_true.mpr fun _ _ => rfl
end G

namespace K93
open PySem PySem.Spec PyProof.Rows L2 G

def top (i : Nat) : Stmt := PySem.Challenge.pw_throughway_k93_reports_of_lines.main.body.getD i (.Pass ⟨0, 0, 0, 0⟩)

abbrev s_Event_init : Stmt := inClass (top 2) 0
abbrev N_Event_init : List Str := ["self", "tick", "word", "link", "side", "frame"]
abbrev P_Event_init : List Str := ["self", "tick", "word", "link", "side", "frame"]

theorem sc_Event_init : FnScope N_Event_init P_Event_init (defScope s_Event_init) := ⟨rfl, rfl, rfl, by decide +kernel, rfl, by decide +kernel, by decide +kernel⟩

abbrev D_Event_init : He.DefD := ⟨("Event", some "__init__"), "__init__", "Event.__init__", defArgs s_Event_init, defBody s_Event_init, defScope s_Event_init, [], []⟩

abbrev s_Event__eq : Stmt := inClass (top 2) 1
abbrev N_Event__eq : List Str := ["self", "other"]
abbrev P_Event__eq : List Str := ["self", "other"]

theorem sc_Event__eq : FnScope N_Event__eq P_Event__eq (defScope s_Event__eq) := ⟨rfl, rfl, rfl, by decide +kernel, rfl, by decide +kernel, by decide +kernel⟩

abbrev D_Event__eq : He.DefD := ⟨("Event", some "__eq__"), "__eq__", "Event.__eq__", defArgs s_Event__eq, defBody s_Event__eq, defScope s_Event__eq, [], []⟩

abbrev s_LineReport_init : Stmt := inClass (top 3) 0
abbrev N_LineReport_init : List Str := ["self"]
abbrev P_LineReport_init : List Str := ["self"]

theorem sc_LineReport_init : FnScope N_LineReport_init P_LineReport_init (defScope s_LineReport_init) := ⟨rfl, rfl, rfl, by decide +kernel, rfl, by decide +kernel, by decide +kernel⟩

abbrev D_LineReport_init : He.DefD := ⟨("LineReport", some "__init__"), "__init__", "LineReport.__init__", defArgs s_LineReport_init, defBody s_LineReport_init, defScope s_LineReport_init, [], []⟩

abbrev s_LineReport_add : Stmt := inClass (top 3) 1
abbrev N_LineReport_add : List Str := ["self", "event"]
abbrev P_LineReport_add : List Str := ["self", "event"]

theorem sc_LineReport_add : FnScope N_LineReport_add P_LineReport_add (defScope s_LineReport_add) := ⟨rfl, rfl, rfl, by decide +kernel, rfl, by decide +kernel, by decide +kernel⟩

abbrev D_LineReport_add : He.DefD := ⟨("LineReport", some "add"), "add", "LineReport.add", defArgs s_LineReport_add, defBody s_LineReport_add, defScope s_LineReport_add, [], []⟩

abbrev s_report_lines : Stmt := top 4
abbrev N_report_lines : List Str := ["events", "links", "reports", "_", "event"]
abbrev P_report_lines : List Str := ["events", "links"]

theorem sc_report_lines : FnScope N_report_lines P_report_lines (defScope s_report_lines) := ⟨rfl, rfl, rfl, by decide +kernel, rfl, by decide +kernel, by decide +kernel⟩

abbrev D_report_lines : He.DefD := ⟨("report_lines", none), "report_lines", "report_lines", defArgs s_report_lines, defBody s_report_lines, defScope s_report_lines, [], []⟩

abbrev s_busiest_line : Stmt := top 5
abbrev N_busiest_line : List Str := ["reports", "best", "link", "pair", "side"]
abbrev P_busiest_line : List Str := ["reports"]

theorem sc_busiest_line : FnScope N_busiest_line P_busiest_line (defScope s_busiest_line) := ⟨rfl, rfl, rfl, by decide +kernel, rfl, by decide +kernel, by decide +kernel⟩

abbrev D_busiest_line : He.DefD := ⟨("busiest_line", none), "busiest_line", "busiest_line", defArgs s_busiest_line, defBody s_busiest_line, defScope s_busiest_line, [], []⟩

abbrev s_Frame_init : Stmt := inClass (top 9) 0
abbrev N_Frame_init : List Str := ["self", "kind", "sender", "target", "octets", "birth", "hops", "marked"]
abbrev P_Frame_init : List Str := ["self", "kind", "sender", "target", "octets", "birth", "hops", "marked"]

theorem sc_Frame_init : FnScope N_Frame_init P_Frame_init (defScope s_Frame_init) := ⟨rfl, rfl, rfl, by decide +kernel, rfl, by decide +kernel, by decide +kernel⟩

abbrev D_Frame_init : He.DefD := ⟨("Frame", some "__init__"), "__init__", "Frame.__init__", defArgs s_Frame_init, defBody s_Frame_init, defScope s_Frame_init, [], [("hops", .int 15), ("marked", .bl false)]⟩

abbrev s_Frame__eq : Stmt := inClass (top 9) 1
abbrev N_Frame__eq : List Str := ["self", "other"]
abbrev P_Frame__eq : List Str := ["self", "other"]

theorem sc_Frame__eq : FnScope N_Frame__eq P_Frame__eq (defScope s_Frame__eq) := ⟨rfl, rfl, rfl, by decide +kernel, rfl, by decide +kernel, by decide +kernel⟩

abbrev D_Frame__eq : He.DefD := ⟨("Frame", some "__eq__"), "__eq__", "Frame.__eq__", defArgs s_Frame__eq, defBody s_Frame__eq, defScope s_Frame__eq, [], []⟩

abbrev s_Frame_as_row : Stmt := inClass (top 9) 2
abbrev N_Frame_as_row : List Str := ["self"]
abbrev P_Frame_as_row : List Str := ["self"]

theorem sc_Frame_as_row : FnScope N_Frame_as_row P_Frame_as_row (defScope s_Frame_as_row) := ⟨rfl, rfl, rfl, by decide +kernel, rfl, by decide +kernel, by decide +kernel⟩

abbrev D_Frame_as_row : He.DefD := ⟨("Frame", some "as_row"), "as_row", "Frame.as_row", defArgs s_Frame_as_row, defBody s_Frame_as_row, defScope s_Frame_as_row, [], []⟩

abbrev s_Frame_weight : Stmt := inClass (top 9) 3
abbrev N_Frame_weight : List Str := ["self"]
abbrev P_Frame_weight : List Str := ["self"]

theorem sc_Frame_weight : FnScope N_Frame_weight P_Frame_weight (defScope s_Frame_weight) := ⟨rfl, rfl, rfl, by decide +kernel, rfl, by decide +kernel, by decide +kernel⟩

abbrev D_Frame_weight : He.DefD := ⟨("Frame", some "weight"), "weight", "Frame.weight", defArgs s_Frame_weight, defBody s_Frame_weight, defScope s_Frame_weight, [], []⟩

abbrev s_law_cell : Stmt := top 11
abbrev N_law_cell : List Str := ["script", "k"]
abbrev P_law_cell : List Str := ["script", "k"]

theorem sc_law_cell : FnScope N_law_cell P_law_cell (defScope s_law_cell) := ⟨rfl, rfl, rfl, by decide +kernel, rfl, by decide +kernel, by decide +kernel⟩

abbrev D_law_cell : He.DefD := ⟨("_law_cell", none), "_law_cell", "_law_cell", defArgs s_law_cell, defBody s_law_cell, defScope s_law_cell, [], []⟩

abbrev s_law_start : Stmt := top 12
abbrev N_law_start : List Str := ["cell", "k", "prime", "mixed", "number", "turn"]
abbrev P_law_start : List Str := ["cell", "k"]

theorem sc_law_start : FnScope N_law_start P_law_start (defScope s_law_start) := ⟨rfl, rfl, rfl, by decide +kernel, rfl, by decide +kernel, by decide +kernel⟩

abbrev D_law_start : He.DefD := ⟨("_law_start", none), "_law_start", "_law_start", defArgs s_law_start, defBody s_law_start, defScope s_law_start, [], []⟩

abbrev s_law_digit : Stmt := top 13
abbrev N_law_digit : List Str := ["state", "many", "digit"]
abbrev P_law_digit : List Str := ["state", "many"]

theorem sc_law_digit : FnScope N_law_digit P_law_digit (defScope s_law_digit) := ⟨rfl, rfl, rfl, by decide +kernel, rfl, by decide +kernel, by decide +kernel⟩

abbrev D_law_digit : He.DefD := ⟨("_law_digit", none), "_law_digit", "_law_digit", defArgs s_law_digit, defBody s_law_digit, defScope s_law_digit, [], []⟩

abbrev s_law_event : Stmt := top 14
abbrev N_law_event : List Str := ["state", "links", "words", "octets", "k", "frame"]
abbrev P_law_event : List Str := ["state", "links"]

theorem sc_law_event : FnScope N_law_event P_law_event (defScope s_law_event) := ⟨rfl, rfl, rfl, by decide +kernel, rfl, by decide +kernel, by decide +kernel⟩

abbrev D_law_event : He.DefD := ⟨("_law_event", none), "_law_event", "_law_event", defArgs s_law_event, defBody s_law_event, defScope s_law_event, [], []⟩

abbrev s_law_row : Stmt := top 15
abbrev N_law_row : List Str := ["event"]
abbrev P_law_row : List Str := ["event"]

theorem sc_law_row : FnScope N_law_row P_law_row (defScope s_law_row) := ⟨rfl, rfl, rfl, by decide +kernel, rfl, by decide +kernel, by decide +kernel⟩

abbrev D_law_row : He.DefD := ⟨("_law_row", none), "_law_row", "_law_row", defArgs s_law_row, defBody s_law_row, defScope s_law_row, [], []⟩

abbrev s_law_expected : Stmt := top 16
abbrev N_law_expected : List Str := ["rows", "link", "side", "own", "row", "left", "dropped", "known", "words", "word", "entered", "octets"]
abbrev P_law_expected : List Str := ["rows", "link", "side"]

theorem sc_law_expected : FnScope N_law_expected P_law_expected (defScope s_law_expected) := ⟨rfl, rfl, rfl, by decide +kernel, rfl, by decide +kernel, by decide +kernel⟩

abbrev D_law_expected : He.DefD := ⟨("_law_expected", none), "_law_expected", "_law_expected", defArgs s_law_expected, defBody s_law_expected, defScope s_law_expected, [], []⟩

abbrev s_law_told : Stmt := top 17
abbrev N_law_told : List Str := ["report", "words", "word"]
abbrev P_law_told : List Str := ["report"]

theorem sc_law_told : FnScope N_law_told P_law_told (defScope s_law_told) := ⟨rfl, rfl, rfl, by decide +kernel, rfl, by decide +kernel, by decide +kernel⟩

abbrev D_law_told : He.DefD := ⟨("_law_told", none), "_law_told", "_law_told", defArgs s_law_told, defBody s_law_told, defScope s_law_told, [], []⟩

abbrev s_law_busiest : Stmt := top 18
abbrev N_law_busiest : List Str := ["expected", "best", "most", "link", "side"]
abbrev P_law_busiest : List Str := ["expected"]

theorem sc_law_busiest : FnScope N_law_busiest P_law_busiest (defScope s_law_busiest) := ⟨rfl, rfl, rfl, by decide +kernel, rfl, by decide +kernel, by decide +kernel⟩

abbrev D_law_busiest : He.DefD := ⟨("_law_busiest", none), "_law_busiest", "_law_busiest", defArgs s_law_busiest, defBody s_law_busiest, defScope s_law_busiest, [], []⟩

abbrev s_law : Stmt := top 19
abbrev N_law : List Str := ["script", "state", "links", "events", "k", "rows", "event", "reports", "expected", "side", "link", "report", "pair"]
abbrev P_law : List Str := ["script"]

theorem sc_law : FnScope N_law P_law (defScope s_law) := ⟨rfl, rfl, rfl, by decide +kernel, rfl, by decide +kernel, by decide +kernel⟩

abbrev D_law : He.DefD := ⟨("law", none), "law", "law", defArgs s_law, defBody s_law, defScope s_law, [], []⟩

abbrev fn : List He.DefD := [D_Event_init, D_Event__eq, D_LineReport_init, D_LineReport_add, D_report_lines, D_busiest_line, D_Frame_init, D_Frame__eq, D_Frame_as_row, D_Frame_weight, D_law_cell, D_law_start, D_law_digit, D_law_event, D_law_row, D_law_expected, D_law_told, D_law_busiest, D_law]

abbrev fa : List He.Fa := [.glo "Event", .free "isinstance", .free "range", .free "enumerate", .free "list", .glo "Frame", .int "HEAD" 12, .free "len", .free "int", .free "sum", .free "sorted", .free "min", .mkr "Event", .cls "Event", .meth "Event" "__eq__", .glo "LineReport", .mkr "LineReport", .cls "LineReport", .meth "LineReport" "add", .glo "report_lines", .glo "busiest_line", .mkr "Frame", .cls "Frame", .meth "Frame" "__eq__", .meth "Frame" "as_row", .meth "Frame" "weight", .glo "_law_cell", .glo "_law_start", .glo "_law_digit", .glo "_law_event", .glo "_law_row", .glo "_law_expected", .glo "_law_told", .glo "_law_busiest", .glo "law", .noat "Event" "tick", .noat "Event" "word", .noat "Event" "link", .noat "Event" "side", .noat "Event" "frame", .noat "LineReport" "entered", .noat "LineReport" "left", .noat "LineReport" "dropped", .noat "LineReport" "marked", .noat "LineReport" "octets", .noat "LineReport" "words", .noat "Frame" "kind", .noat "Frame" "sender", .noat "Frame" "target", .noat "Frame" "octets", .noat "Frame" "birth", .noat "Frame" "hops", .noat "Frame" "marked"]

abbrev pr : List Pr := []
abbrev ex : List Ex := [(insB "Frame"), (kitOB "Frame" "Frame" true), (insB "Event"), (kitOB "Event" "Event" true), (kitTB "tuple" "Event" false), (nfB "Event" "tuple")]
abbrev TX (K : PySem.W.Frag) (mg : Str → Option Value) (base : Heap) : Prop := TxB fa fn pr ex K mg base

section
variable {K : PySem.W.Frag} {mg : Str → Option Value} {base : Heap}

theorem cl_Event (T : TX K mg base) : Cls K (He.ga K "Event") := T.cls 13

theorem na_Event_tick (T : TX K mg base) : NoAttr K (He.ga K "Event") "tick" := T.noat 35

theorem na_Event_word (T : TX K mg base) : NoAttr K (He.ga K "Event") "word" := T.noat 36

theorem na_Event_link (T : TX K mg base) : NoAttr K (He.ga K "Event") "link" := T.noat 37

theorem na_Event_side (T : TX K mg base) : NoAttr K (He.ga K "Event") "side" := T.noat 38

theorem na_Event_frame (T : TX K mg base) : NoAttr K (He.ga K "Event") "frame" := T.noat 39

theorem cl_LineReport (T : TX K mg base) : Cls K (He.ga K "LineReport") := T.cls 17

theorem na_LineReport_entered (T : TX K mg base) : NoAttr K (He.ga K "LineReport") "entered" := T.noat 40

theorem na_LineReport_left (T : TX K mg base) : NoAttr K (He.ga K "LineReport") "left" := T.noat 41

theorem na_LineReport_dropped (T : TX K mg base) : NoAttr K (He.ga K "LineReport") "dropped" := T.noat 42

theorem na_LineReport_marked (T : TX K mg base) : NoAttr K (He.ga K "LineReport") "marked" := T.noat 43

theorem na_LineReport_octets (T : TX K mg base) : NoAttr K (He.ga K "LineReport") "octets" := T.noat 44

theorem na_LineReport_words (T : TX K mg base) : NoAttr K (He.ga K "LineReport") "words" := T.noat 45

theorem cl_Frame (T : TX K mg base) : Cls K (He.ga K "Frame") := T.cls 22

theorem na_Frame_kind (T : TX K mg base) : NoAttr K (He.ga K "Frame") "kind" := T.noat 46

theorem na_Frame_sender (T : TX K mg base) : NoAttr K (He.ga K "Frame") "sender" := T.noat 47

theorem na_Frame_target (T : TX K mg base) : NoAttr K (He.ga K "Frame") "target" := T.noat 48

theorem na_Frame_octets (T : TX K mg base) : NoAttr K (He.ga K "Frame") "octets" := T.noat 49

theorem na_Frame_birth (T : TX K mg base) : NoAttr K (He.ga K "Frame") "birth" := T.noat 50

theorem na_Frame_hops (T : TX K mg base) : NoAttr K (He.ga K "Frame") "hops" := T.noat 51

theorem na_Frame_marked (T : TX K mg base) : NoAttr K (He.ga K "Frame") "marked" := T.noat 52

/-- the attributes of a Event, in the order of its __init__ -/
abbrev fEvent (x0 x1 x2 x3 x4 : V) : List (Str × V) := [("tick", x0), ("word", x1), ("link", x2), ("side", x3), ("frame", x4)]

theorem lk_Event_tick {x0 x1 x2 x3 x4 : V} : (fEvent x0 x1 x2 x3 x4).lookup ("tick" : Str) = some x0 := by kernel_rfl

theorem pt_Event_tick {x0 x1 x2 x3 x4 y : V} : putF "tick" y (fEvent x0 x1 x2 x3 x4) = fEvent y x1 x2 x3 x4 := by kernel_rfl

theorem pn_Event_tick { y : V} : putF "tick" y ([] : List (Str × V)) = ([("tick", y)] : List (Str × V)) := by kernel_rfl

theorem lk_Event_word {x0 x1 x2 x3 x4 : V} : (fEvent x0 x1 x2 x3 x4).lookup ("word" : Str) = some x1 := by kernel_rfl

theorem pt_Event_word {x0 x1 x2 x3 x4 y : V} : putF "word" y (fEvent x0 x1 x2 x3 x4) = fEvent x0 y x2 x3 x4 := by kernel_rfl

theorem pn_Event_word {x0 y : V} : putF "word" y ([("tick", x0)] : List (Str × V)) = ([("tick", x0), ("word", y)] : List (Str × V)) := by kernel_rfl

theorem lk_Event_link {x0 x1 x2 x3 x4 : V} : (fEvent x0 x1 x2 x3 x4).lookup ("link" : Str) = some x2 := by kernel_rfl

theorem pt_Event_link {x0 x1 x2 x3 x4 y : V} : putF "link" y (fEvent x0 x1 x2 x3 x4) = fEvent x0 x1 y x3 x4 := by kernel_rfl

theorem pn_Event_link {x0 x1 y : V} : putF "link" y ([("tick", x0), ("word", x1)] : List (Str × V)) = ([("tick", x0), ("word", x1), ("link", y)] : List (Str × V)) := by kernel_rfl

theorem lk_Event_side {x0 x1 x2 x3 x4 : V} : (fEvent x0 x1 x2 x3 x4).lookup ("side" : Str) = some x3 := by kernel_rfl

theorem pt_Event_side {x0 x1 x2 x3 x4 y : V} : putF "side" y (fEvent x0 x1 x2 x3 x4) = fEvent x0 x1 x2 y x4 := by kernel_rfl

theorem pn_Event_side {x0 x1 x2 y : V} : putF "side" y ([("tick", x0), ("word", x1), ("link", x2)] : List (Str × V)) = ([("tick", x0), ("word", x1), ("link", x2), ("side", y)] : List (Str × V)) := by kernel_rfl

theorem lk_Event_frame {x0 x1 x2 x3 x4 : V} : (fEvent x0 x1 x2 x3 x4).lookup ("frame" : Str) = some x4 := by kernel_rfl

theorem pt_Event_frame {x0 x1 x2 x3 x4 y : V} : putF "frame" y (fEvent x0 x1 x2 x3 x4) = fEvent x0 x1 x2 x3 y := by kernel_rfl

theorem pn_Event_frame {x0 x1 x2 x3 y : V} : putF "frame" y ([("tick", x0), ("word", x1), ("link", x2), ("side", x3)] : List (Str × V)) = ([("tick", x0), ("word", x1), ("link", x2), ("side", x3), ("frame", y)] : List (Str × V)) := by kernel_rfl

theorem ln_Event___eq__ {x0 x1 x2 x3 x4 : V} : (fEvent x0 x1 x2 x3 x4).lookup ("__eq__" : Str) = none := by kernel_rfl

/-- the attributes of a LineReport, in the order of its __init__ -/
abbrev fLineReport (x0 x1 x2 x3 x4 x5 : V) : List (Str × V) := [("entered", x0), ("left", x1), ("dropped", x2), ("marked", x3), ("octets", x4), ("words", x5)]

theorem lk_LineReport_entered {x0 x1 x2 x3 x4 x5 : V} : (fLineReport x0 x1 x2 x3 x4 x5).lookup ("entered" : Str) = some x0 := by kernel_rfl

theorem pt_LineReport_entered {x0 x1 x2 x3 x4 x5 y : V} : putF "entered" y (fLineReport x0 x1 x2 x3 x4 x5) = fLineReport y x1 x2 x3 x4 x5 := by kernel_rfl

theorem pn_LineReport_entered { y : V} : putF "entered" y ([] : List (Str × V)) = ([("entered", y)] : List (Str × V)) := by kernel_rfl

theorem lk_LineReport_left {x0 x1 x2 x3 x4 x5 : V} : (fLineReport x0 x1 x2 x3 x4 x5).lookup ("left" : Str) = some x1 := by kernel_rfl

theorem pt_LineReport_left {x0 x1 x2 x3 x4 x5 y : V} : putF "left" y (fLineReport x0 x1 x2 x3 x4 x5) = fLineReport x0 y x2 x3 x4 x5 := by kernel_rfl

theorem pn_LineReport_left {x0 y : V} : putF "left" y ([("entered", x0)] : List (Str × V)) = ([("entered", x0), ("left", y)] : List (Str × V)) := by kernel_rfl

theorem lk_LineReport_dropped {x0 x1 x2 x3 x4 x5 : V} : (fLineReport x0 x1 x2 x3 x4 x5).lookup ("dropped" : Str) = some x2 := by kernel_rfl

theorem pt_LineReport_dropped {x0 x1 x2 x3 x4 x5 y : V} : putF "dropped" y (fLineReport x0 x1 x2 x3 x4 x5) = fLineReport x0 x1 y x3 x4 x5 := by kernel_rfl

theorem pn_LineReport_dropped {x0 x1 y : V} : putF "dropped" y ([("entered", x0), ("left", x1)] : List (Str × V)) = ([("entered", x0), ("left", x1), ("dropped", y)] : List (Str × V)) := by kernel_rfl

theorem lk_LineReport_marked {x0 x1 x2 x3 x4 x5 : V} : (fLineReport x0 x1 x2 x3 x4 x5).lookup ("marked" : Str) = some x3 := by kernel_rfl

theorem pt_LineReport_marked {x0 x1 x2 x3 x4 x5 y : V} : putF "marked" y (fLineReport x0 x1 x2 x3 x4 x5) = fLineReport x0 x1 x2 y x4 x5 := by kernel_rfl

theorem pn_LineReport_marked {x0 x1 x2 y : V} : putF "marked" y ([("entered", x0), ("left", x1), ("dropped", x2)] : List (Str × V)) = ([("entered", x0), ("left", x1), ("dropped", x2), ("marked", y)] : List (Str × V)) := by kernel_rfl

theorem lk_LineReport_octets {x0 x1 x2 x3 x4 x5 : V} : (fLineReport x0 x1 x2 x3 x4 x5).lookup ("octets" : Str) = some x4 := by kernel_rfl

theorem pt_LineReport_octets {x0 x1 x2 x3 x4 x5 y : V} : putF "octets" y (fLineReport x0 x1 x2 x3 x4 x5) = fLineReport x0 x1 x2 x3 y x5 := by kernel_rfl

theorem pn_LineReport_octets {x0 x1 x2 x3 y : V} : putF "octets" y ([("entered", x0), ("left", x1), ("dropped", x2), ("marked", x3)] : List (Str × V)) = ([("entered", x0), ("left", x1), ("dropped", x2), ("marked", x3), ("octets", y)] : List (Str × V)) := by kernel_rfl

theorem lk_LineReport_words {x0 x1 x2 x3 x4 x5 : V} : (fLineReport x0 x1 x2 x3 x4 x5).lookup ("words" : Str) = some x5 := by kernel_rfl

theorem pt_LineReport_words {x0 x1 x2 x3 x4 x5 y : V} : putF "words" y (fLineReport x0 x1 x2 x3 x4 x5) = fLineReport x0 x1 x2 x3 x4 y := by kernel_rfl

theorem pn_LineReport_words {x0 x1 x2 x3 x4 y : V} : putF "words" y ([("entered", x0), ("left", x1), ("dropped", x2), ("marked", x3), ("octets", x4)] : List (Str × V)) = ([("entered", x0), ("left", x1), ("dropped", x2), ("marked", x3), ("octets", x4), ("words", y)] : List (Str × V)) := by kernel_rfl

theorem ln_LineReport_add {x0 x1 x2 x3 x4 x5 : V} : (fLineReport x0 x1 x2 x3 x4 x5).lookup ("add" : Str) = none := by kernel_rfl

/-- the attributes of a Frame, in the order of its __init__ -/
abbrev fFrame (x0 x1 x2 x3 x4 x5 x6 : V) : List (Str × V) := [("kind", x0), ("sender", x1), ("target", x2), ("octets", x3), ("birth", x4), ("hops", x5), ("marked", x6)]

theorem lk_Frame_kind {x0 x1 x2 x3 x4 x5 x6 : V} : (fFrame x0 x1 x2 x3 x4 x5 x6).lookup ("kind" : Str) = some x0 := by kernel_rfl

theorem pt_Frame_kind {x0 x1 x2 x3 x4 x5 x6 y : V} : putF "kind" y (fFrame x0 x1 x2 x3 x4 x5 x6) = fFrame y x1 x2 x3 x4 x5 x6 := by kernel_rfl

theorem pn_Frame_kind { y : V} : putF "kind" y ([] : List (Str × V)) = ([("kind", y)] : List (Str × V)) := by kernel_rfl

theorem lk_Frame_sender {x0 x1 x2 x3 x4 x5 x6 : V} : (fFrame x0 x1 x2 x3 x4 x5 x6).lookup ("sender" : Str) = some x1 := by kernel_rfl

theorem pt_Frame_sender {x0 x1 x2 x3 x4 x5 x6 y : V} : putF "sender" y (fFrame x0 x1 x2 x3 x4 x5 x6) = fFrame x0 y x2 x3 x4 x5 x6 := by kernel_rfl

theorem pn_Frame_sender {x0 y : V} : putF "sender" y ([("kind", x0)] : List (Str × V)) = ([("kind", x0), ("sender", y)] : List (Str × V)) := by kernel_rfl

theorem lk_Frame_target {x0 x1 x2 x3 x4 x5 x6 : V} : (fFrame x0 x1 x2 x3 x4 x5 x6).lookup ("target" : Str) = some x2 := by kernel_rfl

theorem pt_Frame_target {x0 x1 x2 x3 x4 x5 x6 y : V} : putF "target" y (fFrame x0 x1 x2 x3 x4 x5 x6) = fFrame x0 x1 y x3 x4 x5 x6 := by kernel_rfl

theorem pn_Frame_target {x0 x1 y : V} : putF "target" y ([("kind", x0), ("sender", x1)] : List (Str × V)) = ([("kind", x0), ("sender", x1), ("target", y)] : List (Str × V)) := by kernel_rfl

theorem lk_Frame_octets {x0 x1 x2 x3 x4 x5 x6 : V} : (fFrame x0 x1 x2 x3 x4 x5 x6).lookup ("octets" : Str) = some x3 := by kernel_rfl

theorem pt_Frame_octets {x0 x1 x2 x3 x4 x5 x6 y : V} : putF "octets" y (fFrame x0 x1 x2 x3 x4 x5 x6) = fFrame x0 x1 x2 y x4 x5 x6 := by kernel_rfl

theorem pn_Frame_octets {x0 x1 x2 y : V} : putF "octets" y ([("kind", x0), ("sender", x1), ("target", x2)] : List (Str × V)) = ([("kind", x0), ("sender", x1), ("target", x2), ("octets", y)] : List (Str × V)) := by kernel_rfl

theorem lk_Frame_birth {x0 x1 x2 x3 x4 x5 x6 : V} : (fFrame x0 x1 x2 x3 x4 x5 x6).lookup ("birth" : Str) = some x4 := by kernel_rfl

theorem pt_Frame_birth {x0 x1 x2 x3 x4 x5 x6 y : V} : putF "birth" y (fFrame x0 x1 x2 x3 x4 x5 x6) = fFrame x0 x1 x2 x3 y x5 x6 := by kernel_rfl

theorem pn_Frame_birth {x0 x1 x2 x3 y : V} : putF "birth" y ([("kind", x0), ("sender", x1), ("target", x2), ("octets", x3)] : List (Str × V)) = ([("kind", x0), ("sender", x1), ("target", x2), ("octets", x3), ("birth", y)] : List (Str × V)) := by kernel_rfl

theorem lk_Frame_hops {x0 x1 x2 x3 x4 x5 x6 : V} : (fFrame x0 x1 x2 x3 x4 x5 x6).lookup ("hops" : Str) = some x5 := by kernel_rfl

theorem pt_Frame_hops {x0 x1 x2 x3 x4 x5 x6 y : V} : putF "hops" y (fFrame x0 x1 x2 x3 x4 x5 x6) = fFrame x0 x1 x2 x3 x4 y x6 := by kernel_rfl

theorem pn_Frame_hops {x0 x1 x2 x3 x4 y : V} : putF "hops" y ([("kind", x0), ("sender", x1), ("target", x2), ("octets", x3), ("birth", x4)] : List (Str × V)) = ([("kind", x0), ("sender", x1), ("target", x2), ("octets", x3), ("birth", x4), ("hops", y)] : List (Str × V)) := by kernel_rfl

theorem lk_Frame_marked {x0 x1 x2 x3 x4 x5 x6 : V} : (fFrame x0 x1 x2 x3 x4 x5 x6).lookup ("marked" : Str) = some x6 := by kernel_rfl

theorem pt_Frame_marked {x0 x1 x2 x3 x4 x5 x6 y : V} : putF "marked" y (fFrame x0 x1 x2 x3 x4 x5 x6) = fFrame x0 x1 x2 x3 x4 x5 y := by kernel_rfl

theorem pn_Frame_marked {x0 x1 x2 x3 x4 x5 y : V} : putF "marked" y ([("kind", x0), ("sender", x1), ("target", x2), ("octets", x3), ("birth", x4), ("hops", x5)] : List (Str × V)) = ([("kind", x0), ("sender", x1), ("target", x2), ("octets", x3), ("birth", x4), ("hops", x5), ("marked", y)] : List (Str × V)) := by kernel_rfl

theorem ln_Frame___eq__ {x0 x1 x2 x3 x4 x5 x6 : V} : (fFrame x0 x1 x2 x3 x4 x5 x6).lookup ("__eq__" : Str) = none := by kernel_rfl

theorem ln_Frame_as_row {x0 x1 x2 x3 x4 x5 x6 : V} : (fFrame x0 x1 x2 x3 x4 x5 x6).lookup ("as_row" : Str) = none := by kernel_rfl

theorem ln_Frame_weight {x0 x1 x2 x3 x4 x5 x6 : V} : (fFrame x0 x1 x2 x3 x4 x5 x6).lookup ("weight" : Str) = none := by kernel_rfl

/-- kw:Frame.__init__:4:birth,marked -/
abbrev gv_Frame_init_k0 : List V → List V → List V := fun vs zs => vs ++ (zs.take 1 ++ .int 15 :: zs.drop 1)

theorem gk_Frame_init_k0 {v_self v_kind v_sender v_target v_octets v_birth v_marked : V} : gv_Frame_init_k0 [v_self, v_kind, v_sender, v_target, v_octets] [v_birth, v_marked] = [v_self, v_kind, v_sender, v_target, v_octets, v_birth, (V.int 15), v_marked] := rfl

end
end K93

namespace K93
open PySem PySem.Spec PyProof.Rows L2 G
abbrev R : PySem.W.OpenRow := PySem.W.OpenLaw.row PySem.Challenge.rw_throughway_k93_reports_of_lines
abbrev hk : PySem.W.Hook := hookB 5 fa fn pr ex
def ob (s : PySem.W.SharedT) : AlB := obsBG 5 fa fn pr ex (HandSHeadRun.getT s)
theorem ob_eq (s : PySem.W.SharedT) : ob s = hk.obs s.abs := obsBG_eq (HandSHeadRun.getT_eq s)
def names : List PySem.Str := (["_wall", "Event", "LineReport", "report_lines", "busiest_line", "Frame", "_law_cell", "_law_start", "_law_digit", "_law_event", "_law_row", "_law_expected", "_law_told", "_law_busiest", "HEAD", "MOST_HOPS"] : List PySem.Str)
theorem run (w : World) : HandSHeadRun.RunEq R (PySem.W.view R.prog [19]) hk ob 4000 names w := by
  intro os
  kernel_rfl
end K93

namespace K93
open PySem PySem.Spec PyProof.Rows L2 G
abbrev sp_law_cell := gsCell
abbrev sp_law_start := gsStart
abbrev sp_law_digit := gsDigit
/-! ### frames, events, reports -/
structure Fr where
  kind : Str
  sender : Int
  target : Int
  oct : List Int
  birth : Int
  hops : Int
  marked : Bool
deriving DecidableEq
def Fr.wt (f : Fr) : Int := 12 + (f.oct.length : Nat)
structure Ev where
  tick : Int
  word : Str
  link : Int
  side : Int
  fr : Fr
deriving DecidableEq
structure Re where
  ent : Int
  left : Int
  drop : Int
  mark : Int
  oct : Int
  ws : List (Str × Int)
deriving DecidableEq
def kS (rows : List (Str × Int)) : List (Key × V) := rows.map fun r => (.inr r.1, .int r.2)
def lkS (rows : List (Str × Int)) (p : Str) : Option Int := (rows.find? fun r => decide (r.1 = p)).map (·.2)
def incr (rows : List (Str × Int)) (p : Str) : List (Str × Int) := if (rows.any fun r => decide (r.1 = p)) = true then rows.map (fun r => if r.1 = p then (r.1, (lkS rows p).getD 0 + 1) else r) else rows ++ [(p, 1)]
def Re.zero : Re := ⟨0, 0, 0, 0, 0, []⟩
def Re.add (r : Re) (e : Ev) : Re := if e.word = "entered" then { r with ent := r.ent + 1 } else
  if e.word = "left" then { r with left := r.left + 1, oct := r.oct + e.fr.wt, mark := if e.fr.marked = true then r.mark + 1 else r.mark } else { r with drop := r.drop + 1, ws := incr r.ws e.word }
def own (es : List Ev) (i s : Int) : List Ev := es.filter fun e => decide (e.link = i) && decide (e.side = s)
def rep (es : List Ev) (i s : Int) : Re := (own es i s).foldl Re.add Re.zero
def words : List Str := ["entered", "entered", "left", "left", "left", "full", "cut", "down", "old", "hops", "no way", "stray"]
def known : List Str := ["cut", "down", "full", "hops", "no way", "old", "stray"]
structure EvOk (e : Ev) : Prop where
  word : e.word ∈ words
  oct : e.fr.oct.length ≤ 50
  kind : PyData.strOk e.fr.kind = true
/-- as it is told -/
def canon (r : Re) : Re := { r with ws := known.filterMap fun w => (lkS r.ws w).map fun n => (w, n) }
/-- the first of the most -/
def stp (b : Option (Nat × Nat) × Int) (x : Nat × Nat) (v : Int) : Option (Nat × Nat) × Int := if b.2 < v then (some x, v) else b
def bstN (xs : List (Int × Int)) : Nat → Option (Nat × Nat) × Int
  | 0 => (none, -1)
  | i + 1 => stp (stp (bstN xs i) (i, 0) (xs.getD i (0, 0)).1) (i, 1) (xs.getD i (0, 0)).2
def bst (xs : List (Int × Int)) : Option (Nat × Nat) := (bstN xs xs.length).1
def bdat : Option (Nat × Nat) → PyData
  | none => .none
  | some x => .tuple [.int (x.1 : Nat), .int (x.2 : Nat)]
section
variable (K : PySem.W.Frag)
def FrP (a : Addr) (f : Fr) : HP := hex fun dx => hex fun l => stars [ro a (.ins (He.ga K "Frame") dx (fFrame (.str f.kind) (.int f.sender) (.int f.target) (.ref l) (.int f.birth) (.int f.hops) (.bl f.marked))), ro l (.lst (f.oct.map V.int))]
def EvP (a : Addr) (e : Ev) : HP := hex fun dx => hex fun f => stars [ro a (.ins (He.ga K "Event") dx (fEvent (.int e.tick) (.str e.word) (.int e.link) (.int e.side) (.ref f))), FrP K f e.fr]
def ReP (a : Addr) (r : Re) : HP := hex fun dx => hex fun d => stars [pt a (.ins (He.ga K "LineReport") dx (fLineReport (.int r.ent) (.int r.left) (.int r.drop) (.int r.mark) (.int r.oct) (.ref d))), pt d (.dK (kS r.ws))]
def PrP (p : Addr) (r : Re × Re) : HP := hex fun a => hex fun b => stars [pt p (.lst [.ref a, .ref b]), ReP K a r.1, ReP K b r.2]
end
def RwP (t : Addr) (e : Ev) : HP := hex fun f => hex fun o => stars [ro t (.tup [.int e.tick, .str e.word, .int e.link, .int e.side, .ref f]), ro f (.tup [.str e.fr.kind, .int e.fr.sender, .int e.fr.target, .ref o, .int e.fr.birth, .int e.fr.hops, .bl e.fr.marked]), ro o (.lst (e.fr.oct.map V.int))]
def rdat (e : Ev) : PyData := .tuple [.int e.tick, .str e.word, .int e.link, .int e.side, .tuple [.str e.fr.kind, .int e.fr.sender, .int e.fr.target, .list (e.fr.oct.map PyData.int), .int e.fr.birth, .int e.fr.hops, .bool e.fr.marked]]
def wdat (x : Str × Int) : PyData := .tuple [.str x.1, .int x.2]
def tdat (r : Re) : PyData := .tuple [.int r.ent, .int r.left, .int r.drop, .int r.mark, .int r.oct, .list (r.ws.map wdat)]
/-- what is told or expected of a line: (entered, left, dropped, marked, octets, words) -/
def EtP (K : PySem.W.Frag) (t : Addr) (r : Re) : HP := hex fun w => stars [ro t (.tup [.int r.ent, .int r.left, .int r.drop, .int r.mark, .int r.oct, .ref w]), Rd (DT K (.ref w) (.list (r.ws.map wdat)))]
def PeP (K : PySem.W.Frag) (p : Addr) (r : Re × Re) : HP := hex fun a => hex fun b => stars [ro p (.lst [.ref a, .ref b]), EtP K a r.1, EtP K b r.2]
section
variable {K : PySem.W.Frag} {L R L1 : List HP} {H : Hp} {a b p l f d t o w' dx : Addr} {x : Fr} {e : Ev} {r : Re} {rr : Re × Re}
instance : Ro (FrP K a x) := by unfold FrP; infer_instance
instance : Ro (EvP K a e) := by unfold EvP; infer_instance
instance : Ro (RwP t e) := by unfold RwP; infer_instance
instance : Ro (EtP K t r) := by unfold EtP; infer_instance
instance : Ro (PeP K t rr) := by unfold PeP; infer_instance
theorem fr_in (w : Own (ro a (.ins (He.ga K "Frame") dx (fFrame (.str x.kind) (.int x.sender) (.int x.target) (.ref l) (.int x.birth) (.int x.hops) (.bl x.marked))) :: ro l (.lst (x.oct.map V.int)) :: L) H) : Own (FrP K a x :: L) H := Own.exi dx (Own.exi l (Own.fold (L := [_, _]) w))
theorem fr_out (w : Own (FrP K a x :: L) H) : ∃ dx l, Own (ro a (.ins (He.ga K "Frame") dx (fFrame (.str x.kind) (.int x.sender) (.int x.target) (.ref l) (.int x.birth) (.int x.hops) (.bl x.marked))) :: ro l (.lst (x.oct.map V.int)) :: L) H := by
  obtain ⟨dx, w⟩ := w.ex
  obtain ⟨l, w⟩ := w.ex
  exact ⟨dx, l, Own.flat (L := [_, _]) w⟩
theorem ev_in (w : Own (ro a (.ins (He.ga K "Event") dx (fEvent (.int e.tick) (.str e.word) (.int e.link) (.int e.side) (.ref f))) :: FrP K f e.fr :: L) H) : Own (EvP K a e :: L) H := Own.exi dx (Own.exi f (Own.fold (L := [_, _]) w))
theorem ev_out (w : Own (EvP K a e :: L) H) : ∃ dx f, Own (ro a (.ins (He.ga K "Event") dx (fEvent (.int e.tick) (.str e.word) (.int e.link) (.int e.side) (.ref f))) :: FrP K f e.fr :: L) H := by
  obtain ⟨dx, w⟩ := w.ex
  obtain ⟨f, w⟩ := w.ex
  exact ⟨dx, f, Own.flat (L := [_, _]) w⟩
theorem re_in (w : Own (pt a (.ins (He.ga K "LineReport") dx (fLineReport (.int r.ent) (.int r.left) (.int r.drop) (.int r.mark) (.int r.oct) (.ref d))) :: pt d (.dK (kS r.ws)) :: L) H) : Own (ReP K a r :: L) H := Own.exi dx (Own.exi d (Own.fold (L := [_, _]) w))
theorem re_out (w : Own (ReP K a r :: L) H) : ∃ dx d, Own (pt a (.ins (He.ga K "LineReport") dx (fLineReport (.int r.ent) (.int r.left) (.int r.drop) (.int r.mark) (.int r.oct) (.ref d))) :: pt d (.dK (kS r.ws)) :: L) H := by
  obtain ⟨dx, w⟩ := w.ex
  obtain ⟨d, w⟩ := w.ex
  exact ⟨dx, d, Own.flat (L := [_, _]) w⟩
theorem pr_in (w : Own (pt p (.lst [.ref a, .ref b]) :: ReP K a rr.1 :: ReP K b rr.2 :: L) H) : Own (PrP K p rr :: L) H := Own.exi a (Own.exi b (Own.fold (L := [_, _, _]) w))
theorem pr_out (w : Own (PrP K p rr :: L) H) : ∃ a b, Own (pt p (.lst [.ref a, .ref b]) :: ReP K a rr.1 :: ReP K b rr.2 :: L) H := by
  obtain ⟨a, w⟩ := w.ex
  obtain ⟨b, w⟩ := w.ex
  exact ⟨a, b, Own.flat (L := [_, _, _]) w⟩
theorem rw_in (w : Own (ro t (.tup [.int e.tick, .str e.word, .int e.link, .int e.side, .ref f]) :: ro f (.tup [.str e.fr.kind, .int e.fr.sender, .int e.fr.target, .ref o, .int e.fr.birth, .int e.fr.hops, .bl e.fr.marked]) :: ro o (.lst (e.fr.oct.map V.int)) :: L) H) : Own (RwP t e :: L) H := Own.exi f (Own.exi o (Own.fold (L := [_, _, _]) w))
theorem rw_out (w : Own (RwP t e :: L) H) : ∃ f o, Own (ro t (.tup [.int e.tick, .str e.word, .int e.link, .int e.side, .ref f]) :: ro f (.tup [.str e.fr.kind, .int e.fr.sender, .int e.fr.target, .ref o, .int e.fr.birth, .int e.fr.hops, .bl e.fr.marked]) :: ro o (.lst (e.fr.oct.map V.int)) :: L) H := by
  obtain ⟨f, w⟩ := w.ex
  obtain ⟨o, w⟩ := w.ex
  exact ⟨f, o, Own.flat (L := [_, _, _]) w⟩
theorem et_in (w : Own (ro t (.tup [.int r.ent, .int r.left, .int r.drop, .int r.mark, .int r.oct, .ref d]) :: Rd (DT K (.ref d) (.list (r.ws.map wdat))) :: L) H) : Own (EtP K t r :: L) H := Own.exi d (Own.fold (L := [_, _]) w)
theorem et_out (w : Own (EtP K t r :: L) H) : ∃ d, Own (ro t (.tup [.int r.ent, .int r.left, .int r.drop, .int r.mark, .int r.oct, .ref d]) :: Rd (DT K (.ref d) (.list (r.ws.map wdat))) :: L) H := by
  obtain ⟨d, w⟩ := w.ex
  exact ⟨d, Own.flat (L := [_, _]) w⟩
theorem pe_in (w : Own (ro p (.lst [.ref a, .ref b]) :: EtP K a rr.1 :: EtP K b rr.2 :: L) H) : Own (PeP K p rr :: L) H := Own.exi a (Own.exi b (Own.fold (L := [_, _, _]) w))
theorem pe_out (w : Own (PeP K p rr :: L) H) : ∃ a b, Own (ro p (.lst [.ref a, .ref b]) :: EtP K a rr.1 :: EtP K b rr.2 :: L) H := by
  obtain ⟨a, w⟩ := w.ex
  obtain ⟨b, w⟩ := w.ex
  exact ⟨a, b, Own.flat (L := [_, _, _]) w⟩
end
/-! ### promises -/
def sp_Frame_init (K : PySem.W.Frag) : Sp := fun vs H Q _ => ∃ (p dx l : Addr) (f : Fr) (R : List HP), vs = [.ref p, .str f.kind, .int f.sender, .int f.target, .ref l, .int f.birth, .int f.hops, .bl f.marked] ∧ Own (pt p (.ins (He.ga K "Frame") dx []) :: R) H ∧ GotL K R l (f.oct.map V.int) ∧ ∀ H', Own (FrP K p f :: R) H' → Q .non H'
def sp_Frame__eq (K : PySem.W.Frag) : Sp := fun vs H Q _ => ∃ (p a : Addr) (f g : Fr) (R : List HP), vs = [.ref p, .ref a] ∧ Own (FrP K a g :: FrP K p f :: R) H ∧ ∀ H', Own R H' → Q (.bl (decide (f = g))) H'
def sp_Frame_as_row (K : PySem.W.Frag) : Sp := fun vs H Q _ => ∃ (p : Addr) (f : Fr) (R : List HP), vs = [.ref p] ∧ Own (FrP K p f :: R) H ∧ ∀ H' t l, Own (ro t (.tup [.str f.kind, .int f.sender, .int f.target, .ref l, .int f.birth, .int f.hops, .bl f.marked]) :: ro l (.lst (f.oct.map V.int)) :: R) H' → Q (.ref t) H'
def sp_Frame_weight (K : PySem.W.Frag) : Sp := fun vs H Q _ => ∃ (p : Addr) (f : Fr) (R : List HP), vs = [.ref p] ∧ Own (FrP K p f :: R) H ∧ ∀ H', Own R H' → Q (.int f.wt) H'
def sp_Event_init (K : PySem.W.Frag) : Sp := fun vs H Q _ => ∃ (p dx f : Addr) (e : Ev) (R : List HP), vs = [.ref p, .int e.tick, .str e.word, .int e.link, .int e.side, .ref f] ∧ Own (pt p (.ins (He.ga K "Event") dx []) :: FrP K f e.fr :: R) H ∧ ∀ H', Own (EvP K p e :: R) H' → Q .non H'
def sp_Event__eq (K : PySem.W.Frag) : Sp := fun vs H Q _ => ∃ (p : Addr) (v : V) (e : Ev) (R : List HP), vs = [.ref p, v] ∧ Own (EvP K p e :: R) H ∧ ((∃ (a : Addr) (g : Ev), v = .ref a ∧ Own (EvP K a g :: EvP K p e :: R) H ∧ ∀ H', Own R H' → Q (.bl (decide (e = g))) H') ∨ ∃ (t : Addr) (xs : List V), v = .ref t ∧ Got R t (.tup xs) ∧ ∀ H', Own R H' → Q (.bl false) H')
def sp_LineReport_init (K : PySem.W.Frag) : Sp := fun vs H Q _ => ∃ (p dx : Addr) (R : List HP), vs = [.ref p] ∧ Own (pt p (.ins (He.ga K "LineReport") dx []) :: R) H ∧ ∀ H', Own (ReP K p Re.zero :: R) H' → Q .non H'
def sp_LineReport_add (K : PySem.W.Frag) : Sp := fun vs H Q _ => ∃ (p a : Addr) (r : Re) (e : Ev) (R : List HP), vs = [.ref p, .ref a] ∧ r.ws.length ≤ 1000 ∧ Own (ReP K p r :: EvP K a e :: R) H ∧ ∀ H', Own (ReP K p (r.add e) :: R) H' → Q .non H'
def sp_report_lines (K : PySem.W.Frag) : Sp := fun vs H Q _ => ∃ (l : Addr) (n : Nat) (as : List Addr) (es : List Ev) (R : List HP), vs = [.ref l, .int (n : Int)] ∧ n ≤ 10 ∧ es.length ≤ 100 ∧ (∀ e ∈ es, 0 ≤ e.link ∧ e.link < (n : Int) ∧ (e.side = 0 ∨ e.side = 1)) ∧ Own R H ∧ GotL K R l (as.map V.ref) ∧ Pick R (big (EvP K) as es) R ∧
  ∀ H' q ps, Own (pt q (.lst (ps.map V.ref)) :: big (PrP K) ps ((List.range n).map fun (i : Nat) => (rep es i 0, rep es i 1)) :: R) H' → Q (.ref q) H'
def sp_busiest_line (K : PySem.W.Frag) : Sp := fun vs H Q _ => ∃ (l : Addr) (ps : List Addr) (rs : List (Re × Re)) (R : List HP), vs = [.ref l] ∧ rs.length ≤ 100 ∧ (∀ r ∈ rs, 0 ≤ r.1.oct ∧ 0 ≤ r.2.oct) ∧ Own (pt l (.lst (ps.map V.ref)) :: big (PrP K) ps rs :: R) H ∧
  ∀ H' v, Own (DT K v (bdat (bst (rs.map fun r => (r.1.oct, r.2.oct)))) :: pt l (.lst (ps.map V.ref)) :: big (PrP K) ps rs :: R) H' → (rs = [] → v = .non) → Q v H'
def sp_law_event (K : PySem.W.Frag) : Sp := fun vs H Q _ => ∃ (s : Addr) (n : Int) (R : List HP), vs = [.ref s, .int n] ∧ 0 < n ∧ n ≤ 10 ∧ Own (Drw s :: R) H ∧ ∀ H' a e, EvOk e → 0 ≤ e.link → e.link < n → (e.side = 0 ∨ e.side = 1) → Own (EvP K a e :: Drw s :: R) H' → Q (.ref a) H'
def sp_law_row (K : PySem.W.Frag) : Sp := fun vs H Q _ => ∃ (a : Addr) (e : Ev) (R : List HP), vs = [.ref a] ∧ Own (EvP K a e :: R) H ∧ ∀ H' t, Own (RwP t e :: R) H' → Q (.ref t) H'
def sp_law_expected (K : PySem.W.Frag) : Sp := fun vs H Q _ => ∃ (l : Addr) (ts : List Addr) (es : List Ev) (i s : Int) (R : List HP), vs = [.ref l, .int i, .int s] ∧ es.length ≤ 100 ∧ (∀ e ∈ es, EvOk e) ∧ Own (pt l (.lst (ts.map V.ref)) :: big RwP ts es :: R) H ∧
  ∀ H' t, Own (EtP K t (canon (rep es i s)) :: pt l (.lst (ts.map V.ref)) :: big RwP ts es :: R) H' → Q (.ref t) H'
def sp_law_told (K : PySem.W.Frag) : Sp := fun vs H Q _ => ∃ (a : Addr) (r : Re) (R : List HP), vs = [.ref a] ∧ r.ws.length ≤ 1000 ∧ (r.ws.map (·.1)).Nodup ∧ (∀ x ∈ r.ws, x.1 ∈ known) ∧ Own (ReP K a r :: R) H ∧ ∀ H' t, Own (EtP K t (canon r) :: ReP K a r :: R) H' → Q (.ref t) H'
def sp_law_busiest (K : PySem.W.Frag) : Sp := fun vs H Q _ => ∃ (l : Addr) (ps : List Addr) (rs : List (Re × Re)) (R : List HP), vs = [.ref l] ∧ rs.length ≤ 100 ∧ Own R H ∧ GotL K R l (ps.map V.ref) ∧ Pick R (big (PeP K) ps rs) R ∧
  ∀ H' v, Own (DT K v (bdat (bst (rs.map fun r => (r.1.oct, r.2.oct)))) :: R) H' → Q v H'
def sp_law (K : PySem.W.Frag) : Sp := fun vs H Q _ => ∃ (a : Addr) (ns : List Int), vs = [.ref a] ∧ Own [ScP K a (ns.map V.int)] H ∧ ns.length ≤ 63 ∧ ∀ H', Q (.bl true) H'
theorem law_start {K : PySem.W.Frag} {H : Hp} {a : Addr} {ns : List Int} {E : XK} (hl : ns.length ≤ 63) (hb : ∀ z ∈ ns, Builtin.Int.intBits z ≤ 1048576) (hO : Only H) (hS : SqL K H a (ns.map V.int)) :
    sp_law K [.ref a] H (fun v _ => v = .bl true) E := ⟨a, ns, rfl, .ofScr (.of hO hS), hl, fun _ => rfl⟩
theorem ix0 {x : V} {xs : List V} : atI (x :: xs) 0 = some x := atI_nat (j := 0) rfl
theorem ix1 {x y : V} {xs : List V} : atI (x :: y :: xs) 1 = some y := atI_nat (j := 1) rfl
end K93

namespace K93
open PySem PySem.Spec PyProof.Rows L2 G

/-- Event.__init__ -/
def t_Event_init (K : PySem.W.Frag) (E : XK) : TS :=
  (tSeq (sFld K (tVar 0) (tVar 1) "tick")
  (tSeq (sFld K (tVar 0) (tVar 2) "word")
  (tSeq (sFld K (tVar 0) (tVar 3) "link")
  (tSeq (sFld K (tVar 0) (tVar 4) "side")
  (sFld K (tVar 0) (tVar 5) "frame")))))

/-- Event.__eq__ -/
def t_Event__eq (K : PySem.W.Frag) (E : XK) : TS :=
  (tRet (tAndV (tCB (rIsi K) (tCons (tVar 1) (tCons (tC (.ref (He.ga K "Event"))) tNil))) (tAndV (tOp rEq (tFld K (tVar 0) "tick") (tFld K (tVar 1) "tick")) (tAndV (tOp rEq (tFld K (tVar 0) "word") (tFld K (tVar 1) "word")) (tAndV (tOp rEq (tFld K (tVar 0) "link") (tFld K (tVar 1) "link")) (tAndV (tOp rEq (tFld K (tVar 0) "side") (tFld K (tVar 1) "side")) (tOp (rOwn K (He.ga K "Frame") (sp_Frame__eq K)) (tFld K (tVar 0) "frame") (tFld K (tVar 1) "frame"))))))))

/-- LineReport.__init__ -/
def t_LineReport_init (K : PySem.W.Frag) (E : XK) : TS :=
  (tSeq (sFld K (tVar 0) (tC (.int 0)) "entered")
  (tSeq (sFld K (tVar 0) (tC (.int 0)) "left")
  (tSeq (sFld K (tVar 0) (tC (.int 0)) "dropped")
  (tSeq (sFld K (tVar 0) (tC (.int 0)) "marked")
  (tSeq (sFld K (tVar 0) (tC (.int 0)) "octets")
  (sFld K (tVar 0) tDNewK "words"))))))

/-- LineReport.add -/
def t_LineReport_add (K : PySem.W.Frag) (E : XK) : TS :=
  (tIfS (tTest (tOp rEq (tFld K (tVar 1) "word") (tC (.str "entered"))))
  (sFldAug K (tVar 0) (tC (.int 1)) L2.rAdd "entered")
  (tIfS (tTest (tOp rEq (tFld K (tVar 1) "word") (tC (.str "left"))))
  (tSeq (sFldAug K (tVar 0) (tC (.int 1)) L2.rAdd "left")
  (tSeq (sFldAug K (tVar 0) (tMt (He.ga K "Frame") "weight" (sp_Frame_weight K) (WE (wB E)) (tFld K (tVar 1) "frame") tNil) L2.rAdd "octets")
  (tIfS (tB (tFld K (tFld K (tVar 1) "frame") "marked"))
  (sFldAug K (tVar 0) (tC (.int 1)) L2.rAdd "marked")
  tNext)))
  (tSeq (sFldAug K (tVar 0) (tC (.int 1)) L2.rAdd "dropped")
  (sDPut (tFld K (tVar 0) "words") (tFld K (tVar 1) "word") (tOp gAdd (tDGet2 (tFld K (tVar 0) "words") (tFld K (tVar 1) "word") (tC (.int 0))) (tC (.int 1)))))))

/-- report_lines -/
def t_report_lines (K : PySem.W.Frag) (E : XK) : TS :=
  (tSeq (tAsg (tLc (iRng1 (tCons (tVar 1) tNil)) (gName 3) tYes (tLst (tCons (tMk (He.ga K "LineReport") (sp_LineReport_init K) (fun _ => E0) tNil) (tCons (tMk (He.ga K "LineReport") (sp_LineReport_init K) (fun _ => E0) tNil) tNil))) [3]) (gName 2))
  (tSeq (tFor (iList K (tVar 0)) (gName 4)
  (tDrop (tMt (He.ga K "LineReport") "add" (sp_LineReport_add K) (WE (wB E)) (tOp (rIxL K) (tOp (rIxL K) (tVar 2) (tFld K (tVar 4) "link")) (tFld K (tVar 4) "side")) (tCons (tVar 4) tNil))))
  (tRet (tVar 2))))

/-- busiest_line -/
def t_busiest_line (K : PySem.W.Frag) (E : XK) : TS :=
  (tSeq (tAsg (tC .non) (gName 1))
  (tSeq (tFor (iEnum K (tCons (tVar 0) tNil)) (gTup K 2 (gCons (gName 2) (gCons (gName 3) gNil)))
  (tFor (iRng1 (tCons (tC (.int 2)) tNil)) (gName 4)
  (tIfS (tOr (tTest (tOp rIsN (tVar 1) (tC .non))) (tTest (tOp gGt (tFld K (tOp (rIxL K) (tVar 3) (tVar 4)) "octets") (tFld K (tOp (rIxL K) (tOp (rIxL K) (tVar 0) (tOp (rIxT K) (tVar 1) (tC (.int 0)))) (tOp (rIxT K) (tVar 1) (tC (.int 1)))) "octets"))))
  (tAsg (tTup (tCons (tVar 2) (tCons (tVar 4) tNil))) (gName 1))
  tNext)))
  (tRet (tVar 1))))

/-- Frame.__init__ -/
def t_Frame_init (K : PySem.W.Frag) (E : XK) : TS :=
  (tSeq (sFld K (tVar 0) (tVar 1) "kind")
  (tSeq (sFld K (tVar 0) (tVar 2) "sender")
  (tSeq (sFld K (tVar 0) (tVar 3) "target")
  (tSeq (sFld K (tVar 0) (tCB (gListOf K) (tCons (tVar 4) tNil)) "octets")
  (tSeq (sFld K (tVar 0) (tVar 5) "birth")
  (tSeq (sFld K (tVar 0) (tVar 6) "hops")
  (sFld K (tVar 0) (tVar 7) "marked")))))))

/-- Frame.__eq__ -/
def t_Frame__eq (K : PySem.W.Frag) (E : XK) : TS :=
  (tRet (tAndV (tCB (rIsi K) (tCons (tVar 1) (tCons (tC (.ref (He.ga K "Frame"))) tNil))) (tAndV (tOp rEq (tFld K (tVar 0) "kind") (tFld K (tVar 1) "kind")) (tAndV (tOp rEq (tFld K (tVar 0) "sender") (tFld K (tVar 1) "sender")) (tAndV (tOp rEq (tFld K (tVar 0) "target") (tFld K (tVar 1) "target")) (tAndV (tOp (rEqD K) (tFld K (tVar 0) "octets") (tFld K (tVar 1) "octets")) (tAndV (tOp rEq (tFld K (tVar 0) "birth") (tFld K (tVar 1) "birth")) (tAndV (tOp rEq (tFld K (tVar 0) "hops") (tFld K (tVar 1) "hops")) (tOp rEq (tFld K (tVar 0) "marked") (tFld K (tVar 1) "marked"))))))))))

/-- Frame.as_row -/
def t_Frame_as_row (K : PySem.W.Frag) (E : XK) : TS :=
  (tRet (tTup (tCons (tFld K (tVar 0) "kind") (tCons (tFld K (tVar 0) "sender") (tCons (tFld K (tVar 0) "target") (tCons (tFld K (tVar 0) "octets") (tCons (tFld K (tVar 0) "birth") (tCons (tFld K (tVar 0) "hops") (tCons (tFld K (tVar 0) "marked") tNil)))))))))

/-- Frame.weight -/
def t_Frame_weight (K : PySem.W.Frag) (E : XK) : TS :=
  (tRet (tOp gAdd (tC (.int 12)) (tCB (gLen K) (tCons (tFld K (tVar 0) "octets") tNil))))

/-- _law_cell -/
def t_law_cell (K : PySem.W.Frag) (E : XK) : TS :=
  (tSeq (tIfS (tTest (tOp gLt (tVar 1) (tCB (gLen K) (tCons (tVar 0) tNil))))
  (tRet (tOp (rIxL K) (tVar 0) (tVar 1)))
  tNext)
  (tRet (tC (.int 0))))

/-- _law_start -/
def t_law_start (K : PySem.W.Frag) (E : XK) : TS :=
  (tSeq (tAsg (tC (.int 618970019642690137449562111)) (gName 2))
  (tSeq (tIfS (tTest (tChain gLt gLt (tUn gNeg (tC (.int 1000000000000000000))) (tVar 0) (tC (.int 1000000000000000000))))
  (tSeq (tAsg (tOp gMod (tCB gInt1 (tCons (tOp gAdd (tOp gMul (tVar 0) (tC (.int 2654435761))) (tOp gMul (tOp gAdd (tVar 1) (tC (.int 1))) (tC (.int 6700417)))) tNil)) (tVar 2)) (gName 3))
  (tSeq (tAsg (tC (.int 0)) (gName 4))
  (tSeq (tFor (iRng1 (tCons (tC (.int 4)) tNil)) (gName 5)
  (tSeq (tAsg (tOp gMod (tCB gInt1 (tCons (tOp gAdd (tOp gAdd (tOp gAdd (tOp gMulW (tVar 3) (tVar 3)) (tOp gMul (tC (.int 7)) (tVar 3))) (tVar 1)) (tVar 5)) tNil)) (tVar 2)) (gName 3))
  (tAsg (tOp gAdd (tOp gMulW (tVar 4) (tVar 2)) (tVar 3)) (gName 4))))
  (tRet (tLst (tCons (tVar 4) tNil))))))
  tNext)
  (tRet (tLst (tCons (tVar 0) tNil)))))

/-- _law_digit -/
def t_law_digit (K : PySem.W.Frag) (E : XK) : TS :=
  (tSeq (tAsg (tOp gMod (tCB gInt1 (tCons (tOp (rIxL K) (tVar 0) (tC (.int 0))) tNil)) (tVar 1)) (gName 2))
  (tSeq (tAsg (tOp gDivW (tOp (rIxL K) (tVar 0) (tC (.int 0))) (tVar 1)) (gSub (tVar 0) (tC (.int 0)) rSetL))
  (tRet (tVar 2))))

/-- _law_event -/
def t_law_event (K : PySem.W.Frag) (E : XK) : TS :=
  (tSeq (tAsg (tTup (tCons (tC (.str "entered")) (tCons (tC (.str "entered")) (tCons (tC (.str "left")) (tCons (tC (.str "left")) (tCons (tC (.str "left")) (tCons (tC (.str "full")) (tCons (tC (.str "cut")) (tCons (tC (.str "down")) (tCons (tC (.str "old")) (tCons (tC (.str "hops")) (tCons (tC (.str "no way")) (tCons (tC (.str "stray")) tNil))))))))))))) (gName 2))
  (tSeq (tAsg (tLc (iRng1 (tCons (tCallS (sp_law_digit K) (WE (wB E)) (tCons (tVar 0) (tCons (tOp (rIxT K) (tTup (tCons (tC (.int 4)) (tCons (tC (.int 50)) tNil))) (tCallS (sp_law_digit K) (WE (wB E)) (tCons (tVar 0) (tCons (tC (.int 2)) tNil)))) tNil))) tNil)) (gName 4) tYes (tC (.int 3)) [4]) (gName 3))
  (tSeq (tAsg (tMkK (He.ga K "Frame") 4 (["birth", "marked"] : List Str).length (sp_Frame_init K) gv_Frame_init_k0 (WE (wB E)) (tCons (tC (.str "part")) (tCons (tC (.int 1)) (tCons (tC (.int 2)) (tCons (tVar 3) tNil)))) (tCons (tC (.int 0)) (tCons (tOp rEq (tCallS (sp_law_digit K) (WE (wB E)) (tCons (tVar 0) (tCons (tC (.int 3)) tNil))) (tC (.int 0))) tNil))) (gName 5))
  (tRet (tMk (He.ga K "Event") (sp_Event_init K) (WE (wB E)) (tCons (tCallS (sp_law_digit K) (WE (wB E)) (tCons (tVar 0) (tCons (tC (.int 9)) tNil))) (tCons (tOp (rIxT K) (tVar 2) (tCallS (sp_law_digit K) (WE (wB E)) (tCons (tVar 0) (tCons (tC (.int 12)) tNil)))) (tCons (tCallS (sp_law_digit K) (WE (wB E)) (tCons (tVar 0) (tCons (tVar 1) tNil))) (tCons (tCallS (sp_law_digit K) (WE (wB E)) (tCons (tVar 0) (tCons (tC (.int 2)) tNil))) (tCons (tVar 5) tNil))))))))))

/-- _law_row -/
def t_law_row (K : PySem.W.Frag) (E : XK) : TS :=
  (tRet (tTup (tCons (tFld K (tVar 0) "tick") (tCons (tFld K (tVar 0) "word") (tCons (tFld K (tVar 0) "link") (tCons (tFld K (tVar 0) "side") (tCons (tMt (He.ga K "Frame") "as_row" (sp_Frame_as_row K) (WE (wB E)) (tFld K (tVar 0) "frame") tNil) tNil)))))))

/-- _law_expected -/
def t_law_expected (K : PySem.W.Frag) (E : XK) : TS :=
  (tSeq (tAsg (tLc (iList K (tVar 0)) (gName 4) (tAnd (tTest (tOp rEq (tOp (rIx K) (tVar 4) (tC (.int 2))) (tVar 1))) (tTest (tOp rEq (tOp (rIx K) (tVar 4) (tC (.int 3))) (tVar 2)))) (tVar 4) [4]) (gName 3))
  (tSeq (tAsg (tLc (iList K (tVar 3)) (gName 4) (tTest (tOp rEq (tOp (rIx K) (tVar 4) (tC (.int 1))) (tC (.str "left")))) (tVar 4) [4]) (gName 5))
  (tSeq (tAsg (tLc (iList K (tVar 3)) (gName 4) (tTest (tOp (rIn K true) (tOp (rIx K) (tVar 4) (tC (.int 1))) (tTup (tCons (tC (.str "entered")) (tCons (tC (.str "left")) tNil))))) (tOp (rIx K) (tVar 4) (tC (.int 1))) [4]) (gName 6))
  (tSeq (tAsg (tTup (tCons (tC (.str "cut")) (tCons (tC (.str "down")) (tCons (tC (.str "full")) (tCons (tC (.str "hops")) (tCons (tC (.str "no way")) (tCons (tC (.str "old")) (tCons (tC (.str "stray")) tNil)))))))) (gName 7))
  (tSeq (tAsg (tLc (iTup K (tVar 7)) (gName 9) (tTest (tOp (rIn K false) (tVar 9) (tVar 6))) (tTup (tCons (tVar 9) (tCons (tCB (gLen K) (tCons (tLc (iList K (tVar 6)) (gName 4) (tTest (tOp rEq (tVar 4) (tVar 9))) (tVar 4) [4]) tNil)) tNil))) [9]) (gName 8))
  (tSeq (tAsg (tCB (gLen K) (tCons (tLc (iList K (tVar 3)) (gName 4) (tTest (tOp rEq (tOp (rIx K) (tVar 4) (tC (.int 1))) (tC (.str "entered")))) (tVar 4) [4]) tNil)) (gName 10))
  (tSeq (tAsg (tCB (rSum K) (tCons (tLc (iList K (tVar 5)) (gName 4) tYes (tOp gAdd (tC (.int 12)) (tCB (gLen K) (tCons (tOp (rIx K) (tOp (rIx K) (tVar 4) (tC (.int 4))) (tC (.int 3))) tNil))) [4]) tNil)) (gName 11))
  (tRet (tTup (tCons (tVar 10) (tCons (tCB (gLen K) (tCons (tVar 5) tNil)) (tCons (tCB (gLen K) (tCons (tVar 6) tNil)) (tCons (tCB (gLen K) (tCons (tLc (iList K (tVar 5)) (gName 4) (tTru K (tOp (rIx K) (tOp (rIx K) (tVar 4) (tC (.int 4))) (tC (.int 6)))) (tVar 4) [4]) tNil)) (tCons (tVar 11) (tCons (tVar 8) tNil)))))))))))))))

/-- _law_told -/
def t_law_told (K : PySem.W.Frag) (E : XK) : TS :=
  (tSeq (tAsg (tCB (rSortedTS K) (tCons (tLockE (tLc (iKeys (tFld K (tVar 0) "words")) (gName 2) tYes (tTup (tCons (tVar 2) (tCons (gDGet (tFld K (tVar 0) "words") (tVar 2)) tNil))) [2])) tNil)) (gName 1))
  (tRet (tTup (tCons (tFld K (tVar 0) "entered") (tCons (tFld K (tVar 0) "left") (tCons (tFld K (tVar 0) "dropped") (tCons (tFld K (tVar 0) "marked") (tCons (tFld K (tVar 0) "octets") (tCons (tVar 1) tNil)))))))))

/-- _law_busiest -/
def t_law_busiest (K : PySem.W.Frag) (E : XK) : TS :=
  (tSeq (tAsg (tC .non) (gName 1))
  (tSeq (tAsg (tUn gNeg (tC (.int 1))) (gName 2))
  (tSeq (tFor (iRng1 (tCons (tCB (gLen K) (tCons (tVar 0) tNil)) tNil)) (gName 3)
  (tFor (iRng1 (tCons (tC (.int 2)) tNil)) (gName 4)
  (tIfS (tTest (tOp gGt (tOp (rIxT K) (tOp (rIxL K) (tOp (rIxL K) (tVar 0) (tVar 3)) (tVar 4)) (tC (.int 4))) (tVar 2)))
  (tSeq (tAsg (tOp (rIxT K) (tOp (rIxL K) (tOp (rIxL K) (tVar 0) (tVar 3)) (tVar 4)) (tC (.int 4))) (gName 2))
  (tAsg (tTup (tCons (tVar 3) (tCons (tVar 4) tNil))) (gName 1)))
  tNext)))
  (tRet (tVar 1)))))

/-- law -/
def t_law (K : PySem.W.Frag) (E : XK) : TS :=
  (tSeq (tAsg (tCallS (sp_law_start K) (WE (wB E)) (tCons (tCallS (sp_law_cell K) (WE (wB E)) (tCons (tVar 0) (tCons (tC (.int 0)) tNil))) (tCons (tC (.int 0)) tNil))) (gName 1))
  (tSeq (tAsg (tOp gAdd (tC (.int 1)) (tCallS (sp_law_digit K) (WE (wB E)) (tCons (tVar 1) (tCons (tC (.int 6)) tNil)))) (gName 2))
  (tSeq (tAsg (tLst tNil) (gName 3))
  (tSeq (tFor (iRng1 (tCons (tCB gMin2 (tCons (tC (.int 90)) (tCons (tCB (gLen K) (tCons (tVar 0) tNil)) tNil))) tNil)) (gName 4)
  (tDrop (tBM K "list" rAppend (tVar 3) (tCons (tCallS (sp_law_event K) (WE (wB E)) (tCons (tCallS (sp_law_start K) (WE (wB E)) (tCons (tCallS (sp_law_cell K) (WE (wB E)) (tCons (tVar 0) (tCons (tVar 4) tNil))) (tCons (tOp gAdd (tVar 4) (tC (.int 1))) tNil))) (tCons (tVar 2) tNil))) tNil))))
  (tSeq (tAsg (tLc (iList K (tVar 3)) (gName 6) tYes (tCallS (sp_law_row K) (fun _ => E0) (tCons (tVar 6) tNil)) [6]) (gName 5))
  (tSeq (tAsg (tCallS (sp_report_lines K) (WE (wB E)) (tCons (tVar 3) (tCons (tVar 2) tNil))) (gName 7))
  (tSeq (tAsg (tLc (iRng1 (tCons (tVar 2) tNil)) (gName 10) tYes (tLc (iRng1 (tCons (tC (.int 2)) tNil)) (gName 9) tYes (tCallS (sp_law_expected K) (fun _ => E0) (tCons (tVar 5) (tCons (tVar 10) (tCons (tVar 9) tNil)))) [9]) [10]) (gName 8))
  (tSeq (tIfS (tTest (tOp (rNeD K) (tLc (iList K (tVar 7)) (gName 12) tYes (tLc (iList K (tVar 12)) (gName 11) tYes (tCallS (sp_law_told K) (fun _ => E0) (tCons (tVar 11) tNil)) [11]) [12]) (tVar 8)))
  (tRet (tC (.bl false)))
  tNext)
  (tSeq (tIfS (tOr (tTest (tOp (rNeD K) (tCallS (sp_busiest_line K) (WE (wB E)) (tCons (tVar 7) tNil)) (tCallS (sp_law_busiest K) (WE (wB E)) (tCons (tVar 8) tNil)))) (tOr (tTest (tOp rNotN (tCallS (sp_busiest_line K) (WE (wB E)) (tCons (tLst tNil) tNil)) (tC .non))) (tTest (tOp (rNeD K) (tCallS (sp_report_lines K) (WE (wB E)) (tCons (tLst tNil) (tCons (tC (.int 0)) tNil))) (tLst tNil)))))
  (tRet (tC (.bl false)))
  tNext)
  (tSeq (tFor (iRng2 (tCons (tC (.int 1)) (tCons (tCB (gLen K) (tCons (tVar 3) tNil)) tNil))) (gName 4)
  (tIfS (tOr (tTest (tOp rNe (tOp (rOwn K (He.ga K "Event") (sp_Event__eq K)) (tOp (rIxL K) (tVar 3) (tVar 4)) (tOp (rIxL K) (tVar 3) (tOp gMinus (tVar 4) (tC (.int 1))))) (tOp (rEqD K) (tOp (rIxL K) (tVar 5) (tVar 4)) (tOp (rIxL K) (tVar 5) (tOp gMinus (tVar 4) (tC (.int 1))))))) (tTest (tOp rNotB (tOp (rOwn K (He.ga K "Event") (sp_Event__eq K)) (tOp (rIxL K) (tVar 3) (tVar 4)) (tOp (rIxL K) (tVar 5) (tVar 4))) (tC (.bl false)))))
  (tRet (tC (.bl false)))
  tNext))
  (tRet (tOp (rEqD K) (tLc (iList K (tVar 3)) (gName 6) tYes (tCallS (sp_law_row K) (fun _ => E0) (tCons (tVar 6) tNil)) [6]) (tVar 5)))))))))))))

end K93

namespace K93
open PySem PySem.Spec PyProof.Rows L2 G
section
variable {P : Program} {w : World} {K : PySem.W.Frag} {mg : Str → Option Value} {base : Heap}

theorem d_Event_init (T : TX K mg base)  {cdv : Value} {A : Around} {outer : List Env} {s : Shared} {H : Hp} {E : XK} (hr : Room 0 (A.deeper (envOfC "Event.__init__" (defScope s_Event_init) s.heap.objs.size (He.ma K (He.ga K "Event") "__init__") cdv))) :
    PSs (cxOf (L2.CX P w) P w K mg base N_Event_init "Event.__init__" (defScope s_Event_init) (He.ma K (He.ga K "Event") "__init__") cdv A outer s H E) (defBody s_Event_init) (t_Event_init K E) := by
  have tk : Takes (cxOf (L2.CX P w) P w K mg base N_Event_init "Event.__init__" (defScope s_Event_init) (He.ma K (He.ga K "Event") "__init__") cdv A outer s H E) (wB E) := takes_of rfl rfl rfl rfl
  exact (pss_cons (ps_fld (pv 0) (pv 1) rfl)
  (pss_cons (ps_fld (pv 0) (pv 2) rfl)
  (pss_cons (ps_fld (pv 0) (pv 3) rfl)
  (pss_cons (ps_fld (pv 0) (pv 4) rfl)
  (pss_one (ps_fld (pv 0) (pv 5) rfl))))))

theorem d_Event__eq (T : TX K mg base) (h_Frame__eq : HasM P w K mg base 1 "Frame" "__eq__" P_Frame__eq (sp_Frame__eq K)) {cdv : Value} {A : Around} {outer : List Env} {s : Shared} {H : Hp} {E : XK} (hr : Room 1 (A.deeper (envOfC "Event.__eq__" (defScope s_Event__eq) s.heap.objs.size (He.ma K (He.ga K "Event") "__eq__") cdv))) :
    PSs (cxOf (L2.CX P w) P w K mg base N_Event__eq "Event.__eq__" (defScope s_Event__eq) (He.ma K (He.ga K "Event") "__eq__") cdv A outer s H E) (defBody s_Event__eq) (t_Event__eq K E) := by
  have tk : Takes (cxOf (L2.CX P w) P w K mg base N_Event__eq "Event.__eq__" (defScope s_Event__eq) (He.ma K (He.ga K "Event") "__eq__") cdv A outer s H E) (wB E) := takes_of rfl rfl rfl rfl
  exact (pss_one (ps_ret (pe_and (pe_callB call_isi (by rfl) (T.free 1) (by decide +kernel) (pa_cons (pv 1) (pa_cons (pe_gref rfl (T.glo 0)) pa_nil))) (pe_and (pe_cmpR op_eq (pe_fld (pv 0) rfl) (pe_fld (pv 1) rfl) (nomark _)) (pe_and (pe_cmpR op_eq (pe_fld (pv 0) rfl) (pe_fld (pv 1) rfl) (nomark _)) (pe_and (pe_cmpR op_eq (pe_fld (pv 0) rfl) (pe_fld (pv 1) rfl) (nomark _)) (pe_and (pe_cmpR op_eq (pe_fld (pv 0) rfl) (pe_fld (pv 1) rfl) (nomark _)) (pe_one (pe_cmpR (op_own h_Frame__eq (hr.mono (by decide))) (pe_fld (pv 0) rfl) (pe_fld (pv 1) rfl) (nomark _))))))))))

theorem d_LineReport_init (T : TX K mg base)  {cdv : Value} {A : Around} {outer : List Env} {s : Shared} {H : Hp} {E : XK} (hr : Room 0 (A.deeper (envOfC "LineReport.__init__" (defScope s_LineReport_init) s.heap.objs.size (He.ma K (He.ga K "LineReport") "__init__") cdv))) :
    PSs (cxOf (L2.CX P w) P w K mg base N_LineReport_init "LineReport.__init__" (defScope s_LineReport_init) (He.ma K (He.ga K "LineReport") "__init__") cdv A outer s H E) (defBody s_LineReport_init) (t_LineReport_init K E) := by
  have tk : Takes (cxOf (L2.CX P w) P w K mg base N_LineReport_init "LineReport.__init__" (defScope s_LineReport_init) (He.ma K (He.ga K "LineReport") "__init__") cdv A outer s H E) (wB E) := takes_of rfl rfl rfl rfl
  exact (pss_cons (ps_fld (pv 0) pe_int rfl)
  (pss_cons (ps_fld (pv 0) pe_int rfl)
  (pss_cons (ps_fld (pv 0) pe_int rfl)
  (pss_cons (ps_fld (pv 0) pe_int rfl)
  (pss_cons (ps_fld (pv 0) pe_int rfl)
  (pss_one (ps_fld (pv 0) pe_dnewK rfl)))))))

theorem d_LineReport_add (T : TX K mg base) (h_Frame_weight : HasM P w K mg base 1 "Frame" "weight" P_Frame_weight (sp_Frame_weight K)) {cdv : Value} {A : Around} {outer : List Env} {s : Shared} {H : Hp} {E : XK} (hr : Room 1 (A.deeper (envOfC "LineReport.add" (defScope s_LineReport_add) s.heap.objs.size (He.ma K (He.ga K "LineReport") "add") cdv))) :
    PSs (cxOf (L2.CX P w) P w K mg base N_LineReport_add "LineReport.add" (defScope s_LineReport_add) (He.ma K (He.ga K "LineReport") "add") cdv A outer s H E) (defBody s_LineReport_add) (t_LineReport_add K E) := by
  have tk : Takes (cxOf (L2.CX P w) P w K mg base N_LineReport_add "LineReport.add" (defScope s_LineReport_add) (He.ma K (He.ga K "LineReport") "add") cdv A outer s H E) (wB E) := takes_of rfl rfl rfl rfl
  have hu := hu_of hr
  exact (pss_one (ps_if (pt_cmpR op_eq (pe_fld (pv 1) rfl) pe_str (nomark _))
  (pss_one (ps_fldaug (pv 0) pe_int in_add))
  (pss_one (ps_if (pt_cmpR op_eq (pe_fld (pv 1) rfl) pe_str (nomark _))
  (pss_cons (ps_fldaug (pv 0) pe_int in_add)
  (pss_cons (ps_fldaug (pv 0) (pe_m0 (pe_fld (pv 1) rfl) h_Frame_weight (hr.mono (by decide)) (fun σ => passAt tk σ)) in_add)
  (pss_one (ps_if (pt_val (pe_fld (pe_fld (pv 1) rfl) rfl))
  (pss_one (ps_fldaug (pv 0) pe_int in_add))
  pss_nil))))
  (pss_cons (ps_fldaug (pv 0) pe_int in_add)
  (pss_one (ps_dput hu (pe_fld (pv 0) rfl) (pe_fld (pv 1) rfl) (pe_op op_add (pe_dget2 hu (pe_fld (pv 0) rfl) (pe_fld (pv 1) rfl) pe_int ⟨rfl, rfl, rfl, rfl⟩) pe_int) rfl)))))))

theorem d_report_lines (T : TX K mg base) (h_LineReport_init : HasI P w K mg base 1 "LineReport" P_LineReport_init (sp_LineReport_init K)) (h_LineReport_add : HasM P w K mg base 2 "LineReport" "add" P_LineReport_add (sp_LineReport_add K)) {cdv : Value} {A : Around} {outer : List Env} {s : Shared} {H : Hp} {E : XK} (hr : Room 2 (A.deeper (envOfC "report_lines" (defScope s_report_lines) s.heap.objs.size (He.ga K "report_lines") cdv))) :
    PSs (cxOf (L2.CX P w) P w K mg base N_report_lines "report_lines" (defScope s_report_lines) (He.ga K "report_lines") cdv A outer s H E) (defBody s_report_lines) (t_report_lines K E) := by
  have tk : Takes (cxOf (L2.CX P w) P w K mg base N_report_lines "report_lines" (defScope s_report_lines) (He.ga K "report_lines") cdv A outer s H E) (wB E) := takes_of rfl rfl rfl rfl
  have po : PassesOwn (model P w) (cxOf (L2.CX P w) P w K mg base N_report_lines "report_lines" (defScope s_report_lines) (He.ga K "report_lines") cdv A outer s H E).A (cxOf (L2.CX P w) P w K mg base N_report_lines "report_lines" (defScope s_report_lines) (He.ga K "report_lines") cdv A outer s H E).env (cxOf (L2.CX P w) P w K mg base N_report_lines "report_lines" (defScope s_report_lines) (He.ga K "report_lines") cdv A outer s H E).xe := passes_of rfl
  exact (pss_cons (ps_setLc (i := 2) (own := [("_", 3)]) (g := (gName 3)) (tt := tYes) rfl sc_report_lines.nd rfl rfl (sw_true rfl rfl rfl (by decide +kernel)) (pi_range1 rfl (T.free 2) (pa_cons (pv 1) pa_nil)) (blkOk_by (own := [("_", 3)]) (N := N_report_lines) (sc := defScope s_report_lines) (by decide +kernel)) (fun _ _ _ _ _ => (pg_name (i := 3) sc_report_lines.nd rfl (Or.inl rfl))) (fun _ _ _ _ _ => pts_nil) (fun _ _ _ _ _ => (pe_lst (pa_cons (pe_i0 h_LineReport_init (hr.mono (by decide)) rfl (fun σ => passZ σ)) (pa_cons (pe_i0 h_LineReport_init (hr.mono (by decide)) rfl (fun σ => passZ σ)) pa_nil)))))
  (pss_cons (ps_for po rfl (pi_list (pv 0)) (pg_name (i := 4) sc_report_lines.nd rfl (Or.inl rfl))
  (pss_one (ps_expr (pe_m (pe_ix ix_list (pe_ix ix_list (pv 2) (pe_fld (pv 4) rfl) (fun _ _ => rfl)) (pe_fld (pv 4) rfl) (fun _ _ => rfl)) h_LineReport_add (hr.mono (by decide)) (fun σ => passAt tk σ) (pa_cons (pv 4) pa_nil)))))
  (pss_one (ps_ret (pv 2)))))

theorem d_busiest_line (T : TX K mg base)  {cdv : Value} {A : Around} {outer : List Env} {s : Shared} {H : Hp} {E : XK} (hr : Room 0 (A.deeper (envOfC "busiest_line" (defScope s_busiest_line) s.heap.objs.size (He.ga K "busiest_line") cdv))) :
    PSs (cxOf (L2.CX P w) P w K mg base N_busiest_line "busiest_line" (defScope s_busiest_line) (He.ga K "busiest_line") cdv A outer s H E) (defBody s_busiest_line) (t_busiest_line K E) := by
  have tk : Takes (cxOf (L2.CX P w) P w K mg base N_busiest_line "busiest_line" (defScope s_busiest_line) (He.ga K "busiest_line") cdv A outer s H E) (wB E) := takes_of rfl rfl rfl rfl
  have po : PassesOwn (model P w) (cxOf (L2.CX P w) P w K mg base N_busiest_line "busiest_line" (defScope s_busiest_line) (He.ga K "busiest_line") cdv A outer s H E).A (cxOf (L2.CX P w) P w K mg base N_busiest_line "busiest_line" (defScope s_busiest_line) (He.ga K "busiest_line") cdv A outer s H E).env (cxOf (L2.CX P w) P w K mg base N_busiest_line "busiest_line" (defScope s_busiest_line) (He.ga K "busiest_line") cdv A outer s H E).xe := passes_of rfl
  exact (pss_cons (ps_set (i := 1) sc_busiest_line.nd rfl (Or.inl rfl) pe_non)
  (pss_cons (ps_for po rfl (pi_enum rfl (T.free 3) (pa_cons (pv 0) pa_nil)) (pg_tup rfl (pgs_cons (pg_name (i := 2) sc_busiest_line.nd rfl (Or.inl rfl)) (pgs_cons (pg_name (i := 3) sc_busiest_line.nd rfl (Or.inl rfl)) pgs_nil)))
  (pss_one (ps_for po rfl (pi_range1 rfl (T.free 2) (pa_cons pe_int pa_nil)) (pg_name (i := 4) sc_busiest_line.nd rfl (Or.inl rfl))
  (pss_one (ps_if (PW.pt (pw_or (pt_cmpR op_isN1 (pv 1) pe_non (nomark _)) (pw_or1 (pt_cmpR op_gt (pe_fld (pe_ix ix_list (pv 3) (pv 4) (fun _ _ => rfl)) rfl) (pe_fld (pe_ix ix_list (pe_ix ix_list (pv 0) (pe_ix ix_tup (pv 1) pe_int (fun _ _ => rfl)) (fun _ _ => rfl)) (pe_ix ix_tup (pv 1) pe_int (fun _ _ => rfl)) (fun _ _ => rfl)) rfl) (nomark _)))))
  (pss_one (ps_set (i := 1) sc_busiest_line.nd rfl (Or.inl rfl) (pe_tup (pa_cons (pv 2) (pa_cons (pv 4) pa_nil)))))
  pss_nil)))))
  (pss_one (ps_ret (pv 1)))))

theorem d_Frame_init (T : TX K mg base)  {cdv : Value} {A : Around} {outer : List Env} {s : Shared} {H : Hp} {E : XK} (hr : Room 0 (A.deeper (envOfC "Frame.__init__" (defScope s_Frame_init) s.heap.objs.size (He.ma K (He.ga K "Frame") "__init__") cdv))) :
    PSs (cxOf (L2.CX P w) P w K mg base N_Frame_init "Frame.__init__" (defScope s_Frame_init) (He.ma K (He.ga K "Frame") "__init__") cdv A outer s H E) (defBody s_Frame_init) (t_Frame_init K E) := by
  have tk : Takes (cxOf (L2.CX P w) P w K mg base N_Frame_init "Frame.__init__" (defScope s_Frame_init) (He.ma K (He.ga K "Frame") "__init__") cdv A outer s H E) (wB E) := takes_of rfl rfl rfl rfl
  exact (pss_cons (ps_fld (pv 0) (pv 1) rfl)
  (pss_cons (ps_fld (pv 0) (pv 2) rfl)
  (pss_cons (ps_fld (pv 0) (pv 3) rfl)
  (pss_cons (ps_fld (pv 0) (pe_callTy call_list_of (by rfl) (T.free 4) (by decide +kernel) (pa_cons (pv 4) pa_nil)) rfl)
  (pss_cons (ps_fld (pv 0) (pv 5) rfl)
  (pss_cons (ps_fld (pv 0) (pv 6) rfl)
  (pss_one (ps_fld (pv 0) (pv 7) rfl))))))))

theorem d_Frame__eq (T : TX K mg base)  {cdv : Value} {A : Around} {outer : List Env} {s : Shared} {H : Hp} {E : XK} (hr : Room 0 (A.deeper (envOfC "Frame.__eq__" (defScope s_Frame__eq) s.heap.objs.size (He.ma K (He.ga K "Frame") "__eq__") cdv))) :
    PSs (cxOf (L2.CX P w) P w K mg base N_Frame__eq "Frame.__eq__" (defScope s_Frame__eq) (He.ma K (He.ga K "Frame") "__eq__") cdv A outer s H E) (defBody s_Frame__eq) (t_Frame__eq K E) := by
  have tk : Takes (cxOf (L2.CX P w) P w K mg base N_Frame__eq "Frame.__eq__" (defScope s_Frame__eq) (He.ma K (He.ga K "Frame") "__eq__") cdv A outer s H E) (wB E) := takes_of rfl rfl rfl rfl
  exact (pss_one (ps_ret (pe_and (pe_callB call_isi (by rfl) (T.free 1) (by decide +kernel) (pa_cons (pv 1) (pa_cons (pe_gref rfl (T.glo 5)) pa_nil))) (pe_and (pe_cmpR op_eq (pe_fld (pv 0) rfl) (pe_fld (pv 1) rfl) (nomark _)) (pe_and (pe_cmpR op_eq (pe_fld (pv 0) rfl) (pe_fld (pv 1) rfl) (nomark _)) (pe_and (pe_cmpR op_eq (pe_fld (pv 0) rfl) (pe_fld (pv 1) rfl) (nomark _)) (pe_and (pe_cmpR (op_eqD hr.units) (pe_fld (pv 0) rfl) (pe_fld (pv 1) rfl) (nomark _)) (pe_and (pe_cmpR op_eq (pe_fld (pv 0) rfl) (pe_fld (pv 1) rfl) (nomark _)) (pe_and (pe_cmpR op_eq (pe_fld (pv 0) rfl) (pe_fld (pv 1) rfl) (nomark _)) (pe_one (pe_cmpR op_eq (pe_fld (pv 0) rfl) (pe_fld (pv 1) rfl) (nomark _))))))))))))

theorem d_Frame_as_row (T : TX K mg base)  {cdv : Value} {A : Around} {outer : List Env} {s : Shared} {H : Hp} {E : XK} (hr : Room 0 (A.deeper (envOfC "Frame.as_row" (defScope s_Frame_as_row) s.heap.objs.size (He.ma K (He.ga K "Frame") "as_row") cdv))) :
    PSs (cxOf (L2.CX P w) P w K mg base N_Frame_as_row "Frame.as_row" (defScope s_Frame_as_row) (He.ma K (He.ga K "Frame") "as_row") cdv A outer s H E) (defBody s_Frame_as_row) (t_Frame_as_row K E) := by
  have tk : Takes (cxOf (L2.CX P w) P w K mg base N_Frame_as_row "Frame.as_row" (defScope s_Frame_as_row) (He.ma K (He.ga K "Frame") "as_row") cdv A outer s H E) (wB E) := takes_of rfl rfl rfl rfl
  exact (pss_one (ps_ret (pe_tup (pa_cons (pe_fld (pv 0) rfl) (pa_cons (pe_fld (pv 0) rfl) (pa_cons (pe_fld (pv 0) rfl) (pa_cons (pe_fld (pv 0) rfl) (pa_cons (pe_fld (pv 0) rfl) (pa_cons (pe_fld (pv 0) rfl) (pa_cons (pe_fld (pv 0) rfl) pa_nil))))))))))

theorem d_Frame_weight (T : TX K mg base)  {cdv : Value} {A : Around} {outer : List Env} {s : Shared} {H : Hp} {E : XK} (hr : Room 0 (A.deeper (envOfC "Frame.weight" (defScope s_Frame_weight) s.heap.objs.size (He.ma K (He.ga K "Frame") "weight") cdv))) :
    PSs (cxOf (L2.CX P w) P w K mg base N_Frame_weight "Frame.weight" (defScope s_Frame_weight) (He.ma K (He.ga K "Frame") "weight") cdv A outer s H E) (defBody s_Frame_weight) (t_Frame_weight K E) := by
  have tk : Takes (cxOf (L2.CX P w) P w K mg base N_Frame_weight "Frame.weight" (defScope s_Frame_weight) (He.ma K (He.ga K "Frame") "weight") cdv A outer s H E) (wB E) := takes_of rfl rfl rfl rfl
  exact (pss_one (ps_ret (pe_op op_add (pe_gint rfl (T.int 6)) (pe_callB call_len (by rfl) (T.free 7) PySem.boot_len (pa_cons (pe_fld (pv 0) rfl) pa_nil)))))

theorem d_law_cell (T : TX K mg base)  {cdv : Value} {A : Around} {outer : List Env} {s : Shared} {H : Hp} {E : XK} (hr : Room 0 (A.deeper (envOfC "_law_cell" (defScope s_law_cell) s.heap.objs.size (He.ga K "_law_cell") cdv))) :
    PSs (cxOf (L2.CX P w) P w K mg base N_law_cell "_law_cell" (defScope s_law_cell) (He.ga K "_law_cell") cdv A outer s H E) (defBody s_law_cell) (t_law_cell K E) := by
  have tk : Takes (cxOf (L2.CX P w) P w K mg base N_law_cell "_law_cell" (defScope s_law_cell) (He.ga K "_law_cell") cdv A outer s H E) (wB E) := takes_of rfl rfl rfl rfl
  exact (pss_cons (ps_if (pt_cmpR op_lt (pv 1) (pe_callB call_len (by rfl) (T.free 7) PySem.boot_len (pa_cons (pv 0) pa_nil)) (nomark _))
  (pss_one (ps_ret (pe_ix ix_list (pv 0) (pv 1) (fun _ _ => rfl))))
  pss_nil)
  (pss_one (ps_ret pe_int)))

theorem d_law_start (T : TX K mg base)  {cdv : Value} {A : Around} {outer : List Env} {s : Shared} {H : Hp} {E : XK} (hr : Room 0 (A.deeper (envOfC "_law_start" (defScope s_law_start) s.heap.objs.size (He.ga K "_law_start") cdv))) :
    PSs (cxOf (L2.CX P w) P w K mg base N_law_start "_law_start" (defScope s_law_start) (He.ga K "_law_start") cdv A outer s H E) (defBody s_law_start) (t_law_start K E) := by
  have tk : Takes (cxOf (L2.CX P w) P w K mg base N_law_start "_law_start" (defScope s_law_start) (He.ga K "_law_start") cdv A outer s H E) (wB E) := takes_of rfl rfl rfl rfl
  have po : PassesOwn (model P w) (cxOf (L2.CX P w) P w K mg base N_law_start "_law_start" (defScope s_law_start) (He.ga K "_law_start") cdv A outer s H E).A (cxOf (L2.CX P w) P w K mg base N_law_start "_law_start" (defScope s_law_start) (He.ga K "_law_start") cdv A outer s H E).env (cxOf (L2.CX P w) P w K mg base N_law_start "_law_start" (defScope s_law_start) (He.ga K "_law_start") cdv A outer s H E).xe := passes_of rfl
  exact (pss_cons (ps_set (i := 2) sc_law_start.nd rfl (Or.inl rfl) pe_int)
  (pss_cons (ps_if (pt_chain op_lt op_lt (pe_un un_neg pe_int) (pv 0) pe_int)
  (pss_cons (ps_set (i := 3) sc_law_start.nd rfl (Or.inl rfl) (pe_op op_mod (pe_callTy call_int1 (by rfl) (T.free 8) (by decide +kernel) (pa_cons (pe_op op_add (pe_op op_mul (pv 0) pe_int) (pe_op op_mul (pe_op op_add (pv 1) pe_int) pe_int)) pa_nil)) (pv 2)))
  (pss_cons (ps_set (i := 4) sc_law_start.nd rfl (Or.inl rfl) pe_int)
  (pss_cons (ps_for po rfl (pi_range1 rfl (T.free 2) (pa_cons pe_int pa_nil)) (pg_name (i := 5) sc_law_start.nd rfl (Or.inl rfl))
  (pss_cons (ps_set (i := 3) sc_law_start.nd rfl (Or.inl rfl) (pe_op op_mod (pe_callTy call_int1 (by rfl) (T.free 8) (by decide +kernel) (pa_cons (pe_op op_add (pe_op op_add (pe_op op_add (pe_op op_mulW (pv 3) (pv 3)) (pe_op op_mul pe_int (pv 3))) (pv 1)) (pv 5)) pa_nil)) (pv 2)))
  (pss_one (ps_set (i := 4) sc_law_start.nd rfl (Or.inl rfl) (pe_op op_add (pe_op op_mulW (pv 4) (pv 2)) (pv 3))))))
  (pss_one (ps_ret (pe_lst (pa_cons (pv 4) pa_nil)))))))
  pss_nil)
  (pss_one (ps_ret (pe_lst (pa_cons (pv 0) pa_nil))))))

theorem d_law_digit (T : TX K mg base)  {cdv : Value} {A : Around} {outer : List Env} {s : Shared} {H : Hp} {E : XK} (hr : Room 0 (A.deeper (envOfC "_law_digit" (defScope s_law_digit) s.heap.objs.size (He.ga K "_law_digit") cdv))) :
    PSs (cxOf (L2.CX P w) P w K mg base N_law_digit "_law_digit" (defScope s_law_digit) (He.ga K "_law_digit") cdv A outer s H E) (defBody s_law_digit) (t_law_digit K E) := by
  have tk : Takes (cxOf (L2.CX P w) P w K mg base N_law_digit "_law_digit" (defScope s_law_digit) (He.ga K "_law_digit") cdv A outer s H E) (wB E) := takes_of rfl rfl rfl rfl
  exact (pss_cons (ps_set (i := 2) sc_law_digit.nd rfl (Or.inl rfl) (pe_op op_mod (pe_callTy call_int1 (by rfl) (T.free 8) (by decide +kernel) (pa_cons (pe_ix ix_list (pv 0) pe_int (fun _ _ => rfl)) pa_nil)) (pv 1)))
  (pss_cons (ps_asg (pe_op op_fdivW (pe_ix ix_list (pv 0) pe_int (fun _ _ => rfl)) (pv 1)) (pg_sub (pv 0) pe_int set_list))
  (pss_one (ps_ret (pv 2)))))

theorem d_law_event (T : TX K mg base) (h_law_digit : Has P w K mg base 1 "_law_digit" P_law_digit (sp_law_digit K)) (h_Frame_init_k0 : HasK P w K mg base 1 "Frame" 4 ["birth", "marked"] P_Frame_init gv_Frame_init_k0 (sp_Frame_init K)) (h_Event_init : HasI P w K mg base 1 "Event" P_Event_init (sp_Event_init K)) {cdv : Value} {A : Around} {outer : List Env} {s : Shared} {H : Hp} {E : XK} (hr : Room 2 (A.deeper (envOfC "_law_event" (defScope s_law_event) s.heap.objs.size (He.ga K "_law_event") cdv))) :
    PSs (cxOf (L2.CX P w) P w K mg base N_law_event "_law_event" (defScope s_law_event) (He.ga K "_law_event") cdv A outer s H E) (defBody s_law_event) (t_law_event K E) := by
  have tk : Takes (cxOf (L2.CX P w) P w K mg base N_law_event "_law_event" (defScope s_law_event) (He.ga K "_law_event") cdv A outer s H E) (wB E) := takes_of rfl rfl rfl rfl
  exact (pss_cons (ps_set (i := 2) sc_law_event.nd rfl (Or.inl rfl) (pe_tup (pa_cons pe_str (pa_cons pe_str (pa_cons pe_str (pa_cons pe_str (pa_cons pe_str (pa_cons pe_str (pa_cons pe_str (pa_cons pe_str (pa_cons pe_str (pa_cons pe_str (pa_cons pe_str (pa_cons pe_str pa_nil))))))))))))))
  (pss_cons (ps_setLc (i := 3) (own := [("k", 4)]) (g := (gName 4)) (tt := tYes) rfl sc_law_event.nd rfl rfl (sw_true rfl rfl rfl (by decide +kernel)) (pi_range1 rfl (T.free 2) (pa_cons (pe_h h_law_digit (hr.mono (by decide)) rfl (fun σ => passAt tk σ) (pa_cons (pv 0) (pa_cons (pe_ix ix_tup (pe_tup (pa_cons pe_int (pa_cons pe_int pa_nil))) (pe_h h_law_digit (hr.mono (by decide)) rfl (fun σ => passAt tk σ) (pa_cons (pv 0) (pa_cons pe_int pa_nil))) (fun _ _ => rfl)) pa_nil))) pa_nil)) (blkOk_by (own := [("k", 4)]) (N := N_law_event) (sc := defScope s_law_event) (by decide +kernel)) (fun _ _ _ _ _ => (pg_name (i := 4) sc_law_event.nd rfl (Or.inl rfl))) (fun _ _ _ _ _ => pts_nil) (fun _ _ _ _ _ => pe_int))
  (pss_cons (ps_set (i := 5) sc_law_event.nd rfl (Or.inl rfl) (pe_mkK h_Frame_init_k0 (hr.mono (by decide)) rfl (fun σ => passAt tk σ) (pa_cons pe_str (pa_cons pe_int (pa_cons pe_int (pa_cons (pv 3) pa_nil)))) (pk_cons pe_int (pk_cons (pe_cmpR op_eq (pe_h h_law_digit (hr.mono (by decide)) rfl (fun σ => passAt tk σ) (pa_cons (pv 0) (pa_cons pe_int pa_nil))) pe_int (nomark _)) pk_nil))))
  (pss_one (ps_ret (pe_i h_Event_init (hr.mono (by decide)) rfl (fun σ => passAt tk σ) (pa_cons (pe_h h_law_digit (hr.mono (by decide)) rfl (fun σ => passAt tk σ) (pa_cons (pv 0) (pa_cons pe_int pa_nil))) (pa_cons (pe_ix ix_tup (pv 2) (pe_h h_law_digit (hr.mono (by decide)) rfl (fun σ => passAt tk σ) (pa_cons (pv 0) (pa_cons pe_int pa_nil))) (fun _ _ => rfl)) (pa_cons (pe_h h_law_digit (hr.mono (by decide)) rfl (fun σ => passAt tk σ) (pa_cons (pv 0) (pa_cons (pv 1) pa_nil))) (pa_cons (pe_h h_law_digit (hr.mono (by decide)) rfl (fun σ => passAt tk σ) (pa_cons (pv 0) (pa_cons pe_int pa_nil))) (pa_cons (pv 5) pa_nil)))))))))))

theorem d_law_row (T : TX K mg base) (h_Frame_as_row : HasM P w K mg base 1 "Frame" "as_row" P_Frame_as_row (sp_Frame_as_row K)) {cdv : Value} {A : Around} {outer : List Env} {s : Shared} {H : Hp} {E : XK} (hr : Room 1 (A.deeper (envOfC "_law_row" (defScope s_law_row) s.heap.objs.size (He.ga K "_law_row") cdv))) :
    PSs (cxOf (L2.CX P w) P w K mg base N_law_row "_law_row" (defScope s_law_row) (He.ga K "_law_row") cdv A outer s H E) (defBody s_law_row) (t_law_row K E) := by
  have tk : Takes (cxOf (L2.CX P w) P w K mg base N_law_row "_law_row" (defScope s_law_row) (He.ga K "_law_row") cdv A outer s H E) (wB E) := takes_of rfl rfl rfl rfl
  exact (pss_one (ps_ret (pe_tup (pa_cons (pe_fld (pv 0) rfl) (pa_cons (pe_fld (pv 0) rfl) (pa_cons (pe_fld (pv 0) rfl) (pa_cons (pe_fld (pv 0) rfl) (pa_cons (pe_m0 (pe_fld (pv 0) rfl) h_Frame_as_row (hr.mono (by decide)) (fun σ => passAt tk σ)) pa_nil))))))))

theorem d_law_expected (T : TX K mg base)  {cdv : Value} {A : Around} {outer : List Env} {s : Shared} {H : Hp} {E : XK} (hr : Room 0 (A.deeper (envOfC "_law_expected" (defScope s_law_expected) s.heap.objs.size (He.ga K "_law_expected") cdv))) :
    PSs (cxOf (L2.CX P w) P w K mg base N_law_expected "_law_expected" (defScope s_law_expected) (He.ga K "_law_expected") cdv A outer s H E) (defBody s_law_expected) (t_law_expected K E) := by
  have tk : Takes (cxOf (L2.CX P w) P w K mg base N_law_expected "_law_expected" (defScope s_law_expected) (He.ga K "_law_expected") cdv A outer s H E) (wB E) := takes_of rfl rfl rfl rfl
  exact (pss_cons (ps_setLc (i := 3) (own := [("row", 4)]) (g := (gName 4)) (tt := (tAnd (tTest (tOp rEq (tOp (rIx K) (tVar 4) (tC (.int 2))) (tVar 1))) (tTest (tOp rEq (tOp (rIx K) (tVar 4) (tC (.int 3))) (tVar 2))))) rfl sc_law_expected.nd rfl rfl (sw_true rfl rfl rfl (by decide +kernel)) (pi_list (pv 0)) (blkOk_by (own := [("row", 4)]) (N := N_law_expected) (sc := defScope s_law_expected) (by decide +kernel)) (fun _ _ _ _ _ => (pg_name (i := 4) sc_law_expected.nd rfl (Or.inl rfl))) (fun _ _ _ _ _ => (pts_one (PW.pt (pw_and (pt_cmpR op_eq (pe_ix ix_seq (pv 4) pe_int (fun _ _ => rfl)) (pv 1) (nomark _)) (pw_and1 (pt_cmpR op_eq (pe_ix ix_seq (pv 4) pe_int (fun _ _ => rfl)) (pv 2) (nomark _))))))) (fun _ _ _ _ _ => (pv 4)))
  (pss_cons (ps_setLc (i := 5) (own := [("row", 4)]) (g := (gName 4)) (tt := (tTest (tOp rEq (tOp (rIx K) (tVar 4) (tC (.int 1))) (tC (.str "left"))))) rfl sc_law_expected.nd rfl rfl (sw_true rfl rfl rfl (by decide +kernel)) (pi_list (pv 3)) (blkOk_by (own := [("row", 4)]) (N := N_law_expected) (sc := defScope s_law_expected) (by decide +kernel)) (fun _ _ _ _ _ => (pg_name (i := 4) sc_law_expected.nd rfl (Or.inl rfl))) (fun _ _ _ _ _ => (pts_one (pt_cmpR op_eq (pe_ix ix_seq (pv 4) pe_int (fun _ _ => rfl)) pe_str (nomark _)))) (fun _ _ _ _ _ => (pv 4)))
  (pss_cons (ps_set (i := 6) sc_law_expected.nd rfl (Or.inr rfl) (pe_lc (own := [("row", 4)]) (g := (gName 4)) (tt := (tTest (tOp (rIn K true) (tOp (rIx K) (tVar 4) (tC (.int 1))) (tTup (tCons (tC (.str "entered")) (tCons (tC (.str "left")) tNil)))))) rfl sc_law_expected.nd (pi_list (pv 3)) (blkOk_by (own := [("row", 4)]) (N := N_law_expected) (sc := defScope s_law_expected) (by decide +kernel)) (fun _ _ _ _ _ => (pg_name (i := 4) sc_law_expected.nd rfl (Or.inl rfl))) (fun _ _ _ _ _ => (pts_one (pt_cmpR op_notIn_seq (pe_ix ix_seq (pv 4) pe_int (fun _ _ => rfl)) (pe_tup (pa_cons pe_str (pa_cons pe_str pa_nil))) (by first | exact nomark _ | rfl | (with_unfolding_all rfl))))) (fun _ _ _ _ _ => (pe_ix ix_seq (pv 4) pe_int (fun _ _ => rfl)))))
  (pss_cons (ps_set (i := 7) sc_law_expected.nd rfl (Or.inl rfl) (pe_tup (pa_cons pe_str (pa_cons pe_str (pa_cons pe_str (pa_cons pe_str (pa_cons pe_str (pa_cons pe_str (pa_cons pe_str pa_nil)))))))))
  (pss_cons (ps_setLc (i := 8) (own := [("word", 9)]) (g := (gName 9)) (tt := (tTest (tOp (rIn K false) (tVar 9) (tVar 6)))) rfl sc_law_expected.nd rfl rfl (sw_true rfl rfl rfl (by decide +kernel)) (pi_tup (pv 7)) (blkOk_by (own := [("word", 9)]) (N := N_law_expected) (sc := defScope s_law_expected) (by decide +kernel)) (fun _ _ _ _ _ => (pg_name (i := 9) sc_law_expected.nd rfl (Or.inr rfl))) (fun _ _ _ _ _ => (pts_one (pt_cmpR op_in_seq (pv 9) (pv 6) (by first | exact nomark _ | rfl | (with_unfolding_all rfl))))) (fun _ _ _ _ _ => (pe_tup (pa_cons (pv 9) (pa_cons (pe_callB call_len (by rfl) (T.free 7) PySem.boot_len (pa_cons (pe_lc (own := [("row", 4)]) (g := (gName 4)) (tt := (tTest (tOp rEq (tVar 4) (tVar 9)))) rfl sc_law_expected.nd (pi_list (pv 6)) (blkOk_rel (blkOk_by (own := [("row", 4)]) (N := N_law_expected) (by decide +kernel))) (fun _ _ _ _ _ => (pg_name (i := 4) sc_law_expected.nd rfl (Or.inl rfl))) (fun _ _ _ _ _ => (pts_one (pt_cmpR op_eq (pv 4) (pv 9) (nomark _)))) (fun _ _ _ _ _ => (pv 4))) pa_nil)) pa_nil)))))
  (pss_cons (ps_set (i := 10) sc_law_expected.nd rfl (Or.inl rfl) (pe_callB call_len (by rfl) (T.free 7) PySem.boot_len (pa_cons (pe_lc (own := [("row", 4)]) (g := (gName 4)) (tt := (tTest (tOp rEq (tOp (rIx K) (tVar 4) (tC (.int 1))) (tC (.str "entered"))))) rfl sc_law_expected.nd (pi_list (pv 3)) (blkOk_by (own := [("row", 4)]) (N := N_law_expected) (sc := defScope s_law_expected) (by decide +kernel)) (fun _ _ _ _ _ => (pg_name (i := 4) sc_law_expected.nd rfl (Or.inl rfl))) (fun _ _ _ _ _ => (pts_one (pt_cmpR op_eq (pe_ix ix_seq (pv 4) pe_int (fun _ _ => rfl)) pe_str (nomark _)))) (fun _ _ _ _ _ => (pv 4))) pa_nil)))
  (pss_cons (ps_set (i := 11) sc_law_expected.nd rfl (Or.inl rfl) (pe_callB (cr_sum rfl) (by rfl) (T.free 9) (by decide +kernel) (pa_cons (pe_lc (own := [("row", 4)]) (g := (gName 4)) (tt := tYes) rfl sc_law_expected.nd (pi_list (pv 5)) (blkOk_by (own := [("row", 4)]) (N := N_law_expected) (sc := defScope s_law_expected) (by decide +kernel)) (fun _ _ _ _ _ => (pg_name (i := 4) sc_law_expected.nd rfl (Or.inl rfl))) (fun _ _ _ _ _ => pts_nil) (fun _ _ _ _ _ => (pe_op op_add pe_int (pe_callB call_len (by rfl) (T.free 7) PySem.boot_len (pa_cons (pe_ix ix_seq (pe_ix ix_seq (pv 4) pe_int (fun _ _ => rfl)) pe_int (fun _ _ => rfl)) pa_nil))))) pa_nil)))
  (pss_one (ps_ret (pe_tup (pa_cons (pv 10) (pa_cons (pe_callB call_len (by rfl) (T.free 7) PySem.boot_len (pa_cons (pv 5) pa_nil)) (pa_cons (pe_callB call_len (by rfl) (T.free 7) PySem.boot_len (pa_cons (pv 6) pa_nil)) (pa_cons (pe_callB call_len (by rfl) (T.free 7) PySem.boot_len (pa_cons (pe_lc (own := [("row", 4)]) (g := (gName 4)) (tt := (tTru K (tOp (rIx K) (tOp (rIx K) (tVar 4) (tC (.int 4))) (tC (.int 6))))) rfl sc_law_expected.nd (pi_list (pv 5)) (blkOk_by (own := [("row", 4)]) (N := N_law_expected) (sc := defScope s_law_expected) (by decide +kernel)) (fun _ _ _ _ _ => (pg_name (i := 4) sc_law_expected.nd rfl (Or.inl rfl))) (fun _ _ _ _ _ => (pts_one (pt_truth (pe_ix ix_seq (pe_ix ix_seq (pv 4) pe_int (fun _ _ => rfl)) pe_int (fun _ _ => rfl)) (by intro _; rfl)))) (fun _ _ _ _ _ => (pv 4))) pa_nil)) (pa_cons (pv 11) (pa_cons (pv 8) pa_nil))))))))))))))))

theorem d_law_told (T : TX K mg base)  {cdv : Value} {A : Around} {outer : List Env} {s : Shared} {H : Hp} {E : XK} (hr : Room 0 (A.deeper (envOfC "_law_told" (defScope s_law_told) s.heap.objs.size (He.ga K "_law_told") cdv))) :
    PSs (cxOf (L2.CX P w) P w K mg base N_law_told "_law_told" (defScope s_law_told) (He.ga K "_law_told") cdv A outer s H E) (defBody s_law_told) (t_law_told K E) := by
  have tk : Takes (cxOf (L2.CX P w) P w K mg base N_law_told "_law_told" (defScope s_law_told) (He.ga K "_law_told") cdv A outer s H E) (wB E) := takes_of rfl rfl rfl rfl
  have hu := hu_of hr
  exact (pss_cons (ps_set (i := 1) sc_law_told.nd rfl (Or.inl rfl) (pe_callB cr_sortedTS (by rfl) (T.free 10) (by decide +kernel) (pa_cons (pe_lock (pe_lc (own := [("word", 2)]) (g := (gName 2)) (tt := tYes) rfl sc_law_told.nd (pi_keys (pe_fld (pv 0) rfl)) (blkOk_by (own := [("word", 2)]) (N := N_law_told) (sc := defScope s_law_told) (by decide +kernel)) (fun _ _ _ _ _ => (pg_name (i := 2) sc_law_told.nd rfl (Or.inl rfl))) (fun _ _ _ _ _ => pts_nil) (fun _ _ _ _ _ => (pe_tup (pa_cons (pv 2) (pa_cons (pe_dget hu (pe_fld (pv 0) rfl) (pv 2) (fun _ _ => rfl)) pa_nil)))))) pa_nil)))
  (pss_one (ps_ret (pe_tup (pa_cons (pe_fld (pv 0) rfl) (pa_cons (pe_fld (pv 0) rfl) (pa_cons (pe_fld (pv 0) rfl) (pa_cons (pe_fld (pv 0) rfl) (pa_cons (pe_fld (pv 0) rfl) (pa_cons (pv 1) pa_nil))))))))))

theorem d_law_busiest (T : TX K mg base)  {cdv : Value} {A : Around} {outer : List Env} {s : Shared} {H : Hp} {E : XK} (hr : Room 0 (A.deeper (envOfC "_law_busiest" (defScope s_law_busiest) s.heap.objs.size (He.ga K "_law_busiest") cdv))) :
    PSs (cxOf (L2.CX P w) P w K mg base N_law_busiest "_law_busiest" (defScope s_law_busiest) (He.ga K "_law_busiest") cdv A outer s H E) (defBody s_law_busiest) (t_law_busiest K E) := by
  have tk : Takes (cxOf (L2.CX P w) P w K mg base N_law_busiest "_law_busiest" (defScope s_law_busiest) (He.ga K "_law_busiest") cdv A outer s H E) (wB E) := takes_of rfl rfl rfl rfl
  have po : PassesOwn (model P w) (cxOf (L2.CX P w) P w K mg base N_law_busiest "_law_busiest" (defScope s_law_busiest) (He.ga K "_law_busiest") cdv A outer s H E).A (cxOf (L2.CX P w) P w K mg base N_law_busiest "_law_busiest" (defScope s_law_busiest) (He.ga K "_law_busiest") cdv A outer s H E).env (cxOf (L2.CX P w) P w K mg base N_law_busiest "_law_busiest" (defScope s_law_busiest) (He.ga K "_law_busiest") cdv A outer s H E).xe := passes_of rfl
  exact (pss_cons (ps_set (i := 1) sc_law_busiest.nd rfl (Or.inl rfl) pe_non)
  (pss_cons (ps_set (i := 2) sc_law_busiest.nd rfl (Or.inl rfl) (pe_un un_neg pe_int))
  (pss_cons (ps_for po rfl (pi_range1 rfl (T.free 2) (pa_cons (pe_callB call_len (by rfl) (T.free 7) PySem.boot_len (pa_cons (pv 0) pa_nil)) pa_nil)) (pg_name (i := 3) sc_law_busiest.nd rfl (Or.inl rfl))
  (pss_one (ps_for po rfl (pi_range1 rfl (T.free 2) (pa_cons pe_int pa_nil)) (pg_name (i := 4) sc_law_busiest.nd rfl (Or.inl rfl))
  (pss_one (ps_if (pt_cmpR op_gt (pe_ix ix_tup (pe_ix ix_list (pe_ix ix_list (pv 0) (pv 3) (fun _ _ => rfl)) (pv 4) (fun _ _ => rfl)) pe_int (fun _ _ => rfl)) (pv 2) (nomark _))
  (pss_cons (ps_set (i := 2) sc_law_busiest.nd rfl (Or.inl rfl) (pe_ix ix_tup (pe_ix ix_list (pe_ix ix_list (pv 0) (pv 3) (fun _ _ => rfl)) (pv 4) (fun _ _ => rfl)) pe_int (fun _ _ => rfl)))
  (pss_one (ps_set (i := 1) sc_law_busiest.nd rfl (Or.inl rfl) (pe_tup (pa_cons (pv 3) (pa_cons (pv 4) pa_nil))))))
  pss_nil)))))
  (pss_one (ps_ret (pv 1))))))

theorem d_law (T : TX K mg base) (h_law_start : Has P w K mg base 1 "_law_start" P_law_start (sp_law_start K)) (h_law_cell : Has P w K mg base 1 "_law_cell" P_law_cell (sp_law_cell K)) (h_law_digit : Has P w K mg base 1 "_law_digit" P_law_digit (sp_law_digit K)) (h_law_event : Has P w K mg base 3 "_law_event" P_law_event (sp_law_event K)) (h_law_row : Has P w K mg base 2 "_law_row" P_law_row (sp_law_row K)) (h_report_lines : Has P w K mg base 3 "report_lines" P_report_lines (sp_report_lines K)) (h_law_expected : Has P w K mg base 1 "_law_expected" P_law_expected (sp_law_expected K)) (h_law_told : Has P w K mg base 1 "_law_told" P_law_told (sp_law_told K)) (h_busiest_line : Has P w K mg base 1 "busiest_line" P_busiest_line (sp_busiest_line K)) (h_law_busiest : Has P w K mg base 1 "_law_busiest" P_law_busiest (sp_law_busiest K)) (h_Event__eq : HasM P w K mg base 2 "Event" "__eq__" P_Event__eq (sp_Event__eq K)) {cdv : Value} {A : Around} {outer : List Env} {s : Shared} {H : Hp} {E : XK} (hr : Room 3 (A.deeper (envOfC "law" (defScope s_law) s.heap.objs.size (He.ga K "law") cdv))) :
    PSs (cxOf (L2.CX P w) P w K mg base N_law "law" (defScope s_law) (He.ga K "law") cdv A outer s H E) (defBody s_law) (t_law K E) := by
  have tk : Takes (cxOf (L2.CX P w) P w K mg base N_law "law" (defScope s_law) (He.ga K "law") cdv A outer s H E) (wB E) := takes_of rfl rfl rfl rfl
  have po : PassesOwn (model P w) (cxOf (L2.CX P w) P w K mg base N_law "law" (defScope s_law) (He.ga K "law") cdv A outer s H E).A (cxOf (L2.CX P w) P w K mg base N_law "law" (defScope s_law) (He.ga K "law") cdv A outer s H E).env (cxOf (L2.CX P w) P w K mg base N_law "law" (defScope s_law) (He.ga K "law") cdv A outer s H E).xe := passes_of rfl
  exact (pss_cons (ps_set (i := 1) sc_law.nd rfl (Or.inl rfl) (pe_h h_law_start (hr.mono (by decide)) rfl (fun σ => passAt tk σ) (pa_cons (pe_h h_law_cell (hr.mono (by decide)) rfl (fun σ => passAt tk σ) (pa_cons (pv 0) (pa_cons pe_int pa_nil))) (pa_cons pe_int pa_nil))))
  (pss_cons (ps_set (i := 2) sc_law.nd rfl (Or.inl rfl) (pe_op op_add pe_int (pe_h h_law_digit (hr.mono (by decide)) rfl (fun σ => passAt tk σ) (pa_cons (pv 1) (pa_cons pe_int pa_nil)))))
  (pss_cons (ps_set (i := 3) sc_law.nd rfl (Or.inl rfl) (pe_lst pa_nil))
  (pss_cons (ps_for po rfl (pi_range1 rfl (T.free 2) (pa_cons (pe_callB (call_min2 rfl) (by rfl) (T.free 11) (by decide +kernel) (pa_cons pe_int (pa_cons (pe_callB call_len (by rfl) (T.free 7) PySem.boot_len (pa_cons (pv 0) pa_nil)) pa_nil))) pa_nil)) (pg_name (i := 4) sc_law.nd rfl (Or.inl rfl))
  (pss_one (ps_expr (pe_bm PySem.F.plainAttrs_list PySem.F.slot_list_append PySem.F.type_list_append mt_append (pv 3) (pa_cons (pe_h h_law_event (hr.mono (by decide)) rfl (fun σ => passAt tk σ) (pa_cons (pe_h h_law_start (hr.mono (by decide)) rfl (fun σ => passAt tk σ) (pa_cons (pe_h h_law_cell (hr.mono (by decide)) rfl (fun σ => passAt tk σ) (pa_cons (pv 0) (pa_cons (pv 4) pa_nil))) (pa_cons (pe_op op_add (pv 4) pe_int) pa_nil))) (pa_cons (pv 2) pa_nil))) pa_nil)))))
  (pss_cons (ps_set (i := 5) sc_law.nd rfl (Or.inr rfl) (pe_lc (own := [("event", 6)]) (g := (gName 6)) (tt := tYes) rfl sc_law.nd (pi_list (pv 3)) (blkOk_by (own := [("event", 6)]) (N := N_law) (sc := defScope s_law) (by decide +kernel)) (fun _ _ _ _ _ => (pg_name (i := 6) sc_law.nd rfl (Or.inl rfl))) (fun _ _ _ _ _ => pts_nil) (fun _ _ _ _ _ => (pe_h h_law_row (hr.mono (by decide)) rfl (fun σ => passZ σ) (pa_cons (pv 6) pa_nil)))))
  (pss_cons (ps_set (i := 7) sc_law.nd rfl (Or.inl rfl) (pe_h h_report_lines (hr.mono (by decide)) rfl (fun σ => passAt tk σ) (pa_cons (pv 3) (pa_cons (pv 2) pa_nil))))
  (pss_cons (ps_setLc (i := 8) (own := [("link", 10)]) (g := (gName 10)) (tt := tYes) rfl sc_law.nd rfl rfl (sw_true rfl rfl rfl (by decide +kernel)) (pi_range1 rfl (T.free 2) (pa_cons (pv 2) pa_nil)) (blkOk_by (own := [("link", 10)]) (N := N_law) (sc := defScope s_law) (by decide +kernel)) (fun _ _ _ _ _ => (pg_name (i := 10) sc_law.nd rfl (Or.inr rfl))) (fun _ _ _ _ _ => pts_nil) (fun _ _ _ _ _ => (pe_lc (own := [("side", 9)]) (g := (gName 9)) (tt := tYes) rfl sc_law.nd (pi_range1 rfl (T.free 2) (pa_cons pe_int pa_nil)) (blkOk_rel (blkOk_by (own := [("side", 9)]) (N := N_law) (by decide +kernel))) (fun _ _ _ _ _ => (pg_name (i := 9) sc_law.nd rfl (Or.inl rfl))) (fun _ _ _ _ _ => pts_nil) (fun _ _ _ _ _ => (pe_h h_law_expected (hr.mono (by decide)) rfl (fun σ => passZ σ) (pa_cons (pv 5) (pa_cons (pv 10) (pa_cons (pv 9) pa_nil))))))))
  (pss_cons (ps_if (pt_cmpR (op_neD hr.units) (pe_lc (own := [("pair", 12)]) (g := (gName 12)) (tt := tYes) rfl sc_law.nd (pi_list (pv 7)) (blkOk_by (own := [("pair", 12)]) (N := N_law) (sc := defScope s_law) (by decide +kernel)) (fun _ _ _ _ _ => (pg_name (i := 12) sc_law.nd rfl (Or.inl rfl))) (fun _ _ _ _ _ => pts_nil) (fun _ _ _ _ _ => (pe_lc (own := [("report", 11)]) (g := (gName 11)) (tt := tYes) rfl sc_law.nd (pi_list (pv 12)) (blkOk_rel (blkOk_by (own := [("report", 11)]) (N := N_law) (by decide +kernel))) (fun _ _ _ _ _ => (pg_name (i := 11) sc_law.nd rfl (Or.inl rfl))) (fun _ _ _ _ _ => pts_nil) (fun _ _ _ _ _ => (pe_h h_law_told (hr.mono (by decide)) rfl (fun σ => passZ σ) (pa_cons (pv 11) pa_nil)))))) (pv 8) (nomark _))
  (pss_one (ps_ret pe_bl))
  pss_nil)
  (pss_cons (ps_if (PW.pt (pw_or (pt_cmpR (op_neD hr.units) (pe_h h_busiest_line (hr.mono (by decide)) rfl (fun σ => passAt tk σ) (pa_cons (pv 7) pa_nil)) (pe_h h_law_busiest (hr.mono (by decide)) rfl (fun σ => passAt tk σ) (pa_cons (pv 8) pa_nil)) (nomark _)) (pw_or (pt_cmpR op_notN1 (pe_h h_busiest_line (hr.mono (by decide)) rfl (fun σ => passAt tk σ) (pa_cons (pe_lst pa_nil) pa_nil)) pe_non (nomark _)) (pw_or1 (pt_cmpR (op_neD hr.units) (pe_h h_report_lines (hr.mono (by decide)) rfl (fun σ => passAt tk σ) (pa_cons (pe_lst pa_nil) (pa_cons pe_int pa_nil))) (pe_lst pa_nil) (nomark _))))))
  (pss_one (ps_ret pe_bl))
  pss_nil)
  (pss_cons (ps_for po rfl (pi_range2 rfl (T.free 2) (pa_cons pe_int (pa_cons (pe_callB call_len (by rfl) (T.free 7) PySem.boot_len (pa_cons (pv 3) pa_nil)) pa_nil))) (pg_name (i := 4) sc_law.nd rfl (Or.inl rfl))
  (pss_one (ps_if (PW.pt (pw_or (pt_cmpR op_ne (pe_cmpR (op_own h_Event__eq (hr.mono (by decide))) (pe_ix ix_list (pv 3) (pv 4) (fun _ _ => rfl)) (pe_ix ix_list (pv 3) (pe_op op_sub (pv 4) pe_int) (fun _ _ => rfl)) (nomark _)) (pe_cmpR (op_eqD hr.units) (pe_ix ix_list (pv 5) (pv 4) (fun _ _ => rfl)) (pe_ix ix_list (pv 5) (pe_op op_sub (pv 4) pe_int) (fun _ _ => rfl)) (nomark _)) (nomark _)) (pw_or1 (pt_cmpR op_isnot_bl (pe_cmpR (op_own h_Event__eq (hr.mono (by decide))) (pe_ix ix_list (pv 3) (pv 4) (fun _ _ => rfl)) (pe_ix ix_list (pv 5) (pv 4) (fun _ _ => rfl)) (nomark _)) pe_bl (nomark _)))))
  (pss_one (ps_ret pe_bl))
  pss_nil)))
  (pss_one (ps_ret (pe_cmpR (op_eqD hr.units) (pe_lc (own := [("event", 6)]) (g := (gName 6)) (tt := tYes) rfl sc_law.nd (pi_list (pv 3)) (blkOk_by (own := [("event", 6)]) (N := N_law) (sc := defScope s_law) (by decide +kernel)) (fun _ _ _ _ _ => (pg_name (i := 6) sc_law.nd rfl (Or.inl rfl))) (fun _ _ _ _ _ => pts_nil) (fun _ _ _ _ _ => (pe_h h_law_row (hr.mono (by decide)) rfl (fun σ => passZ σ) (pa_cons (pv 6) pa_nil)))) (pv 5) (nomark _))))))))))))))

end
end K93

namespace K93
open PySem PySem.Spec PyProof.Rows L2 G
local macro_rules | `(tactic| wtm_at "g_get") => `(tactic| first
  | ((with_reducible show kGet _ "tick" _ _ _); (with_reducible refine' w_fld ?k1 (cl_Event (by assumption)) (na_Event_tick (by assumption)) lk_Event_tick ?_); (case k1 => wtm_at "g_hp"))
  | ((with_reducible show kGet _ "word" _ _ _); (with_reducible refine' w_fld ?k1 (cl_Event (by assumption)) (na_Event_word (by assumption)) lk_Event_word ?_); (case k1 => wtm_at "g_hp"))
  | ((with_reducible show kGet _ "link" _ _ _); (with_reducible refine' w_fld ?k1 (cl_Event (by assumption)) (na_Event_link (by assumption)) lk_Event_link ?_); (case k1 => wtm_at "g_hp"))
  | ((with_reducible show kGet _ "side" _ _ _); (with_reducible refine' w_fld ?k1 (cl_Event (by assumption)) (na_Event_side (by assumption)) lk_Event_side ?_); (case k1 => wtm_at "g_hp"))
  | ((with_reducible show kGet _ "frame" _ _ _); (with_reducible refine' w_fld ?k1 (cl_Event (by assumption)) (na_Event_frame (by assumption)) lk_Event_frame ?_); (case k1 => wtm_at "g_hp"))
  | ((with_reducible show kGet _ "entered" _ _ _); (with_reducible refine' w_fld ?k1 (cl_LineReport (by assumption)) (na_LineReport_entered (by assumption)) lk_LineReport_entered ?_); (case k1 => wtm_at "g_hp"))
  | ((with_reducible show kGet _ "left" _ _ _); (with_reducible refine' w_fld ?k1 (cl_LineReport (by assumption)) (na_LineReport_left (by assumption)) lk_LineReport_left ?_); (case k1 => wtm_at "g_hp"))
  | ((with_reducible show kGet _ "dropped" _ _ _); (with_reducible refine' w_fld ?k1 (cl_LineReport (by assumption)) (na_LineReport_dropped (by assumption)) lk_LineReport_dropped ?_); (case k1 => wtm_at "g_hp"))
  | ((with_reducible show kGet _ "marked" _ _ _); (with_reducible refine' w_fld ?k1 (cl_LineReport (by assumption)) (na_LineReport_marked (by assumption)) lk_LineReport_marked ?_); (case k1 => wtm_at "g_hp"))
  | ((with_reducible show kGet _ "octets" _ _ _); (with_reducible refine' w_fld ?k1 (cl_LineReport (by assumption)) (na_LineReport_octets (by assumption)) lk_LineReport_octets ?_); (case k1 => wtm_at "g_hp"))
  | ((with_reducible show kGet _ "words" _ _ _); (with_reducible refine' w_fld ?k1 (cl_LineReport (by assumption)) (na_LineReport_words (by assumption)) lk_LineReport_words ?_); (case k1 => wtm_at "g_hp"))
  | ((with_reducible show kGet _ "kind" _ _ _); (with_reducible refine' w_fld ?k1 (cl_Frame (by assumption)) (na_Frame_kind (by assumption)) lk_Frame_kind ?_); (case k1 => wtm_at "g_hp"))
  | ((with_reducible show kGet _ "sender" _ _ _); (with_reducible refine' w_fld ?k1 (cl_Frame (by assumption)) (na_Frame_sender (by assumption)) lk_Frame_sender ?_); (case k1 => wtm_at "g_hp"))
  | ((with_reducible show kGet _ "target" _ _ _); (with_reducible refine' w_fld ?k1 (cl_Frame (by assumption)) (na_Frame_target (by assumption)) lk_Frame_target ?_); (case k1 => wtm_at "g_hp"))
  | ((with_reducible show kGet _ "octets" _ _ _); (with_reducible refine' w_fld ?k1 (cl_Frame (by assumption)) (na_Frame_octets (by assumption)) lk_Frame_octets ?_); (case k1 => wtm_at "g_hp"))
  | ((with_reducible show kGet _ "birth" _ _ _); (with_reducible refine' w_fld ?k1 (cl_Frame (by assumption)) (na_Frame_birth (by assumption)) lk_Frame_birth ?_); (case k1 => wtm_at "g_hp"))
  | ((with_reducible show kGet _ "hops" _ _ _); (with_reducible refine' w_fld ?k1 (cl_Frame (by assumption)) (na_Frame_hops (by assumption)) lk_Frame_hops ?_); (case k1 => wtm_at "g_hp"))
  | ((with_reducible show kGet _ "marked" _ _ _); (with_reducible refine' w_fld ?k1 (cl_Frame (by assumption)) (na_Frame_marked (by assumption)) lk_Frame_marked ?_); (case k1 => wtm_at "g_hp"))
  | fail)
local macro_rules | `(tactic| wtm_at "g_get2") => `(tactic| first
  | ((with_reducible refine' w_fld ?k1 (cl_Event (by assumption)) (na_Event_tick (by assumption)) lk_Event_tick ?_); (case k1 => wtm_at "g_hp"))
  | ((with_reducible refine' w_fld ?k1 (cl_Event (by assumption)) (na_Event_word (by assumption)) lk_Event_word ?_); (case k1 => wtm_at "g_hp"))
  | ((with_reducible refine' w_fld ?k1 (cl_Event (by assumption)) (na_Event_link (by assumption)) lk_Event_link ?_); (case k1 => wtm_at "g_hp"))
  | ((with_reducible refine' w_fld ?k1 (cl_Event (by assumption)) (na_Event_side (by assumption)) lk_Event_side ?_); (case k1 => wtm_at "g_hp"))
  | ((with_reducible refine' w_fld ?k1 (cl_Event (by assumption)) (na_Event_frame (by assumption)) lk_Event_frame ?_); (case k1 => wtm_at "g_hp"))
  | ((with_reducible refine' w_fld ?k1 (cl_LineReport (by assumption)) (na_LineReport_entered (by assumption)) lk_LineReport_entered ?_); (case k1 => wtm_at "g_hp"))
  | ((with_reducible refine' w_fld ?k1 (cl_LineReport (by assumption)) (na_LineReport_left (by assumption)) lk_LineReport_left ?_); (case k1 => wtm_at "g_hp"))
  | ((with_reducible refine' w_fld ?k1 (cl_LineReport (by assumption)) (na_LineReport_dropped (by assumption)) lk_LineReport_dropped ?_); (case k1 => wtm_at "g_hp"))
  | ((with_reducible refine' w_fld ?k1 (cl_LineReport (by assumption)) (na_LineReport_marked (by assumption)) lk_LineReport_marked ?_); (case k1 => wtm_at "g_hp"))
  | ((with_reducible refine' w_fld ?k1 (cl_LineReport (by assumption)) (na_LineReport_octets (by assumption)) lk_LineReport_octets ?_); (case k1 => wtm_at "g_hp"))
  | ((with_reducible refine' w_fld ?k1 (cl_LineReport (by assumption)) (na_LineReport_words (by assumption)) lk_LineReport_words ?_); (case k1 => wtm_at "g_hp"))
  | ((with_reducible refine' w_fld ?k1 (cl_Frame (by assumption)) (na_Frame_kind (by assumption)) lk_Frame_kind ?_); (case k1 => wtm_at "g_hp"))
  | ((with_reducible refine' w_fld ?k1 (cl_Frame (by assumption)) (na_Frame_sender (by assumption)) lk_Frame_sender ?_); (case k1 => wtm_at "g_hp"))
  | ((with_reducible refine' w_fld ?k1 (cl_Frame (by assumption)) (na_Frame_target (by assumption)) lk_Frame_target ?_); (case k1 => wtm_at "g_hp"))
  | ((with_reducible refine' w_fld ?k1 (cl_Frame (by assumption)) (na_Frame_octets (by assumption)) lk_Frame_octets ?_); (case k1 => wtm_at "g_hp"))
  | ((with_reducible refine' w_fld ?k1 (cl_Frame (by assumption)) (na_Frame_birth (by assumption)) lk_Frame_birth ?_); (case k1 => wtm_at "g_hp"))
  | ((with_reducible refine' w_fld ?k1 (cl_Frame (by assumption)) (na_Frame_hops (by assumption)) lk_Frame_hops ?_); (case k1 => wtm_at "g_hp"))
  | ((with_reducible refine' w_fld ?k1 (cl_Frame (by assumption)) (na_Frame_marked (by assumption)) lk_Frame_marked ?_); (case k1 => wtm_at "g_hp"))
  | fail)
local macro_rules | `(tactic| wtm_at "g_set") => `(tactic| first
  | ((with_reducible show kFld _ "tick" _ _ _ _ _); (with_reducible refine' k_fld ?k1 ?k2 (cl_Event (by assumption)) (na_Event_tick (by assumption)) pt_Event_tick rfl ?_); (case k1 => wtm_at "g_own"); (case k2 => wtm_at "g_put"); intro HH ww)
  | ((with_reducible show kFld _ "tick" _ _ _ _ _); (with_reducible refine' k_fld ?k1 ?k2 (cl_Event (by assumption)) (na_Event_tick (by assumption)) pn_Event_tick rfl ?_); (case k1 => wtm_at "g_own"); (case k2 => wtm_at "g_put"); intro HH ww)
  | ((with_reducible show kFld _ "word" _ _ _ _ _); (with_reducible refine' k_fld ?k1 ?k2 (cl_Event (by assumption)) (na_Event_word (by assumption)) pt_Event_word rfl ?_); (case k1 => wtm_at "g_own"); (case k2 => wtm_at "g_put"); intro HH ww)
  | ((with_reducible show kFld _ "word" _ _ _ _ _); (with_reducible refine' k_fld ?k1 ?k2 (cl_Event (by assumption)) (na_Event_word (by assumption)) pn_Event_word rfl ?_); (case k1 => wtm_at "g_own"); (case k2 => wtm_at "g_put"); intro HH ww)
  | ((with_reducible show kFld _ "link" _ _ _ _ _); (with_reducible refine' k_fld ?k1 ?k2 (cl_Event (by assumption)) (na_Event_link (by assumption)) pt_Event_link rfl ?_); (case k1 => wtm_at "g_own"); (case k2 => wtm_at "g_put"); intro HH ww)
  | ((with_reducible show kFld _ "link" _ _ _ _ _); (with_reducible refine' k_fld ?k1 ?k2 (cl_Event (by assumption)) (na_Event_link (by assumption)) pn_Event_link rfl ?_); (case k1 => wtm_at "g_own"); (case k2 => wtm_at "g_put"); intro HH ww)
  | ((with_reducible show kFld _ "side" _ _ _ _ _); (with_reducible refine' k_fld ?k1 ?k2 (cl_Event (by assumption)) (na_Event_side (by assumption)) pt_Event_side rfl ?_); (case k1 => wtm_at "g_own"); (case k2 => wtm_at "g_put"); intro HH ww)
  | ((with_reducible show kFld _ "side" _ _ _ _ _); (with_reducible refine' k_fld ?k1 ?k2 (cl_Event (by assumption)) (na_Event_side (by assumption)) pn_Event_side rfl ?_); (case k1 => wtm_at "g_own"); (case k2 => wtm_at "g_put"); intro HH ww)
  | ((with_reducible show kFld _ "frame" _ _ _ _ _); (with_reducible refine' k_fld ?k1 ?k2 (cl_Event (by assumption)) (na_Event_frame (by assumption)) pt_Event_frame rfl ?_); (case k1 => wtm_at "g_own"); (case k2 => wtm_at "g_put"); intro HH ww)
  | ((with_reducible show kFld _ "frame" _ _ _ _ _); (with_reducible refine' k_fld ?k1 ?k2 (cl_Event (by assumption)) (na_Event_frame (by assumption)) pn_Event_frame rfl ?_); (case k1 => wtm_at "g_own"); (case k2 => wtm_at "g_put"); intro HH ww)
  | ((with_reducible show kFld _ "entered" _ _ _ _ _); (with_reducible refine' k_fld ?k1 ?k2 (cl_LineReport (by assumption)) (na_LineReport_entered (by assumption)) pt_LineReport_entered rfl ?_); (case k1 => wtm_at "g_own"); (case k2 => wtm_at "g_put"); intro HH ww)
  | ((with_reducible show kFld _ "entered" _ _ _ _ _); (with_reducible refine' k_fld ?k1 ?k2 (cl_LineReport (by assumption)) (na_LineReport_entered (by assumption)) pn_LineReport_entered rfl ?_); (case k1 => wtm_at "g_own"); (case k2 => wtm_at "g_put"); intro HH ww)
  | ((with_reducible show kFld _ "left" _ _ _ _ _); (with_reducible refine' k_fld ?k1 ?k2 (cl_LineReport (by assumption)) (na_LineReport_left (by assumption)) pt_LineReport_left rfl ?_); (case k1 => wtm_at "g_own"); (case k2 => wtm_at "g_put"); intro HH ww)
  | ((with_reducible show kFld _ "left" _ _ _ _ _); (with_reducible refine' k_fld ?k1 ?k2 (cl_LineReport (by assumption)) (na_LineReport_left (by assumption)) pn_LineReport_left rfl ?_); (case k1 => wtm_at "g_own"); (case k2 => wtm_at "g_put"); intro HH ww)
  | ((with_reducible show kFld _ "dropped" _ _ _ _ _); (with_reducible refine' k_fld ?k1 ?k2 (cl_LineReport (by assumption)) (na_LineReport_dropped (by assumption)) pt_LineReport_dropped rfl ?_); (case k1 => wtm_at "g_own"); (case k2 => wtm_at "g_put"); intro HH ww)
  | ((with_reducible show kFld _ "dropped" _ _ _ _ _); (with_reducible refine' k_fld ?k1 ?k2 (cl_LineReport (by assumption)) (na_LineReport_dropped (by assumption)) pn_LineReport_dropped rfl ?_); (case k1 => wtm_at "g_own"); (case k2 => wtm_at "g_put"); intro HH ww)
  | ((with_reducible show kFld _ "marked" _ _ _ _ _); (with_reducible refine' k_fld ?k1 ?k2 (cl_LineReport (by assumption)) (na_LineReport_marked (by assumption)) pt_LineReport_marked rfl ?_); (case k1 => wtm_at "g_own"); (case k2 => wtm_at "g_put"); intro HH ww)
  | ((with_reducible show kFld _ "marked" _ _ _ _ _); (with_reducible refine' k_fld ?k1 ?k2 (cl_LineReport (by assumption)) (na_LineReport_marked (by assumption)) pn_LineReport_marked rfl ?_); (case k1 => wtm_at "g_own"); (case k2 => wtm_at "g_put"); intro HH ww)
  | ((with_reducible show kFld _ "octets" _ _ _ _ _); (with_reducible refine' k_fld ?k1 ?k2 (cl_LineReport (by assumption)) (na_LineReport_octets (by assumption)) pt_LineReport_octets rfl ?_); (case k1 => wtm_at "g_own"); (case k2 => wtm_at "g_put"); intro HH ww)
  | ((with_reducible show kFld _ "octets" _ _ _ _ _); (with_reducible refine' k_fld ?k1 ?k2 (cl_LineReport (by assumption)) (na_LineReport_octets (by assumption)) pn_LineReport_octets rfl ?_); (case k1 => wtm_at "g_own"); (case k2 => wtm_at "g_put"); intro HH ww)
  | ((with_reducible show kFld _ "words" _ _ _ _ _); (with_reducible refine' k_fld ?k1 ?k2 (cl_LineReport (by assumption)) (na_LineReport_words (by assumption)) pt_LineReport_words rfl ?_); (case k1 => wtm_at "g_own"); (case k2 => wtm_at "g_put"); intro HH ww)
  | ((with_reducible show kFld _ "words" _ _ _ _ _); (with_reducible refine' k_fld ?k1 ?k2 (cl_LineReport (by assumption)) (na_LineReport_words (by assumption)) pn_LineReport_words rfl ?_); (case k1 => wtm_at "g_own"); (case k2 => wtm_at "g_put"); intro HH ww)
  | ((with_reducible show kFld _ "kind" _ _ _ _ _); (with_reducible refine' k_fld ?k1 ?k2 (cl_Frame (by assumption)) (na_Frame_kind (by assumption)) pt_Frame_kind rfl ?_); (case k1 => wtm_at "g_own"); (case k2 => wtm_at "g_put"); intro HH ww)
  | ((with_reducible show kFld _ "kind" _ _ _ _ _); (with_reducible refine' k_fld ?k1 ?k2 (cl_Frame (by assumption)) (na_Frame_kind (by assumption)) pn_Frame_kind rfl ?_); (case k1 => wtm_at "g_own"); (case k2 => wtm_at "g_put"); intro HH ww)
  | ((with_reducible show kFld _ "sender" _ _ _ _ _); (with_reducible refine' k_fld ?k1 ?k2 (cl_Frame (by assumption)) (na_Frame_sender (by assumption)) pt_Frame_sender rfl ?_); (case k1 => wtm_at "g_own"); (case k2 => wtm_at "g_put"); intro HH ww)
  | ((with_reducible show kFld _ "sender" _ _ _ _ _); (with_reducible refine' k_fld ?k1 ?k2 (cl_Frame (by assumption)) (na_Frame_sender (by assumption)) pn_Frame_sender rfl ?_); (case k1 => wtm_at "g_own"); (case k2 => wtm_at "g_put"); intro HH ww)
  | ((with_reducible show kFld _ "target" _ _ _ _ _); (with_reducible refine' k_fld ?k1 ?k2 (cl_Frame (by assumption)) (na_Frame_target (by assumption)) pt_Frame_target rfl ?_); (case k1 => wtm_at "g_own"); (case k2 => wtm_at "g_put"); intro HH ww)
  | ((with_reducible show kFld _ "target" _ _ _ _ _); (with_reducible refine' k_fld ?k1 ?k2 (cl_Frame (by assumption)) (na_Frame_target (by assumption)) pn_Frame_target rfl ?_); (case k1 => wtm_at "g_own"); (case k2 => wtm_at "g_put"); intro HH ww)
  | ((with_reducible show kFld _ "octets" _ _ _ _ _); (with_reducible refine' k_fld ?k1 ?k2 (cl_Frame (by assumption)) (na_Frame_octets (by assumption)) pt_Frame_octets rfl ?_); (case k1 => wtm_at "g_own"); (case k2 => wtm_at "g_put"); intro HH ww)
  | ((with_reducible show kFld _ "octets" _ _ _ _ _); (with_reducible refine' k_fld ?k1 ?k2 (cl_Frame (by assumption)) (na_Frame_octets (by assumption)) pn_Frame_octets rfl ?_); (case k1 => wtm_at "g_own"); (case k2 => wtm_at "g_put"); intro HH ww)
  | ((with_reducible show kFld _ "birth" _ _ _ _ _); (with_reducible refine' k_fld ?k1 ?k2 (cl_Frame (by assumption)) (na_Frame_birth (by assumption)) pt_Frame_birth rfl ?_); (case k1 => wtm_at "g_own"); (case k2 => wtm_at "g_put"); intro HH ww)
  | ((with_reducible show kFld _ "birth" _ _ _ _ _); (with_reducible refine' k_fld ?k1 ?k2 (cl_Frame (by assumption)) (na_Frame_birth (by assumption)) pn_Frame_birth rfl ?_); (case k1 => wtm_at "g_own"); (case k2 => wtm_at "g_put"); intro HH ww)
  | ((with_reducible show kFld _ "hops" _ _ _ _ _); (with_reducible refine' k_fld ?k1 ?k2 (cl_Frame (by assumption)) (na_Frame_hops (by assumption)) pt_Frame_hops rfl ?_); (case k1 => wtm_at "g_own"); (case k2 => wtm_at "g_put"); intro HH ww)
  | ((with_reducible show kFld _ "hops" _ _ _ _ _); (with_reducible refine' k_fld ?k1 ?k2 (cl_Frame (by assumption)) (na_Frame_hops (by assumption)) pn_Frame_hops rfl ?_); (case k1 => wtm_at "g_own"); (case k2 => wtm_at "g_put"); intro HH ww)
  | ((with_reducible show kFld _ "marked" _ _ _ _ _); (with_reducible refine' k_fld ?k1 ?k2 (cl_Frame (by assumption)) (na_Frame_marked (by assumption)) pt_Frame_marked rfl ?_); (case k1 => wtm_at "g_own"); (case k2 => wtm_at "g_put"); intro HH ww)
  | ((with_reducible show kFld _ "marked" _ _ _ _ _); (with_reducible refine' k_fld ?k1 ?k2 (cl_Frame (by assumption)) (na_Frame_marked (by assumption)) pn_Frame_marked rfl ?_); (case k1 => wtm_at "g_own"); (case k2 => wtm_at "g_put"); intro HH ww)
  | fail)
local macro_rules | `(tactic| wtm_at "g_set2") => `(tactic| first
  | ((with_reducible show kFA _ _ "tick" _ _ _ _); (with_reducible refine' k_fa ?k1 ?k2 pt_Event_tick rfl ?_); (case k1 => wtm_at "g_own"); (case k2 => wtm_at "g_put"); intro HH ww)
  | ((with_reducible show kFA _ _ "word" _ _ _ _); (with_reducible refine' k_fa ?k1 ?k2 pt_Event_word rfl ?_); (case k1 => wtm_at "g_own"); (case k2 => wtm_at "g_put"); intro HH ww)
  | ((with_reducible show kFA _ _ "link" _ _ _ _); (with_reducible refine' k_fa ?k1 ?k2 pt_Event_link rfl ?_); (case k1 => wtm_at "g_own"); (case k2 => wtm_at "g_put"); intro HH ww)
  | ((with_reducible show kFA _ _ "side" _ _ _ _); (with_reducible refine' k_fa ?k1 ?k2 pt_Event_side rfl ?_); (case k1 => wtm_at "g_own"); (case k2 => wtm_at "g_put"); intro HH ww)
  | ((with_reducible show kFA _ _ "frame" _ _ _ _); (with_reducible refine' k_fa ?k1 ?k2 pt_Event_frame rfl ?_); (case k1 => wtm_at "g_own"); (case k2 => wtm_at "g_put"); intro HH ww)
  | ((with_reducible show kFA _ _ "entered" _ _ _ _); (with_reducible refine' k_fa ?k1 ?k2 pt_LineReport_entered rfl ?_); (case k1 => wtm_at "g_own"); (case k2 => wtm_at "g_put"); intro HH ww)
  | ((with_reducible show kFA _ _ "left" _ _ _ _); (with_reducible refine' k_fa ?k1 ?k2 pt_LineReport_left rfl ?_); (case k1 => wtm_at "g_own"); (case k2 => wtm_at "g_put"); intro HH ww)
  | ((with_reducible show kFA _ _ "dropped" _ _ _ _); (with_reducible refine' k_fa ?k1 ?k2 pt_LineReport_dropped rfl ?_); (case k1 => wtm_at "g_own"); (case k2 => wtm_at "g_put"); intro HH ww)
  | ((with_reducible show kFA _ _ "marked" _ _ _ _); (with_reducible refine' k_fa ?k1 ?k2 pt_LineReport_marked rfl ?_); (case k1 => wtm_at "g_own"); (case k2 => wtm_at "g_put"); intro HH ww)
  | ((with_reducible show kFA _ _ "octets" _ _ _ _); (with_reducible refine' k_fa ?k1 ?k2 pt_LineReport_octets rfl ?_); (case k1 => wtm_at "g_own"); (case k2 => wtm_at "g_put"); intro HH ww)
  | ((with_reducible show kFA _ _ "words" _ _ _ _); (with_reducible refine' k_fa ?k1 ?k2 pt_LineReport_words rfl ?_); (case k1 => wtm_at "g_own"); (case k2 => wtm_at "g_put"); intro HH ww)
  | ((with_reducible show kFA _ _ "kind" _ _ _ _); (with_reducible refine' k_fa ?k1 ?k2 pt_Frame_kind rfl ?_); (case k1 => wtm_at "g_own"); (case k2 => wtm_at "g_put"); intro HH ww)
  | ((with_reducible show kFA _ _ "sender" _ _ _ _); (with_reducible refine' k_fa ?k1 ?k2 pt_Frame_sender rfl ?_); (case k1 => wtm_at "g_own"); (case k2 => wtm_at "g_put"); intro HH ww)
  | ((with_reducible show kFA _ _ "target" _ _ _ _); (with_reducible refine' k_fa ?k1 ?k2 pt_Frame_target rfl ?_); (case k1 => wtm_at "g_own"); (case k2 => wtm_at "g_put"); intro HH ww)
  | ((with_reducible show kFA _ _ "octets" _ _ _ _); (with_reducible refine' k_fa ?k1 ?k2 pt_Frame_octets rfl ?_); (case k1 => wtm_at "g_own"); (case k2 => wtm_at "g_put"); intro HH ww)
  | ((with_reducible show kFA _ _ "birth" _ _ _ _); (with_reducible refine' k_fa ?k1 ?k2 pt_Frame_birth rfl ?_); (case k1 => wtm_at "g_own"); (case k2 => wtm_at "g_put"); intro HH ww)
  | ((with_reducible show kFA _ _ "hops" _ _ _ _); (with_reducible refine' k_fa ?k1 ?k2 pt_Frame_hops rfl ?_); (case k1 => wtm_at "g_own"); (case k2 => wtm_at "g_put"); intro HH ww)
  | ((with_reducible show kFA _ _ "marked" _ _ _ _); (with_reducible refine' k_fa ?k1 ?k2 pt_Frame_marked rfl ?_); (case k1 => wtm_at "g_own"); (case k2 => wtm_at "g_put"); intro HH ww)
  | fail)
local macro_rules | `(tactic| wtm_at "g_mt") => `(tactic| first
  | ((with_reducible show kMt _ "__eq__" _ _ _); (with_reducible refine' w_mt1 ?k1 ln_Event___eq__ ?_); (case k1 => wtm_at "g_hp"))
  | ((with_reducible show kMt _ "add" _ _ _); (with_reducible refine' w_mt1 ?k1 ln_LineReport_add ?_); (case k1 => wtm_at "g_hp"))
  | ((with_reducible show kMt _ "__eq__" _ _ _); (with_reducible refine' w_mt1 ?k1 ln_Frame___eq__ ?_); (case k1 => wtm_at "g_hp"))
  | ((with_reducible show kMt _ "as_row" _ _ _); (with_reducible refine' w_mt1 ?k1 ln_Frame_as_row ?_); (case k1 => wtm_at "g_hp"))
  | ((with_reducible show kMt _ "weight" _ _ _); (with_reducible refine' w_mt1 ?k1 ln_Frame_weight ?_); (case k1 => wtm_at "g_hp"))
  | fail)
local macro_rules | `(tactic| wtm_at "g_mkk") => `(tactic| first
  | ((with_reducible refine' k_mkK' (fun _ => gk_Frame_init_k0) rfl rfl ?k1 ?_); (case k1 => wtm_at "g_own"); intro p dx HH ww)
  | fail)
local macro_rules | `(tactic| wtm_at "g_sz2") => `(tactic| first
  | (with_reducible assumption) | ((try simp only [kI_len]); omega)
  | fail)
local macro_rules | `(tactic| wtm_at "g_moreD") => `(tactic| first
  | ((with_reducible show kDNew _ _); (with_reducible refine' k_dnew ?k1 ?_); (case k1 => wtm_at "g_own"); intro p HH ww)
  | ((with_reducible show kDIn _ _ _ _); (with_reducible refine' k_dinI ?k1 ?_); (case k1 => wtm_at "g_hp"))
  | ((with_reducible show kDNin _ _ _ _); (with_reducible refine' k_dninI ?k1 ?_); (case k1 => wtm_at "g_hp"))
  | ((with_reducible show kDPut _ _ _ _ _ _); (with_reducible refine' k_dputI ?k1 ?k2 ?k3 ?_); (case k1 => wtm_at "g_own"); (case k2 => wtm_at "g_put"); (case k3 => wtm_at "g_sz2"); intro HH ww)
  | ((with_reducible show kDG2 _ _ _ _ _); (with_reducible refine' k_dg2I ?k1 ?_); (case k1 => wtm_at "g_hp"))
  | ((with_reducible show kDG _ _ _ _); (with_reducible refine' k_dgI ?k1 ?k2 ?_); (case k1 => wtm_at "g_hp"); (case k2 => (first | with_reducible assumption | fail)))
  | ((with_reducible show kDIn _ _ _ _); (with_reducible refine' k_dinS ?k1 ?_); (case k1 => wtm_at "g_hp"))
  | ((with_reducible show kDNin _ _ _ _); (with_reducible refine' k_dninS ?k1 ?_); (case k1 => wtm_at "g_hp"))
  | ((with_reducible show kDPut _ _ _ _ _ _); (with_reducible refine' k_dputS ?k1 ?k2 ?k3 ?_); (case k1 => wtm_at "g_own"); (case k2 => wtm_at "g_put"); (case k3 => wtm_at "g_sz2"); intro HH ww)
  | ((with_reducible show kDG2 _ _ _ _ _); (with_reducible refine' k_dg2S ?k1 ?_); (case k1 => wtm_at "g_hp"))
  | ((with_reducible show kDG _ _ _ _); (with_reducible refine' k_dgS ?k1 ?k2 ?_); (case k1 => wtm_at "g_hp"); (case k2 => (first | with_reducible assumption | fail)))
  | ((with_reducible show gDictD _ _ _); (with_reducible refine' k_dictD ?k1 ?k2 ?_); (case k1 => wtm_at "g_own"); (case k2 => wtm_at "g_hp"); intro p HH ww)
  | ((with_reducible show gLenD _ _ _); (with_reducible refine' k_lenD ?k1 ?_); (case k1 => wtm_at "g_hp"))
  | ((with_reducible refine' k_isD ?k1 ?_); (case k1 => wtm_at "g_hp"))
  | fail)
local macro_rules | `(tactic| wtm_at "g_more") => `(tactic| first
  | wtm_at "g_moreD"
  | ((with_reducible show rIx _ _ _ _ _); (with_reducible refine' w_ixT' ?k1 ?k2 ?_); (case k1 => wtm_at "g_sqt"); (case k2 => (first | rfl | fail)))
  | ((with_reducible refine' w_ixL ?k1 ix0 ?_); (case k1 => wtm_at "g_sq"))
  | ((with_reducible refine' w_ixL ?k1 ix1 ?_); (case k1 => wtm_at "g_sq"))
  | fail)
local macro_rules | `(tactic| wtm_at "g_own") => `(tactic| first
  | (with_reducible assumption)
  | ((with_reducible refine' Own.newT ?k1 ?k2); (case k1 => with_reducible assumption); (case k2 => wtm_at "g_own"))
  | ((with_reducible refine' Own.new ?k1 ?k2); (case k1 => with_reducible assumption); (case k2 => wtm_at "g_own"))
  | ((with_reducible refine' Own.put ?k1 ?k2); (case k1 => wtm_at "g_own"); (case k2 => wtm_at "g_put"))
  | ((with_reducible refine' Own.sel ?k1 ?k2); (case k1 => with_reducible assumption); (case k2 => wtm_at "g_sel"))
  | fail)
local macro_rules | `(tactic| wtm_at "g_sel") => `(tactic| first
  | (with_reducible exact Sel.rf) | (with_reducible exact Sel.nil)
  | ((first
      | ((with_reducible refine' Sel.cons ?k1 ?_); (case k1 => wtm_at "g_pk"))
      | (with_reducible refine' Sel.drop ?_)
      | fail); wtm_at "g_sel")
  | fail)
local macro_rules | `(tactic| wtm_at "g_got") => `(tactic| first
  | (with_reducible assumption) | (with_reducible exact Got.here)
  | ((with_reducible refine' Got.next ?k1); (case k1 => wtm_at "g_got"))
  | fail)
local macro_rules | `(tactic| wtm_at "g_gl") => `(tactic| first
  | (with_reducible assumption) | (with_reducible exact GotL.here) | (with_reducible exact GotL.hereS)
  | ((with_reducible refine' GotL.next ?k1); (case k1 => wtm_at "g_gl"))
  | fail)
local macro_rules | `(tactic| wtm_at "g_put") => `(tactic| first
  | (with_reducible assumption) | (with_reducible exact Put.here)
  | ((with_reducible refine' Put.next ?k1); (case k1 => wtm_at "g_put"))
  | fail)
local macro_rules | `(tactic| wtm_at "g_pk") => `(tactic| first
  | (with_reducible assumption) | (with_reducible exact Pick.keep) | (with_reducible exact Pick.here)
  | ((with_reducible refine' Pick.next ?k1); (case k1 => wtm_at "g_pk"))
  | fail)
local macro_rules | `(tactic| wtm_at "g_hp") => `(tactic| first
  | (with_reducible assumption) | (with_reducible exact upd_same)
  | ((with_reducible refine' Own.get ?k1 ?k2); (case k1 => wtm_at "g_own"); (case k2 => wtm_at "g_got"))
  | fail)
local macro_rules | `(tactic| wtm_at "g_sq") => `(tactic| first
  | (with_reducible assumption)
  | ((with_reducible refine' Own.sql ?k1 ?k2); (case k1 => wtm_at "g_own"); (case k2 => wtm_at "g_gl"))
  | ((with_reducible refine' SqL.of ?k1); (case k1 => wtm_at "g_hp"))
  | fail)
local macro_rules | `(tactic| wtm_at "g_sqt") => `(tactic| first
  | (with_reducible assumption) | ((with_reducible refine' SqT.of' ?k1); (case k1 => wtm_at "g_hp"))
  | fail)
local macro_rules | `(tactic| wtm_at "g_sz") => `(tactic| first
  | (with_reducible assumption) | (exact small_le rfl)
  | ((with_reducible refine' small16 ?k1); (case k1 => (try simp only [List.length_append, List.length_map, List.length_cons, List.length_nil, List.length_take, List.length_drop, List.length_set, List.length_range]); omega))
  | ((with_reducible refine' small16l ?k1); (case k1 => (try simp only [List.length_append, List.length_map, List.length_cons, List.length_nil, List.length_take, List.length_drop, List.length_set, List.length_range]); omega))
  | fail)
local macro_rules | `(tactic| wtm_at "g_gd") => `(tactic| first
  | (with_reducible assumption) | (with_reducible exact GotD.here) | (with_reducible exact GotD.hereR) | (with_reducible exact GotD.ints)
  | ((with_reducible refine' GotD.next ?k1); (case k1 => wtm_at "g_gd"))
  | fail)
local macro_rules | `(tactic| wtm_at "g_dp") => `(tactic| first
  | (with_reducible assumption)
  | ((with_reducible refine' Own.dpG ?k1 ?k2); (case k1 => wtm_at "g_own"); (case k2 => wtm_at "g_gd"))
  | fail)
local macro_rules | `(tactic| wtm_at "g_ar") => `(tactic| first
  | decide | (exact ⟨by decide, by decide⟩) | (exact Or.inr ⟨by decide, by decide⟩) | (exact Or.inl ⟨by decide, by decide⟩) | omega | (exact Or.inr ⟨by omega, by omega⟩) | (exact Or.inl ⟨by omega, by omega⟩) | (exact ⟨by omega, by omega⟩)
  | fail)
local macro_rules | `(tactic| wtm_at "g_ow") => `(tactic| first
  | wtm_at "g_own"
  | ((simp only [List.map_cons, List.map_nil]); wtm_at "g_own")
  | fail)
local macro_rules | `(tactic| wtm_at "g_callc") => `(tactic| first
  | ((with_reducible refine' o_digit ?k1 ?k2 ?k3 ?k4 ?_); (case k1 => wtm_at "g_own"); (case k2 => wtm_at "g_pk"); (case k3 => omega); (case k4 => omega); intro d HH d0 d1 ww)
  | ((with_reducible refine' o_start ?k1 ?_); (case k1 => wtm_at "g_own"); intro p HH ww)
  | ((with_reducible refine' c_cell ?k1 ?k2 ?_); (case k1 => wtm_at "g_sq"); (case k2 => omega); intro n)
  | ((with_reducible refine' c_isint ?_))
  | fail)
local macro_rules | `(tactic| wtm_at "g_st") => `(tactic| first
  | (with_reducible first | refine Stp.go ?_ | refine w_var rfl ?_ | refine w_small rfl ?_ | refine w_aug rfl ?_)
  | ((with_reducible show kTup _ _ _); first
      | ((with_reducible refine' k_tup rfl ?k1 ?_); (case k1 => wtm_at "g_own"); intro p HH ww)
      | fail)
  | ((with_reducible show kLst _ _ _); first
      | ((with_reducible refine' k_lst1R ?k1 ?_); (case k1 => wtm_at "g_own"); intro p HH ww)
      | ((with_reducible refine' k_lst1I ?k1 ?_); (case k1 => wtm_at "g_own"); intro p HH ww)
      | ((with_reducible refine' k_lst rfl ?k1 ?_); (case k1 => wtm_at "g_own"); intro p HH ww)
      | fail)
  | ((with_reducible show kMk _ _ _ _ _ _ _); first
      | ((with_reducible refine' k_mk ?k1 ?_); (case k1 => wtm_at "g_own"); intro p dx HH ww)
      | fail)
  | ((with_reducible show kMkK _ _ _ _ _ _ _ _ _ _ _); first
      | wtm_at "g_mkk"
      | fail)
  | ((with_reducible show gListOf _ _ _ _); first
      | ((with_reducible refine' k_listL ?k1 ?k2 ?_); (case k1 => wtm_at "g_own"); (case k2 => wtm_at "g_sq"); intro p HH ww)
      | ((with_reducible refine' k_listT ?k1 ?k2 ?_); (case k1 => wtm_at "g_own"); (case k2 => wtm_at "g_sqt"); intro p HH ww)
      | fail)
  | ((with_reducible show gTupOf _ _ _ _); first
      | ((with_reducible refine' k_tupL ?k1 ?k2 ?_); (case k1 => wtm_at "g_own"); (case k2 => wtm_at "g_sq"); intro p HH ww)
      | fail)
  | ((with_reducible show rSlL _ _ _ _ _ _); first
      | ((with_reducible refine' k_slfromRs ?k1 ?k2 ?_); (case k1 => wtm_at "g_own"); (case k2 => wtm_at "g_sq"); intro p HH ww)
      | ((with_reducible refine' k_slfromR1 ?k1 ?k2 ?_); (case k1 => wtm_at "g_own"); (case k2 => wtm_at "g_sq"); intro p HH ww)
      | ((with_reducible refine' k_slfromRn ?k1 ?k2 ?_); (case k1 => wtm_at "g_own"); (case k2 => wtm_at "g_sq"); intro p HH ww)
      | ((with_reducible refine' k_sltoR1 ?k1 ?k2 ?_); (case k1 => wtm_at "g_own"); (case k2 => wtm_at "g_sq"); intro p HH ww)
      | ((with_reducible refine' k_sltoRn ?k1 ?k2 ?_); (case k1 => wtm_at "g_own"); (case k2 => wtm_at "g_sq"); intro p HH ww)
      | ((with_reducible refine' k_slfromIs ?k1 ?k2 ?_); (case k1 => wtm_at "g_own"); (case k2 => wtm_at "g_sq"); intro p HH ww)
      | ((with_reducible refine' k_slfromI1 ?k1 ?k2 ?_); (case k1 => wtm_at "g_own"); (case k2 => wtm_at "g_sq"); intro p HH ww)
      | ((with_reducible refine' k_slfromIn ?k1 ?k2 ?_); (case k1 => wtm_at "g_own"); (case k2 => wtm_at "g_sq"); intro p HH ww)
      | ((with_reducible refine' k_sltoI1 ?k1 ?k2 ?_); (case k1 => wtm_at "g_own"); (case k2 => wtm_at "g_sq"); intro p HH ww)
      | ((with_reducible refine' k_sltoIn ?k1 ?k2 ?_); (case k1 => wtm_at "g_own"); (case k2 => wtm_at "g_sq"); intro p HH ww)
      | ((with_reducible refine' k_slfromI ?k1 ?k2 ?k3 ?_); (case k1 => wtm_at "g_own"); (case k2 => wtm_at "g_sq"); (case k3 => omega); intro p HH ww)
      | ((with_reducible refine' k_sltoI ?k1 ?k2 ?k3 ?_); (case k1 => wtm_at "g_own"); (case k2 => wtm_at "g_sq"); (case k3 => omega); intro p HH ww)
      | ((with_reducible refine' k_slmidI ?k1 ?k2 ?k3 ?k4 ?_); (case k1 => wtm_at "g_own"); (case k2 => wtm_at "g_sq"); (case k3 => omega); (case k4 => omega); intro p HH ww)
      | ((with_reducible refine' k_slfromR ?k1 ?k2 ?k3 ?_); (case k1 => wtm_at "g_own"); (case k2 => wtm_at "g_sq"); (case k3 => omega); intro p HH ww)
      | ((with_reducible refine' k_sltoR ?k1 ?k2 ?k3 ?_); (case k1 => wtm_at "g_own"); (case k2 => wtm_at "g_sq"); (case k3 => omega); intro p HH ww)
      | ((with_reducible refine' k_slfrom ?k1 ?k2 ?k3 ?_); (case k1 => wtm_at "g_own"); (case k2 => wtm_at "g_sq"); (case k3 => omega); intro p HH ww)
      | ((with_reducible refine' k_slto ?k1 ?k2 ?k3 ?_); (case k1 => wtm_at "g_own"); (case k2 => wtm_at "g_sq"); (case k3 => omega); intro p HH ww)
      | ((with_reducible refine' k_slmid ?k1 ?k2 ?k3 ?k4 ?_); (case k1 => wtm_at "g_own"); (case k2 => wtm_at "g_sq"); (case k3 => omega); (case k4 => omega); intro p HH ww)
      | ((with_reducible refine' k_slinitR ?k1 ?k2 ?_); (case k1 => wtm_at "g_own"); (case k2 => wtm_at "g_sq"); intro p HH ww)
      | fail)
  | ((with_reducible show rCat _ _ _ _); first
      | ((with_reducible refine' k_catI ?k1 ?k2 ?k3 ?k4 ?_); (case k1 => wtm_at "g_own"); (case k2 => wtm_at "g_got"); (case k3 => wtm_at "g_got"); (case k4 => wtm_at "g_sz"); intro p HH ww)
      | ((with_reducible refine' k_catR ?k1 ?k2 ?k3 ?k4 ?_); (case k1 => wtm_at "g_own"); (case k2 => wtm_at "g_got"); (case k3 => wtm_at "g_got"); (case k4 => wtm_at "g_sz"); intro p HH ww)
      | ((with_reducible refine' k_cat ?k1 ?k2 ?k3 ?k4 ?_); (case k1 => wtm_at "g_own"); (case k2 => wtm_at "g_got"); (case k3 => wtm_at "g_got"); (case k4 => wtm_at "g_sz"); intro p HH ww)
      | fail)
  | ((with_reducible show rAppend _ _ _ _); first
      | ((with_reducible refine' k_appI ?k1 ?k2 ?k3 ?_); (case k1 => wtm_at "g_own"); (case k2 => wtm_at "g_put"); (case k3 => wtm_at "g_sz"); intro HH ww)
      | ((with_reducible refine' k_appR ?k1 ?k2 ?k3 ?_); (case k1 => wtm_at "g_own"); (case k2 => wtm_at "g_put"); (case k3 => wtm_at "g_sz"); intro HH ww)
      | ((with_reducible refine' k_app ?k1 ?k2 ?k3 ?_); (case k1 => wtm_at "g_own"); (case k2 => wtm_at "g_put"); (case k3 => wtm_at "g_sz"); intro HH ww)
      | fail)
  | ((with_reducible show rExtend _ _ _ _); first
      | ((with_reducible refine' k_extendI ?k1 ?k2 ?k3 ?k4 ?_); (case k1 => wtm_at "g_own"); (case k2 => wtm_at "g_put"); (case k3 => wtm_at "g_got"); (case k4 => wtm_at "g_sz"); intro HH ww)
      | fail)
  | ((with_reducible refine' ty_list ?k1 ?_); (case k1 => wtm_at "g_hp"))
  | ((with_reducible refine' k_truR ?k1 ?_); (case k1 => wtm_at "g_sq"))
  | ((with_reducible refine' k_truI ?k1 ?_); (case k1 => wtm_at "g_sq"))
  | ((with_reducible refine' k_truL ?k1 ?_); (case k1 => wtm_at "g_sq"))
  | ((with_reducible show gLen _ _ _ _); first
      | ((with_reducible refine' w_lenLI ?k1 ?_); (case k1 => wtm_at "g_sq"))
      | ((with_reducible refine' w_lenLR ?k1 ?_); (case k1 => wtm_at "g_sq"))
      | ((with_reducible refine' w_lenL ?k1 ?_); (case k1 => wtm_at "g_sq"))
      | ((with_reducible refine' w_lenT ?k1 ?_); (case k1 => wtm_at "g_sqt"))
      | fail)
  | ((with_reducible show rIxT _ _ _ _ _); first
      | ((with_reducible refine' w_ixT ?k1 ?k2 ?_); (case k1 => wtm_at "g_sqt"); (case k2 => first | rfl | fail))
      | fail)
  | ((with_reducible show rIxL _ _ _ _ _); first
      | ((with_reducible refine' w_ixRc ?k1 ?_); (case k1 => wtm_at "g_sq"))
      | ((with_reducible refine' w_ixR0 ?k1 ?k2 ?_); (case k1 => wtm_at "g_sq"); (case k2 => with_reducible assumption))
      | ((with_reducible refine' w_ixR ?k1 ?k2 ?_); (case k1 => wtm_at "g_sq"); (case k2 => with_reducible assumption))
      | ((with_reducible refine' w_ixLastR ?k1 ?k2 ?_); (case k1 => wtm_at "g_sq"); (case k2 => with_reducible assumption))
      | ((with_reducible refine' w_ixI ?k1 ?k2 ?k3 ?_); (case k1 => wtm_at "g_sq"); (case k2 => omega); (case k3 => omega))
      | fail)
  | ((with_reducible show gTup _ _ _ _ _ _ _); first
      | ((with_reducible refine' w_gTup ?k1 ?k2 ?_); (case k1 => wtm_at "g_sqt"); (case k2 => rfl))
      | fail)
  | (with_reducible refine w_gCons ?_)
  | (with_reducible refine w_gNil ?_)
  | ((with_reducible show rI _ _ _ _ _ _); first
      | ((with_reducible refine' w_I ?k1 ?_); (case k1 => wtm_at "g_ar"))
      | fail)
  | ((with_reducible show rReverse _ _ _ _); first
      | ((with_reducible refine' k_reverse ?k1 ?k2 ?_); (case k1 => wtm_at "g_own"); (case k2 => wtm_at "g_put"); intro HH ww)
      | fail)
  | ((with_reducible show rIsi _ _ _ _); first
      | ((with_reducible refine' w_isi_ll ?k1 ?_); (case k1 => wtm_at "g_hp"))
      | ((with_reducible refine' w_isi_tt ?k1 ?_); (case k1 => wtm_at "g_hp"))
      | ((with_reducible refine' w_isi_lt ?k1 ?_); (case k1 => wtm_at "g_hp"))
      | ((with_reducible refine' w_isi_tl ?k1 ?_); (case k1 => wtm_at "g_hp"))
      | fail)
  | ((with_reducible refine' w_ll ?k1 ?k2 ?_); (case k1 => rfl); (case k2 => rfl))
  | wtm_at "g_get"
  | wtm_at "g_mt"
  | ((with_reducible show kFld _ _ _ _ _ _ _); first
      | wtm_at "g_set"
      | fail)
  | ((with_reducible show kFA _ _ _ _ _ _ _); first
      | wtm_at "g_set2"
      | fail)
  | wtm_at "g_call"
  | wtm_at "g_more"
  | wtm_at "g_callc"
  | wtm_at "g_get2"
  | fail)
local macro_rules | `(tactic| wtm_at "g_go") => `(tactic| repeat wtm_at "g_st")
local macro_rules | `(tactic| wtm_at "g_ifo") => `(tactic| first
  | (refine if_nno rfl ?_) | (refine if_yes rfl ?_)
  | (refine if_no (by omega) ?_)
  | (refine if_yes (by omega) ?_)
  | (refine if_nno (by omega) ?_)
  | (refine if_nyes (by omega) ?_)
  | (refine if_nno (decide_eq_false (by omega)).symm ?_)
  | (refine if_nno (decide_eq_true (by omega)).symm ?_)
  | fail)
local macro_rules | `(tactic| wtm_at "g_goo") => `(tactic| repeat (first | wtm_at "g_st" | wtm_at "g_ifo"))
section
variable {K : PySem.W.Frag} {mg : Str → Option Value} {base : Heap}
theorem pure_law_cell (T : TX K mg base) (vs : List V) (H : Hp) (Q : VK) (E : XK) (h : sp_law_cell K vs H Q E) : t_law_cell K E { nx := fun _ H' => Q .non H', rt := Q } (start N_law_cell vs) H := g_law_cell vs H Q E h
theorem pure_law_digit (T : TX K mg base) (vs : List V) (H : Hp) (Q : VK) (E : XK) (h : sp_law_digit K vs H Q E) : t_law_digit K E { nx := fun _ H' => Q .non H', rt := Q } (start N_law_digit vs) H := g_law_digit vs H Q E h
theorem pure_law_start (T : TX K mg base) (vs : List V) (H : Hp) (Q : VK) (E : XK) (h : sp_law_start K vs H Q E) : t_law_start K E { nx := fun _ H' => Q .non H', rt := Q } (start N_law_start vs) H := g_law_start vs H Q E h
end
section
variable {K : PySem.W.Frag} {mg : Str → Option Value} {base : Heap}
theorem pure_Frame_as_row (T : TX K mg base) (vs : List V) (H : Hp) (Q : VK) (E : XK) (h : sp_Frame_as_row K vs H Q E) : t_Frame_as_row K E { nx := fun _ H' => Q .non H', rt := Q } (start N_Frame_as_row vs) H := by
  obtain ⟨p, f, R, rfl, w, q⟩ := h
  obtain ⟨dx, l, w⟩ := fr_out w
  unfold t_Frame_as_row
  wtm_at "g_go"
  exact q _ _ l (by wtm_at "g_own")
theorem pure_Frame_weight (T : TX K mg base) (vs : List V) (H : Hp) (Q : VK) (E : XK) (h : sp_Frame_weight K vs H Q E) : t_Frame_weight K E { nx := fun _ H' => Q .non H', rt := Q } (start N_Frame_weight vs) H := by
  obtain ⟨p, f, R, rfl, w, q⟩ := h
  obtain ⟨dx, l, w⟩ := fr_out w
  unfold t_Frame_weight
  wtm_at "g_go"
  exact q _ (by wtm_at "g_own")
theorem pure_Frame_init (T : TX K mg base) (vs : List V) (H : Hp) (Q : VK) (E : XK) (h : sp_Frame_init K vs H Q E) : t_Frame_init K E { nx := fun _ H' => Q .non H', rt := Q } (start N_Frame_init vs) H := by
  obtain ⟨p, dx, l, f, R, rfl, w, g, q⟩ := h
  unfold t_Frame_init
  wtm_at "g_go"
  rename_i l2 H1 w1 H2 w2 H3 w3 H4 w4 H5 w5
  have w6 : Own (pt p (.ins (He.ga K "Frame") dx (fFrame (.str f.kind) (.int f.sender) (.int f.target) (.ref l2) (.int f.birth) (.int f.hops) (.bl f.marked))) :: pt l2 (.lst (f.oct.map V.int)) :: R) H5 := by wtm_at "g_own"
  exact q _ (fr_in (w6.toRo.swap.toRo.swap))
theorem pure_Frame__eq (T : TX K mg base) (vs : List V) (H : Hp) (Q : VK) (E : XK) (h : sp_Frame__eq K vs H Q E) : t_Frame__eq K E { nx := fun _ H' => Q .non H', rt := Q } (start N_Frame__eq vs) H := by
  obtain ⟨p, a, f, g, R, rfl, w, q⟩ := h
  obtain ⟨da, la, w⟩ := fr_out w
  obtain ⟨dp, lp, w⟩ := fr_out (w.pick (.next (.next .here)))
  have q := q _ w.tail.tail.tail.tail
  have no : ∀ h : ¬ f = g, Q (.bl false) H := fun h => by
    rw [decide_eq_false h] at q
    exact q
  unfold t_Frame__eq
  wtm_at "g_go"
  refine w_isi_own (by wtm_at "g_hp") (insB_ok (T.b.ex_ 0)) (.own _) (of_decide_eq_true (T.b.ex_ 1)) ?_
  refine ⟨true, rfl, ?_⟩
  wtm_at "g_go"
  refine if_d (fun h1 => ?_) (fun z => no fun e => z (by rw [e]))
  wtm_at "g_go"
  refine if_d (fun h2 => ?_) (fun z => no fun e => z (by rw [e]))
  wtm_at "g_go"
  refine if_d (fun h3 => ?_) (fun z => no fun e => z (by rw [e]))
  wtm_at "g_go"
  refine w_eqLI (xs := f.oct) (ys := g.oct) (by wtm_at "g_sq") (by wtm_at "g_sq") ?_
  wtm_at "g_go"
  refine if_d (fun h4 => ?_) (fun z => no fun e => z (by rw [e]))
  wtm_at "g_go"
  refine if_d (fun h5 => ?_) (fun z => no fun e => z (by rw [e]))
  wtm_at "g_go"
  refine if_d (fun h6 => ?_) (fun z => no fun e => z (by rw [e]))
  wtm_at "g_go"
  have e : decide (f = g) = decide (f.marked = g.marked) := decide_eq_decide.mpr ⟨fun z => by rw [z], fun z => by
    cases f
    cases g
    simp only at *
    subst h1 h2 h3 h4 h5 h6 z
    rfl⟩
  rw [← e]
  exact q
theorem pure_Event_init (T : TX K mg base) (vs : List V) (H : Hp) (Q : VK) (E : XK) (h : sp_Event_init K vs H Q E) : t_Event_init K E { nx := fun _ H' => Q .non H', rt := Q } (start N_Event_init vs) H := by
  obtain ⟨p, dx, f, e, R, rfl, w, q⟩ := h
  unfold t_Event_init
  wtm_at "g_go"
  rename_i H1 w1 H2 w2 H3 w3 H4 w4 H5 w5
  exact q _ (ev_in w5.toRo)
theorem pure_Event__eq (T : TX K mg base) (vs : List V) (H : Hp) (Q : VK) (E : XK) (h : sp_Event__eq K vs H Q E) : t_Event__eq K E { nx := fun _ H' => Q .non H', rt := Q } (start N_Event__eq vs) H := by
  obtain ⟨p, v, f, R, rfl, w0, ⟨a, g, rfl, w, q⟩ | ⟨t, xs, rfl, gt, q⟩⟩ := h
  · obtain ⟨da, fa, w⟩ := ev_out w
    obtain ⟨dp, fp, w⟩ := ev_out (w.pick (.next (.next .here)))
    have q' := q _ w.tail.tail.tail.tail
    have no : ∀ h : ¬ f = g, Q (.bl false) H := fun h => by
      rw [decide_eq_false h] at q'
      exact q'
    unfold t_Event__eq
    wtm_at "g_go"
    refine w_isi_own (by wtm_at "g_hp") (insB_ok (T.b.ex_ 2)) (.own _) (of_decide_eq_true (T.b.ex_ 3)) ?_
    refine ⟨true, rfl, ?_⟩
    wtm_at "g_go"
    refine if_d (fun h1 => ?_) (fun z => no fun e => z (by rw [e]))
    wtm_at "g_go"
    refine if_d (fun h2 => ?_) (fun z => no fun e => z (by rw [e]))
    wtm_at "g_go"
    refine if_d (fun h3 => ?_) (fun z => no fun e => z (by rw [e]))
    wtm_at "g_go"
    refine if_d (fun h4 => ?_) (fun z => no fun e => z (by rw [e]))
    wtm_at "g_go"
    have w1 := w.sel (Sel.cons (.next (.next (.next .here))) (Sel.cons (.next .here) Sel.rf))
    obtain ⟨dfp, lfp, w2⟩ := fr_out (w1.pick (.next (.keep (P := FrP K fp f.fr))))
    obtain ⟨dfa, lfa, w3⟩ := fr_out (w1.pick (.keep (P := FrP K fa g.fr)))
    refine w_own w2.get' (tyR_ins w3.get') nf_same ?_
    refine ⟨fp, fa, f.fr, g.fr, _, rfl, w1, fun H1 w4 => ?_⟩
    refine ⟨_, rfl, ?_⟩
    have e : decide (f = g) = decide (f.fr = g.fr) := decide_eq_decide.mpr ⟨fun z => by rw [z], fun z => by
      cases f
      cases g
      simp only at *
      subst h1 h2 h3 h4 z
      rfl⟩
    rw [← e]
    exact q _ w4.tail.tail
  · have hy := w0.tail.get gt
    unfold t_Event__eq
    wtm_at "g_go"
    refine w_isi (.own _) (.base (.tup hy)) (of_decide_eq_true (T.b.ex_ 4)) ?_
    exact ⟨false, rfl, q _ w0.tail⟩
end
section
variable {K : PySem.W.Frag} {mg : Str → Option Value} {base : Heap}
theorem kS_len {rows : List (Str × Int)} : (kS rows).length = rows.length := List.length_map _
theorem valV_kS (rows : List (Str × Int)) (p : Str) : valV (kS rows) (.inr p : Key) = (lkS rows p).map V.int := by
  induction rows with
  | nil => rfl
  | cons r rs ih =>
    by_cases e : r.1 = p
    · have h1 : lkS (r :: rs) p = some r.2 := by unfold lkS; rw [List.find?_cons, decide_eq_true e]; rfl
      rw [h1]
      exact valV_pos (p := (Sum.inr r.1, V.int r.2)) (by rw [e])
    · have h1 : lkS (r :: rs) p = lkS rs p := by unfold lkS; rw [List.find?_cons, decide_eq_false e]
      rw [h1, ← ih]
      exact valV_neg (p := (Sum.inr r.1, V.int r.2)) (fun z => e (Sum.inr.inj z))
theorem lkS_none {rows : List (Str × Int)} {p : Str} (h : (rows.any fun r => decide (r.1 = p)) = false) : lkS rows p = none := by
  unfold lkS
  rw [List.find?_eq_none.mpr]
  · rfl
  · intro x hx
    have := List.any_eq_false.mp h x hx
    exact this
theorem put_incr {rows : List (Str × Int)} {p : Str} : putK (kS rows) (.inr p) (.int ((lkS rows p).getD 0 + 1)) = kS (incr rows p) := by
  have e : ((kS rows).any fun kv => decide (kv.1 = (Sum.inr p : Key))) = (rows.any fun r => decide (r.1 = p)) := by
    unfold kS
    rw [List.any_map]
    congr 1
    funext r
    show decide ((Sum.inr r.1 : Key) = Sum.inr p) = decide (r.1 = p)
    exact decide_eq_decide.mpr ⟨Sum.inr.inj, fun z => by rw [z]⟩
  unfold putK incr
  rw [e]
  split
  · unfold kS
    rw [List.map_map, List.map_map]
    refine List.map_congr_left fun r _ => ?_
    show (if (Sum.inr r.1 : Key) = Sum.inr p then _ else _) = _
    by_cases z : r.1 = p
    · rw [if_pos (by rw [z])]
      show _ = (Sum.inr (if r.1 = p then _ else _ : Str × Int).1, V.int (if r.1 = p then _ else _ : Str × Int).2)
      rw [if_pos z]
    · rw [if_neg (fun y => z (Sum.inr.inj y))]
      show _ = (Sum.inr (if r.1 = p then _ else _ : Str × Int).1, V.int (if r.1 = p then _ else _ : Str × Int).2)
      rw [if_neg z]
  · rename_i h
    rw [lkS_none (Bool.eq_false_iff.mpr h)]
    unfold kS
    rw [List.map_append]
    rfl
theorem pure_LineReport_init (T : TX K mg base) (vs : List V) (H : Hp) (Q : VK) (E : XK) (h : sp_LineReport_init K vs H Q E) : t_LineReport_init K E { nx := fun _ H' => Q .non H', rt := Q } (start N_LineReport_init vs) H := by
  obtain ⟨p, dx, R, rfl, w, q⟩ := h
  unfold t_LineReport_init
  wtm_at "g_go"
  rename_i d H6 w6 H7 w7
  refine q _ (re_in (dx := dx) (d := d) (r := Re.zero) ?_)
  show Own (pt p (.ins (He.ga K "LineReport") dx (fLineReport (.int 0) (.int 0) (.int 0) (.int 0) (.int 0) (.ref d))) :: pt d (.dK []) :: R) H7
  wtm_at "g_own"
theorem pure_LineReport_add (T : TX K mg base) (vs : List V) (H : Hp) (Q : VK) (E : XK) (h : sp_LineReport_add K vs H Q E) : t_LineReport_add K E { nx := fun _ H' => Q .non H', rt := Q } (start N_LineReport_add vs) H := by
  obtain ⟨p, a, r, e, R, rfl, hl, w, q⟩ := h
  obtain ⟨de, f, w⟩ := ev_out w.swap
  obtain ⟨dr, d, w⟩ := re_out (w.pick (.next (.next .here)))
  unfold t_LineReport_add
  wtm_at "g_go"
  refine if_d (fun h1 => ?_) (fun h1 => ?_)
  · wtm_at "g_go"
    rename_i H1 w1
    refine q _ ?_
    rw [show r.add e = { r with ent := r.ent + 1 } from if_pos h1]
    exact re_in (r := { r with ent := r.ent + 1 }) (dx := dr) (d := d) (by wtm_at "g_own")
  wtm_at "g_go"
  refine if_d (fun h2 => ?_) (fun h2 => ?_)
  · have ea : r.add e = { r with left := r.left + 1, oct := r.oct + e.fr.wt, mark := if e.fr.marked = true then r.mark + 1 else r.mark } := (if_neg h1).trans (if_pos h2)
    rw [ea] at q
    obtain ⟨df, lf, w⟩ := fr_out (w.pick (.next (.next (.next (.keep (P := FrP K f e.fr))))))
    wtm_at "g_go"
    rename_i H1 w1
    refine ⟨f, e.fr, _, rfl, w1.pick (P := FrP K f e.fr) (by wtm_at "g_pk"), fun H2 w2 => ?_⟩
    wtm_at "g_go"
    rename_i H3 w3
    refine if_b (fun hm => ?_) (fun hm => ?_)
    · rw [if_pos hm] at q
      wtm_at "g_go"
      rename_i H4 w4
      exact q _ (re_in (r := ⟨r.ent, r.left + 1, r.drop, r.mark + 1, r.oct + e.fr.wt, r.ws⟩) (dx := dr) (d := d) (by wtm_at "g_own"))
    · rw [if_neg (by rw [hm]; exact Bool.false_ne_true)] at q
      wtm_at "g_go"
      exact q _ (re_in (r := ⟨r.ent, r.left + 1, r.drop, r.mark, r.oct + e.fr.wt, r.ws⟩) (dx := dr) (d := d) (by wtm_at "g_own"))
  · have ea : r.add e = { r with drop := r.drop + 1, ws := incr r.ws e.word } := (if_neg h1).trans (if_neg h2)
    rw [ea] at q
    wtm_at "g_go"
    rename_i H1 w1
    rw [valV_kS, show ((lkS r.ws e.word).map V.int).getD (V.int 0) = V.int ((lkS r.ws e.word).getD 0) by cases lkS r.ws e.word <;> rfl]
    wtm_at "g_go"
    refine k_dputS (kvs := kS r.ws) w1 (by rw [put_incr]; wtm_at "g_put") (by rw [kS_len]; omega) fun H2 w2 => ?_
    exact q _ (re_in (r := ⟨r.ent, r.left, r.drop + 1, r.mark, r.oct, incr r.ws e.word⟩) (dx := dr) (d := d) (by wtm_at "g_own"))
theorem pure_law_row (T : TX K mg base) (vs : List V) (H : Hp) (Q : VK) (E : XK) (h : sp_law_row K vs H Q E) : t_law_row K E { nx := fun _ H' => Q .non H', rt := Q } (start N_law_row vs) H := by
  obtain ⟨a, e, R, rfl, w, q⟩ := h
  obtain ⟨dx, f, w⟩ := ev_out w
  obtain ⟨df, lf, w⟩ := fr_out (w.pick (.next (.keep (P := FrP K f e.fr))))
  unfold t_law_row
  wtm_at "g_go"
  refine ⟨f, e.fr, _, rfl, w.pick (P := FrP K f e.fr) (by wtm_at "g_pk"), fun H1 t l w1 => ?_⟩
  wtm_at "g_go"
  rename_i r H2 w2
  refine q _ r (rw_in (f := t) (o := l) ?_)
  wtm_at "g_own"
theorem ixW {i : Int} (h0 : 0 ≤ i) (h1 : i < 12) : ∃ w ∈ words, atI (words.map V.str) i = some (.str w) := by
  obtain ⟨n, rfl⟩ : ∃ n : Nat, i = (n : Int) := ⟨i.toNat, by omega⟩
  have hl : n < words.length := by
    show n < 12
    omega
  exact ⟨words[n], List.getElem_mem hl, atI_nat (by rw [List.getElem?_map, List.getElem?_eq_getElem hl]; rfl)⟩
theorem pure_law_event (T : TX K mg base) (vs : List V) (H : Hp) (Q : VK) (E : XK) (h : sp_law_event K vs H Q E) : t_law_event K E { nx := fun _ H' => Q .non H', rt := Q } (start N_law_event vs) H := by
  obtain ⟨s, n, R, rfl, n0, n1, w, q⟩ := h
  unfold t_law_event
  wtm_at "g_go"
  rename_i wt H1 w1 pt2 H2 w2 d H3 d0 d1 w3
  obtain ⟨m, m0, m1, hm⟩ : ∃ m : Int, 0 < m ∧ m ≤ 50 ∧ atI [V.int 4, V.int 50] d = some (.int m) := by
    have : d = 0 ∨ d = 1 := by omega
    rcases this with rfl | rfl
    · exact ⟨4, by decide, by decide, atI_nat (j := 0) rfl⟩
    · exact ⟨50, by decide, by decide, atI_nat (j := 1) rfl⟩
  refine w_ixT (by wtm_at "g_sqt") hm ?_
  wtm_at "g_go"
  rename_i c H4 c0 c1 w4
  have w5 : Own (Drw s :: ro wt (.tup (words.map V.str)) :: R) H4 := by
    show Own (Drw s :: ro wt (.tup [V.str "entered", V.str "entered", V.str "left", V.str "left", V.str "left", V.str "full", V.str "cut", V.str "down", V.str "old", V.str "hops", V.str "no way", V.str "stray"]) :: R) H4
    wtm_at "g_own"
  refine lcR1FO (n := c.toNat) (fun i A L => A = (List.replicate i (3 : Int)).map V.int ∧ L = Drw s :: ro wt (.tup (words.map V.str)) :: R) w5 ⟨rfl, rfl⟩ (by omega) (by omega) ?_ ?_
  · rintro i D A L H5 hi ⟨rfl, rfl⟩ w6
    wtm_at "g_go"
    exact lc_addO w6 .here (small16l (by rw [List.length_map, List.length_replicate]; omega)) ⟨by rw [List.replicate_succ', List.map_append]; rfl, rfl⟩
  rintro D A L H5 ⟨rfl, rfl⟩ w6
  wtm_at "g_go"
  rename_i mk H6 k0 k1 w7 f df H7 w8
  refine ⟨f, df, D, ⟨"part", 1, 2, List.replicate c.toNat 3, 0, 15, decide (mk = 0)⟩, _, rfl, w8, .next .here, fun H8 w9 => ?_⟩
  wtm_at "g_go"
  rename_i tk H9 t0 t1 w10 wd H10 d2 d3 w11
  obtain ⟨z, hz, ez⟩ := ixW d2 d3
  refine w_ixT (xs := words.map V.str) (by wtm_at "g_sqt") ez ?_
  wtm_at "g_go"
  rename_i li H11 l0 l1 w12 si H12 s0 s1 w13 a da H13 w14
  refine ⟨a, da, f, ⟨tk, z, li, si, ⟨"part", 1, 2, List.replicate c.toNat 3, 0, 15, decide (mk = 0)⟩⟩, _, rfl, w14.sel (Sel.cons .here (Sel.cons (by wtm_at "g_pk") Sel.rf)), fun H14 w15 => ?_⟩
  wtm_at "g_go"
  refine q _ a ⟨tk, z, li, si, ⟨"part", 1, 2, List.replicate c.toNat 3, 0, 15, decide (mk = 0)⟩⟩ ⟨hz, ?_, by show PyData.strOk "part" = true; decide +kernel⟩ l0 l1 (by show si = 0 ∨ si = 1; omega) (by wtm_at "g_own")
  show (List.replicate c.toNat (3 : Int)).length ≤ 50
  rw [List.length_replicate]
  omega
end
section
variable {K : PySem.W.Frag} {mg : Str → Option Value} {base : Heap}
theorem rep_snoc {es : List Ev} {e : Ev} {i s : Int} : rep (es ++ [e]) i s = if e.link = i ∧ e.side = s then (rep es i s).add e else rep es i s := by
  unfold rep own
  rw [List.filter_append, List.foldl_append]
  by_cases h : e.link = i ∧ e.side = s
  · rw [if_pos h, List.filter_cons_of_pos (by simp [h])]
    rfl
  · rw [if_neg h, List.filter_cons_of_neg (by simpa using h)]
    rfl
theorem incr_len {ws : List (Str × Int)} {w : Str} : (incr ws w).length ≤ ws.length + 1 := by
  unfold incr
  split
  · rw [List.length_map]; omega
  · rw [List.length_append]; simp
theorem add_len {r : Re} {e : Ev} : (r.add e).ws.length ≤ r.ws.length + 1 := by
  unfold Re.add
  split
  · exact Nat.le_succ _
  · split
    · exact Nat.le_succ _
    · exact incr_len
theorem rep_len {es : List Ev} {i s : Int} : (rep es i s).ws.length ≤ es.length := by
  have : ∀ (l : List Ev) (r : Re), (l.foldl Re.add r).ws.length ≤ r.ws.length + l.length := by
    intro l
    induction l with
    | nil => intro r; exact Nat.le_refl _
    | cons e l ih =>
      intro r
      have := ih (r.add e)
      have := add_len (r := r) (e := e)
      rw [List.foldl_cons, List.length_cons]
      omega
  have h1 := this (own es i s) Re.zero
  have h2 : (own es i s).length ≤ es.length := List.length_filter_le _ _
  unfold rep
  have : Re.zero.ws.length = 0 := rfl
  omega
theorem set_range {α : Type} {n j : Nat} {f g : Nat → α} {v : α} (hj : g j = v) (h : ∀ k, k ≠ j → g k = f k) : ((List.range n).map f).set j v = (List.range n).map g := by
  apply List.ext_getElem?
  intro k
  rw [List.getElem?_set, List.getElem?_map, List.getElem?_map]
  by_cases e : j = k
  · subst e
    rw [if_pos rfl, List.length_map, List.length_range]
    by_cases l : j < n
    · rw [if_pos l, List.getElem?_range l, ← hj]
      rfl
    · rw [if_neg l, List.getElem?_eq_none (by rw [List.length_range]; omega)]
      rfl
  · rw [if_neg e]
    by_cases l : k < n
    · rw [List.getElem?_range l]
      show some (f k) = some (g k)
      rw [h k (fun z => e z.symm)]
    · rw [List.getElem?_eq_none (by rw [List.length_range]; omega)]
      rfl
theorem tell_re_m {p : Addr} {r : Re} {m : Str} (ln : ∀ {x0 x1 x2 x3 x4 x5 : V}, (fLineReport x0 x1 x2 x3 x4 x5).lookup m = none) : TMt (ReP K p r) p (He.ga K "LineReport") m := fun h ⟨dx, d, h1, h2, _, s1, _, p, _⟩ H e => ⟨dx, _, e _ _ _ (s1 _ _ p), ln⟩
theorem tell_ev {p : Addr} {x : Ev} : Tell (EvP K p x) (fun H => ∃ dx f, H p = some (.ins (He.ga K "Event") dx (fEvent (.int x.tick) (.str x.word) (.int x.link) (.int x.side) (.ref f)))) := fun h ⟨dx, f, h1, h2, _, s1, _, p, _⟩ H e => ⟨dx, f, e _ _ _ (s1 _ _ p)⟩
theorem pure_report_lines (T : TX K mg base) (vs : List V) (H : Hp) (Q : VK) (E : XK) (h : sp_report_lines K vs H Q E) : t_report_lines K E { nx := fun _ H' => Q .non H', rt := Q } (start N_report_lines vs) H := by
  obtain ⟨l, n, as, es, R, rfl, n10, e100, hes, w, gl, pk, q⟩ := h
  have alen := (w.pick pk).bigLen
  unfold t_report_lines
  wtm_at "g_go"
  refine lcR1FO (n := n) (fun i A L => ∃ ps : List Addr, A = ps.map V.ref ∧ ps.length = i ∧ L = big (PrP K) ps (List.replicate i (Re.zero, Re.zero)) :: R) (Own.bigNil w) ⟨[], rfl, rfl, rfl⟩ rfl (by omega) ?_ ?_
  · rintro i D A L H1 hi ⟨ps, rfl, hps, rfl⟩ w1
    wtm_at "g_go"
    rename_i p1 dx1 H2 w2
    refine ⟨p1, dx1, _, rfl, w2, fun H3 w3 => ?_⟩
    wtm_at "g_go"
    rename_i p2 dx2 H4 w4
    refine ⟨p2, dx2, _, rfl, w4, fun H5 w5 => ?_⟩
    wtm_at "g_go"
    rename_i p3 H6 w6
    have w7 : Own (pt p3 (.lst [.ref p1, .ref p2]) :: ReP K p1 Re.zero :: ReP K p2 Re.zero :: pt D (.lst (ps.map V.ref)) :: big (PrP K) ps (List.replicate i (Re.zero, Re.zero)) :: R) H6 := by
      wtm_at "g_own"
    have w8 : Own (PrP K p3 (Re.zero, Re.zero) :: pt D (.lst (ps.map V.ref)) :: big (PrP K) ps (List.replicate i (Re.zero, Re.zero)) :: R) H6 := pr_in (rr := (Re.zero, Re.zero)) w7
    have w9 := (w8.sel (Sel.cons (.next (.next .here)) (Sel.cons .here Sel.rf))).bigSnoc
    refine lc_addO w9.swap .here (small16l (by rw [List.length_map]; omega)) ⟨ps ++ [p3], by rw [List.map_append]; rfl, by rw [List.length_append]; simp [hps], ?_⟩
    rw [List.replicate_succ']
  rintro D A L H1 ⟨ps, rfl, hps, rfl⟩ w1
  wtm_at "g_go"
  have e0 : List.replicate n (Re.zero, Re.zero) = (List.range n).map fun (i : Nat) => (rep (es.take 0) i 0, rep (es.take 0) i 1) := by
    apply List.ext_getElem?
    intro k
    rw [List.getElem?_replicate, List.getElem?_map]
    by_cases l : k < n
    · rw [if_pos l, List.getElem?_range l]; rfl
    · rw [if_neg l, List.getElem?_eq_none (by rw [List.length_range]; omega)]; rfl
  rw [e0] at w1
  refine loopLO (xs := as.map V.ref) (fun i σ L => ∃ v4, σ = [some (.ref l), some (.int (n : Int)), some (.ref D), none, v4] ∧ L = pt D (.lst (ps.map V.ref)) :: big (PrP K) ps ((List.range n).map fun (k : Nat) => (rep (es.take i) k 0, rep (es.take i) k 1)) :: R) w1 ⟨_, rfl, rfl⟩ (fun i σ L h => by obtain ⟨_, _, rfl⟩ := h; exact gl.next.next) ?_ ?_
  · rintro i x σ L H2 hx ⟨v4, rfl, rfl⟩ w2
    obtain ⟨a, ha, rfl⟩ := mra hx
    obtain ⟨e, he⟩ := aol ha alen
    have hil := (List.getElem?_eq_some_iff.mp he).1
    obtain ⟨l0, l1, hs⟩ := hes e (List.mem_of_getElem? he)
    obtain ⟨j, hj⟩ : ∃ j : Nat, e.link = (j : Int) := ⟨e.link.toNat, by omega⟩
    have hjn : j < n := by omega
    have hp : ps[j]? = some (ps[j]'(by omega)) := List.getElem?_eq_getElem (by omega)
    generalize ps[j]'(by omega) = p at hp
    have hr : ((List.range n).map fun (k : Nat) => (rep (es.take i) k 0, rep (es.take i) k 1))[j]? = some (rep (es.take i) j 0, rep (es.take i) j 1) := by rw [List.getElem?_map, List.getElem?_range hjn]; rfl
    have w3 := ((w2.pick (.next (.next pk))).bigAt ha he).pick (.next (.next (.next .here)))
    obtain ⟨pa, pb, w4⟩ := pr_out (w3.bigOut hp hr)
    obtain ⟨de, fe, w5⟩ := ev_out (w4.pick (.next (.next (.next (.next (.next (.keep (P := EvP K a e))))))))
    have es1 : es.take (i + 1) = es.take i ++ [e] := by rw [List.take_add_one, he]; rfl
    have lw : ∀ s, (rep (es.take i) j s).ws.length ≤ 1000 := fun s => by
      have := rep_len (es := es.take i) (i := j) (s := s)
      rw [List.length_take] at this
      omega
    have lset : ∀ r : Re × Re, (rep (es.take i ++ [e]) j 0, rep (es.take i ++ [e]) j 1) = r → ((List.range n).map fun (k : Nat) => (rep (es.take i) k 0, rep (es.take i) k 1)).set j r = (List.range n).map fun (k : Nat) => (rep (es.take (i + 1)) k 0, rep (es.take (i + 1)) k 1) := by
      intro r hr
      refine set_range ?_ ?_
      · rw [es1]; exact hr
      · intro k hk
        rw [es1, rep_snoc, rep_snoc, if_neg (fun z => hk (by omega)), if_neg (fun z => hk (by omega))]
    wtm_at "g_go"
    rw [hj]
    wtm_at "g_go"
    have hgl : j < ((List.range n).map fun (k : Nat) => (rep (es.take i) k 0, rep (es.take i) k 1)).length := by rw [List.length_map, List.length_range]; exact hjn
    rcases hs with hs | hs
    · rw [hs]
      wtm_at "g_go"
      refine w_mtT (tell_re_m ln_LineReport_add) (w5.pick (.next (.next (.next .here)))) .here ?_
      wtm_at "g_go"
      refine ⟨pa, a, rep (es.take i) j 0, e, _, rfl, lw 0, w5.sel (Sel.cons (.next (.next (.next .here))) (Sel.cons (.next (.next (.next (.next (.next (.next .here)))))) (Sel.drop (Sel.drop Sel.rf)))), fun H3 w6 => ?_⟩
      wtm_at "g_go"
      refine ⟨_, ⟨_, rfl, rfl⟩, ?_⟩
      have w7 := pr_in (rr := ((rep (es.take i) j 0).add e, rep (es.take i) j 1)) w6.swap
      have w8 := w7.bigBack hp hgl
      rw [lset ((rep (es.take i) j 0).add e, rep (es.take i) j 1) (by rw [rep_snoc, rep_snoc, if_pos ⟨hj, hs⟩, if_neg (by rw [hs]; intro z; exact absurd z.2 (by decide))])] at w8
      exact w8.sel (Sel.cons (.next (.next .here)) (Sel.cons .here (Sel.drop Sel.rf)))
    · rw [hs]
      wtm_at "g_go"
      refine w_mtT (tell_re_m ln_LineReport_add) (w5.pick (.next (.next (.next (.next .here))))) .here ?_
      wtm_at "g_go"
      refine ⟨pb, a, rep (es.take i) j 1, e, _, rfl, lw 1, w5.sel (Sel.cons (.next (.next (.next (.next .here)))) (Sel.cons (.next (.next (.next (.next (.next (.next .here)))))) (Sel.drop (Sel.drop Sel.rf)))), fun H3 w6 => ?_⟩
      wtm_at "g_go"
      refine ⟨_, ⟨_, rfl, rfl⟩, ?_⟩
      have w7 := pr_in (rr := (rep (es.take i) j 0, (rep (es.take i) j 1).add e)) (w6.sel (Sel.cons (.next .here) (Sel.cons (.next .here) Sel.rf)))
      have w8 := w7.bigBack hp hgl
      rw [lset (rep (es.take i) j 0, (rep (es.take i) j 1).add e) (by rw [rep_snoc, rep_snoc, if_neg (by rw [hs]; intro z; exact absurd z.2 (by decide)), if_pos ⟨hj, hs⟩])] at w8
      exact w8.sel (Sel.cons (.next (.next .here)) (Sel.cons .here (Sel.drop Sel.rf)))
  · rintro σ L H2 ⟨v4, rfl, rfl⟩ w2
    rw [List.length_map, alen, List.take_length] at w2
    wtm_at "g_go"
    exact q _ D ps w2
end
section
variable {K : PySem.W.Frag} {mg : Str → Option Value} {base : Heap}
def oc (r : Re × Re) (s : Nat) : Int := if s = 0 then r.1.oct else r.2.oct
abbrev ocs (rs : List (Re × Re)) : List (Int × Int) := rs.map fun r => (r.1.oct, r.2.oct)
/-- what the best so far is -/
def BI (rs : List (Re × Re)) (b : Option (Nat × Nat) × Int) : Prop := (b.1 = none ∧ b.2 = -1) ∨ ∃ k s r, b.1 = some (k, s) ∧ s < 2 ∧ rs[k]? = some r ∧ b.2 = oc r s
theorem BI.stp {rs : List (Re × Re)} {b : Option (Nat × Nat) × Int} {i s : Nat} {r : Re × Re} (h : BI rs b) (hr : rs[i]? = some r) (hs : s < 2) : BI rs (stp b (i, s) (oc r s)) := by
  unfold K93.stp
  split
  · exact .inr ⟨i, s, r, rfl, hs, hr, rfl⟩
  · exact h
theorem ocs_at {rs : List (Re × Re)} {i : Nat} {r : Re × Re} (hr : rs[i]? = some r) : (ocs rs).getD i (0, 0) = (r.1.oct, r.2.oct) := by
  rw [List.getD_eq_getElem?_getD, List.getElem?_map, hr]
  rfl
/-- inside a pair -/
def bsI (rs : List (Re × Re)) (i : Nat) (r : Re × Re) : Nat → Option (Nat × Nat) × Int
  | 0 => bstN (ocs rs) i
  | s + 1 => stp (bsI rs i r s) (i, s) (oc r s)
theorem bsI_two {rs : List (Re × Re)} {i : Nat} {r : Re × Re} (hr : rs[i]? = some r) : bsI rs i r 2 = bstN (ocs rs) (i + 1) := by
  show stp (stp (bstN (ocs rs) i) (i, 0) (oc r 0)) (i, 1) (oc r 1) = stp (stp (bstN (ocs rs) i) (i, 0) ((ocs rs).getD i (0, 0)).1) (i, 1) ((ocs rs).getD i (0, 0)).2
  rw [ocs_at hr]
  rfl
theorem bi_I {rs : List (Re × Re)} {i : Nat} {r : Re × Re} (hr : rs[i]? = some r) (h : BI rs (bstN (ocs rs) i)) : ∀ s, s ≤ 2 → BI rs (bsI rs i r s)
  | 0, _ => h
  | s + 1, hs => (bi_I hr h s (by omega)).stp hr (by omega)
theorem bi_N {rs : List (Re × Re)} : ∀ i, i ≤ rs.length → BI rs (bstN (ocs rs) i)
  | 0, _ => .inl ⟨rfl, rfl⟩
  | i + 1, h => by
    have hr : rs[i]? = some (rs[i]'(by omega)) := List.getElem?_eq_getElem (by omega)
    rw [← bsI_two hr]
    exact bi_I hr (bi_N i (by omega)) 2 (Nat.le_refl _)
/-- the best, held -/
def BeC (b : Option (Nat × Nat)) (v : V) (L : List HP) : Prop := (b = none ∧ v = .non ∧ L = []) ∨ ∃ (t : Addr) (k s : Nat), b = some (k, s) ∧ v = .ref t ∧ L = [ro t (.tup [.int (k : Int), .int (s : Int)])]
theorem be_dt {b : Option (Nat × Nat)} {v : V} {L M : List HP} {H : Hp} (h : BeC b v L) (w : Own (L ++ M) H) : Own (DT K v (bdat b) :: M) H := by
  rcases h with ⟨rfl, rfl, rfl⟩ | ⟨t, k, s, rfl, rfl, rfl⟩
  · exact Own.dtScalar (fun _ => .non) w
  · have w : Own (ro t (.tup [.int (k : Int), .int (s : Int)]) :: M) H := w
    have w2 : Own (DTs K [.int (k : Int), .int (s : Int)] [.int (k : Int), .int (s : Int)] :: ro t (.tup [.int (k : Int), .int (s : Int)]) :: M) H :=
      Own.dtCons (Own.dtScalar (fun _ => .int _) (Own.dtCons (Own.dtScalar (fun _ => .int _) (Own.dtNil w))))
    exact w2.swap.dtTup
theorem tell_re {p : Addr} {r : Re} : Tell (ReP K p r) (fun H => ∃ dx d, H p = some (.ins (He.ga K "LineReport") dx (fLineReport (.int r.ent) (.int r.left) (.int r.drop) (.int r.mark) (.int r.oct) (.ref d)))) := fun h ⟨dx, d, h1, h2, _, s1, _, p, _⟩ H e => ⟨dx, d, e _ _ _ (s1 _ _ p)⟩
theorem tell_pr {p : Addr} {r : Re × Re} : Tell (PrP K p r) (fun H => ∃ a b, H p = some (.lst [.ref a, .ref b]) ∧ (∃ dx d, H a = some (.ins (He.ga K "LineReport") dx (fLineReport (.int r.1.ent) (.int r.1.left) (.int r.1.drop) (.int r.1.mark) (.int r.1.oct) (.ref d)))) ∧
    ∃ dx d, H b = some (.ins (He.ga K "LineReport") dx (fLineReport (.int r.2.ent) (.int r.2.left) (.int r.2.drop) (.int r.2.mark) (.int r.2.oct) (.ref d)))) := fun h ⟨a, b, h1, h2, d, s1, s2, p, h3, h4, d', s3, s4, ra, h5, h6, d'', s5, s6, rb, _⟩ H e =>
  ⟨a, b, e _ _ _ (s1 _ _ p), tell_re _ ra H (e.sub (s3.trans s2)), tell_re _ rb H (e.sub (s5.trans (s4.trans s2)))⟩
/-- one of a pair -/
theorem pr_at {p : Addr} {r : Re × Re} {H : Hp} {s : Nat} (hs : s < 2) (t : ∃ a b, H p = some (.lst [.ref a, .ref b]) ∧ (∃ dx d, H a = some (.ins (He.ga K "LineReport") dx (fLineReport (.int r.1.ent) (.int r.1.left) (.int r.1.drop) (.int r.1.mark) (.int r.1.oct) (.ref d)))) ∧
    ∃ dx d, H b = some (.ins (He.ga K "LineReport") dx (fLineReport (.int r.2.ent) (.int r.2.left) (.int r.2.drop) (.int r.2.mark) (.int r.2.oct) (.ref d)))) :
    ∃ xs a dx v1 v2 v3 v4 v6, H p = some (.lst xs) ∧ atI xs (s : Int) = some (.ref a) ∧ H a = some (.ins (He.ga K "LineReport") dx (fLineReport v1 v2 v3 v4 (.int (oc r s)) v6)) := by
  obtain ⟨a, b, hp, ⟨da, wa, ha⟩, db, wb, hb⟩ := t
  have : s = 0 ∨ s = 1 := by omega
  rcases this with rfl | rfl
  · exact ⟨_, a, da, _, _, _, _, _, hp, ix0, ha⟩
  · exact ⟨_, b, db, _, _, _, _, _, hp, ix1, hb⟩
theorem pure_busiest_line (T : TX K mg base) (vs : List V) (H : Hp) (Q : VK) (E : XK) (h : sp_busiest_line K vs H Q E) : t_busiest_line K E { nx := fun _ H' => Q .non H', rt := Q } (start N_busiest_line vs) H := by
  obtain ⟨l, ps, rs, R, rfl, hl, h0, w, q⟩ := h
  have plen := w.tail.bigLen
  unfold t_busiest_line
  wtm_at "g_go"
  refine loopEO (xs := ps.map V.ref) (fun i σ L => ∃ v1 v2 v3 v4 Lb, σ = [some (.ref l), some v1, v2, v3, v4] ∧ BeC (bstN (ocs rs) i).1 v1 Lb ∧ L = Lb ++ (pt l (.lst (ps.map V.ref)) :: big (PrP K) ps rs :: R)) w ⟨.non, _, _, _, [], rfl, .inl ⟨rfl, rfl, rfl⟩, rfl⟩ ?_ ?_ ?_
  · rintro i σ L ⟨v1, v2, v3, v4, Lb, rfl, hb, rfl⟩
    rcases hb with ⟨_, rfl, rfl⟩ | ⟨t, k, s, _, rfl, rfl⟩
    · exact .here
    · exact .next .here
  · rintro i x T2 σ L H1 hx ⟨v1, v2, v3, v4, Lb, rfl, hb, rfl⟩ w1
    obtain ⟨p, hp, rfl⟩ := mra hx
    obtain ⟨r, hr⟩ := aol hp plen
    wtm_at "g_go"
    have hil := (List.getElem?_eq_some_iff.mp hr).1
    refine loop1O (n := 2) (fun j σ L => ∃ v1 v4 Lb, σ = [some (.ref l), some v1, some (.int (i : Nat)), some (.ref p), v4] ∧ BeC (bsI rs i r j).1 v1 Lb ∧ L = Lb ++ (pt l (.lst (ps.map V.ref)) :: big (PrP K) ps rs :: R)) w1.tail rfl (by omega) ⟨v1, _, Lb, rfl, hb, rfl⟩ ?_ ?_
    · rintro j σ L H2 hj ⟨v1, v4, Lb, rfl, hb, rfl⟩ w2
      have bi := bi_I hr (bi_N i (by omega)) j (by omega)
      have o0 : 0 ≤ oc r j := by
        have := h0 r (List.mem_of_getElem? hr)
        unfold oc
        split
        · exact this.1
        · exact this.2
      have es : bsI rs i r (j + 1) = stp (bsI rs i r j) (i, j) (oc r j) := rfl
      rcases hb with ⟨hn, rfl, rfl⟩ | ⟨t, k, s, hs, rfl, rfl⟩
      · have b2 : (bsI rs i r j).2 = -1 := by
          rcases bi with ⟨_, e⟩ | ⟨k, s, _, e, _⟩
          · exact e
          · rw [hn] at e; cases e
        wtm_at "g_go"
        rename_i t H3 w3
        refine ⟨_, ⟨_, _, [ro t (.tup [.int (i : Int), .int (j : Int)])], rfl, .inr ⟨t, i, j, ?_, rfl, rfl⟩, rfl⟩, w3⟩
        rw [es]
        unfold K93.stp
        rw [if_pos (by omega)]
      · obtain ⟨rk, hs2, hk, b2⟩ : ∃ rk, s < 2 ∧ rs[k]? = some rk ∧ (bsI rs i r j).2 = oc rk s := by
          rcases bi with ⟨e, _⟩ | ⟨k', s', rk, e, z1, z2, z3⟩
          · rw [hs] at e; cases e
          · rw [hs] at e
            cases e
            exact ⟨rk, z1, z2, z3⟩
        have hkl := (List.getElem?_eq_some_iff.mp hk).1
        have hpk : ps[k]? = some (ps[k]'(by omega)) := List.getElem?_eq_getElem (by omega)
        generalize ps[k]'(by omega) = pk at hpk
        have wb : Own (big (PrP K) ps rs :: ro t (.tup [.int (k : Int), .int (s : Int)]) :: pt l (.lst (ps.map V.ref)) :: R) H2 := w2.pick (.next (.next .here))
        obtain ⟨xs1, a1, dx1, y1, y2, y3, y4, y6, g1, g2, g3⟩ := pr_at hj (wb.bigTell hp hr tell_pr)
        obtain ⟨xs2, a2, dx2, z1, z2, z3, z4, z6, g4, g5, g6⟩ := pr_at hs2 (wb.bigTell hpk hk tell_pr)
        wtm_at "g_go"
        refine w_ixL (.of g1) g2 ?_
        wtm_at "g_go"
        refine w_ixL (.of g4) g5 ?_
        wtm_at "g_go"
        refine if_d (fun hm => ?_) (fun hm => ?_)
        · wtm_at "g_go"
          rename_i t2 H3 w3
          refine ⟨_, ⟨_, _, [ro t2 (.tup [.int (i : Int), .int (j : Int)])], rfl, .inr ⟨t2, i, j, ?_, rfl, rfl⟩, rfl⟩, w3.restS (Sel.cons (.next (.next .here)) (Sel.cons .here (Sel.drop Sel.rf)))⟩
          rw [es]
          unfold K93.stp
          rw [if_pos (by omega)]
        · wtm_at "g_go"
          refine ⟨_, ⟨_, _, _, rfl, .inr ⟨t, k, s, ?_, rfl, rfl⟩, rfl⟩, w2⟩
          rw [es]
          unfold K93.stp
          rw [if_neg (by omega)]
          exact hs
    · rintro σ L H2 ⟨v1, v4, Lb, rfl, hb, rfl⟩ w2
      rw [bsI_two hr] at hb
      exact ⟨_, ⟨_, _, _, _, Lb, rfl, hb, rfl⟩, w2⟩
  · rintro σ L H1 ⟨v1, v2, v3, v4, Lb, rfl, hb, rfl⟩ w1
    rw [List.length_map, plen] at hb
    wtm_at "g_go"
    refine q _ v1 ?_ ?_
    · have := be_dt (K := K) hb w1
      unfold bst
      rw [List.length_map]
      exact this
    · rintro rfl
      rcases hb with ⟨_, e, _⟩ | ⟨t, k, s, e, _⟩
      · exact e
      · cases e
theorem tell_et {p : Addr} {r : Re} : Tell (EtP K p r) (fun H => ∃ d, H p = some (.tup [.int r.ent, .int r.left, .int r.drop, .int r.mark, .int r.oct, .ref d])) := fun h ⟨d, h1, h2, _, s1, _, p, _⟩ H e => ⟨d, e _ _ _ (s1 _ _ p)⟩
theorem tell_pe {p : Addr} {r : Re × Re} : Tell (PeP K p r) (fun H => ∃ a b, H p = some (.lst [.ref a, .ref b]) ∧ (∃ d, H a = some (.tup [.int r.1.ent, .int r.1.left, .int r.1.drop, .int r.1.mark, .int r.1.oct, .ref d])) ∧
    ∃ d, H b = some (.tup [.int r.2.ent, .int r.2.left, .int r.2.drop, .int r.2.mark, .int r.2.oct, .ref d])) := fun h ⟨a, b, h1, h2, d, s1, s2, p, h3, h4, d', s3, s4, ra, h5, h6, d'', s5, s6, rb, _⟩ H e =>
  ⟨a, b, e _ _ _ (s1 _ _ p), tell_et _ ra H (e.sub (s3.trans s2)), tell_et _ rb H (e.sub (s5.trans (s4.trans s2)))⟩
theorem pe_at {p : Addr} {r : Re × Re} {H : Hp} {s : Nat} (hs : s < 2) (t : ∃ a b, H p = some (.lst [.ref a, .ref b]) ∧ (∃ d, H a = some (.tup [.int r.1.ent, .int r.1.left, .int r.1.drop, .int r.1.mark, .int r.1.oct, .ref d])) ∧
    ∃ d, H b = some (.tup [.int r.2.ent, .int r.2.left, .int r.2.drop, .int r.2.mark, .int r.2.oct, .ref d])) : ∃ xs a ys, H p = some (.lst xs) ∧ atI xs (s : Int) = some (.ref a) ∧ H a = some (.tup ys) ∧ atI ys 4 = some (.int (oc r s)) := by
  obtain ⟨a, b, hp, ⟨da, ha⟩, db, hb⟩ := t
  have : s = 0 ∨ s = 1 := by omega
  rcases this with rfl | rfl
  · exact ⟨_, a, _, hp, ix0, ha, atI_nat (j := 4) rfl⟩
  · exact ⟨_, b, _, hp, ix1, hb, atI_nat (j := 4) rfl⟩
theorem pure_law_busiest (T : TX K mg base) (vs : List V) (H : Hp) (Q : VK) (E : XK) (h : sp_law_busiest K vs H Q E) : t_law_busiest K E { nx := fun _ H' => Q .non H', rt := Q } (start N_law_busiest vs) H := by
  obtain ⟨l, ps, rs, R, rfl, hl, w, gl, pk, q⟩ := h
  have plen := (w.pick pk).bigLen
  unfold t_law_busiest
  wtm_at "g_go"
  refine loop1O (n := rs.length) (fun i σ L => ∃ v1 v3 v4 Lb, σ = [some (.ref l), some v1, some (.int (bstN (ocs rs) i).2), v3, v4] ∧ BeC (bstN (ocs rs) i).1 v1 Lb ∧ L = Lb ++ R) w (by rw [plen]) (by omega) ⟨.non, _, _, [], rfl, .inl ⟨rfl, rfl, rfl⟩, rfl⟩ ?_ ?_
  · rintro i σ L H1 hi ⟨v1, v3, v4, Lb, rfl, hb, rfl⟩ w1
    have hr : rs[i]? = some (rs[i]'hi) := List.getElem?_eq_getElem hi
    have hp : ps[i]? = some (ps[i]'(by omega)) := List.getElem?_eq_getElem (by omega)
    generalize rs[i]'hi = r at hr
    generalize ps[i]'(by omega) = p at hp
    wtm_at "g_go"
    refine loop1O (n := 2) (fun j σ L => ∃ v1 v4 Lb, σ = [some (.ref l), some v1, some (.int (bsI rs i r j).2), some (.int (i : Nat)), v4] ∧ BeC (bsI rs i r j).1 v1 Lb ∧ L = Lb ++ R) w1 rfl (by omega) ⟨v1, _, Lb, rfl, hb, rfl⟩ ?_ ?_
    · rintro j σ L H2 hj ⟨v1, v4, Lb, rfl, hb, rfl⟩ w2
      have es : bsI rs i r (j + 1) = stp (bsI rs i r j) (i, j) (oc r j) := rfl
      have wb : Own R H2 := by
        rcases hb with ⟨_, _, rfl⟩ | ⟨t, k, s, _, _, rfl⟩
        · exact w2
        · exact Own.tail w2
      have sl := wb.sql gl
      obtain ⟨xs1, a1, ys1, g1, g2, g3, g4⟩ := pe_at hj ((wb.pick pk).bigTell hp hr tell_pe)
      wtm_at "g_go"
      refine w_ixL (.of g1) g2 ?_
      wtm_at "g_go"
      refine w_ixT (SqT.of' g3) g4 ?_
      wtm_at "g_go"
      refine if_d (fun hm => ?_) (fun hm => ?_)
      · wtm_at "g_go"
        refine w_ixL (.of g1) g2 ?_
        wtm_at "g_go"
        refine w_ixT (SqT.of' g3) g4 ?_
        wtm_at "g_go"
        rename_i t2 H3 w3
        have e2 : bsI rs i r (j + 1) = (some (i, j), oc r j) := by
          rw [es]
          unfold K93.stp
          rw [if_pos hm]
        refine ⟨_, ⟨.ref t2, some (.int (j : Int)), [ro t2 (.tup [.int (i : Int), .int (j : Int)])], ?_, .inr ⟨t2, i, j, by rw [e2], rfl, rfl⟩, rfl⟩, w3⟩
        rw [e2]
        rfl
      · wtm_at "g_go"
        have e2 : bsI rs i r (j + 1) = bsI rs i r j := by
          rw [es]
          unfold K93.stp
          rw [if_neg hm]
        refine ⟨_, ⟨v1, some (.int (j : Int)), Lb, ?_, by rw [e2]; exact hb, rfl⟩, w2⟩
        rw [e2]
        rfl
    · rintro σ L H2 ⟨v1, v4, Lb, rfl, hb, rfl⟩ w2
      rw [bsI_two hr] at hb
      refine ⟨_, ⟨v1, some (.int (i : Int)), v4, Lb, ?_, hb, rfl⟩, w2⟩
      rw [bsI_two hr]
  · rintro σ L H1 ⟨v1, v3, v4, Lb, rfl, hb, rfl⟩ w1
    wtm_at "g_go"
    refine q _ v1 ?_
    have := be_dt (K := K) hb w1
    unfold bst
    rw [List.length_map]
    exact this
end
section
variable {K : PySem.W.Frag} {mg : Str → Option Value} {base : Heap}
def WdP (t : Addr) (x : Str × Int) : HP := ro t (.tup [.str x.1, .int x.2])
instance {t : Addr} {x : Str × Int} : Ro (WdP t x) := by unfold WdP; infer_instance
theorem wd_tl : ∀ t x, Tell (WdP t x) fun H => ∃ tl, H t = some (.tup (.str x.1 :: tl)) := fun t x h p H e => ⟨_, e _ _ _ p⟩
theorem wd_dp : ∀ t x, Tell (WdP t x) fun H => Dp K H (.ref t) (wdat x) := fun t x h p H e => .tup (SqT.of' (e _ _ _ p)) (.cons (.str _) (.cons (.int _) .nil))
theorem lkS_some {ws : List (Str × Int)} (hn : (ws.map (·.1)).Nodup) {w : Str} {n : Int} : lkS ws w = some n ↔ (w, n) ∈ ws := by
  induction ws with
  | nil => simp [lkS]
  | cons r rs ih =>
    rw [List.map_cons, List.nodup_cons] at hn
    unfold lkS at ih ⊢
    rw [List.find?_cons]
    by_cases e : r.1 = w
    · rw [decide_eq_true e]
      show some r.2 = some n ↔ _
      rw [Option.some.injEq, List.mem_cons]
      constructor
      · rintro rfl; left; rw [← e]
      · rintro (h | h)
        · rw [← h]
        · exact absurd (List.mem_map.mpr ⟨(w, n), h, e.symm⟩) hn.1
    · rw [decide_eq_false e, ih hn.2, List.mem_cons]
      exact ⟨.inr, fun h => h.elim (fun z => absurd (by rw [← z]) e) id⟩
theorem known_asc : known.Pairwise fun a b => SrtO.ltS a b = true := by decide +kernel
def canonW (ws : List (Str × Int)) : List (Str × Int) := known.filterMap fun w => (lkS ws w).map fun n => (w, n)
theorem canonW_mem {ws : List (Str × Int)} {x : Str × Int} : x ∈ canonW ws ↔ x.1 ∈ known ∧ lkS ws x.1 = some x.2 := by
  unfold canonW
  rw [List.mem_filterMap]
  constructor
  · rintro ⟨w, hw, e⟩
    cases h : lkS ws w with
    | none => rw [h] at e; cases e
    | some n => rw [h] at e; cases e; exact ⟨hw, h⟩
  · rintro ⟨h1, h2⟩
    exact ⟨x.1, h1, by rw [h2]; rfl⟩
theorem canonW_asc {ws : List (Str × Int)} : (canonW ws).Pairwise fun a b => SrtO.ltS a.1 b.1 = true := by
  refine List.Pairwise.filterMap _ (fun a b h => ?_) known_asc
  intro x hx y hy
  cases h1 : lkS ws a with
  | none => rw [h1] at hx; cases hx
  | some n =>
    cases h2 : lkS ws b with
    | none => rw [h2] at hy; cases hy
    | some m => rw [h1] at hx; rw [h2] at hy; cases hx; cases hy; exact h
theorem canonW_of {ws xs : List (Str × Int)} (hn : (ws.map (·.1)).Nodup) (hk : ∀ x ∈ ws, x.1 ∈ known) (hp : xs.Perm ws) (hs : xs.Pairwise fun a b => SrtO.ltS b.1 a.1 = false) : xs = canonW ws := by
  have hn2 : (xs.map (·.1)).Nodup := (hp.map (·.1)).nodup_iff.mpr hn
  have h1 : xs.Pairwise fun a b => SrtO.ltS a.1 b.1 = true := by
    have := List.pairwise_map.mp hn2
    exact (hs.and this).imp fun {a b} h => ltS_tri h.1 h.2
  refine asc_ext (lt := fun a b : Str × Int => SrtO.ltS a.1 b.1 = true) (fun _ => ltS_irr) (fun _ _ _ => ltS_trans) h1 canonW_asc fun x => ?_
  rw [canonW_mem, hp.mem_iff]
  exact ⟨fun h => ⟨hk x h, (lkS_some hn).mpr h⟩, fun h => (lkS_some hn).mp h.2⟩
theorem pure_law_told (T : TX K mg base) (vs : List V) (H : Hp) (Q : VK) (E : XK) (h : sp_law_told K vs H Q E) : t_law_told K E { nx := fun _ H' => Q .non H', rt := Q } (start N_law_told vs) H := by
  obtain ⟨a, r, R, rfl, h7, hn, hk, w, q⟩ := h
  obtain ⟨dx, d, w⟩ := re_out w
  unfold t_law_told
  wtm_at "g_go"
  refine k_lock w (.next .here) (fun od => .next .here) fun od H1 w1 => ?_
  wtm_at "g_go"
  refine lcKO (kvs := kS r.ws) (o := od) (fun i A L => ∃ ts : List Addr, A = ts.map V.ref ∧ ts.length = i ∧ L = big WdP ts (r.ws.take i) :: pt a (.ins (He.ga K "LineReport") dx (fLineReport (.int r.ent) (.int r.left) (.int r.drop) (.int r.mark) (.int r.oct) (.ref d))) :: pt d (.frz od (.dK (kS r.ws))) :: R) (Own.bigNil w1) ⟨[], rfl, rfl, rfl⟩ (fun i A L h => by obtain ⟨_, _, _, rfl⟩ := h; exact .next (.next .here)) ?_ ?_
  · rintro i k v Da A L H2 hkv ⟨ts, rfl, hts, rfl⟩ w2
    obtain ⟨x, hx, rfl, rfl⟩ : ∃ x, r.ws[i]? = some x ∧ k = .inr x.1 ∧ v = .int x.2 := by
      unfold kS at hkv
      rw [List.getElem?_map] at hkv
      cases e : r.ws[i]? with
      | none => rw [e] at hkv; cases hkv
      | some x => rw [e] at hkv; cases hkv; exact ⟨x, rfl, rfl, rfl⟩
    have hil := (List.getElem?_eq_some_iff.mp hx).1
    show gName 2 (.str x.1) _ _ _
    wtm_at "g_go"
    refine ⟨rfl, ?_⟩
    wtm_at "g_go"
    refine k_dgFS (w2.get (.next (.next (.next .here)))) (v := .int x.2) ?_ ?_
    · rw [valV_kS, (lkS_some hn).mpr (List.mem_of_getElem? hx)]
      rfl
    wtm_at "g_go"
    rename_i t H3 w3
    have w4 : Own (big WdP ts (r.ws.take i) :: WdP t x :: pt Da (.lst (ts.map V.ref)) :: pt a (.ins (He.ga K "LineReport") dx (fLineReport (.int r.ent) (.int r.left) (.int r.drop) (.int r.mark) (.int r.oct) (.ref d))) :: pt d (.frz od (.dK (kS r.ws))) :: R) H3 := w3.sel (Sel.cons (.next (.next .here)) Sel.rf)
    have w5 := w4.bigSnoc.swap
    refine lc_addO w5 .here (small16l (by rw [List.length_map]; omega)) ⟨ts ++ [t], by rw [List.map_append]; rfl, by rw [List.length_append]; simp [hts], ?_⟩
    rw [List.take_add_one, hx]
    rfl
  rintro D A L H2 ⟨ts, rfl, hts, rfl⟩ w2
  rw [kS_len, List.take_length] at w2
  have w2' := w2.sel (Sel.cons (.next (.next (.next .here))) Sel.rf)
  refine ⟨w2'.get .here, ?_⟩
  have w3 := w2'.put (o := .dK (kS r.ws)) .here
  clear w2'
  generalize upd H2 d (.dK (kS r.ws)) = H3 at w3 ⊢
  wtm_at "g_go"
  refine k_sortGS (F := WdP) (num := fun x => x.1) wd_tl hn w3 (.next .here) (.next .here) fun D2 ts2 xs2 H4 hp hs w4 => ?_
  have hc := canonW_of hn hk hp hs
  subst hc
  wtm_at "g_go"
  rename_i t H5 w5
  refine q _ t ?_
  have w6 : Own (pt D2 (.lst (ts2.map V.ref)) :: big WdP ts2 (canonW r.ws) :: ro t (.tup [.int r.ent, .int r.left, .int r.drop, .int r.mark, .int r.oct, .ref D2]) :: pt a (.ins (He.ga K "LineReport") dx (fLineReport (.int r.ent) (.int r.left) (.int r.drop) (.int r.mark) (.int r.oct) (.ref d))) :: pt d (.dK (kS r.ws)) :: R) H5 := by wtm_at "g_own"
  have w7 := (Own.bigDT (K := K) wd_dp w6).dtRd.swap
  have w8 : Own (EtP K t (canon r) :: pt a (.ins (He.ga K "LineReport") dx (fLineReport (.int r.ent) (.int r.left) (.int r.drop) (.int r.mark) (.int r.oct) (.ref d))) :: pt d (.dK (kS r.ws)) :: R) H5 := et_in (r := canon r) w7
  exact (re_in (w8.sel (Sel.cons (.next .here) (Sel.cons (.next .here) Sel.rf)))).swap
end
section
variable {K : PySem.W.Frag} {mg : Str → Option Value} {base : Heap}
abbrev isE (e : Ev) : Bool := decide (e.word = "entered")
abbrev isL (e : Ev) : Bool := decide (e.word = "left")
abbrev isD (e : Ev) : Bool := !isE e && !isL e
theorem ent_left : ("entered" : Str) ≠ "left" := by decide +kernel
/-- the words of what was dropped -/
def dw (es : List Ev) : List Str := (es.filter isD).map (·.word)
def cn (ds : List Str) (w : Str) : List Str := ds.filter fun x => decide (x = w)
theorem dw_cons {e : Ev} {l : List Ev} : dw (e :: l) = if isD e = true then e.word :: dw l else dw l := by
  unfold dw
  rw [List.filter_cons]
  split <;> rfl
theorem lk_incr {ws : List (Str × Int)} {p w : Str} : lkS (incr ws p) w = if w = p then some ((lkS ws p).getD 0 + 1) else lkS ws w := by
  unfold incr
  by_cases h : (ws.any fun r => decide (r.1 = p)) = true
  · rw [if_pos h]
    have key : ∀ (n : Int) (l : List (Str × Int)), lkS (l.map fun r => if r.1 = p then (r.1, n) else r) w = if w = p then (if (l.any fun r => decide (r.1 = p)) = true then some n else none) else lkS l w := by
      intro n l
      induction l with
      | nil => unfold lkS; split <;> rfl
      | cons r rs ih =>
        unfold lkS at ih ⊢
        rw [List.map_cons, List.find?_cons, List.any_cons]
        by_cases e : r.1 = p
        · rw [if_pos e, decide_eq_true e]
          by_cases e2 : w = p
          · rw [decide_eq_true (show r.1 = w by rw [e, e2]), if_pos e2]
            rfl
          · rw [decide_eq_false (show ¬ r.1 = w by rw [e]; exact fun z => e2 z.symm), if_neg e2, ih, if_neg e2, List.find?_cons, decide_eq_false (show ¬ r.1 = w by rw [e]; exact fun z => e2 z.symm)]
        · rw [if_neg e, decide_eq_false e, Bool.false_or]
          by_cases e3 : r.1 = w
          · rw [decide_eq_true e3, if_neg (fun z => e (by rw [e3, z])), List.find?_cons, decide_eq_true e3]
          · rw [decide_eq_false e3, ih]
            split
            · rfl
            · rw [List.find?_cons, decide_eq_false e3]
    rw [key, if_pos h]
  · rw [if_neg h]
    have hz := lkS_none (Bool.eq_false_iff.mpr h)
    rw [hz]
    have key : ∀ l : List (Str × Int), lkS (l ++ [(p, 1)]) w = match lkS l w with | some n => some n | none => if w = p then some 1 else none := by
      intro l
      induction l with
      | nil =>
        unfold lkS
        rw [List.nil_append, List.find?_cons]
        by_cases e : w = p
        · rw [decide_eq_true (show (p, (1 : Int)).1 = w from e.symm)]
          simp [e]
        · rw [decide_eq_false (show ¬ (p, (1 : Int)).1 = w from fun z => e z.symm)]
          simp [e]
      | cons r rs ih =>
        unfold lkS at ih ⊢
        rw [List.cons_append, List.find?_cons, List.find?_cons]
        by_cases e : r.1 = w
        · rw [decide_eq_true e]; rfl
        · rw [decide_eq_false e]; exact ih
    rw [key]
    by_cases e : w = p
    · rw [if_pos e, e, hz]
      simp
    · rw [if_neg e]
      cases lkS ws w <;> simp [e]
theorem fold_add : ∀ (l : List Ev) (r : Re), (l.foldl Re.add r).ent = r.ent + ((l.filter isE).length : Nat) ∧ (l.foldl Re.add r).left = r.left + ((l.filter isL).length : Nat) ∧ (l.foldl Re.add r).drop = r.drop + ((dw l).length : Nat) ∧
    (l.foldl Re.add r).mark = r.mark + (((l.filter isL).filter fun e => e.fr.marked).length : Nat) ∧ (l.foldl Re.add r).oct = r.oct + ((l.filter isL).map fun e => e.fr.wt).sum ∧
    ∀ w, lkS (l.foldl Re.add r).ws w = if (cn (dw l) w) = [] then lkS r.ws w else some ((lkS r.ws w).getD 0 + ((cn (dw l) w).length : Nat))
  | [], r => by simp [dw, cn]
  | e :: l, r => by
    obtain ⟨a1, a2, a3, a4, a5, a6⟩ := fold_add l (r.add e)
    rw [List.foldl_cons, a1, a2, a3, a4, a5, List.filter_cons, List.filter_cons, dw_cons]
    by_cases h1 : e.word = "entered"
    · have h2 : ¬ e.word = "left" := fun z => ent_left (h1.symm.trans z)
      have ea : r.add e = { r with ent := r.ent + 1 } := if_pos h1
      have d1 : isE e = true := decide_eq_true h1
      have d2 : isL e = false := decide_eq_false h2
      have d3 : isD e = false := by show (!isE e && !isL e) = false; rw [d1]; rfl
      rw [d1, d2, d3] 
      simp only [if_true, Bool.false_eq_true, if_false, List.length_cons]
      refine ⟨by rw [ea]; dsimp only; omega, by rw [ea], by rw [ea], by rw [ea], by rw [ea], fun w => ?_⟩
      rw [a6, ea]
    · have d1 : isE e = false := decide_eq_false h1
      by_cases h2 : e.word = "left"
      · have d2 : isL e = true := decide_eq_true h2
        have d3 : isD e = false := by show (!isE e && !isL e) = false; rw [d2, d1]; rfl
        have ea : r.add e = { r with left := r.left + 1, oct := r.oct + e.fr.wt, mark := if e.fr.marked = true then r.mark + 1 else r.mark } := (if_neg h1).trans (if_pos h2)
        rw [d1, d2, d3]
        simp only [if_true, Bool.false_eq_true, if_false, List.length_cons]
        refine ⟨by rw [ea], by rw [ea]; dsimp only; omega, by rw [ea], ?_, ?_, fun w => ?_⟩
        · rw [ea, List.filter_cons]
          dsimp only
          split
          · rw [List.length_cons]; omega
          · rfl
        · rw [ea, List.map_cons, List.sum_cons]; dsimp only; omega
        · rw [a6, ea]
      · have d2 : isL e = false := decide_eq_false h2
        have d3 : isD e = true := by show (!isE e && !isL e) = true; rw [d2, d1]; rfl
        have ea : r.add e = { r with drop := r.drop + 1, ws := incr r.ws e.word } := (if_neg h1).trans (if_neg h2)
        rw [d1, d2, d3]
        simp only [if_true, Bool.false_eq_true, if_false, List.length_cons]
        refine ⟨by rw [ea], by rw [ea], by rw [ea]; dsimp only; omega, by rw [ea], by rw [ea], fun w => ?_⟩
        rw [a6, ea]
        dsimp only
        rw [lk_incr]
        unfold cn
        rw [List.filter_cons]
        by_cases ew : w = e.word
        · subst ew
          rw [if_pos rfl, decide_eq_true rfl, if_pos rfl, if_neg (List.cons_ne_nil _ _), List.length_cons]
          split
          · rename_i hz
            rw [hz]
            simp
          · simp only [Option.getD_some]
            congr 1
            omega
        · rw [if_neg ew, decide_eq_false (fun z => ew z.symm)]
          simp only [Bool.false_eq_true, if_false]
theorem exp_words (ds : List Str) (ws : List (Str × Int)) (h : ∀ w, lkS ws w = if cn ds w = [] then none else some (((cn ds w).length : Nat) : Int)) : canonW ws = (known.filter fun w => decide (w ∈ ds)).map fun w => (w, ((cn ds w).length : Int)) := by
  unfold canonW
  generalize known = ks
  induction ks with
  | nil => rfl
  | cons k ks ih =>
    rw [List.filterMap_cons, h k, List.filter_cons]
    by_cases e : k ∈ ds
    · have : cn ds k ≠ [] := List.ne_nil_of_mem (List.mem_filter.mpr ⟨e, decide_eq_true rfl⟩)
      rw [if_neg this, if_pos (decide_eq_true e), List.map_cons, ← ih]
      rfl
    · have : cn ds k = [] := List.filter_eq_nil_iff.mpr fun x hx z => e (by rw [← of_decide_eq_true z]; exact hx)
      rw [if_pos this, if_neg (by simp [e]), ← ih]
      rfl
end
section
variable {K : PySem.W.Frag} {mg : Str → Option Value} {base : Heap}
theorem tell_rw {t : Addr} {x : Ev} : Tell (RwP t x) (fun H => ∃ f o, H t = some (.tup [.int x.tick, .str x.word, .int x.link, .int x.side, .ref f]) ∧ H f = some (.tup [.str x.fr.kind, .int x.fr.sender, .int x.fr.target, .ref o, .int x.fr.birth, .int x.fr.hops, .bl x.fr.marked]) ∧ H o = some (.lst (x.fr.oct.map V.int))) :=
  fun h ⟨f, o, h1, h2, d, s1, s2, p, h3, h4, d', s3, s4, ra, h5, h6, d'', s5, s6, rb, _⟩ H e => ⟨f, o, e _ _ _ (s1 _ _ p), e _ _ _ (s2 _ _ (s3 _ _ ra)), e _ _ _ (s2 _ _ (s4 _ _ (s5 _ _ rb)))⟩
theorem in_known {ds : List Str} {H : Hp} {l : Addr} {w : Str} {Q : VK} (g : SqL K H l (ds.map V.str)) (q : Q (.bl (decide (w ∈ ds))) H) : rIn K false (.str w) (.ref l) H Q := by
  refine w_inL (xs := ds.map V.str) g rfl strs_flat ?_
  rw [inV_strs]
  exact q
theorem pure_law_expected (T : TX K mg base) (vs : List V) (H : Hp) (Q : VK) (E : XK) (h : sp_law_expected K vs H Q E) : t_law_expected K E { nx := fun _ H' => Q .non H', rt := Q } (start N_law_expected vs) H := by
  obtain ⟨l, ts, es, i, s, R, rfl, e100, ok, w, q⟩ := h
  unfold t_law_expected
  wtm_at "g_go"
  refine lcFil (fun e => decide (e.link = i) && decide (e.side = s)) (by omega) w .here .keep (fun k a e H1 X B0 B1 ha he w1 h0 h1 => ?_) fun D1 qs1 H1 hq1 w1 => ?_
  · obtain ⟨f, o, g1, g2, g3⟩ := (w1.pick (.next (.next .here))).bigTell ha he tell_rw
    wtm_at "g_go"
    refine ⟨rfl, ?_⟩
    wtm_at "g_go"
    refine if_d (fun e1 => ?_) (fun e1 => ?_)
    · rw [decide_eq_true e1, Bool.true_and] at h0 h1
      wtm_at "g_go"
      refine if_d (fun e2 => ?_) (fun e2 => ?_)
      · wtm_at "g_go"
        exact h1 (decide_eq_true e2) _ w1
      · exact h0 (decide_eq_false e2) _ w1
    · rw [decide_eq_false e1, Bool.false_and] at h0
      wtm_at "g_go"
      exact h0 rfl _ w1
  change Own (pt D1 (.lst (qs1.map V.ref)) :: big RwP qs1 (own es i s) :: pt l (.lst (ts.map V.ref)) :: big RwP ts es :: R) H1 at w1
  have ol : (own es i s).length ≤ 100 := Nat.le_trans (List.length_filter_le _ _) e100
  have ook : ∀ e ∈ own es i s, EvOk e := fun e he => ok e (List.mem_filter.mp he).1
  clear hq1
  wtm_at "g_go"
  refine lcFil isL (by omega) w1 .here .keep (fun k a e H2 X B0 B1 ha he w2 h0 h1 => ?_) fun D2 qs2 H2 hq2 w2 => ?_
  · obtain ⟨f, o, g1, g2, g3⟩ := (w2.pick (.next (.next .here))).bigTell ha he tell_rw
    wtm_at "g_go"
    refine ⟨rfl, ?_⟩
    wtm_at "g_go"
    refine if_d (fun e1 => ?_) (fun e1 => ?_)
    · wtm_at "g_go"
      exact h1 (decide_eq_true e1) _ w2
    · exact h0 (decide_eq_false e1) _ w2
  have l2 : ((own es i s).filter isL).length ≤ 100 := Nat.le_trans (List.length_filter_le _ _) ol
  wtm_at "g_go"
  have w3 : Own (pt D1 (.lst (qs1.map V.ref)) :: big RwP qs1 (own es i s) :: pt D2 (.lst (qs2.map V.ref)) :: big RwP qs2 ((own es i s).filter isL) :: pt l (.lst (ts.map V.ref)) :: big RwP ts es :: R) H2 := w2.sel (Sel.cons (.next (.next .here)) (Sel.cons (.next (.next .here)) Sel.rf))
  have q1len := w3.tail.bigLen
  clear w2
  refine lcLX (xs := qs1.map V.ref) (fun k A L => A = (dw ((own es i s).take k)).map V.str ∧ L = pt D1 (.lst (qs1.map V.ref)) :: big RwP qs1 (own es i s) :: pt D2 (.lst (qs2.map V.ref)) :: big RwP qs2 ((own es i s).filter isL) :: pt l (.lst (ts.map V.ref)) :: big RwP ts es :: R) w3 ⟨rfl, rfl⟩ (fun k A L h => h.2 ▸ .here) ?_ ?_
  · rintro k x Da A L H3 hx ⟨rfl, rfl⟩ w4
    obtain ⟨a, ha, rfl⟩ := mra hx
    obtain ⟨e, he⟩ := aol ha q1len
    have hs1 : dw ((own es i s).take (k + 1)) = dw ((own es i s).take k) ++ if isD e = true then [e.word] else [] := by
      unfold dw
      rw [fltT he, List.map_append]
      split <;> rfl
    have hlw : (dw ((own es i s).take k)).length < 1000 := by
      unfold dw
      rw [List.length_map]
      have := List.length_filter_le isD ((own es i s).take k)
      rw [List.length_take] at this
      omega
    obtain ⟨f, o, g1, g2, g3⟩ := (w4.pick (.next (.next .here))).bigTell ha he tell_rw
    wtm_at "g_go"
    refine ⟨rfl, ?_⟩
    wtm_at "g_go"
    rename_i p H4 w5
    refine w_ninT (xs := [V.str "entered", V.str "left"]) (by wtm_at "g_sqt") rfl rfl ?_
    rw [show inV (V.str e.word) [V.str "entered", V.str "left"] = decide (e.word ∈ (["entered", "left"] : List Str)) from inV_strs (ns := (["entered", "left"] : List Str))]
    have ed : isD e = !decide (e.word ∈ (["entered", "left"] : List Str)) := by
      rw [Bool.eq_iff_iff]
      simp [isD, isE, isL]
    have w6 := w5.tail
    obtain ⟨f2, o2, j1, j2, j3⟩ := (w6.pick (.next (.next .here))).bigTell ha he tell_rw
    refine ⟨_, rfl, ?_⟩
    rw [← ed]
    refine if_b (fun hd => ?_) (fun hd => ?_)
    · rw [if_pos hd] at hs1
      wtm_at "g_go"
      exact lc_addO w6 .here (szl (by rw [List.length_map]; omega)) ⟨by rw [hs1, List.map_append]; rfl, rfl⟩
    · rw [hd] at hs1
      exact lc_skipO w6 .here ⟨by rw [hs1]; simp, rfl⟩
  rintro D3 A L H3 ⟨rfl, rfl⟩ w4
  rw [List.length_map, q1len, List.take_length] at w4
  clear w3
  generalize hds : dw (own es i s) = ds at w4
  have dl : ds.length ≤ 100 := by
    subst hds
    unfold dw
    rw [List.length_map]
    exact Nat.le_trans (List.length_filter_le _ _) ol
  wtm_at "g_go"
  rename_i kt H4 w5
  have w6 : Own (ro kt (.tup (known.map V.str)) :: pt D3 (.lst (ds.map V.str)) :: pt D1 (.lst (qs1.map V.ref)) :: big RwP qs1 (own es i s) :: pt D2 (.lst (qs2.map V.ref)) :: big RwP qs2 ((own es i s).filter isL) :: pt l (.lst (ts.map V.ref)) :: big RwP ts es :: R) H4 := w5
  clear w5 w4
  refine lcTX (xs := known.map V.str) (fun k A L => ∃ us : List Addr, A = us.map V.ref ∧ us.length ≤ k ∧ L = big WdP us (((known.take k).filter fun w => decide (w ∈ ds)).map fun w => (w, ((cn ds w).length : Int))) :: ro kt (.tup (known.map V.str)) :: pt D3 (.lst (ds.map V.str)) :: pt D1 (.lst (qs1.map V.ref)) :: big RwP qs1 (own es i s) :: pt D2 (.lst (qs2.map V.ref)) :: big RwP qs2 ((own es i s).filter isL) :: pt l (.lst (ts.map V.ref)) :: big RwP ts es :: R)
    (Own.bigNil w6) ⟨[], rfl, Nat.le_refl _, rfl⟩ (fun k A L h => by obtain ⟨_, _, _, rfl⟩ := h; exact .next .here) ?_ ?_
  · rintro k x Da A L H5 hx ⟨us, rfl, hus, rfl⟩ w7
    obtain ⟨z, hz, rfl⟩ := mra_str hx
    have hk7 : k < 7 := (List.getElem?_eq_some_iff.mp hz).1
    have hs1 := fltT (P := fun w => decide (w ∈ ds)) hz
    wtm_at "g_go"
    refine ⟨rfl, ?_⟩
    wtm_at "g_go"
    refine in_known (ds := ds) (by wtm_at "g_sq") ?_
    refine ⟨_, rfl, ?_⟩
    refine if_d (fun hm => ?_) (fun hm => ?_)
    · rw [if_pos (decide_eq_true hm)] at hs1
      wtm_at "g_go"
      refine lcLX (xs := ds.map V.str) (fun m A L => A = (cn (ds.take m) z).map V.str ∧ L = pt Da (.lst (us.map V.ref)) :: big WdP us (((known.take k).filter fun w => decide (w ∈ ds)).map fun w => (w, ((cn ds w).length : Int))) :: ro kt (.tup (known.map V.str)) :: pt D3 (.lst (ds.map V.str)) :: pt D1 (.lst (qs1.map V.ref)) :: big RwP qs1 (own es i s) :: pt D2 (.lst (qs2.map V.ref)) :: big RwP qs2 ((own es i s).filter isL) :: pt l (.lst (ts.map V.ref)) :: big RwP ts es :: R) w7 ⟨rfl, rfl⟩ (fun m A L h => h.2 ▸ .next (.next (.next .here))) ?_ ?_
      · rintro m x Db A L H6 hx ⟨rfl, rfl⟩ w8
        obtain ⟨y, hy, rfl⟩ := mra_str hx
        have hm1 : cn (ds.take (m + 1)) z = cn (ds.take m) z ++ if decide (y = z) = true then [y] else [] := fltT (P := fun x => decide (x = z)) hy
        have hml : (cn (ds.take m) z).length < 1000 := by
          have := List.length_filter_le (fun x => decide (x = z)) (ds.take m)
          rw [List.length_take] at this
          show (List.filter _ _).length < 1000
          omega
        wtm_at "g_go"
        refine ⟨rfl, ?_⟩
        wtm_at "g_go"
        refine if_d (fun hc => ?_) (fun hc => ?_)
        · rw [if_pos (decide_eq_true hc)] at hm1
          wtm_at "g_go"
          exact lc_addO w8 .here (szl (by rw [List.length_map]; omega)) ⟨by rw [hm1, List.map_append]; rfl, rfl⟩
        · rw [if_neg (by simp [hc]), List.append_nil] at hm1
          exact lc_skipO w8 .here ⟨by rw [hm1], rfl⟩
      rintro Db A L H6 ⟨rfl, rfl⟩ w8
      rw [List.length_map, List.take_length] at w8
      wtm_at "g_go"
      rename_i u H7 w9
      rw [List.length_map] at w9
      have w10 : Own (big WdP us (((known.take k).filter fun w => decide (w ∈ ds)).map fun w => (w, ((cn ds w).length : Int))) :: WdP u (z, ((cn ds z).length : Int)) :: pt Da (.lst (us.map V.ref)) :: ro kt (.tup (known.map V.str)) :: pt D3 (.lst (ds.map V.str)) :: pt D1 (.lst (qs1.map V.ref)) :: big RwP qs1 (own es i s) :: pt D2 (.lst (qs2.map V.ref)) :: big RwP qs2 ((own es i s).filter isL) :: pt l (.lst (ts.map V.ref)) :: big RwP ts es :: R) H7 := w9.sel (Sel.cons (.next (.next (.next .here))) (Sel.cons .here (Sel.drop Sel.rf)))
      have w11 := w10.bigSnoc.swap
      refine lc_addO w11 .here (szl (by rw [List.length_map]; omega)) ⟨us ++ [u], by rw [List.map_append]; rfl, by rw [List.length_append]; simp only [List.length_cons, List.length_nil]; omega, ?_⟩
      rw [hs1, List.map_append]
      rfl
    · rw [if_neg (by simp [hm]), List.append_nil] at hs1
      refine lc_skipO w7 .here ⟨us, rfl, by omega, by rw [hs1]⟩
  rintro D4 A L H5 ⟨us, rfl, hus, rfl⟩ w7
  rw [List.length_map, List.take_length] at w7
  obtain ⟨f1, f2, f3, f4, f5, f6⟩ := fold_add (own es i s) Re.zero
  have hw : ((known.filter fun w => decide (w ∈ ds)).map fun w => (w, ((cn ds w).length : Int))) = (canon (rep es i s)).ws := by
    refine (exp_words ds (rep es i s).ws fun w => ?_).symm
    have := f6 w
    rw [hds] at this
    rw [show (rep es i s).ws = ((own es i s).foldl Re.add Re.zero).ws from rfl, this]
    show (if _ then (none : Option Int) else some (0 + _)) = _
    rw [Int.zero_add]
  rw [hw] at w7
  have w8 := (Own.bigDT (K := K) wd_dp w7).dtRd
  clear w7 w6
  wtm_at "g_go"
  refine lcFil isE (by omega) w8 (.next (.next (.next .here))) (.next (.next (.next .here))) (fun k a e H6 X B0 B1 ha he w9 h0 h1 => ?_) fun D5 qs5 H6 hq5 w9 => ?_
  · obtain ⟨f, o, g1, g2, g3⟩ := (w9.pick (.next (.next .here))).bigTell ha he tell_rw
    wtm_at "g_go"
    refine ⟨rfl, ?_⟩
    wtm_at "g_go"
    refine if_d (fun e1 => ?_) (fun e1 => ?_)
    · wtm_at "g_go"
      exact h1 (decide_eq_true e1) _ w9
    · exact h0 (decide_eq_false e1) _ w9
  wtm_at "g_go"
  refine lcSel (F := RwP) (fun _ => true) (fun e => V.int e.fr.wt) (by omega) (w9.sel (Sel.cons (.next (.next (.next (.next (.next (.next .here)))))) (Sel.cons (.next (.next (.next (.next (.next (.next .here)))))) Sel.rf))) .here .here (fun k a e H7 X B0 B1 ha he w10 h0 h1 => ?_) fun D6 H7 w10 => ?_
  · obtain ⟨f, o, g1, g2, g3⟩ := (w10.pick (.next (.next .here))).bigTell ha he tell_rw
    wtm_at "g_go"
    refine ⟨rfl, ?_⟩
    wtm_at "g_go"
    exact h1 rfl
  rw [filter_tt, show (((own es i s).filter isL).map fun e => V.int e.fr.wt) = (((own es i s).filter isL).map fun e => e.fr.wt).map V.int from (List.map_map ..).symm] at w10
  wtm_at "g_go"
  refine k_sum (ns := ((own es i s).filter isL).map fun e => e.fr.wt) (by wtm_at "g_sq") ?_
  wtm_at "g_go"
  refine lcFil (F := RwP) (fun e => e.fr.marked) (by omega) w10 (.next .here) (.next .here) (fun k a e H8 X B0 B1 ha he w11 h0 h1 => ?_) fun D7 qs7 H8 hq7 w11 => ?_
  · obtain ⟨f, o, g1, g2, g3⟩ := (w11.pick (.next (.next .here))).bigTell ha he tell_rw
    wtm_at "g_go"
    refine ⟨rfl, ?_⟩
    wtm_at "g_go"
    refine if_b (fun e1 => ?_) (fun e1 => ?_)
    · wtm_at "g_go"
      exact h1 e1 _ w11
    · exact h0 e1 _ w11
  wtm_at "g_go"
  rename_i t H9 w12
  refine q _ t ?_
  refine et_in (d := D4) ?_
  have e1 : (canon (rep es i s)).ent = (qs5.length : Int) := by rw [hq5]; exact f1.trans (Int.zero_add _)
  have e2 : (canon (rep es i s)).left = (qs2.length : Int) := by rw [hq2]; exact f2.trans (Int.zero_add _)
  have e3 : (canon (rep es i s)).drop = (ds.length : Int) := by rw [← hds]; exact f3.trans (Int.zero_add _)
  have e4 : (canon (rep es i s)).mark = (qs7.length : Int) := by rw [hq7]; exact f4.trans (Int.zero_add _)
  have e5 : (canon (rep es i s)).oct = (((own es i s).filter isL).map fun e => e.fr.wt).sum := f5.trans (Int.zero_add _)
  rw [e1, e2, e3, e4, e5]
  try rw [List.length_map] at w12
  wtm_at "g_own"
end
section
variable {K : PySem.W.Frag} {mg : Str → Option Value} {base : Heap}
theorem words_known {w : Str} (h : w ∈ words) (h1 : ¬ w = "entered") (h2 : ¬ w = "left") : w ∈ known := by
  have : ∀ w ∈ words, w = "entered" ∨ w = "left" ∨ w ∈ known := by decide +kernel
  rcases this w h with h | h | h
  · exact absurd h h1
  · exact absurd h h2
  · exact h
structure KeyOk (ws : List (Str × Int)) : Prop where
  nd : (ws.map (·.1)).Nodup
  kn : ∀ x ∈ ws, x.1 ∈ known
theorem KeyOk.incr {ws : List (Str × Int)} {p : Str} (h : KeyOk ws) (hp : p ∈ known) : KeyOk (incr ws p) := by
  unfold K93.incr
  split
  · have e : (ws.map fun r => if r.1 = p then (r.1, (lkS ws p).getD 0 + 1) else r).map (·.1) = ws.map (·.1) := by
      rw [List.map_map]
      refine List.map_congr_left fun r _ => ?_
      show (if r.1 = p then (r.1, (lkS ws p).getD 0 + 1) else r : Str × Int).1 = r.1
      split <;> rfl
    refine ⟨by rw [e]; exact h.nd, fun x hx => ?_⟩
    obtain ⟨r, hr, rfl⟩ := List.mem_map.mp hx
    have : (if r.1 = p then (r.1, (lkS ws p).getD 0 + 1) else r : Str × Int).1 = r.1 := by split <;> rfl
    rw [this]
    exact h.kn r hr
  · rename_i hn
    refine ⟨?_, fun x hx => ?_⟩
    · rw [List.map_append, List.nodup_append]
      refine ⟨h.nd, by simp, fun a ha b hb e => ?_⟩
      rw [show b = p by simpa using hb] at e
      obtain ⟨r, hr, rfl⟩ := List.mem_map.mp ha
      exact hn (List.any_eq_true.mpr ⟨r, hr, decide_eq_true e⟩)
    · rcases List.mem_append.mp hx with hx | hx
      · exact h.kn x hx
      · rw [List.mem_singleton.mp hx]; exact hp
theorem rep_keys {es : List Ev} (ok : ∀ e ∈ es, EvOk e) {i s : Int} : KeyOk (rep es i s).ws := by
  have : ∀ (l : List Ev) (r : Re), (∀ e ∈ l, EvOk e) → KeyOk r.ws → KeyOk (l.foldl Re.add r).ws := by
    intro l
    induction l with
    | nil => exact fun r _ h => h
    | cons e l ih =>
      intro r hl h
      refine ih (r.add e) (fun x hx => hl x (List.mem_cons_of_mem _ hx)) ?_
      unfold Re.add
      split
      · exact h
      · split
        · exact h
        · exact h.incr (words_known (hl e List.mem_cons_self).word (by assumption) (by assumption))
  exact this (own es i s) Re.zero (fun e he => ok e (List.mem_filter.mp he).1) ⟨List.nodup_nil, fun x hx => nomatch hx⟩
theorem rep_oct {es : List Ev} {i s : Int} : 0 ≤ (rep es i s).oct := by
  have h := (fold_add (own es i s) Re.zero).2.2.2.2.1
  rw [show (rep es i s).oct = ((own es i s).foldl Re.add Re.zero).oct from rfl, h]
  have : ∀ l : List Ev, 0 ≤ (l.map fun e => e.fr.wt).sum := by
    intro l
    induction l with
    | nil => simp
    | cons e l ih =>
      rw [List.map_cons, List.sum_cons]
      have : 0 ≤ e.fr.wt := by unfold Fr.wt; omega
      omega
  have := this ((own es i s).filter isL)
  have : Re.zero.oct = 0 := rfl
  omega
theorem known_ok {w : Str} (h : w ∈ known) : PyData.strOk w = true := by
  have : ∀ w ∈ known, PyData.strOk w = true := by decide +kernel
  exact this w h
theorem words_ok {w : Str} (h : w ∈ words) : PyData.strOk w = true := by
  have : ∀ w ∈ words, PyData.strOk w = true := by decide +kernel
  exact this w h
def pdat (r : Re × Re) : PyData := .list [tdat r.1, tdat r.2]
theorem canon_keys {r : Re} : ∀ x ∈ (canon r).ws, x.1 ∈ known := fun x hx => (canonW_mem.mp hx).1
theorem tdat_lay {r : Re} (h : ∀ x ∈ r.ws, x.1 ∈ known) : (tdat r).canLay0 = true := by
  have : PyData.canLayAll0 (r.ws.map wdat) = true := lay_map fun x hx => by
    have := known_ok (h x hx)
    simp [wdat, PyData.canLay0, PyData.canLayAll0, this]
  simp [tdat, PyData.canLay0, PyData.canLayAll0, this]
theorem tdat_depth {r : Re} : (tdat r).depth ≤ 10 := by
  have : PyData.depthAll (r.ws.map wdat) ≤ 2 := depth_map fun x hx => by simp [wdat, PyData.depth, PyData.depthAll]
  simp only [tdat, PyData.depth, PyData.depthAll]
  omega
theorem shaped_ps {rs : List (Re × Re)} (h : ∀ r ∈ rs, (∀ x ∈ r.1.ws, x.1 ∈ known) ∧ ∀ x ∈ r.2.ws, x.1 ∈ known) : SeqAt.shaped (.list (rs.map pdat)) = true := by
  refine shaped_lm (fun r hr => ?_) (fun r hr => ?_)
  · have h1 := tdat_lay (h r hr).1
    have h2 := tdat_lay (h r hr).2
    simp [pdat, PyData.canLay0, PyData.canLayAll0, h1, h2]
  · have h1 := tdat_depth (r := r.1)
    have h2 := tdat_depth (r := r.2)
    simp only [pdat, PyData.depth, PyData.depthAll]
    omega
theorem et_dp {t : Addr} {r : Re} : Tell (EtP K t r) fun H => Dp K H (.ref t) (tdat r) := fun h ⟨d, h1, h2, _, s1, s2, p, h3, h4, _, s3, _, q, _⟩ H e =>
  .tup (SqT.of' (e _ _ _ (s1 _ _ p))) (.cons (.int _) (.cons (.int _) (.cons (.int _) (.cons (.int _) (.cons (.int _) (.cons (tell_rd tell_DT _ q H (e.sub (s3.trans s2))) .nil))))))
theorem pe_dp {p : Addr} {r : Re × Re} : Tell (PeP K p r) fun H => Dp K H (.ref p) (pdat r) := fun h ⟨a, b, h1, h2, d, s1, s2, p, h3, h4, d', s3, s4, ra, h5, h6, d'', s5, s6, rb, _⟩ H e =>
  .lst (SqL.of (e _ _ _ (s1 _ _ p))) (.cons (et_dp _ ra H (e.sub (s3.trans s2))) (.cons (et_dp _ rb H (e.sub (s5.trans (s4.trans s2)))) .nil))
theorem rw_dp {t : Addr} {x : Ev} : Tell (RwP t x) fun H => Dp K H (.ref t) (rdat x) := fun h w H e => by
  obtain ⟨f, o, g1, g2, g3⟩ := tell_rw h w H e
  exact .tup (SqT.of' g1) (.cons (.int _) (.cons (.str _) (.cons (.int _) (.cons (.int _) (.cons (.tup (SqT.of' g2) (.cons (.str _) (.cons (.int _) (.cons (.int _) (.cons (.lst (.of g3) (dp_ints _)) (.cons (.int _) (.cons (.int _) (.cons (.bl _) .nil)))))))) .nil)))))
theorem rdat_ok {x : Ev} (h : EvOk x) : (rdat x).canLay0 = true ∧ (rdat x).depth ≤ 10 := by
  have h1 := words_ok h.word
  have h2 := h.kind
  have h3 := lay_ints x.fr.oct
  have h4 := depth_ints x.fr.oct
  refine ⟨by simp [rdat, PyData.canLay0, PyData.canLayAll0, h1, h2, h3], ?_⟩
  simp only [rdat, PyData.depth, PyData.depthAll]
  omega
theorem rdat_eqv {x y : Ev} : PyData.eqv (rdat x) (rdat y) = decide (x = y) := by
  rw [Bool.eq_iff_iff, decide_eq_true_eq]
  unfold rdat
  simp only [PyData.eqv, PyData.eqvAll, Bool.and_true, Bool.and_eq_true, beq_iff_eq, eqv_ints, decide_eq_true_eq]
  constructor
  · rintro ⟨h1, h2, h3, h4, h5, h6, h7, h8, h9, h10, h11⟩
    obtain ⟨a1, a2, a3, a4, ⟨b1, b2, b3, b4, b5, b6, b7⟩⟩ := x
    obtain ⟨c1, c2, c3, c4, ⟨d1, d2, d3, d4, d5, d6, d7⟩⟩ := y
    simp only at *
    subst h1 h2 h3 h4 h5 h6 h7 h8 h9 h10 h11
    rfl
  · rintro rfl
    simp
end
section
variable {K : PySem.W.Frag} {mg : Str → Option Value} {base : Heap}
section
variable {L L1 L2 R : List HP} {H : Hp} {Q : VK} {ev rw rp : Addr} {as ts ps : List Addr} {es : List Ev} {v0 v1 v2 v3 v4 v5 v6 v7 v8 v9 v10 v11 v12 : Option V} {n : Nat}
/-- the rows of all events -/
theorem c_rows (hn : es.length ≤ 100) (w : Own L H) (p1 : Pick L (pt ev (.lst (as.map V.ref))) L1) (p2 : Pick L1 (big (EvP K) as es) R)
    (q : ∀ D ts H', Own (pt D (.lst (ts.map V.ref)) :: big RwP ts es :: pt ev (.lst (as.map V.ref)) :: big (EvP K) as es :: R) H' → Q (.ref D) H') :
    rLcL K (gName 6) tYes (tCallS (sp_law_row K) (fun _ => E0) (tCons (tVar 6) tNil)) [6] [v0, v1, v2, v3, v4, v5, v6, v7, v8, v9, v10, v11, v12] Q (.ref ev) H := by
  refine lcBig (F := EvP K) (fun _ => true) id RwP (by omega) w p1 p2 (fun i a e H1 X Y B0 B1 ha he w1 h0 h1 => ?_) fun D ts H1 w1 => ?_
  · wtm_at "g_go"
    refine ⟨rfl, ?_⟩
    wtm_at "g_go"
    refine ⟨a, e, _, rfl, (w1.pick (.next (.next (.next .here)))).bigAt ha he, fun H2 t w2 => ?_⟩
    exact h1 rfl H2 t (show Own (RwP t e :: X :: Y :: pt ev (.lst (as.map V.ref)) :: big (EvP K) as es :: R) H2 by wtm_at "g_own")
  · rw [filter_tt, List.map_id] at w1
    exact q D ts H1 w1
theorem range_s {α : Type} {f : Nat → α} {i : Nat} : (List.range (i + 1)).map f = (List.range i).map f ++ [f i] := by rw [List.range_succ, List.map_append]; rfl
abbrev cr (es : List Ev) (k : Nat) : Re × Re := (canon (rep es k 0), canon (rep es k 1))
/-- what is expected of all lines -/
theorem c_exp (n6 : n ≤ 6) (hn : es.length ≤ 100) (ok : ∀ e ∈ es, EvOk e) (w : Own L H) (p1 : Pick L (pt rw (.lst (ts.map V.ref))) L1) (p2 : Pick L1 (big RwP ts es) R)
    (q : ∀ D qs H', Own (pt D (.lst (qs.map V.ref)) :: big (PeP K) qs ((List.range n).map (cr es)) :: pt rw (.lst (ts.map V.ref)) :: big RwP ts es :: R) H' → Q (.ref D) H') :
    rLcR1 (gName 10) tYes (tLc (iRng1 (tCons (tC (.int 2)) tNil)) (gName 9) tYes (tCallS (sp_law_expected K) (fun _ => E0) (tCons (tVar 5) (tCons (tVar 10) (tCons (tVar 9) tNil)))) [9]) [10] [v0, v1, v2, v3, v4, some (.ref rw), v6, v7, v8, v9, v10, v11, v12] Q [.int (n : Int)] H := by
  refine lcR1FO (n := n) (fun i A L => ∃ qs : List Addr, A = qs.map V.ref ∧ qs.length = i ∧ L = big (PeP K) qs ((List.range i).map (cr es)) :: pt rw (.lst (ts.map V.ref)) :: big RwP ts es :: R) (Own.bigNil (w.take2 p1 p2)) ⟨[], rfl, rfl, rfl⟩ rfl (by omega) ?_ ?_
  · rintro i Da A L H1 hi ⟨qs, rfl, hqs, rfl⟩ w1
    wtm_at "g_go"
    refine lcR1FO (n := 2) (fun j A L => ∃ us : List Addr, A = us.map V.ref ∧ us.length = j ∧ L = big (EtP K) us ((List.range j).map fun (s : Nat) => canon (rep es i s)) :: pt Da (.lst (qs.map V.ref)) :: big (PeP K) qs ((List.range i).map (cr es)) :: pt rw (.lst (ts.map V.ref)) :: big RwP ts es :: R) (Own.bigNil w1) ⟨[], rfl, rfl, rfl⟩ rfl (by omega) ?_ ?_
    · rintro j Db A L H2 hj ⟨us, rfl, hus, rfl⟩ w2
      wtm_at "g_go"
      refine ⟨rw, ts, es, (i : Int), (j : Int), _, rfl, hn, ok, w2.sel (Sel.cons (.next (.next (.next (.next .here)))) (Sel.cons (.next (.next (.next (.next .here)))) Sel.rf)), fun H3 t w3 => ?_⟩
      have w4 : Own (big (EtP K) us ((List.range j).map fun (s : Nat) => canon (rep es i s)) :: EtP K t (canon (rep es i j)) :: pt Db (.lst (us.map V.ref)) :: pt Da (.lst (qs.map V.ref)) :: big (PeP K) qs ((List.range i).map (cr es)) :: pt rw (.lst (ts.map V.ref)) :: big RwP ts es :: R) H3 := by wtm_at "g_own"
      refine lc_addO w4.bigSnoc.swap .here (szl (by rw [List.length_map]; omega)) ⟨us ++ [t], by rw [List.map_append]; rfl, by rw [List.length_append]; simp [hus], ?_⟩
      rw [range_s]
    · rintro Db A L H2 ⟨us, rfl, hus, rfl⟩ w2
      obtain ⟨u0, u1, rfl⟩ : ∃ u0 u1, us = [u0, u1] := by
        match us, hus with
        | [u0, u1], _ => exact ⟨u0, u1, rfl⟩
      have w3 : Own (ro Db (.lst [.ref u0, .ref u1]) :: big (EtP K) [u0, u1] [canon (rep es i 0), canon (rep es i 1)] :: pt Da (.lst (qs.map V.ref)) :: big (PeP K) qs ((List.range i).map (cr es)) :: pt rw (.lst (ts.map V.ref)) :: big RwP ts es :: R) H2 := w2.toRo
      have w4 := w3.swap.bigUncons.swap.bigUncons
      have w5 : Own (PeP K Db (cr es i) :: pt Da (.lst (qs.map V.ref)) :: big (PeP K) qs ((List.range i).map (cr es)) :: pt rw (.lst (ts.map V.ref)) :: big RwP ts es :: R) H2 :=
        pe_in (rr := cr es i) (w4.sel (Sel.cons (.next (.next (.next .here))) (Sel.cons (.next (.next .here)) (Sel.cons .here (Sel.drop Sel.rf)))))
      have w6 := (w5.sel (Sel.cons (.next (.next .here)) (Sel.cons .here Sel.rf))).bigSnoc.swap
      refine lc_addO w6 .here (szl (by rw [List.length_map]; omega)) ⟨qs ++ [Db], by rw [List.map_append]; rfl, by rw [List.length_append]; simp [hqs], ?_⟩
      rw [range_s]
  · rintro Da A L H1 ⟨qs, rfl, hqs, rfl⟩ w1
    exact q Da qs H1 w1
abbrev rr (es : List Ev) (k : Nat) : Re × Re := (rep es k 0, rep es k 1)
/-- what the reports tell -/
theorem c_told (n6 : n ≤ 6) (hn : es.length ≤ 100) (ok : ∀ e ∈ es, EvOk e) (w : Own L H) (p1 : Pick L (pt rp (.lst (ps.map V.ref))) L1) (p2 : Pick L1 (big (PrP K) ps ((List.range n).map (rr es))) R)
    (q : ∀ D qs H', Own (pt D (.lst (qs.map V.ref)) :: big (PeP K) qs ((List.range n).map (cr es)) :: pt rp (.lst (ps.map V.ref)) :: big (PrP K) ps ((List.range n).map (rr es)) :: R) H' → Q (.ref D) H') :
    rLcL K (gName 12) tYes (tLc (iList K (tVar 12)) (gName 11) tYes (tCallS (sp_law_told K) (fun _ => E0) (tCons (tVar 11) tNil)) [11]) [12] [v0, v1, v2, v3, v4, v5, v6, v7, v8, v9, v10, v11, v12] Q (.ref rp) H := by
  have w0 := w.take2 p1 p2
  have plen := w0.swap.bigLen
  rw [List.length_map, List.length_range] at plen
  refine lcLX (xs := ps.map V.ref) (fun i A L => ∃ qs : List Addr, A = qs.map V.ref ∧ qs.length = i ∧ L = big (PeP K) qs ((List.range i).map (cr es)) :: pt rp (.lst (ps.map V.ref)) :: big (PrP K) ps ((List.range n).map (rr es)) :: R) (Own.bigNil w0) ⟨[], rfl, rfl, rfl⟩ (fun i A L h => by obtain ⟨_, _, _, rfl⟩ := h; exact .next .here) ?_ ?_
  · rintro i x Da A L H1 hx ⟨qs, rfl, hqs, rfl⟩ w1
    obtain ⟨p, hp, rfl⟩ := mra hx
    have hi := (List.getElem?_eq_some_iff.mp hp).1
    have hr : ((List.range n).map (rr es))[i]? = some (rr es i) := by rw [List.getElem?_map, List.getElem?_range (by omega)]; rfl
    obtain ⟨pa, pb, w2⟩ := pr_out ((w1.pick (.next (.next (.next .here)))).bigOut hp hr)
    have kk : ∀ s, KeyOk (rep es i s).ws := fun s => rep_keys ok
    have kl : ∀ s, (rep es i s).ws.length ≤ 1000 := fun s => Nat.le_trans rep_len (by omega)
    wtm_at "g_go"
    refine ⟨rfl, ?_⟩
    wtm_at "g_go"
    refine lcLX (xs := [V.ref pa, V.ref pb]) (fun j A L => ∃ us : List Addr, A = us.map V.ref ∧ us.length = j ∧ L = big (EtP K) us ([canon (rep es i 0), canon (rep es i 1)].take j) :: pt p (.lst [.ref pa, .ref pb]) :: ReP K pa (rep es i 0) :: ReP K pb (rep es i 1) :: big (PrP K) (ps.take i) (((List.range n).map (rr es)).take i) :: big (PrP K) (ps.drop (i + 1)) (((List.range n).map (rr es)).drop (i + 1)) :: pt Da (.lst (qs.map V.ref)) :: big (PeP K) qs ((List.range i).map (cr es)) :: pt rp (.lst (ps.map V.ref)) :: R) (Own.bigNil w2) ⟨[], rfl, rfl, rfl⟩ (fun j A L h => by obtain ⟨_, _, _, rfl⟩ := h; exact .next .here) ?_ ?_
    · rintro j x Db A L H2 hx ⟨us, rfl, hus, rfl⟩ w3
      have hj := (List.getElem?_eq_some_iff.mp hx).1
      have : j = 0 ∨ j = 1 := by
        have : [V.ref pa, V.ref pb].length = 2 := rfl
        omega
      rcases this with rfl | rfl
      · cases hx
        wtm_at "g_go"
        refine ⟨rfl, ?_⟩
        wtm_at "g_go"
        refine ⟨pa, rep es i 0, _, rfl, kl 0, (kk 0).nd, (kk 0).kn, w3.pick (.next (.next (.next .here))), fun H3 t w4 => ?_⟩
        have w5 : Own (big (EtP K) us ([canon (rep es i 0), canon (rep es i 1)].take 0) :: EtP K t (canon (rep es i 0)) :: pt Db (.lst (us.map V.ref)) :: pt p (.lst [.ref pa, .ref pb]) :: ReP K pa (rep es i 0) :: ReP K pb (rep es i 1) :: big (PrP K) (ps.take i) (((List.range n).map (rr es)).take i) :: big (PrP K) (ps.drop (i + 1)) (((List.range n).map (rr es)).drop (i + 1)) :: pt Da (.lst (qs.map V.ref)) :: big (PeP K) qs ((List.range i).map (cr es)) :: pt rp (.lst (ps.map V.ref)) :: R) H3 := by wtm_at "g_own"
        refine lc_addO w5.bigSnoc.swap .here (szl (by rw [List.length_map]; omega)) ⟨us ++ [t], by rw [List.map_append]; rfl, by rw [List.length_append]; simp [hus], rfl⟩
      · cases hx
        wtm_at "g_go"
        refine ⟨rfl, ?_⟩
        wtm_at "g_go"
        refine ⟨pb, rep es i 1, _, rfl, kl 1, (kk 1).nd, (kk 1).kn, w3.pick (.next (.next (.next (.next .here)))), fun H3 t w4 => ?_⟩
        have w5 : Own (big (EtP K) us ([canon (rep es i 0), canon (rep es i 1)].take 1) :: EtP K t (canon (rep es i 1)) :: pt Db (.lst (us.map V.ref)) :: pt p (.lst [.ref pa, .ref pb]) :: ReP K pa (rep es i 0) :: ReP K pb (rep es i 1) :: big (PrP K) (ps.take i) (((List.range n).map (rr es)).take i) :: big (PrP K) (ps.drop (i + 1)) (((List.range n).map (rr es)).drop (i + 1)) :: pt Da (.lst (qs.map V.ref)) :: big (PeP K) qs ((List.range i).map (cr es)) :: pt rp (.lst (ps.map V.ref)) :: R) H3 := by wtm_at "g_own"
        refine lc_addO w5.bigSnoc.swap .here (szl (by rw [List.length_map]; omega)) ⟨us ++ [t], by rw [List.map_append]; rfl, by rw [List.length_append]; simp [hus], rfl⟩
    · rintro Db A L H2 ⟨us, rfl, hus, rfl⟩ w3
      obtain ⟨u0, u1, rfl⟩ : ∃ u0 u1, us = [u0, u1] := by
        match us, hus with
        | [u0, u1], _ => exact ⟨u0, u1, rfl⟩
      have w4 : Own (ro Db (.lst [.ref u0, .ref u1]) :: big (EtP K) [u0, u1] [canon (rep es i 0), canon (rep es i 1)] :: pt p (.lst [.ref pa, .ref pb]) :: ReP K pa (rep es i 0) :: ReP K pb (rep es i 1) :: big (PrP K) (ps.take i) (((List.range n).map (rr es)).take i) :: big (PrP K) (ps.drop (i + 1)) (((List.range n).map (rr es)).drop (i + 1)) :: pt Da (.lst (qs.map V.ref)) :: big (PeP K) qs ((List.range i).map (cr es)) :: pt rp (.lst (ps.map V.ref)) :: R) H2 := w3.toRo
      have w5 := w4.swap.bigUncons.swap.bigUncons
      have w6 : Own (PeP K Db (cr es i) :: pt p (.lst [.ref pa, .ref pb]) :: ReP K pa (rep es i 0) :: ReP K pb (rep es i 1) :: big (PrP K) (ps.take i) (((List.range n).map (rr es)).take i) :: big (PrP K) (ps.drop (i + 1)) (((List.range n).map (rr es)).drop (i + 1)) :: pt Da (.lst (qs.map V.ref)) :: big (PeP K) qs ((List.range i).map (cr es)) :: pt rp (.lst (ps.map V.ref)) :: R) H2 := pe_in (rr := cr es i) (w5.sel (Sel.cons (.next (.next (.next .here))) (Sel.cons (.next (.next .here)) (Sel.cons .here (Sel.drop Sel.rf)))))
      have w7 := pr_in (rr := rr es i) (w6.sel (Sel.cons (.next .here) (Sel.cons (.next .here) (Sel.cons (.next .here) Sel.rf))))
      have w8 := (w7.sel (Sel.cons .here (Sel.cons (.next .here) (Sel.cons (.next .here) Sel.rf)))).bigRet hp hr
      have w9 : Own (big (PeP K) qs ((List.range i).map (cr es)) :: PeP K Db (cr es i) :: pt Da (.lst (qs.map V.ref)) :: pt rp (.lst (ps.map V.ref)) :: big (PrP K) ps ((List.range n).map (rr es)) :: R) H2 := by wtm_at "g_own"
      refine lc_addO w9.bigSnoc.swap .here (szl (by rw [List.length_map]; omega)) ⟨qs ++ [Db], by rw [List.map_append]; rfl, by rw [List.length_append]; simp [hqs], ?_⟩
      rw [range_s]
  · rintro Da A L H1 ⟨qs, rfl, hqs, rfl⟩ w1
    rw [List.length_map, plen] at w1
    exact q Da qs H1 w1
end
end
section
variable {K : PySem.W.Frag} {mg : Str → Option Value} {base : Heap}
theorem pure_law (T : TX K mg base) (vs : List V) (H : Hp) (Q : VK) (E : XK) (h : sp_law K vs H Q E) : t_law K E { nx := fun _ H' => Q .non H', rt := Q } (start N_law vs) H := by
  obtain ⟨a, ns, rfl, w, hl, q⟩ := h
  unfold t_law
  wtm_at "g_go"
  rename_i _ st H1 w1 d H2 d0 d1 w2 ev H3 w3
  obtain ⟨n, hn⟩ : ∃ n : Nat, 1 + d = (n : Int) := ⟨(1 + d).toNat, by omega⟩
  rw [hn]
  have n6 : n ≤ 6 := by omega
  have n1 : 1 ≤ n := by omega
  have w4 : Own (pt ev (.lst (([] : List Addr).map V.ref)) :: big (EvP K) [] [] :: ScP K a (ns.map V.int) :: []) H3 := by
    refine Own.swap (Own.bigNil ?_)
    show Own [pt ev (.lst []), ScP K a (ns.map V.int)] H3
    wtm_at "g_own"
  refine loop1O (n := min 90 ns.length) (fun k σ L => ∃ v4 as es, σ = [some (.ref a), some (.ref st), some (.int (n : Int)), some (.ref ev), v4, none, none, none, none, none, none, none, none] ∧ as.length = k ∧ (∀ e ∈ es, EvOk e ∧ 0 ≤ e.link ∧ e.link < (n : Int) ∧ (e.side = 0 ∨ e.side = 1)) ∧ L = pt ev (.lst (as.map V.ref)) :: big (EvP K) as es :: ScP K a (ns.map V.int) :: []) w4 ?_ (by omega) ⟨_, [], [], rfl, rfl, fun e he => (nomatch he), rfl⟩ ?_ ?_
  · try rw [List.length_map]
    split <;> omega
  · rintro k σ L H4 hk ⟨v4, as, es, rfl, has, hes, rfl⟩ w5
    wtm_at "g_go"
    rename_i _ s2 H5 w6
    refine ⟨s2, (n : Int), _, rfl, by omega, by omega, w6, fun H6 e1 e he k0 k1 k2 w7 => ?_⟩
    wtm_at "g_go"
    rename_i H7 w8
    refine ⟨_, ⟨_, as ++ [e1], es ++ [e], rfl, by rw [List.length_append]; simp [has], fun x hx => ?_, rfl⟩, ?_⟩
    · rcases List.mem_append.mp hx with hx | hx
      · exact hes x hx
      · rw [List.mem_singleton.mp hx]
        exact ⟨he, k0, k1, k2⟩
    · have w9 : Own (big (EvP K) as es :: EvP K e1 e :: pt ev (.lst ((as ++ [e1]).map V.ref)) :: ScP K a (ns.map V.int) :: []) H7 := by wtm_at "g_own"
      exact w9.bigSnoc.swap
  rintro σ L H4 ⟨v4, as, es, rfl, has, hes, rfl⟩ w5
  have alen := w5.tail.bigLen
  have e100 : es.length ≤ 90 := by omega
  have ok : ∀ e ∈ es, EvOk e := fun e he => (hes e he).1
  wtm_at "g_go"
  refine c_rows (by omega) w5 .here .here fun rw_ ts H5 w6 => ?_
  wtm_at "g_go"
  refine ⟨ev, n, as, es, _, rfl, by omega, by omega, fun e he => (hes e he).2, w6, by wtm_at "g_gl", by wtm_at "g_pk", fun H6 rp ps w7 => ?_⟩
  wtm_at "g_go"
  refine c_exp n6 (by omega) ok w7 (by wtm_at "g_pk") (by wtm_at "g_pk") fun xp qs H7 w8 => ?_
  wtm_at "g_go"
  refine c_told n6 (by omega) ok w8 (by wtm_at "g_pk") (by wtm_at "g_pk") fun tp us H8 w9 => ?_
  have dx : DpAll K H8 (qs.map V.ref) (((List.range n).map (cr es)).map pdat) := dp_rows (f := PeP K) (dv := pdat) (fun _ _ => pe_dp) (w9.pick (P := big (PeP K) qs ((List.range n).map (cr es))) (by wtm_at "g_pk"))
  have du : DpAll K H8 (us.map V.ref) (((List.range n).map (cr es)).map pdat) := dp_rows (f := PeP K) (dv := pdat) (fun _ _ => pe_dp) (w9.pick (P := big (PeP K) us ((List.range n).map (cr es))) (by wtm_at "g_pk"))
  have shp : SeqAt.shaped (.list (((List.range n).map (cr es)).map pdat)) = true := shaped_ps fun r hr => by
    obtain ⟨k, _, rfl⟩ := List.mem_map.mp hr
    exact ⟨canon_keys, canon_keys⟩
  wtm_at "g_go"
  refine w_neS' (.lst (by wtm_at "g_sq") du) (.lst (by wtm_at "g_sq") dx) shp ?_
  wtm_at "g_go"
  refine ⟨rp, ps, (List.range n).map (rr es), _, rfl, by rw [List.length_map, List.length_range]; omega, fun r hr => ?_, w9.take2 (by wtm_at "g_pk") (by wtm_at "g_pk"), fun H9 b1 w10 _ => ?_⟩
  · obtain ⟨k, _, rfl⟩ := List.mem_map.mp hr
    exact ⟨rep_oct, rep_oct⟩
  wtm_at "g_go"
  refine ⟨xp, qs, (List.range n).map (cr es), _, rfl, by rw [List.length_map, List.length_range]; omega, w10, by wtm_at "g_gl", by wtm_at "g_pk", fun H10 b2 w11 => ?_⟩
  have eb : ((List.range n).map (cr es)).map (fun r => (r.1.oct, r.2.oct)) = ((List.range n).map (rr es)).map (fun r => (r.1.oct, r.2.oct)) := by
    rw [List.map_map, List.map_map]
    rfl
  rw [eb] at w11
  refine w_neS' (by wtm_at "g_dp") (by wtm_at "g_dp") ?_ ?_
  · generalize bst _ = b
    cases b <;> rfl
  wtm_at "g_go"
  rename_i p0 H11 w12
  have w13 : Own (pt p0 (.lst (([] : List Addr).map V.ref)) :: big (PrP K) [] [] :: pt rw_ (.lst (ts.map V.ref)) :: big RwP ts es :: pt ev (.lst (as.map V.ref)) :: big (EvP K) as es :: ScP K a (ns.map V.int) :: []) H11 := by
    refine Own.swap (Own.bigNil ?_)
    show Own (pt p0 (.lst []) :: pt rw_ (.lst (ts.map V.ref)) :: big RwP ts es :: pt ev (.lst (as.map V.ref)) :: big (EvP K) as es :: ScP K a (ns.map V.int) :: []) H11
    wtm_at "g_own"
  clear w12
  refine ⟨p0, [], [], _, rfl, by simp, fun r hr => (nomatch hr), w13, fun H12 b3 w14 hn3 => ?_⟩
  obtain rfl := hn3 rfl
  wtm_at "g_go"
  rename_i p1 H13 w15
  have w16 : Own (pt p1 (.lst (([] : List Addr).map V.ref)) :: big (EvP K) [] [] :: pt rw_ (.lst (ts.map V.ref)) :: big RwP ts es :: pt ev (.lst (as.map V.ref)) :: big (EvP K) as es :: ScP K a (ns.map V.int) :: []) H13 := by
    refine Own.swap (Own.bigNil ?_)
    show Own (pt p1 (.lst []) :: pt rw_ (.lst (ts.map V.ref)) :: big RwP ts es :: pt ev (.lst (as.map V.ref)) :: big (EvP K) as es :: ScP K a (ns.map V.int) :: []) H13
    wtm_at "g_own"
  clear w15
  refine ⟨p1, 0, [], [], _, rfl, by omega, by simp, fun e he => (nomatch he), w16, .here, .next .keep, fun H14 q0 ps0 w17 => ?_⟩
  have : ps0 = [] := List.eq_nil_of_length_eq_zero w17.tail.bigLen
  subst this
  wtm_at "g_go"
  rename_i p2 H15 w18
  refine w_neS' (d := .list []) (.lst (xs := []) (w18.sql (.next .here)) .nil) (.lst (xs := []) (w18.sql .here) .nil) rfl ?_
  wtm_at "g_go"
  have tlen : ts.length = es.length := (w18.pick (P := big RwP ts es) (by wtm_at "g_pk")).bigLen
  refine loop2 (fun i σ H' => ∃ v4, σ = [some (.ref a), some (.ref st), some (.int (n : Int)), some (.ref ev), v4, some (.ref rw_), none, some (.ref rp), some (.ref xp), none, none, none, none] ∧ Own (pt rw_ (.lst (ts.map V.ref)) :: big RwP ts es :: pt ev (.lst (as.map V.ref)) :: big (EvP K) as es :: ScP K a (ns.map V.int) :: []) H') (by omega) ⟨_, rfl, by wtm_at "g_own"⟩ ?_ ?_
  · rintro i σ H16 hi ⟨v4', rfl, w19⟩
    have e0 : (1 : Int) + (i : Int) = ((i + 1 : Nat) : Int) := by omega
    rw [e0]
    have hi1 : i + 1 < es.length := by omega
    have ha1 : as[i + 1]? = some (as[i + 1]'(by omega)) := List.getElem?_eq_getElem (by omega)
    have ha0 : as[i]? = some (as[i]'(by omega)) := List.getElem?_eq_getElem (by omega)
    have hx1 : es[i + 1]? = some (es[i + 1]'(by omega)) := List.getElem?_eq_getElem (by omega)
    have hx0 : es[i]? = some (es[i]'(by omega)) := List.getElem?_eq_getElem (by omega)
    have ht1 : ts[i + 1]? = some (ts[i + 1]'(by omega)) := List.getElem?_eq_getElem (by omega)
    have ht0 : ts[i]? = some (ts[i]'(by omega)) := List.getElem?_eq_getElem (by omega)
    generalize as[i + 1]'(by omega) = a1 at ha1
    generalize as[i]'(by omega) = a0 at ha0
    generalize es[i + 1]'(by omega) = x1 at hx1
    generalize es[i]'(by omega) = x0 at hx0
    generalize ts[i + 1]'(by omega) = t1 at ht1
    generalize ts[i]'(by omega) = t0 at ht0
    have e1 : (((i + 1 : Nat) : Int) - 1) = (i : Int) := by omega
    have v1 := (w19.pick (P := big (EvP K) as es) (by wtm_at "g_pk")).bigAt ha1 hx1
    have v0 := (v1.pick (P := big (EvP K) as es) (.next .here)).bigAt ha0 hx0
    obtain ⟨dx1, f1, g1⟩ := v1.ent (.here tell_ev)
    obtain ⟨dx0, f0, g0⟩ := v0.ent (.here tell_ev)
    clear v1
    wtm_at "g_go"
    rw [e1]
    wtm_at "g_go"
    refine w_own g1 (tyR_ins g0) nf_same ?_
    have y0 : Own (EvP K a0 x0 :: EvP K a1 x1 :: pt rw_ (.lst (ts.map V.ref)) :: big RwP ts es :: pt ev (.lst (as.map V.ref)) :: big (EvP K) as es :: ScP K a (ns.map V.int) :: []) H16 := by wtm_at "g_own"
    refine ⟨a1, .ref a0, x1, _, rfl, y0.tail, .inl ⟨a0, x0, rfl, y0, fun H17 w20 => ⟨_, rfl, ?_⟩⟩⟩
    wtm_at "g_go"
    rw [e1]
    wtm_at "g_go"
    have z1 : Dp K H17 (.ref t1) (rdat x1) := (w20.pick (P := big RwP ts es) (by wtm_at "g_pk")).bigTell ht1 hx1 rw_dp
    have z0 : Dp K H17 (.ref t0) (rdat x0) := (w20.pick (P := big RwP ts es) (by wtm_at "g_pk")).bigTell ht0 hx0 rw_dp
    have o1 := rdat_ok (ok x1 (List.mem_of_getElem? hx1))
    have o0 := rdat_ok (ok x0 (List.mem_of_getElem? hx0))
    refine w_eqD z1 z0 (shaped_of o1.1 (by omega)) (shaped_of o0.1 (by omega)) ?_
    rw [rdat_eqv]
    wtm_at "g_go"
    refine if_nd (fun h => absurd rfl h) (fun _ => ?_)
    wtm_at "g_go"
    clear v0 g1 g0
    obtain ⟨f2, o2, v1⟩ := rw_out ((w20.pick (P := big RwP ts es) (by wtm_at "g_pk")).bigAt ht1 hx1)
    have v2 := (v1.pick (P := big (EvP K) as es) (by wtm_at "g_pk")).bigAt ha1 hx1
    obtain ⟨dx1, f1, g1⟩ := v2.ent (.here tell_ev)
    have g2 := v1.get'
    refine w_own g1 (tyR_tup g2) (T.b.ex_ 5) ?_
    refine ⟨a1, .ref t1, x1, _, rfl, v2, .inr ⟨t1, _, rfl, by wtm_at "g_got", fun H18 w21 => ⟨_, rfl, ?_⟩⟩⟩
    wtm_at "g_go"
    exact ⟨_, rfl, by wtm_at "g_own"⟩
  · rintro σ H16 ⟨v4', rfl, w19⟩
    wtm_at "g_go"
    refine c_rows (es := es) (as := as) (by omega) w19 (by wtm_at "g_pk") (by wtm_at "g_pk") fun D us2 H17 w20 => ?_
    wtm_at "g_go"
    have y1 : DpAll K H17 (us2.map V.ref) (es.map rdat) := dp_rows (f := RwP) (dv := rdat) (fun _ _ => rw_dp) (w20.pick (P := big RwP us2 es) (by wtm_at "g_pk"))
    have y2 : DpAll K H17 (ts.map V.ref) (es.map rdat) := dp_rows (f := RwP) (dv := rdat) (fun _ _ => rw_dp) (w20.pick (P := big RwP ts es) (by wtm_at "g_pk"))
    refine w_eqS' (.lst (by wtm_at "g_sq") y1) (.lst (by wtm_at "g_sq") y2) (shaped_lm (fun x hx => (rdat_ok (ok x hx)).1) (fun x hx => by have := (rdat_ok (ok x hx)).2; omega)) ?_
    exact q _
end
end K93

namespace K93
open PySem PySem.Spec PyProof.Rows L2 G
section
variable {P : Program} {w : World} {K : PySem.W.Frag} {mg : Str → Option Value} {base : Heap}

theorem len_Event_init {K : PySem.W.Frag} : ∀ vs H Q E, sp_Event_init K vs H Q E → vs.length = (P_Event_init : List Str).length := by
  intro vs H Q E h
  repeat first | (obtain ⟨rfl, _⟩ := h; rfl) | obtain ⟨_, h⟩ := h
theorem has_Event_init (T : TX K mg base) : HasI P w K mg base 1 "Event" P_Event_init (sp_Event_init K) :=
  mk_hasI (T.glo 0) (T.mkr 12) (T.says.def_ 0) sc_Event_init (fun _ _ _ _ _ _ us hl => match us, hl with | [_, _, _, _, _, _], _ => rfl) len_Event_init
    fun cdv A outer s H vs Q E hr h => ⟨t_Event_init K E, d_Event_init T  hr, pure_Event_init T vs H Q E h⟩

theorem len_Frame__eq {K : PySem.W.Frag} : ∀ vs H Q E, sp_Frame__eq K vs H Q E → vs.length = (P_Frame__eq : List Str).length := by
  intro vs H Q E h
  repeat first | (obtain ⟨rfl, _⟩ := h; rfl) | obtain ⟨_, h⟩ := h
theorem has_Frame__eq (T : TX K mg base) : HasM P w K mg base 1 "Frame" "__eq__" P_Frame__eq (sp_Frame__eq K) :=
  mk_hasM (T.cls 22) (T.meth 23) (T.says.def_ 7) sc_Frame__eq (fun _ _ _ _ _ _ us hl => match us, hl with | [_, _], _ => rfl) len_Frame__eq
    fun cdv A outer s H vs Q E hr h => ⟨t_Frame__eq K E, d_Frame__eq T  hr, pure_Frame__eq T vs H Q E h⟩

theorem len_Event__eq {K : PySem.W.Frag} : ∀ vs H Q E, sp_Event__eq K vs H Q E → vs.length = (P_Event__eq : List Str).length := by
  intro vs H Q E h
  repeat first | (obtain ⟨rfl, _⟩ := h; rfl) | obtain ⟨_, h⟩ := h
theorem has_Event__eq (T : TX K mg base) : HasM P w K mg base 2 "Event" "__eq__" P_Event__eq (sp_Event__eq K) :=
  mk_hasM (T.cls 13) (T.meth 14) (T.says.def_ 1) sc_Event__eq (fun _ _ _ _ _ _ us hl => match us, hl with | [_, _], _ => rfl) len_Event__eq
    fun cdv A outer s H vs Q E hr h => ⟨t_Event__eq K E, d_Event__eq T (has_Frame__eq T) hr, pure_Event__eq T vs H Q E h⟩

theorem len_LineReport_init {K : PySem.W.Frag} : ∀ vs H Q E, sp_LineReport_init K vs H Q E → vs.length = (P_LineReport_init : List Str).length := by
  intro vs H Q E h
  repeat first | (obtain ⟨rfl, _⟩ := h; rfl) | obtain ⟨_, h⟩ := h
theorem has_LineReport_init (T : TX K mg base) : HasI P w K mg base 1 "LineReport" P_LineReport_init (sp_LineReport_init K) :=
  mk_hasI (T.glo 15) (T.mkr 16) (T.says.def_ 2) sc_LineReport_init (fun _ _ _ _ _ _ us hl => match us, hl with | [_], _ => rfl) len_LineReport_init
    fun cdv A outer s H vs Q E hr h => ⟨t_LineReport_init K E, d_LineReport_init T  hr, pure_LineReport_init T vs H Q E h⟩

theorem len_Frame_weight {K : PySem.W.Frag} : ∀ vs H Q E, sp_Frame_weight K vs H Q E → vs.length = (P_Frame_weight : List Str).length := by
  intro vs H Q E h
  repeat first | (obtain ⟨rfl, _⟩ := h; rfl) | obtain ⟨_, h⟩ := h
theorem has_Frame_weight (T : TX K mg base) : HasM P w K mg base 1 "Frame" "weight" P_Frame_weight (sp_Frame_weight K) :=
  mk_hasM (T.cls 22) (T.meth 25) (T.says.def_ 9) sc_Frame_weight (fun _ _ _ _ _ _ us hl => match us, hl with | [_], _ => rfl) len_Frame_weight
    fun cdv A outer s H vs Q E hr h => ⟨t_Frame_weight K E, d_Frame_weight T  hr, pure_Frame_weight T vs H Q E h⟩

theorem len_LineReport_add {K : PySem.W.Frag} : ∀ vs H Q E, sp_LineReport_add K vs H Q E → vs.length = (P_LineReport_add : List Str).length := by
  intro vs H Q E h
  repeat first | (obtain ⟨rfl, _⟩ := h; rfl) | obtain ⟨_, h⟩ := h
theorem has_LineReport_add (T : TX K mg base) : HasM P w K mg base 2 "LineReport" "add" P_LineReport_add (sp_LineReport_add K) :=
  mk_hasM (T.cls 17) (T.meth 18) (T.says.def_ 3) sc_LineReport_add (fun _ _ _ _ _ _ us hl => match us, hl with | [_, _], _ => rfl) len_LineReport_add
    fun cdv A outer s H vs Q E hr h => ⟨t_LineReport_add K E, d_LineReport_add T (has_Frame_weight T) hr, pure_LineReport_add T vs H Q E h⟩

theorem len_report_lines {K : PySem.W.Frag} : ∀ vs H Q E, sp_report_lines K vs H Q E → vs.length = (P_report_lines : List Str).length := by
  intro vs H Q E h
  repeat first | (obtain ⟨rfl, _⟩ := h; rfl) | obtain ⟨_, h⟩ := h
theorem has_report_lines (T : TX K mg base) : Has P w K mg base 3 "report_lines" P_report_lines (sp_report_lines K) :=
  mk_has (T.glo 19) (T.says.def_ 4) sc_report_lines (fun _ _ _ _ _ _ us hl => match us, hl with | [_, _], _ => rfl) len_report_lines
    fun cdv A outer s H vs Q E hr h => ⟨t_report_lines K E, d_report_lines T (has_LineReport_init T) (has_LineReport_add T) hr, pure_report_lines T vs H Q E h⟩

theorem len_busiest_line {K : PySem.W.Frag} : ∀ vs H Q E, sp_busiest_line K vs H Q E → vs.length = (P_busiest_line : List Str).length := by
  intro vs H Q E h
  repeat first | (obtain ⟨rfl, _⟩ := h; rfl) | obtain ⟨_, h⟩ := h
theorem has_busiest_line (T : TX K mg base) : Has P w K mg base 1 "busiest_line" P_busiest_line (sp_busiest_line K) :=
  mk_has (T.glo 20) (T.says.def_ 5) sc_busiest_line (fun _ _ _ _ _ _ us hl => match us, hl with | [_], _ => rfl) len_busiest_line
    fun cdv A outer s H vs Q E hr h => ⟨t_busiest_line K E, d_busiest_line T  hr, pure_busiest_line T vs H Q E h⟩

theorem len_Frame_init {K : PySem.W.Frag} : ∀ vs H Q E, sp_Frame_init K vs H Q E → vs.length = (P_Frame_init : List Str).length := by
  intro vs H Q E h
  repeat first | (obtain ⟨rfl, _⟩ := h; rfl) | obtain ⟨_, h⟩ := h
theorem fn_Frame_init (T : TX K mg base) : ∃ fd, FunD K "__init__" "Frame.__init__" (defArgs s_Frame_init) (defBody s_Frame_init) (defScope s_Frame_init) (He.DefD.dvs K D_Frame_init) (He.DefD.kws K D_Frame_init) (He.ma K (He.ga K "Frame") "__init__") fd ∧ FnOk P w K mg base (L2.CX P w) 1 (He.ma K (He.ga K "Frame") "__init__") fd P_Frame_init (sp_Frame_init K) :=
  mk_fn (T.says.def_ 6) sc_Frame_init len_Frame_init fun cdv A outer s H vs Q E hr h => ⟨t_Frame_init K E, d_Frame_init T  hr, pure_Frame_init T vs H Q E h⟩

theorem len_Frame_as_row {K : PySem.W.Frag} : ∀ vs H Q E, sp_Frame_as_row K vs H Q E → vs.length = (P_Frame_as_row : List Str).length := by
  intro vs H Q E h
  repeat first | (obtain ⟨rfl, _⟩ := h; rfl) | obtain ⟨_, h⟩ := h
theorem has_Frame_as_row (T : TX K mg base) : HasM P w K mg base 1 "Frame" "as_row" P_Frame_as_row (sp_Frame_as_row K) :=
  mk_hasM (T.cls 22) (T.meth 24) (T.says.def_ 8) sc_Frame_as_row (fun _ _ _ _ _ _ us hl => match us, hl with | [_], _ => rfl) len_Frame_as_row
    fun cdv A outer s H vs Q E hr h => ⟨t_Frame_as_row K E, d_Frame_as_row T  hr, pure_Frame_as_row T vs H Q E h⟩

theorem len_law_cell {K : PySem.W.Frag} : ∀ vs H Q E, sp_law_cell K vs H Q E → vs.length = (P_law_cell : List Str).length := by
  intro vs H Q E h
  repeat first | (obtain ⟨rfl, _⟩ := h; rfl) | obtain ⟨_, h⟩ := h
theorem has_law_cell (T : TX K mg base) : Has P w K mg base 1 "_law_cell" P_law_cell (sp_law_cell K) :=
  mk_has (T.glo 26) (T.says.def_ 10) sc_law_cell (fun _ _ _ _ _ _ us hl => match us, hl with | [_, _], _ => rfl) len_law_cell
    fun cdv A outer s H vs Q E hr h => ⟨t_law_cell K E, d_law_cell T  hr, pure_law_cell T vs H Q E h⟩

theorem len_law_start {K : PySem.W.Frag} : ∀ vs H Q E, sp_law_start K vs H Q E → vs.length = (P_law_start : List Str).length := by
  intro vs H Q E h
  repeat first | (obtain ⟨rfl, _⟩ := h; rfl) | obtain ⟨_, h⟩ := h
theorem has_law_start (T : TX K mg base) : Has P w K mg base 1 "_law_start" P_law_start (sp_law_start K) :=
  mk_has (T.glo 27) (T.says.def_ 11) sc_law_start (fun _ _ _ _ _ _ us hl => match us, hl with | [_, _], _ => rfl) len_law_start
    fun cdv A outer s H vs Q E hr h => ⟨t_law_start K E, d_law_start T  hr, pure_law_start T vs H Q E h⟩

theorem len_law_digit {K : PySem.W.Frag} : ∀ vs H Q E, sp_law_digit K vs H Q E → vs.length = (P_law_digit : List Str).length := by
  intro vs H Q E h
  repeat first | (obtain ⟨rfl, _⟩ := h; rfl) | obtain ⟨_, h⟩ := h
theorem has_law_digit (T : TX K mg base) : Has P w K mg base 1 "_law_digit" P_law_digit (sp_law_digit K) :=
  mk_has (T.glo 28) (T.says.def_ 12) sc_law_digit (fun _ _ _ _ _ _ us hl => match us, hl with | [_, _], _ => rfl) len_law_digit
    fun cdv A outer s H vs Q E hr h => ⟨t_law_digit K E, d_law_digit T  hr, pure_law_digit T vs H Q E h⟩

theorem has_Frame_init_k0 (T : TX K mg base) : HasK P w K mg base 1 "Frame" 4 ["birth", "marked"] P_Frame_init gv_Frame_init_k0 (sp_Frame_init K) := by
  obtain ⟨fd, F, ok⟩ := fn_Frame_init (P := P) (w := w) T
  obtain ⟨mv, kb⟩ := F.kbinds0 (ps := P_Frame_init) 5 ["birth", "marked"] [("hops", .int 15)] (fun us mv ws => us ++ (ws.take 1 ++ (mv ++ ws.drop 1))) (by simp [He.DefD.kws]) (by simp [He.DefD.kws, He.Dv.v]) (fun r1 r2 r3 => r1.append ((vals_take 1 r3).append (r2.append (vals_drop 1 r3)))) (fun D doc pm an cdv ct us mv ws l1 l2 l3 => match us, mv, ws, l1, l2, l3 with | [_, _, _, _, _], [_], [_, _], _, _, _ => ⟨_, _, _, _, _, _, rfl, rfl, rfl⟩)
  exact ⟨T.glo 5, T.mkr 21, fd, _, ok, kb⟩

theorem len_law_event {K : PySem.W.Frag} : ∀ vs H Q E, sp_law_event K vs H Q E → vs.length = (P_law_event : List Str).length := by
  intro vs H Q E h
  repeat first | (obtain ⟨rfl, _⟩ := h; rfl) | obtain ⟨_, h⟩ := h
theorem has_law_event (T : TX K mg base) : Has P w K mg base 3 "_law_event" P_law_event (sp_law_event K) :=
  mk_has (T.glo 29) (T.says.def_ 13) sc_law_event (fun _ _ _ _ _ _ us hl => match us, hl with | [_, _], _ => rfl) len_law_event
    fun cdv A outer s H vs Q E hr h => ⟨t_law_event K E, d_law_event T (has_law_digit T) (has_Frame_init_k0 T) (has_Event_init T) hr, pure_law_event T vs H Q E h⟩

theorem len_law_row {K : PySem.W.Frag} : ∀ vs H Q E, sp_law_row K vs H Q E → vs.length = (P_law_row : List Str).length := by
  intro vs H Q E h
  repeat first | (obtain ⟨rfl, _⟩ := h; rfl) | obtain ⟨_, h⟩ := h
theorem has_law_row (T : TX K mg base) : Has P w K mg base 2 "_law_row" P_law_row (sp_law_row K) :=
  mk_has (T.glo 30) (T.says.def_ 14) sc_law_row (fun _ _ _ _ _ _ us hl => match us, hl with | [_], _ => rfl) len_law_row
    fun cdv A outer s H vs Q E hr h => ⟨t_law_row K E, d_law_row T (has_Frame_as_row T) hr, pure_law_row T vs H Q E h⟩

theorem len_law_expected {K : PySem.W.Frag} : ∀ vs H Q E, sp_law_expected K vs H Q E → vs.length = (P_law_expected : List Str).length := by
  intro vs H Q E h
  repeat first | (obtain ⟨rfl, _⟩ := h; rfl) | obtain ⟨_, h⟩ := h
theorem has_law_expected (T : TX K mg base) : Has P w K mg base 1 "_law_expected" P_law_expected (sp_law_expected K) :=
  mk_has (T.glo 31) (T.says.def_ 15) sc_law_expected (fun _ _ _ _ _ _ us hl => match us, hl with | [_, _, _], _ => rfl) len_law_expected
    fun cdv A outer s H vs Q E hr h => ⟨t_law_expected K E, d_law_expected T  hr, pure_law_expected T vs H Q E h⟩

theorem len_law_told {K : PySem.W.Frag} : ∀ vs H Q E, sp_law_told K vs H Q E → vs.length = (P_law_told : List Str).length := by
  intro vs H Q E h
  repeat first | (obtain ⟨rfl, _⟩ := h; rfl) | obtain ⟨_, h⟩ := h
theorem has_law_told (T : TX K mg base) : Has P w K mg base 1 "_law_told" P_law_told (sp_law_told K) :=
  mk_has (T.glo 32) (T.says.def_ 16) sc_law_told (fun _ _ _ _ _ _ us hl => match us, hl with | [_], _ => rfl) len_law_told
    fun cdv A outer s H vs Q E hr h => ⟨t_law_told K E, d_law_told T  hr, pure_law_told T vs H Q E h⟩

theorem len_law_busiest {K : PySem.W.Frag} : ∀ vs H Q E, sp_law_busiest K vs H Q E → vs.length = (P_law_busiest : List Str).length := by
  intro vs H Q E h
  repeat first | (obtain ⟨rfl, _⟩ := h; rfl) | obtain ⟨_, h⟩ := h
theorem has_law_busiest (T : TX K mg base) : Has P w K mg base 1 "_law_busiest" P_law_busiest (sp_law_busiest K) :=
  mk_has (T.glo 33) (T.says.def_ 17) sc_law_busiest (fun _ _ _ _ _ _ us hl => match us, hl with | [_], _ => rfl) len_law_busiest
    fun cdv A outer s H vs Q E hr h => ⟨t_law_busiest K E, d_law_busiest T  hr, pure_law_busiest T vs H Q E h⟩

theorem len_law {K : PySem.W.Frag} : ∀ vs H Q E, sp_law K vs H Q E → vs.length = (P_law : List Str).length := by
  intro vs H Q E h
  repeat first | (obtain ⟨rfl, _⟩ := h; rfl) | obtain ⟨_, h⟩ := h
theorem has_law (T : TX K mg base) : Has P w K mg base 4 "law" P_law (sp_law K) :=
  mk_has (T.glo 34) (T.says.def_ 18) sc_law (fun _ _ _ _ _ _ us hl => match us, hl with | [_], _ => rfl) len_law
    fun cdv A outer s H vs Q E hr h => ⟨t_law K E, d_law T (has_law_start T) (has_law_cell T) (has_law_digit T) (has_law_event T) (has_law_row T) (has_report_lines T) (has_law_expected T) (has_law_told T) (has_busiest_line T) (has_law_busiest T) (has_Event__eq T) hr, pure_law T vs H Q E h⟩

theorem ok_law (T : TX K mg base) {fd : FuncData} (F : FunD K "law" "law" (defArgs s_law) (defBody s_law) (defScope s_law) [] [] (He.ga K "law") fd) : FnOk P w K mg base (L2.CX P w) 4 (He.ga K "law") fd P_law (sp_law K) :=
  FunD.ok (CX := L2.CX P w) F sc_law len_law fun cdv A outer s H vs Q E hr h => ⟨t_law K E, d_law T (has_law_start T) (has_law_cell T) (has_law_digit T) (has_law_event T) (has_law_row T) (has_report_lines T) (has_law_expected T) (has_law_told T) (has_busiest_line T) (has_law_busiest T) (has_Event__eq T) hr, pure_law T vs H Q E h⟩

end

end K93

open PySem PySem.W PySem.Calls PyProof.Rows
theorem PySem.Challenge.cw_throughway_k93_reports_of_lines_holds : PySem.Challenge.rw_throughway_k93_reports_of_lines.Holds := by
  w_on; o_law
  refine HandSHeadRun.head_any (r := OpenLaw.row PySem.Challenge.rw_throughway_k93_reports_of_lines) (q := view (OpenLaw.row PySem.Challenge.rw_throughway_k93_reports_of_lines).prog [19]) (H := K93.hk) (ob := K93.ob) (M := 4000) (loose := K93.names) (d := HandSHeadRun.topDef (OpenLaw.row PySem.Challenge.rw_throughway_k93_reports_of_lines).prog 19) (kwd := []) K93.ob_eq
    (by kernel_rfl) (fun s => by kernel_rfl) K93.run (by kernel_rfl) (by kernel_rfl) (by kernel_rfl) (by rfl) (by first | assumption | decide +kernel) (by decide +kernel) ⟨rfl, rfl, rfl, rfl, rfl, by decide +kernel⟩ ?hw ?hc
  case hw => w_witness2
  case hc =>
    refine G.walk_ofEB (l := PySem.Challenge.rw_throughway_k93_reports_of_lines) (n := 63) (k := 4) (x := "script") (CX := fun w => L2.CX (PySem.Challenge.rw_throughway_k93_reports_of_lines).prog w) rfl (by decide) (by kernel_rfl) ⟨rfl, by decide, by decide⟩ ?F ?X
    case X =>
      intro w H s e s' z
      obtain ⟨_, _, _, _, _, _, _, _, _, _, _, _, z⟩ := z
      exact z.elim
    case F =>
      intro w mg fa h Y G hmg0
      obtain ⟨K, KX, c⟩ := Y
      have hmg : mg ("law" : PySem.Str) = some (.ref fa) := by
        have e : (HandSHeadRun.topDef (OpenLaw.row PySem.Challenge.rw_throughway_k93_reports_of_lines).prog 19).name = ("law" : PySem.Str) := by kernel_rfl
        rw [← e]
        exact hmg0
      obtain ⟨fd, FD⟩ := He.SaysD.def_ c.d 18 (d := K93.D_law) rfl
      have b := L2.FunD.bindsA (ps := ["script"]) FD fun _ _ _ _ _ _ us hl => match us, hl with | [_], _ => rfl
      have eg : fa = He.ga K "law" := by
        have e := hmg.symm.trans (He.glo_ok KX G (He.SaysD.fact c.d 34 (f := .glo "law") rfl))
        cases e
        rfl
      subst eg
      exact ⟨K, fd, K93.sp_law K, KX, fun s v => b s [v] rfl, fun H a ns hl hb hO hS => K93.law_start hl hb hO hS, fun base kin hns => K93.ok_law ⟨⟨kin, hns, c.d⟩, c⟩ FD⟩
