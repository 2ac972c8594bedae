import PyProof.Rows.All
import Wide.All
import OpenK.AllK
import Wide.FinOn
import HandS.ForMost
import HandS.ForExc
import HandS.Wide
import HandS.Steps
import HandS.Evl
import HandS.Defaults
import HandS.IsInst
import HandS.Head0
import HandS.Head1
import HandS.Head2
import HandS.HeadEnd
import HandS.EndBits
import HandS.HeadHook1
import HandS.HeadHook2
import HandS.Property
import HandS.OwnEq
import HandS.ExcIs
import HandS.DeepEq
import HandS.HeadHook4
import HandS.TupLe
import HandS.Walk
import KE.KIndexOf
import HandS.Strs
import HandS.Dict
import HandS.MakeKwOnly
import PyProof.Rows.ChunkEnd
import HandS.Flow
import HandS.SortRule
import HandS.SortInts
import HandS.Deep
import KE.KSortTup
import HandS.ForDict
import HandS.More
import HandS.WordsDict
import PyProof.NeKinds
import KE.SortData
import PySem.Challenge.RW_throughway_k74_tables_find_the_longest_p
set_option Elab.async false
set_option linter.all false
set_option maxRecDepth 100000
set_option maxHeartbeats 4000000
/-! My own words over the hand layer: a def of the module, a method, a class, by names (Has, HasM, HasI); their calls; readings step by step. -/
namespace G
open PySem PySem.Spec PyProof.Rows L2
/-- a step that needs nothing: found by the head of the goal -/
class Stp (P : Prop) (Q : outParam Prop) : Prop where
  go : Q → P

/-! ### a call that may let an exception out, at the slots -/
section
variable {X : Cx} {k : Nat} {f C : Addr} {fd : FuncData} {ps : List Str} {sp : Sp} {E : L2.St → XK} {x m : Str} {p pos apos : Pos} {e o : Expr} {es : List Expr} {ta : TE} {t : TA}
abbrev XC (X : Cx) : CXT := L2.CX X.prog X.w
/-- nothing is let out -/
theorem passZ (σ : L2.St) : PassesAt (XC X) X σ E0 := fun _ _ _ _ _ _ c => by
  obtain ⟨_, _, _, _, _, _, _, _, _, _, _, _, z⟩ := c
  exact z.elim
theorem pe_callS0 (F : FnOk X.prog X.w X.K X.mg X.base (XC X) k f fd ps sp) (hr : Room k X.A) (hg : Gl X x) (hm : X.mg x = some (.ref f)) (hk : PySem.W.keepIn X.K (.ref f) = true) (hb : Binds X.K fd ps []) (hx : ∀ σ, PassesAt (XC X) X σ (E σ))
    (hdb : (x == ("__debug__" : Str)) = false := by decide) : PE X (.Call (.Name x p) [] [] pos) (tCallS sp E tNil) := by
  refine ⟨fun pz s σ H Q I h => ?_⟩
  refine wpAny_Call_Name_kw ?_
  refine ld_glob I hg hm ?_ hdb
  exact PySem.W.callWith_K0 I.kIn hk (run_fnS (us := []) F hr hb (hx σ) I .nil h)
/-- o.m(..) -/
def tMt (C : Addr) (m : Str) (sp : Sp) (E : L2.St → XK) (ta : TE) (t : TA) : TE := fun σ H Q => ta σ H fun x H1 => ∃ a dx fs, x = .ref a ∧ H1 a = some (.ins C dx fs) ∧ fs.lookup m = none ∧
  t σ H1 fun vs H2 => sp (x :: vs) H2 Q (E σ)
theorem pe_mt {pl : Sem Bool} (he : PE X o ta) (c : Cls X.K C) (hm : Meth X.K C m f) (F : FnOk X.prog X.w X.K X.mg X.base (XC X) k f fd ps sp) (hr : Room k X.A) (hb : Binds X.K fd ps []) (hx : ∀ σ, PassesAt (XC X) X σ (E σ)) (ha : PA X (e :: es) t)
    (hst : starEach (e :: es) X.env = (false, eval e X.env) :: starEach es X.env := by rfl) (hpl : (backTo pos (starEach es X.env)).any (·.1) = false := by rfl)
    (ht : eval (.Call (.Attribute o m apos) (e :: es) [] pos) X.env = (do
      let ov ← eval o X.env
      standAt apos.atName
      let (f, first) ← holding [ov] (getMethod ov m pl)
      callWith pos f first (backTo pos (starEach (e :: es) X.env)) (backToKw pos (keywordEach [] X.env))) := by rfl) :
    PE X (.Call (.Attribute o m apos) (e :: es) [] pos) (tMt C m sp E ta t) := by
  refine ⟨fun pz s σ H Q I h => ?_⟩
  refine PySem.W.methodCall_KW (pl := pl) (thn (he.run pz s σ H _ I h) fun u z1 ⟨x, H1, J1, rq, a, dx, fs, ex, ea, l, q⟩ => ?_) ht
  subst ex
  obtain rfl : u = Value.ref a := rq
  refine getmeth_ok J1 ea c hm l ?_
  refine PySem.W.callWith_K (first := [.ref a]) (h₀ := X.base) I.ok.mod.kin hm.kp (thn (ha.run pos pz z1 σ H1 _ J1 q) fun us s2 ⟨vs, H2, J2, r, qb⟩ => ⟨J2.kIn, ?_⟩) hst hpl
  exact run_fnS (us := .ref a :: us) (vs := .ref a :: vs) F hr hb (hx σ) J2 (.cons rfl r) qb
theorem pe_mt0 {pl : Sem Bool} (he : PE X o ta) (c : Cls X.K C) (hm : Meth X.K C m f) (F : FnOk X.prog X.w X.K X.mg X.base (XC X) k f fd ps sp) (hr : Room k X.A) (hb : Binds X.K fd ps []) (hx : ∀ σ, PassesAt (XC X) X σ (E σ))
    (ht : eval (.Call (.Attribute o m apos) [] [] pos) X.env = (do
      let ov ← eval o X.env
      standAt apos.atName
      let (f, first) ← holding [ov] (getMethod ov m pl)
      callWith pos f first (backTo pos (starEach [] X.env)) (backToKw pos (keywordEach [] X.env))) := by rfl) :
    PE X (.Call (.Attribute o m apos) [] [] pos) (tMt C m sp E ta tNil) := by
  refine ⟨fun pz s σ H Q I h => ?_⟩
  refine PySem.W.methodCall_KW (pl := pl) (thn (he.run pz s σ H _ I h) fun u z1 ⟨x, H1, J1, rq, a, dx, fs, ex, ea, l, q⟩ => ?_) ht
  subst ex
  obtain rfl : u = Value.ref a := rq
  refine getmeth_ok J1 ea c hm l ?_
  exact PySem.W.callWith_K0 (first := [.ref a]) J1.kIn hm.kp (run_fnS (us := [.ref a]) (vs := [.ref a]) F hr hb (hx σ) J1 (.cons rfl .nil) q)
/-- C(..) -/
def tMk (C : Addr) (sp : Sp) (E : L2.St → XK) (t : TA) : TE := fun σ H Q => t σ H fun vs H1 => ∀ x dx, H1 x = none → H1 dx = none → dx ≠ x →
  sp (.ref x :: vs) (upd (upd H1 dx (.own x)) x (.ins C dx [])) (fun v H2 => v = .non ∧ Q (.ref x) H2) (E σ)
theorem run_mk {pz : List (Addr × Obj)} {σ : L2.St} {H : Hp} {s : Shared} {Q : VK} {us : List Value} {vs : List V} (M : Mk X.K C f) (F : FnOk X.prog X.w X.K X.mg X.base (XC X) k f fd ps sp) (hr : Room (k + 1) X.A) (hb : Binds X.K fd ps [])
    (hx : PassesAt (XC X) X σ (E σ)) (I : Inv X pz σ H s) (r : Vals vs us)
    (h : ∀ x dx, H x = none → H dx = none → dx ≠ x → sp (.ref x :: vs) (upd (upd H dx (.own x)) x (.ins C dx [])) (fun v H2 => v = .non ∧ Q (.ref x) H2) (E σ)) :
    wpAny (model X.prog X.w) X.A (call (.ref C) us) (EP X pz σ Q) X.xe s := by
  have hqa := h (s.heap.objs.size + 1) s.heap.objs.size (I.hok.fresh (Nat.le_succ _)) (I.hok.fresh (Nat.le_refl _)) (Nat.ne_of_lt (Nat.lt_succ_self _))
  have J2 := Inv.made (C := C) I
  have rr2 : Vals (V.ref (s.heap.objs.size + 1) :: vs) (Value.ref (s.heap.objs.size + 1) :: us) := .cons rfl r
  have hl : (Value.ref (s.heap.objs.size + 1) :: us).length = ps.length := by
    have e := rr2.length
    rw [F.len _ _ _ _ hqa] at e
    exact e.symm
  have b := hb _ (Value.ref (s.heap.objs.size + 1) :: us) J2.kIn (by rw [List.append_nil]; exact hl)
  rw [List.append_nil] at b
  refine wpAny_call (make_map (f := f) I.kIn M.makes M.init (beq_iff_eq.mp M.fn) (codeAny_mono (F.run _ X.stack _ _ ⟨Value.ref (s.heap.objs.size + 1) :: us, []⟩ (Value.ref (s.heap.objs.size + 1) :: us) _ _ (E σ) (hr.make C us [])
    (J2.env0.make C us []) b rr2 hqa) fun r s' hqb => ?_))
  cases r with
  | error e => exact hx pz _ _ e s' J2 hqb
  | ok fl =>
    cases fl with
    | ret u =>
      obtain ⟨v, H', J3, rv, ev, qc⟩ := J2.after hqb
      subst ev
      exact ⟨rv, ⟨V.ref (s.heap.objs.size + 1), H', J3, rfl, qc⟩⟩
    | next => exact False.elim hqb
    | brk => exact False.elim hqb
    | cont => exact False.elim hqb
theorem pe_mk (M : Mk X.K C f) (F : FnOk X.prog X.w X.K X.mg X.base (XC X) k f fd ps sp) (hr : Room (k + 1) X.A) (hg : Gl X x) (hm : X.mg x = some (.ref C)) (hb : Binds X.K fd ps []) (hx : ∀ σ, PassesAt (XC X) X σ (E σ))
    (ha : PA X (e :: es) t) (hdb : (x == ("__debug__" : Str)) = false := by decide) (he : starEach (e :: es) X.env = (false, eval e X.env) :: starEach es X.env := by rfl) (hpl : (backTo pos (starEach es X.env)).any (·.1) = false := by rfl) :
    PE X (.Call (.Name x p) (e :: es) [] pos) (tMk C sp E t) := by
  refine ⟨fun pz s σ H Q I h => ?_⟩
  refine wpAny_Call_Name_kw ?_
  refine ld_glob I hg hm ?_ hdb
  refine PySem.W.callWith_K (h₀ := X.base) I.ok.mod.kin M.kp (thn (ha.run pos pz s σ H _ I h) fun us z1 ⟨vs, H1, J1, r, q⟩ => ⟨J1.kIn, ?_⟩) he hpl
  exact run_mk M F hr hb (hx σ) J1 r q
theorem pe_mk0 (M : Mk X.K C f) (F : FnOk X.prog X.w X.K X.mg X.base (XC X) k f fd ps sp) (hr : Room (k + 1) X.A) (hg : Gl X x) (hm : X.mg x = some (.ref C)) (hb : Binds X.K fd ps []) (hx : ∀ σ, PassesAt (XC X) X σ (E σ))
    (hdb : (x == ("__debug__" : Str)) = false := by decide) : PE X (.Call (.Name x p) [] [] pos) (tMk C sp E tNil) := by
  refine ⟨fun pz s σ H Q I h => ?_⟩
  refine wpAny_Call_Name_kw ?_
  refine ld_glob I hg hm ?_ hdb
  exact PySem.W.callWith_K0 I.kIn M.kp (run_mk (us := []) M F hr hb (hx σ) I .nil h)
end

/-! ### by names -/
section
variable (P : Program) (w : World) (K : PySem.W.Frag) (mg : Str → Option Value) (base : Heap)
/-- a def of the module -/
structure Has (k : Nat) (x : Str) (ps : List Str) (sp : Sp) : Prop where
  gl : mg x = some (.ref (He.ga K x))
  kp : PySem.W.keepIn K (.ref (He.ga K x)) = true
  ex : ∃ fd, FnOk P w K mg base (L2.CX P w) k (He.ga K x) fd ps sp ∧ Binds K fd ps []
/-- a method -/
structure HasM (k : Nat) (c m : Str) (ps : List Str) (sp : Sp) : Prop where
  cl : Cls K (He.ga K c)
  me : Meth K (He.ga K c) m (He.ma K (He.ga K c) m)
  ex : ∃ fd, FnOk P w K mg base (L2.CX P w) k (He.ma K (He.ga K c) m) fd ps sp ∧ Binds K fd ps []
/-- a class that is made by its __init__ -/
structure HasI (k : Nat) (c : Str) (ps : List Str) (sp : Sp) : Prop where
  gl : mg c = some (.ref (He.ga K c))
  mkr : Mk K (He.ga K c) (He.ma K (He.ga K c) "__init__")
  ex : ∃ fd, FnOk P w K mg base (L2.CX P w) k (He.ma K (He.ga K c) "__init__") fd ps sp ∧ Binds K fd ps []
end
section
variable {P : Program} {w : World} {K : PySem.W.Frag} {mg : Str → Option Value} {base : Heap}
theorem Has.mono {j k : Nat} {x : Str} {ps : List Str} {sp : Sp} (h : Has P w K mg base j x ps sp) (l : j ≤ k) : Has P w K mg base k x ps sp :=
  ⟨h.gl, h.kp, let ⟨fd, F, b⟩ := h.ex; ⟨fd, F.mono l, b⟩⟩
theorem HasM.mono {j k : Nat} {c m : Str} {ps : List Str} {sp : Sp} (h : HasM P w K mg base j c m ps sp) (l : j ≤ k) : HasM P w K mg base k c m ps sp :=
  ⟨h.cl, h.me, let ⟨fd, F, b⟩ := h.ex; ⟨fd, F.mono l, b⟩⟩
theorem HasI.mono {j k : Nat} {c : Str} {ps : List Str} {sp : Sp} (h : HasI P w K mg base j c ps sp) (l : j ≤ k) : HasI P w K mg base k c ps sp :=
  ⟨h.gl, h.mkr, let ⟨fd, F, b⟩ := h.ex; ⟨fd, F.mono l, b⟩⟩
end
section
variable {X : Cx} {k : Nat} {ps : List Str} {sp : Sp} {E : L2.St → XK} {x c m : Str} {p pos apos : Pos} {e o : Expr} {es : List Expr} {ta : TE} {t : TA}
theorem pe_h (h : Has X.prog X.w X.K X.mg X.base k x ps sp) (hr : Room k X.A) (hg : Gl X x) (hx : ∀ σ, PassesAt (XC X) X σ (E σ)) (ha : PA X (e :: es) t) (hdb : (x == ("__debug__" : Str)) = false := by decide)
    (he : starEach (e :: es) X.env = (false, eval e X.env) :: starEach es X.env := by rfl) (hpl : (backTo pos (starEach es X.env)).any (·.1) = false := by rfl) : PE X (.Call (.Name x p) (e :: es) [] pos) (tCallS sp E t) := by
  obtain ⟨fd, F, b⟩ := h.ex
  exact pe_callS F hr hg h.gl h.kp b hx ha hdb he hpl
theorem pe_h0 (h : Has X.prog X.w X.K X.mg X.base k x ps sp) (hr : Room k X.A) (hg : Gl X x) (hx : ∀ σ, PassesAt (XC X) X σ (E σ)) (hdb : (x == ("__debug__" : Str)) = false := by decide) : PE X (.Call (.Name x p) [] [] pos) (tCallS sp E tNil) := by
  obtain ⟨fd, F, b⟩ := h.ex
  exact pe_callS0 F hr hg h.gl h.kp b hx hdb
theorem pe_i (h : HasI X.prog X.w X.K X.mg X.base k c ps sp) (hr : Room (k + 1) X.A) (hg : Gl X c) (hx : ∀ σ, PassesAt (XC X) X σ (E σ)) (ha : PA X (e :: es) t) (hdb : (c == ("__debug__" : Str)) = false := by decide)
    (he : starEach (e :: es) X.env = (false, eval e X.env) :: starEach es X.env := by rfl) (hpl : (backTo pos (starEach es X.env)).any (·.1) = false := by rfl) : PE X (.Call (.Name c p) (e :: es) [] pos) (tMk (He.ga X.K c) sp E t) := by
  obtain ⟨fd, F, b⟩ := h.ex
  exact pe_mk h.mkr F hr hg h.gl b hx ha hdb he hpl
theorem pe_i0 (h : HasI X.prog X.w X.K X.mg X.base k c ps sp) (hr : Room (k + 1) X.A) (hg : Gl X c) (hx : ∀ σ, PassesAt (XC X) X σ (E σ)) (hdb : (c == ("__debug__" : Str)) = false := by decide) : PE X (.Call (.Name c p) [] [] pos) (tMk (He.ga X.K c) sp E tNil) := by
  obtain ⟨fd, F, b⟩ := h.ex
  exact pe_mk0 h.mkr F hr hg h.gl b hx hdb
theorem pe_m {pl : Sem Bool} (he : PE X o ta) (h : HasM X.prog X.w X.K X.mg X.base k c m ps sp) (hr : Room k X.A) (hx : ∀ σ, PassesAt (XC X) X σ (E σ)) (ha : PA X (e :: es) t)
    (hst : starEach (e :: es) X.env = (false, eval e X.env) :: starEach es X.env := by rfl) (hpl : (backTo pos (starEach es X.env)).any (·.1) = false := by rfl)
    (ht : eval (.Call (.Attribute o m apos) (e :: es) [] pos) X.env = (do
      let ov ← eval o X.env
      standAt apos.atName
      let (f, first) ← holding [ov] (getMethod ov m pl)
      callWith pos f first (backTo pos (starEach (e :: es) X.env)) (backToKw pos (keywordEach [] X.env))) := by rfl) :
    PE X (.Call (.Attribute o m apos) (e :: es) [] pos) (tMt (He.ga X.K c) m sp E ta t) := by
  obtain ⟨fd, F, b⟩ := h.ex
  exact pe_mt he h.cl h.me F hr b hx ha hst hpl ht
theorem pe_m0 {pl : Sem Bool} (he : PE X o ta) (h : HasM X.prog X.w X.K X.mg X.base k c m ps sp) (hr : Room k X.A) (hx : ∀ σ, PassesAt (XC X) X σ (E σ))
    (ht : eval (.Call (.Attribute o m apos) [] [] pos) X.env = (do
      let ov ← eval o X.env
      standAt apos.atName
      let (f, first) ← holding [ov] (getMethod ov m pl)
      callWith pos f first (backTo pos (starEach [] X.env)) (backToKw pos (keywordEach [] X.env))) := by rfl) :
    PE X (.Call (.Attribute o m apos) [] [] pos) (tMt (He.ga X.K c) m sp E ta tNil) := by
  obtain ⟨fd, F, b⟩ := h.ex
  exact pe_mt0 he h.cl h.me F hr b hx ht
/-- raise X('..'), X without an __init__ -/
def tRs (C : Addr) (W : WX) : TS := fun _ σ H => W (.ref C) none σ H
/-- what the class of an own exception must have -/
structure HasX (K : PySem.W.Frag) (mg : Str → Option Value) (c : Str) : Prop where
  gl : mg c = some (.ref (He.ga K c))
  ex : PySem.W.excIn K (He.ga K c) He.veBase "ValueError.__new__" = true
  kp : PySem.W.keepIn K (.ref (He.ga K c)) = true
  sb : PySem.W.subIn K (.ref (He.ga K c)) (.type "BaseException") = some true
  ty : PySem.W.typeIn K (.ref (He.ga K c)) = some (.type "type")
theorem ps_rs {W : WX} {msg : Str} {j : Nat} {p2 pos2 : Pos} (hc : X.calm = true) (tk : Takes X W) (h : HasX X.K X.mg c) (hg : Gl X c) (hdb : (c == ("__debug__" : Str)) = false := by decide) :
    PS X (.Raise (some (.Call (.Name c p) [.Constant (.str msg) j p2] [] pos)) none pos2) (tRs (He.ga X.K c) W) :=
  ps_raise hc tk (pmk_own PySem.F.excBase_ValueError h.ex h.gl h.kp (raises_own h.sb h.ty) hg hdb)
end

/-! ### a def of the text keeps its promise -/
section
variable {P : Program} {w : World} {K : PySem.W.Frag} {mg : Str → Option Value} {base : Heap}
/-- what the body's term and its reading are to give -/
abbrev Body (P : Program) (w : World) (K : PySem.W.Frag) (mg : Str → Option Value) (base : Heap) (k : Nat) (N : List Str) (qual : Str) (scope : Scope) (f : Addr) (body : List Stmt) (sp : Sp) : Prop :=
  ∀ (cdv : Value) (A : Around) (outer : List Env) (s : Shared) (H : Hp) (vs : List V) (Q : VK) (E : XK), Room k (A.deeper (envOfC qual scope s.heap.objs.size f cdv)) → sp vs H Q E →
      ∃ t, PSs (cxOf (L2.CX P w) P w K mg base N qual scope f cdv A outer s H E) body t ∧ t { nx := fun _ H' => Q .non H', rt := Q } (start N vs) H
theorem mk_has {k : Nat} {x qual : Str} {params : Arguments} {body : List Stmt} {scope : Scope} {N ps : List Str} {sp : Sp} (gl : mg x = some (.ref (He.ga K x)))
    (F : ∃ fd, FunD K x qual params body scope [] [] (He.fAd K (x, none)) fd) (S : FnScope N ps scope)
    (hb : ∀ (kV doc pm : Value) (an : Option Addr) (cdv ct : Value) (us : List Value), us.length = ps.length → bindArgs (PySem.W.fnOf x qual params body scope .none kV doc pm an cdv ct) ⟨us, []⟩ = pure (ps.zip us))
    (len : ∀ vs H Q E, sp vs H Q E → vs.length = ps.length) (hbody : Body P w K mg base k N qual scope (He.ga K x) body sp) : Has P w K mg base (k + 1) x ps sp := by
  obtain ⟨fd, F⟩ := F
  exact ⟨gl, F.kp, fd, FunD.ok (CX := L2.CX P w) F S len hbody, F.bindsN hb⟩
theorem mk_hasM {k : Nat} {c m qual : Str} {params : Arguments} {body : List Stmt} {scope : Scope} {N ps : List Str} {sp : Sp} (cl : Cls K (He.ga K c)) (me : Meth K (He.ga K c) m (He.ma K (He.ga K c) m))
    (F : ∃ fd, FunD K m qual params body scope [] [] (He.fAd K (c, some m)) fd) (S : FnScope N ps scope)
    (hb : ∀ (kV doc pm : Value) (an : Option Addr) (cdv ct : Value) (us : List Value), us.length = ps.length → bindArgs (PySem.W.fnOf m qual params body scope .none kV doc pm an cdv ct) ⟨us, []⟩ = pure (ps.zip us))
    (len : ∀ vs H Q E, sp vs H Q E → vs.length = ps.length) (hbody : Body P w K mg base k N qual scope (He.ma K (He.ga K c) m) body sp) : HasM P w K mg base (k + 1) c m ps sp := by
  obtain ⟨fd, F⟩ := F
  exact ⟨cl, me, fd, FunD.ok (CX := L2.CX P w) F S len hbody, F.bindsN hb⟩
theorem mk_hasI {k : Nat} {c qual : Str} {params : Arguments} {body : List Stmt} {scope : Scope} {N ps : List Str} {sp : Sp} (gl : mg c = some (.ref (He.ga K c))) (mk : Mk K (He.ga K c) (He.ma K (He.ga K c) "__init__"))
    (F : ∃ fd, FunD K "__init__" qual params body scope [] [] (He.fAd K (c, some "__init__")) fd) (S : FnScope N ps scope)
    (hb : ∀ (kV doc pm : Value) (an : Option Addr) (cdv ct : Value) (us : List Value), us.length = ps.length → bindArgs (PySem.W.fnOf "__init__" qual params body scope .none kV doc pm an cdv ct) ⟨us, []⟩ = pure (ps.zip us))
    (len : ∀ vs H Q E, sp vs H Q E → vs.length = ps.length) (hbody : Body P w K mg base k N qual scope (He.ma K (He.ga K c) "__init__") body sp) : HasI P w K mg base (k + 1) c ps sp := by
  obtain ⟨fd, F⟩ := F
  exact ⟨gl, mk, fd, FunD.ok (CX := L2.CX P w) F S len hbody, F.bindsN hb⟩
/-- the head's facts -/
structure Tx (fa : List He.Fa) (fn : List He.DefD) (K : PySem.W.Frag) (mg : Str → Option Value) (base : Heap) : Prop where
  kin : K.In base
  ns : base.Ns mainGlobals mg
  says : He.SaysD fa fn K
variable {fa : List He.Fa} {fn : List He.DefD}
theorem Tx.glo (T : Tx fa fn K mg base) {x : Str} (i : Nat) (h : fa[i]? = some (.glo x) := by rfl) : mg x = some (.ref (He.ga K x)) := He.glo_ok T.kin T.ns (T.says.fact i h)
theorem Tx.free (T : Tx fa fn K mg base) {x : Str} (i : Nat) (h : fa[i]? = some (.free x) := by rfl) : mg x = none := He.free_ok T.kin T.ns (T.says.fact i h)
theorem Tx.cls (T : Tx fa fn K mg base) {x : Str} (i : Nat) (h : fa[i]? = some (.cls x) := by rfl) : Cls K (He.ga K x) := He.cls_ok (T.says.fact i h)
theorem Tx.noat (T : Tx fa fn K mg base) {x f : Str} (i : Nat) (h : fa[i]? = some (.noat x f) := by rfl) : NoAttr K (He.ga K x) f := He.noat_ok (T.says.fact i h)
theorem Tx.meth (T : Tx fa fn K mg base) {x m : Str} (i : Nat) (h : fa[i]? = some (.meth x m) := by rfl) : Meth K (He.ga K x) m (He.ma K (He.ga K x) m) := He.meth_ok (T.says.fact i h)
theorem Tx.mkr (T : Tx fa fn K mg base) {x : Str} (i : Nat) (h : fa[i]? = some (.mkr x) := by rfl) : Mk K (He.ga K x) (He.ma K (He.ga K x) "__init__") := He.mkr_ok (T.says.fact i h)
theorem Tx.exm (T : Tx fa fn K mg base) {x y : Str} {b : Bool} (i : Nat) (h : fa[i]? = some (.exm x y b) := by rfl) : PySem.W.exmOne K (.ref (He.ga K x)) (.ref (He.ga K y)) = some b := He.exm_ok (T.says.fact i h)
theorem Tx.exc (T : Tx fa fn K mg base) {x : Str} (i j : Nat) (h : fa[i]? = some (.exc x) := by rfl) (h2 : fa[j]? = some (.glo x) := by rfl) : HasX K mg x :=
  let ⟨a, b, c, d⟩ := He.exc_ok (T.says.fact i h)
  ⟨T.glo j h2, a, b, c, d⟩
end

/-! ### the end, with the script's bits told -/
theorem walk_ofEB {l : PySem.W.OpenLaw} {n k : Nat} {q : Program} {loose : List Str} {XP : (Str → Option Value) → Heap → Prop} {YP : World → Heap → Prop} {d : DefRec} {CX : World → CXT} {x : Str}
    (hn : l.most = some n) (hn2 : n ≤ sizeLine) (hdf : d.params.defaults = []) (hr : Room k callerA)
    (F : ∀ (w : World) (mg : Str → Option Value) (fa : Addr) (h : Heap), YP w h → h.Ns mainGlobals mg → mg d.name = some (.ref fa) →
      ∃ (K : PySem.W.Frag) (fd : FuncData) (sp : Sp), K.In h ∧ (∀ (s : Shared) (u : Value), BindsTo s fd ⟨[u], []⟩ [(x, u)]) ∧
        (∀ (H : Hp) (a : Addr) (ns : List Int), ns.length ≤ n → (∀ z ∈ ns, Builtin.Int.intBits z ≤ 1048576) → Only H → SqL K H a (ns.map V.int) → sp [.ref a] H (fun v _ => v = .bl true) fun _ _ _ => False) ∧
        ∀ base : Heap, K.In base → base.Ns mainGlobals mg → FnOk l.prog w K mg base (CX w) k fa fd [x] sp)
    (hCX : ∀ (w : World) (H : Hp) (s : Shared) (e : Value) (s' : Shared), CX w [] H s (fun _ _ _ => False) e s' → False) :
    PySem.W.WalkO q loose XP YP l.row.toRowW d [] (fun f vs => PySem.call f vs) := by
  refine Att.attach_callB hn hdf fun w sA sB mg mb fa o pm cd doc a vs ns G Y ho hd hcd hmg hobj hints hlen hbits hg => ?_
  obtain ⟨K, fd, sp, kx, bd, sh, FF⟩ := F w mg fa _ Y G.T.g hmg
  exact law_call kx G.T.g G.T.b G.T.builtins G.T.nolimit hg hobj hints (Nat.le_trans hlen hn2) hr FF bd (fun H hO hS => sh H a ns hlen hbits hO hS) fun H e s' => hCX w H sB e s'
end G

/-! readings, step by step -/
namespace G
open PySem PySem.Spec PyProof.Rows L2
/-! ### names of the rules' relations -/
abbrev wB (E : XK) : WX := fun cls d _ H => E cls d H
abbrev gAdd : R2 := rI0 fun i j => .int (i + j)
abbrev gMinus : R2 := rI0 fun i j => .int (i - j)
abbrev gMul : R2 := rI CMul fun i j => .int (i * j)
abbrev gMulW : R2 := rI CMulW fun i j => .int (i * j)
abbrev gDiv : R2 := rI CDiv fun i j => .int (i / j)
abbrev gDivW : R2 := rI CDivW fun i j => .int (i / j)
abbrev gMod : R2 := rI (fun _ j => 0 < j) fun i j => .int (i % j)
abbrev gPow : R2 := rI CPow fun i j => .int (i ^ j.toNat)
abbrev gShl : R2 := rI CPow fun i j => .int (i * 2 ^ j.toNat)
abbrev gShr : R2 := rI (fun _ j => 0 ≤ j) fun i j => .int (i / 2 ^ j.toNat)
abbrev gAnd : R2 := rI0 fun i j => .int (Builtin.bitAnd i j)
abbrev gOr : R2 := rI0 fun i j => .int (Builtin.bitOr i j)
abbrev gXor : R2 := rI0 fun i j => .int (Builtin.bitXor i j)
abbrev gLt : R2 := rI0 fun i j => .bl (decide (i < j))
abbrev gLte : R2 := rI0 fun i j => .bl (decide (i ≤ j))
abbrev gGt : R2 := rI0 fun i j => .bl (decide (j < i))
abbrev gGte : R2 := rI0 fun i j => .bl (decide (j ≤ i))
abbrev gLe : R2 := gLte
abbrev gGe : R2 := gGte
abbrev gNeg : V → Hp → VK → Prop := rU fun i => .int (-i)
abbrev gCatS : R2 := fun x y H Q => ∃ i j, x = .str i ∧ y = .str j ∧ i.length + j.length ≤ sizeLine ∧ Q (.str (i ++ j)) H
abbrev gInS : R2 := rInS
abbrev gNotInS : R2 := rNotInS
abbrev gLen (K : PySem.W.Frag) : List V → Hp → VK → Prop := fun xs H Q => ∃ x n, xs = [x] ∧ LenV K x H n ∧ Q (.int (n : Nat)) H
abbrev gMin2 : List V → Hp → VK → Prop := fun xs H Q => ∃ i j, xs = [.int i, .int j] ∧ Q (.int (if j < i then j else i)) H
abbrev gMax2 : List V → Hp → VK → Prop := fun xs H Q => ∃ i j, xs = [.int i, .int j] ∧ Q (.int (if j > i then j else i)) H
abbrev gAbs : List V → Hp → VK → Prop := fun xs H Q => ∃ i, xs = [.int i] ∧ Q (.int (if i < 0 then -i else i)) H
abbrev gInt1 : List V → Hp → VK → Prop := fun xs H Q => (∃ i, xs = [.int i] ∧ Q (.int i) H) ∨ ∃ k, xs = [.bl k] ∧ Q (.int (if k then 1 else 0)) H
abbrev gBool1 : List V → Hp → VK → Prop := fun xs H Q => (∃ i, xs = [.int i] ∧ Q (.bl (i != 0)) H) ∨ ∃ k, xs = [.bl k] ∧ Q (.bl k) H
abbrev gStr1 : List V → Hp → VK → Prop := fun xs H Q => ∃ i, xs = [.int i] ∧ i.natAbs.log2 < 1920 ∧ Q (.str (toString i)) H
abbrev gListOf (K : PySem.W.Frag) : List V → Hp → VK → Prop := fun xs H Q => ∃ p ys, xs = [.ref p] ∧ (SqL K H p ys ∨ SqT K H p ys) ∧ ∀ l, H l = none → Q (.ref l) (upd H l (.lst ys))
abbrev gTupOf (K : PySem.W.Frag) : List V → Hp → VK → Prop := fun xs H Q => ∃ p ys, xs = [.ref p] ∧ ((SqL K H p ys ∧ ∀ l, H l = none → Q (.ref l) (upd H l (.tup ys))) ∨ (SqT K H p ys ∧ Q (.ref p) H))
section
variable {X : Cx} {x : Str} {pos : Pos}
theorem pe_gint {i : Int} (hg : Gl X x) (hm : ∃ t, X.mg x = some (.int i t)) (hd : (x == ("__debug__" : Str)) = false := by decide) : PE X (.Name x pos) (tC (.int i)) := by
  obtain ⟨t, hm⟩ := hm
  exact pe_glob hg hm ⟨t, rfl⟩ hd
theorem pe_gstr {z : Str} (hg : Gl X x) (hm : ∃ t, X.mg x = some (.str z t)) (hd : (x == ("__debug__" : Str)) = false := by decide) : PE X (.Name x pos) (tC (.str z)) := by
  obtain ⟨t, hm⟩ := hm
  exact pe_glob hg hm ⟨t, rfl⟩ hd
theorem pe_gref {a : Addr} (hg : Gl X x) (hm : X.mg x = some (.ref a)) (hd : (x == ("__debug__" : Str)) = false := by decide) : PE X (.Name x pos) (tC (.ref a)) := pe_glob hg hm rfl hd
end
section
variable {K : PySem.W.Frag} {mg : Str → Option Value} {base : Heap} {fa : List He.Fa} {fn : List He.DefD}
theorem Tx.int (T : Tx fa fn K mg base) {x : Str} {n : Int} (i : Nat) (h : fa[i]? = some (.int x n) := by rfl) : ∃ t, mg x = some (.int n t) := He.int_ok T.kin T.ns (T.says.fact i h)
theorem Tx.str (T : Tx fa fn K mg base) {x z : Str} (i : Nat) (h : fa[i]? = some (.str x z) := by rfl) : ∃ t, mg x = some (.str z t) := He.str_ok T.kin T.ns (T.says.fact i h)
end

/-! ### steps -/
section
variable {K : PySem.W.Frag} {σ : L2.St} {H : Hp} {Q : VK} {v x y : V} {i j : Int} {n : Nat} {ta tb tc te : TE} {r r' : R2} {g : Int → Int → V} {C : Int → Int → Prop} {tA : TA}
theorem w_var (h : σ[n]? = some (some v)) (q : Q v H) : tVar n σ H Q := ⟨v, h, q⟩
theorem w_c (q : Q v H) : tC v σ H Q := q
instance (priority := 900) i_w_c  : Stp (tC v σ H Q) (Q v H) := ⟨w_c⟩
theorem w_op (h : ta σ H fun x H1 => tb σ H1 fun y H2 => r x y H2 Q) : tOp r ta tb σ H Q := h
instance (priority := 900) i_w_op  : Stp (tOp r ta tb σ H Q) (ta σ H fun x H1 => tb σ H1 fun y H2 => r x y H2 Q) := ⟨w_op⟩
theorem w_I0 (q : Q (g i j) H) : rI0 g (.int i) (.int j) H Q := ⟨i, j, rfl, rfl, q⟩
instance (priority := 900) i_w_I0  : Stp (rI0 g (.int i) (.int j) H Q) (Q (g i j) H) := ⟨w_I0⟩
theorem w_I (c : C i j) (q : Q (g i j) H) : rI C g (.int i) (.int j) H Q := ⟨i, j, rfl, rfl, c, q⟩
theorem w_eqI (q : Q (.bl (decide (i = j))) H) : rEq (.int i) (.int j) H Q := ⟨rfl, by
  have e : decide (V.int i = V.int j) = decide (i = j) := by simp
  show Q (.bl (decide (V.int i = V.int j))) H
  rw [e]; exact q⟩
instance (priority := 900) i_w_eqI  : Stp (rEq (.int i) (.int j) H Q) (Q (.bl (decide (i = j))) H) := ⟨w_eqI⟩
theorem w_neI (q : Q (.bl (!decide (i = j))) H) : rNe (.int i) (.int j) H Q := ⟨rfl, by
  have e : decide (V.int i = V.int j) = decide (i = j) := by simp
  show Q (.bl (!decide (V.int i = V.int j))) H
  rw [e]; exact q⟩
instance (priority := 900) i_w_neI  : Stp (rNe (.int i) (.int j) H Q) (Q (.bl (!decide (i = j))) H) := ⟨w_neI⟩
theorem w_eqB {a b : Bool} (q : Q (.bl (decide (a = b))) H) : rEq (.bl a) (.bl b) H Q := ⟨rfl, by
  have e : decide (V.bl a = V.bl b) = decide (a = b) := by simp
  show Q (.bl (decide (V.bl a = V.bl b))) H
  rw [e]; exact q⟩
instance (priority := 900) i_w_eqB {a b : Bool} : Stp (rEq (.bl a) (.bl b) H Q) (Q (.bl (decide (a = b))) H) := ⟨w_eqB⟩
theorem w_neB {a b : Bool} (q : Q (.bl (!decide (a = b))) H) : rNe (.bl a) (.bl b) H Q := ⟨rfl, by
  have e : decide (V.bl a = V.bl b) = decide (a = b) := by simp
  show Q (.bl (!decide (V.bl a = V.bl b))) H
  rw [e]; exact q⟩
instance (priority := 900) i_w_neB {a b : Bool} : Stp (rNe (.bl a) (.bl b) H Q) (Q (.bl (!decide (a = b))) H) := ⟨w_neB⟩
theorem w_eqS {a b : Str} (q : Q (.bl (decide (a = b))) H) : rEq (.str a) (.str b) H Q := ⟨rfl, by
  have e : decide (V.str a = V.str b) = decide (a = b) := by simp
  show Q (.bl (decide (V.str a = V.str b))) H
  rw [e]; exact q⟩
instance (priority := 900) i_w_eqS {a b : Str} : Stp (rEq (.str a) (.str b) H Q) (Q (.bl (decide (a = b))) H) := ⟨w_eqS⟩
theorem w_neS {a b : Str} (q : Q (.bl (!decide (a = b))) H) : rNe (.str a) (.str b) H Q := ⟨rfl, by
  have e : decide (V.str a = V.str b) = decide (a = b) := by simp
  show Q (.bl (!decide (V.str a = V.str b))) H
  rw [e]; exact q⟩
instance (priority := 900) i_w_neS {a b : Str} : Stp (rNe (.str a) (.str b) H Q) (Q (.bl (!decide (a = b))) H) := ⟨w_neS⟩
theorem w_isN (q : Q (.bl (decide (x = .non))) H) : rIsN x .non H Q := ⟨rfl, q⟩
instance (priority := 900) i_w_isN  : Stp (rIsN x .non H Q) (Q (.bl (decide (x = .non))) H) := ⟨w_isN⟩
theorem w_notN (q : Q (.bl (!decide (x = .non))) H) : rNotN x .non H Q := ⟨rfl, q⟩
instance (priority := 900) i_w_notN  : Stp (rNotN x .non H Q) (Q (.bl (!decide (x = .non))) H) := ⟨w_notN⟩
theorem w_un {rr : V → Hp → VK → Prop} (h : ta σ H fun x H1 => rr x H1 Q) : tUn rr ta σ H Q := h
instance (priority := 900) i_w_un {rr : V → Hp → VK → Prop} : Stp (tUn rr ta σ H Q) (ta σ H fun x H1 => rr x H1 Q) := ⟨w_un⟩
theorem w_U {f : Int → V} (q : Q (f i) H) : rU f (.int i) H Q := ⟨i, rfl, q⟩
instance (priority := 900) i_w_U {f : Int → V} : Stp (rU f (.int i) H Q) (Q (f i) H) := ⟨w_U⟩
theorem w_chain (h : ta σ H fun x H1 => tb σ H1 fun y H2 => r x y H2 fun z H3 => ∃ k, z = .bl k ∧ (if k = true then tc σ H3 fun w' H4 => r' y w' H4 Q else Q (.bl false) H3)) : tChain r r' ta tb tc σ H Q := h
instance (priority := 900) i_w_chain  : Stp (tChain r r' ta tb tc σ H Q) (ta σ H fun x H1 => tb σ H1 fun y H2 => r x y H2 fun z H3 => ∃ k, z = .bl k ∧ (if k = true then tc σ H3 fun w' H4 => r' y w' H4 Q else Q (.bl false) H3)) := ⟨w_chain⟩
theorem w_k {b : Bool} {P : Bool → Prop} (h : P b) : ∃ k, V.bl b = .bl k ∧ P k := ⟨b, rfl, h⟩
instance (priority := 900) i_w_k {b : Bool} {P : Bool → Prop} : Stp (∃ k, V.bl b = .bl k ∧ P k) (P b) := ⟨w_k⟩
theorem w_test {Q : Bool → Hp → Prop} (h : te σ H fun x H' => ∃ k, x = .bl k ∧ Q k H') : tTest te σ H Q := h
instance (priority := 900) i_w_test {Q : Bool → Hp → Prop} : Stp (tTest te σ H Q) (te σ H fun x H' => ∃ k, x = .bl k ∧ Q k H') := ⟨w_test⟩
theorem w_tB {Q : Bool → Hp → Prop} (h : te σ H fun x H' => ∃ k, x = .bl k ∧ Q k H') : tB te σ H Q := h
instance (priority := 900) i_w_tB {Q : Bool → Hp → Prop} : Stp (tB te σ H Q) (te σ H fun x H' => ∃ k, x = .bl k ∧ Q k H') := ⟨w_tB⟩
theorem w_tru {Q : Bool → Hp → Prop} (h : te σ H fun x H' => ∃ k, TruV K x H' k ∧ Q k H') : tTru K te σ H Q := h
instance (priority := 900) i_w_tru {Q : Bool → Hp → Prop} : Stp (tTru K te σ H Q) (te σ H fun x H' => ∃ k, TruV K x H' k ∧ Q k H') := ⟨w_tru⟩
theorem w_not {Q : Bool → Hp → Prop} {t : TT} (h : t σ H fun c H1 => Q (!c) H1) : tNot t σ H Q := h
instance (priority := 900) i_w_not {Q : Bool → Hp → Prop} {t : TT} : Stp (tNot t σ H Q) (t σ H fun c H1 => Q (!c) H1) := ⟨w_not⟩
theorem w_and {Q : Bool → Hp → Prop} {t u : TT} (h : t σ H fun c H1 => if c = true then u σ H1 Q else Q false H1) : tAnd t u σ H Q := h
instance (priority := 900) i_w_and {Q : Bool → Hp → Prop} {t u : TT} : Stp (tAnd t u σ H Q) (t σ H fun c H1 => if c = true then u σ H1 Q else Q false H1) := ⟨w_and⟩
theorem w_or {Q : Bool → Hp → Prop} {t u : TT} (h : t σ H fun c H1 => if c = true then Q true H1 else u σ H1 Q) : tOr t u σ H Q := h
instance (priority := 900) i_w_or {Q : Bool → Hp → Prop} {t u : TT} : Stp (tOr t u σ H Q) (t σ H fun c H1 => if c = true then Q true H1 else u σ H1 Q) := ⟨w_or⟩
theorem w_andV (h : ta σ H fun x H1 => ∃ c, x = .bl c ∧ if c = true then tb σ H1 Q else Q (.bl false) H1) : tAndV ta tb σ H Q := h
instance (priority := 900) i_w_andV  : Stp (tAndV ta tb σ H Q) (ta σ H fun x H1 => ∃ c, x = .bl c ∧ if c = true then tb σ H1 Q else Q (.bl false) H1) := ⟨w_andV⟩
theorem w_orV (h : ta σ H fun x H1 => ∃ c, x = .bl c ∧ if c = true then Q (.bl true) H1 else tb σ H1 Q) : tOrV ta tb σ H Q := h
instance (priority := 900) i_w_orV  : Stp (tOrV ta tb σ H Q) (ta σ H fun x H1 => ∃ c, x = .bl c ∧ if c = true then Q (.bl true) H1 else tb σ H1 Q) := ⟨w_orV⟩
theorem w_notV (h : ta σ H fun x H1 => ∃ c, x = .bl c ∧ Q (.bl (!c)) H1) : tNotV ta σ H Q := h
instance (priority := 900) i_w_notV  : Stp (tNotV ta σ H Q) (ta σ H fun x H1 => ∃ c, x = .bl c ∧ Q (.bl (!c)) H1) := ⟨w_notV⟩
theorem w_ife {t : TT} (h : t σ H fun c H1 => if c = true then ta σ H1 Q else tb σ H1 Q) : tIf t ta tb σ H Q := h
instance (priority := 900) i_w_ife {t : TT} : Stp (tIf t ta tb σ H Q) (t σ H fun c H1 => if c = true then ta σ H1 Q else tb σ H1 Q) := ⟨w_ife⟩
theorem w_nil {Q : List V → Hp → Prop} (q : Q [] H) : tNil σ H Q := q
instance (priority := 900) i_w_nil {Q : List V → Hp → Prop} : Stp (tNil σ H Q) (Q [] H) := ⟨w_nil⟩
theorem w_cons {Q : List V → Hp → Prop} (h : te σ H fun x H1 => tA σ H1 fun xs H2 => Q (x :: xs) H2) : tCons te tA σ H Q := h
instance (priority := 900) i_w_cons {Q : List V → Hp → Prop} : Stp (tCons te tA σ H Q) (te σ H fun x H1 => tA σ H1 fun xs H2 => Q (x :: xs) H2) := ⟨w_cons⟩
theorem w_tup (h : tA σ H fun xs H1 => xs.length ≤ sizeLine ∧ ∀ p, H1 p = none → Q (.ref p) (upd H1 p (.tup xs))) : tTup tA σ H Q := h
theorem w_lst (h : tA σ H fun xs H1 => xs.length ≤ sizeLine ∧ ∀ p, H1 p = none → Q (.ref p) (upd H1 p (.lst xs))) : tLst tA σ H Q := h
theorem w_small {xs : List V} {P : Prop} (hl : Nat.ble xs.length 1000 = true) (h : P) : xs.length ≤ sizeLine ∧ P := ⟨Nat.le_trans (Nat.le_of_ble_eq_true hl) (by decide), h⟩
theorem w_call {sp : Sp} {E : L2.St → XK} (h : tA σ H fun vs H1 => sp vs H1 Q (E σ)) : tCallS sp E tA σ H Q := h
instance (priority := 900) i_w_call {sp : Sp} {E : L2.St → XK} : Stp (tCallS sp E tA σ H Q) (tA σ H fun vs H1 => sp vs H1 Q (E σ)) := ⟨w_call⟩
theorem w_mk {Cc : Addr} {sp : Sp} {E : L2.St → XK} (h : tA σ H fun vs H1 => ∀ x dx, H1 x = none → H1 dx = none → dx ≠ x → sp (.ref x :: vs) (upd (upd H1 dx (.own x)) x (.ins Cc dx [])) (fun v H2 => v = .non ∧ Q (.ref x) H2) (E σ)) : tMk Cc sp E tA σ H Q := h
theorem w_mt {Cc : Addr} {m : Str} {sp : Sp} {E : L2.St → XK} (h : ta σ H fun x H1 => ∃ a dx fs, x = .ref a ∧ H1 a = some (.ins Cc dx fs) ∧ fs.lookup m = none ∧ tA σ H1 fun vs H2 => sp (x :: vs) H2 Q (E σ)) : tMt Cc m sp E ta tA σ H Q := h
theorem w_cb {rr : List V → Hp → VK → Prop} (h : tA σ H fun vs H1 => rr vs H1 Q) : tCB rr tA σ H Q := h
instance (priority := 900) i_w_cb {rr : List V → Hp → VK → Prop} : Stp (tCB rr tA σ H Q) (tA σ H fun vs H1 => rr vs H1 Q) := ⟨w_cb⟩
theorem w_min2 (q : Q (.int (if j < i then j else i)) H) : gMin2 [.int i, .int j] H Q := ⟨i, j, rfl, q⟩
instance (priority := 900) i_w_min2  : Stp (gMin2 [.int i, .int j] H Q) (Q (.int (if j < i then j else i)) H) := ⟨w_min2⟩
theorem w_max2 (q : Q (.int (if j > i then j else i)) H) : gMax2 [.int i, .int j] H Q := ⟨i, j, rfl, q⟩
instance (priority := 900) i_w_max2  : Stp (gMax2 [.int i, .int j] H Q) (Q (.int (if j > i then j else i)) H) := ⟨w_max2⟩
theorem w_abs (q : Q (.int (if i < 0 then -i else i)) H) : gAbs [.int i] H Q := ⟨i, rfl, q⟩
instance (priority := 900) i_w_abs  : Stp (gAbs [.int i] H Q) (Q (.int (if i < 0 then -i else i)) H) := ⟨w_abs⟩
theorem w_int (q : Q (.int i) H) : gInt1 [.int i] H Q := .inl ⟨i, rfl, q⟩
instance (priority := 900) i_w_int  : Stp (gInt1 [.int i] H Q) (Q (.int i) H) := ⟨w_int⟩
theorem w_lenL {p : Addr} {xs : List V} (h : SqL K H p xs) (q : Q (.int (xs.length : Int)) H) : gLen K [.ref p] H Q := ⟨_, xs.length, rfl, .inl ⟨xs, h, rfl⟩, q⟩
theorem w_lenT {p : Addr} {xs : List V} (h : SqT K H p xs) (q : Q (.int (xs.length : Int)) H) : gLen K [.ref p] H Q := ⟨_, xs.length, rfl, .inr ⟨xs, h, rfl⟩, q⟩
theorem w_lenS {z : Str} (h : z.length ≤ sizeLine) (q : Q (.int (z.length : Int)) H) : gLen K [.str z] H Q := ⟨_, z.length, rfl, ⟨h, rfl⟩, q⟩
theorem w_listL {p : Addr} {xs : List V} (h : SqL K H p xs) (q : ∀ l, H l = none → Q (.ref l) (upd H l (.lst xs))) : gListOf K [.ref p] H Q := ⟨p, xs, rfl, .inl h, q⟩
theorem w_listT {p : Addr} {xs : List V} (h : SqT K H p xs) (q : ∀ l, H l = none → Q (.ref l) (upd H l (.lst xs))) : gListOf K [.ref p] H Q := ⟨p, xs, rfl, .inr h, q⟩
theorem w_ixL {p : Addr} {xs : List V} (h : SqL K H p xs) (ha : atI xs i = some v) (q : Q v H) : rIxL K (.ref p) (.int i) H Q := ⟨p, xs, i, v, rfl, rfl, h, ha, q⟩
theorem w_ixT {p : Addr} {xs : List V} (h : SqT K H p xs) (ha : atI xs i = some v) (q : Q v H) : rIxT K (.ref p) (.int i) H Q := ⟨p, xs, i, v, rfl, rfl, h, ha, q⟩
theorem w_fld {f : Str} {a Cc dx : Addr} {fs : List (Str × V)} {P : Addr → Addr → Addr → List (Str × V) → V → Prop} (h : H a = some (.ins Cc dx fs)) (c : Cls K Cc) (na : NoAttr K Cc f) (l : fs.lookup f = some v) (q : P a Cc dx fs v) :
    ∃ a' C' dx' fs' v', V.ref a = .ref a' ∧ H a' = some (.ins C' dx' fs') ∧ Cls K C' ∧ NoAttr K C' f ∧ fs'.lookup f = some v' ∧ P a' C' dx' fs' v' := ⟨a, Cc, dx, fs, v, rfl, h, c, na, l, q⟩
theorem w_mt1 {m : Str} {a Cc dx : Addr} {fs : List (Str × V)} {P : Addr → Prop} (h : H a = some (.ins Cc dx fs)) (l : fs.lookup m = none) (q : P a) :
    ∃ a' dx' fs', V.ref a = .ref a' ∧ H a' = some (.ins Cc dx' fs') ∧ fs'.lookup m = none ∧ P a' := ⟨a, dx, fs, rfl, h, l, q⟩
abbrev kGet (K : PySem.W.Frag) (f : Str) (x : V) (H1 : Hp) (Q : VK) : Prop := ∃ a C dx fs v, x = .ref a ∧ H1 a = some (.ins C dx fs) ∧ Cls K C ∧ NoAttr K C f ∧ fs.lookup f = some v ∧ Q v H1
abbrev kMt (C : Addr) (m : Str) (x : V) (H1 : Hp) (P : Prop) : Prop := ∃ a dx fs, x = .ref a ∧ H1 a = some (.ins C dx fs) ∧ fs.lookup m = none ∧ P
instance i_w_fldQ {f : Str} : Stp (tFld K ta f σ H Q) (ta σ H fun x H1 => kGet K f x H1 Q) := ⟨fun h => h⟩
instance i_w_mtQ {Cc : Addr} {m : Str} {sp : Sp} {E : L2.St → XK} : Stp (tMt Cc m sp E ta tA σ H Q) (ta σ H fun x H1 => kMt Cc m x H1 (tA σ H1 fun vs H2 => sp (x :: vs) H2 Q (E σ))) := ⟨fun h => h⟩
theorem w_fld0 {f : Str} (h : ta σ H fun x H1 => ∃ a C dx fs v, x = .ref a ∧ H1 a = some (.ins C dx fs) ∧ Cls K C ∧ NoAttr K C f ∧ fs.lookup f = some v ∧ Q v H1) : tFld K ta f σ H Q := h
theorem w_bm {T : String} {rr : V → List V → Hp → VK → Prop} (h : ta σ H fun x H1 => tyV K T x H1 ∧ tA σ H1 fun xs H2 => rr x xs H2 Q) : tBM K T rr ta tA σ H Q := h
instance (priority := 900) i_w_bm {T : String} {rr : V → List V → Hp → VK → Prop} : Stp (tBM K T rr ta tA σ H Q) (ta σ H fun x H1 => tyV K T x H1 ∧ tA σ H1 fun xs H2 => rr x xs H2 Q) := ⟨w_bm⟩
theorem w_bm0 {T : String} {rr : V → List V → Hp → VK → Prop} (h : ta σ H fun x H1 => tyV K T x H1 ∧ rr x [] H1 Q) : tBM0 K T rr ta σ H Q := h
instance (priority := 900) i_w_bm0 {T : String} {rr : V → List V → Hp → VK → Prop} : Stp (tBM0 K T rr ta σ H Q) (ta σ H fun x H1 => tyV K T x H1 ∧ rr x [] H1 Q) := ⟨w_bm0⟩
theorem w_app {l : Addr} {xs : List V} (h : H l = some (.lst xs)) (hz : xs.length < sizeLine) (q : Q .non (upd H l (.lst (xs ++ [v])))) : rAppend (.ref l) [v] H Q := ⟨l, xs, v, rfl, rfl, h, hz, q⟩
theorem ty_list {l : Addr} {xs : List V} {P : Prop} (h : H l = some (.lst xs)) (q : P) : tyV K "list" (.ref l) H ∧ P := ⟨.inl ⟨rfl, xs, .inl (.inl h)⟩, q⟩
end
section
variable {K : PySem.W.Frag} {σ : L2.St} {H : Hp} {D : Ends} {v x y : V} {n : Nat} {ta tb te : TE} {t u : TS} {tt : TT}
theorem w_seq (h : t { D with nx := u D } σ H) : tSeq t u D σ H := h
instance (priority := 900) i_w_seq  : Stp (tSeq t u D σ H) (t { D with nx := u D } σ H) := ⟨w_seq⟩
theorem w_next (h : D.nx σ H) : tNext D σ H := h
instance (priority := 900) i_w_next  : Stp (tNext D σ H) (D.nx σ H) := ⟨w_next⟩
theorem w_brk (h : D.bk σ H) : tBreak D σ H := h
instance (priority := 900) i_w_brk  : Stp (tBreak D σ H) (D.bk σ H) := ⟨w_brk⟩
theorem w_cont (h : D.ct σ H) : tCont D σ H := h
instance (priority := 900) i_w_cont  : Stp (tCont D σ H) (D.ct σ H) := ⟨w_cont⟩
theorem w_drop (h : te σ H fun _ H1 => D.nx σ H1) : tDrop te D σ H := h
instance (priority := 900) i_w_drop  : Stp (tDrop te D σ H) (te σ H fun _ H1 => D.nx σ H1) := ⟨w_drop⟩
theorem w_ret (h : te σ H D.rt) : tRet te D σ H := h
instance (priority := 900) i_w_ret  : Stp (tRet te D σ H) (te σ H D.rt) := ⟨w_ret⟩
theorem w_retN (h : D.rt .non H) : tRetN D σ H := h
instance (priority := 900) i_w_retN  : Stp (tRetN D σ H) (D.rt .non H) := ⟨w_retN⟩
theorem w_if (h : tt σ H fun b H1 => if b = true then t D σ H1 else u D σ H1) : tIfS tt t u D σ H := h
instance (priority := 900) i_w_if  : Stp (tIfS tt t u D σ H) (tt σ H fun b H1 => if b = true then t D σ H1 else u D σ H1) := ⟨w_if⟩
theorem w_asg {g : TG} (h : te σ H fun x H1 => g x σ H1 D.nx) : tAsg te g D σ H := h
instance (priority := 900) i_w_asg {g : TG} : Stp (tAsg te g D σ H) (te σ H fun x H1 => g x σ H1 D.nx) := ⟨w_asg⟩
theorem w_nm {Q : L2.St → Hp → Prop} (h : Q (σ.set n (some v)) H) : gName n v σ H Q := h
instance (priority := 900) i_w_nm {Q : L2.St → Hp → Prop} : Stp (gName n v σ H Q) (Q (σ.set n (some v)) H) := ⟨w_nm⟩
theorem w_sub {to ti : TE} {ts : TSet} {Q : L2.St → Hp → Prop} (h : to σ H fun o H1 => ti σ H1 fun i H2 => ts o i v H2 fun H3 => Q σ H3) : gSub to ti ts v σ H Q := h
instance (priority := 900) i_w_sub {to ti : TE} {ts : TSet} {Q : L2.St → Hp → Prop} : Stp (gSub to ti ts v σ H Q) (to σ H fun o H1 => ti σ H1 fun i H2 => ts o i v H2 fun H3 => Q σ H3) := ⟨w_sub⟩
theorem w_setL {l : Addr} {xs : List V} {k : Int} {j : Nat} {Q : Hp → Prop} (h : H l = some (.lst xs)) (hj : ixN xs.length k = some j) (q : Q (upd H l (.lst (xs.set j v)))) : rSetL (.ref l) (.int k) v H Q := ⟨l, xs, k, j, rfl, rfl, h, hj, q⟩
theorem w_sfld {f : Str} (h : tb σ H fun y H1 => ta σ H1 fun x H2 => ∃ a C dx fs, x = .ref a ∧ H2 a = some (.ins C dx fs) ∧ Cls K C ∧ NoAttr K C f ∧ fs.length < 1000 ∧ D.nx σ (upd H2 a (.ins C dx (putF f y fs)))) : sFld K ta tb f D σ H := h
theorem w_sput {f : Str} {a C dx : Addr} {fs fs' : List (Str × V)} (h : H a = some (.ins C dx fs)) (c : Cls K C) (na : NoAttr K C f) (e : putF f y fs = fs') (l : Nat.blt fs.length 1000 = true) (q : D.nx σ (upd H a (.ins C dx fs'))) :
    ∃ a' C' dx' fs0, V.ref a = .ref a' ∧ H a' = some (.ins C' dx' fs0) ∧ Cls K C' ∧ NoAttr K C' f ∧ fs0.length < 1000 ∧ D.nx σ (upd H a' (.ins C' dx' (putF f y fs0))) := ⟨a, C, dx, fs, rfl, h, c, na, Nat.le_of_ble_eq_true l, by rw [e]; exact q⟩
theorem w_sfa {f : Str} {rd : V → V → Hp → VK → Prop} (h : ta σ H fun x H1 => ∃ a C dx fs v, x = .ref a ∧ H1 a = some (.ins C dx fs) ∧ Cls K C ∧ NoAttr K C f ∧ fs.lookup f = some v ∧
  tb σ H1 fun y H2 => rd v y H2 fun z H3 => ∃ dx' fs', H3 a = some (.ins C dx' fs') ∧ fs'.length < 1000 ∧ D.nx σ (upd H3 a (.ins C dx' (putF f z fs')))) : sFldAug K ta tb rd f D σ H := h
theorem w_sput2 {f : Str} {a C dx : Addr} {fs fs' : List (Str × V)} (h : H a = some (.ins C dx fs)) (e : putF f y fs = fs') (l : Nat.blt fs.length 1000 = true) (q : D.nx σ (upd H a (.ins C dx fs'))) :
    ∃ dx' fs0, H a = some (.ins C dx' fs0) ∧ fs0.length < 1000 ∧ D.nx σ (upd H a (.ins C dx' (putF f y fs0))) := ⟨dx, fs, h, Nat.le_of_ble_eq_true l, by rw [e]; exact q⟩
theorem w_radd {i j : Int} {Q : VK} (q : Q (.int (i + j)) H) : L2.rAdd (.int i) (.int j) H Q := ⟨i, j, rfl, rfl, q⟩
instance (priority := 900) i_w_radd {i j : Int} {Q : VK} : Stp (L2.rAdd (.int i) (.int j) H Q) (Q (.int (i + j)) H) := ⟨w_radd⟩
theorem w_rsub {i j : Int} {Q : VK} (q : Q (.int (i - j)) H) : L2.rSub (.int i) (.int j) H Q := ⟨i, j, rfl, rfl, q⟩
instance (priority := 900) i_w_rsub {i j : Int} {Q : VK} : Stp (L2.rSub (.int i) (.int j) H Q) (Q (.int (i - j)) H) := ⟨w_rsub⟩
theorem w_aug {te : TE} {ti : TIp} (hx : σ[n]? = some (some x)) (h : te σ H fun y H1 => ti x y H1 fun z H2 => D.nx (σ.set n (some z)) H2) : tAug n te ti D σ H := ⟨x, hx, h⟩
theorem w_ip {f : Int → Int → Int} {i j : Int} {Q : VK} (q : Q (.int (f i j)) H) : ipI f (.int i) (.int j) H Q := ⟨i, j, rfl, rfl, q⟩
instance (priority := 900) i_w_ip {f : Int → Int → Int} {i j : Int} {Q : VK} : Stp (ipI f (.int i) (.int j) H Q) (Q (.int (f i j)) H) := ⟨w_ip⟩
theorem w_rs {C : Addr} {W : WX} (h : W (.ref C) none σ H) : tRs C W D σ H := h
instance (priority := 900) i_w_rs {C : Addr} {W : WX} : Stp (tRs C W D σ H) (W (.ref C) none σ H) := ⟨w_rs⟩
theorem w_par {i j : Nat} {tA : TA} (h : tA σ H fun vs H1 => ∃ v w, vs = [v, w] ∧ D.nx ((σ.set i (some v)).set j (some w)) H1) : tPar i j tA D σ H := h
instance (priority := 900) i_w_par {i j : Nat} {tA : TA} : Stp (tPar i j tA D σ H) (tA σ H fun vs H1 => ∃ v w, vs = [v, w] ∧ D.nx ((σ.set i (some v)).set j (some w)) H1) := ⟨w_par⟩
/-! ### ifs -/
theorem if_d {p : Prop} [Decidable p] {A B : Prop} (h1 : p → A) (h2 : ¬ p → B) : if decide p = true then A else B := by
  by_cases h : p
  · rw [decide_eq_true h]; exact h1 h
  · rw [decide_eq_false h]; exact h2 h
theorem if_nd {p : Prop} [Decidable p] {A B : Prop} (h1 : ¬ p → A) (h2 : p → B) : if (!decide p) = true then A else B := by
  by_cases h : p
  · rw [decide_eq_true h]; exact h2 h
  · rw [decide_eq_false h]; exact h1 h
theorem if_T {A B : Prop} (h : A) : if true = true then A else B := h
instance (priority := 900) i_if_T {A B : Prop} : Stp (if true = true then A else B) (A) := ⟨if_T⟩
theorem if_F {A B : Prop} (h : B) : if false = true then A else B := h
instance (priority := 900) i_if_F {A B : Prop} : Stp (if false = true then A else B) (B) := ⟨if_F⟩
theorem if_nT {A B : Prop} (h : B) : if (!true) = true then A else B := h
instance (priority := 900) i_if_nT {A B : Prop} : Stp (if (!true) = true then A else B) (B) := ⟨if_nT⟩
theorem if_nF {A B : Prop} (h : A) : if (!false) = true then A else B := h
instance (priority := 900) i_if_nF {A B : Prop} : Stp (if (!false) = true then A else B) (A) := ⟨if_nF⟩
theorem if_b {b : Bool} {A B : Prop} (h1 : b = true → A) (h2 : b = false → B) : if b = true then A else B := by
  cases b
  · exact h2 rfl
  · exact h1 rfl
end
/-! ### loops -/
section
variable {K : PySem.W.Frag} {g : TG} {tb : TS} {D : Ends} {σ : L2.St} {H : Hp} {tA : TA} {tl : TE}
def LoopL (K : PySem.W.Frag) (a : Addr) (g : TG) (tb : TS) (D : Ends) (σ : L2.St) (H : Hp) : Prop := (∃ xs, SqL K H a xs) ∧ ∃ W : Nat → Nat → L2.St → Hp → Prop, (∃ m, W 0 m σ H) ∧ ∀ i m σ H, W i m σ H →
  ((Itl K a).stop i H ∧ D.nx σ H) ∨ ((Itl K a).go i H ∧ ∃ N : L2.St → Hp → Prop, (∀ σ' H', N σ' H' → ∃ m', m' < m ∧ W (i + 1) m' σ' H') ∧ ∀ x H', (Itl K a).yld i H x H' → g x σ H' fun σ2 H2 => tb { D with nx := N, ct := N, bk := D.nx } σ2 H2)
def LoopT (K : PySem.W.Frag) (a : Addr) (g : TG) (tb : TS) (D : Ends) (σ : L2.St) (H : Hp) : Prop := (∃ xs, SqT K H a xs) ∧ ∃ W : Nat → Nat → L2.St → Hp → Prop, (∃ m, W 0 m σ H) ∧ ∀ i m σ H, W i m σ H →
  ((Itt K a).stop i H ∧ D.nx σ H) ∨ ((Itt K a).go i H ∧ ∃ N : L2.St → Hp → Prop, (∀ σ' H', N σ' H' → ∃ m', m' < m ∧ W (i + 1) m' σ' H') ∧ ∀ x H', (Itt K a).yld i H x H' → g x σ H' fun σ2 H2 => tb { D with nx := N, ct := N, bk := D.nx } σ2 H2)
/-- the same words by names -/
def rLoop1 (g : TG) (tb : TS) (D : Ends) (σ : L2.St) (vs : List V) (H1 : Hp) : Prop := ∃ j : Int, vs = [.int j] ∧ -(2 ^ 62) ≤ j ∧ j < 2 ^ 62 ∧ ∃ W : Nat → Nat → L2.St → Hp → Prop, (∃ m, W 0 m σ H1) ∧ ∀ i m σ H, W i m σ H →
  ((Itr 0 j.toNat).stop i H ∧ D.nx σ H) ∨ ((Itr 0 j.toNat).go i H ∧ ∃ N : L2.St → Hp → Prop, (∀ σ' H', N σ' H' → ∃ m', m' < m ∧ W (i + 1) m' σ' H') ∧ ∀ x H', (Itr 0 j.toNat).yld i H x H' → g x σ H' fun σ2 H2 => tb { D with nx := N, ct := N, bk := D.nx } σ2 H2)
def rLoop2 (g : TG) (tb : TS) (D : Ends) (σ : L2.St) (vs : List V) (H1 : Hp) : Prop := ∃ i j : Int, vs = [.int i, .int j] ∧ (-(2 ^ 62) ≤ i ∧ i < 2 ^ 62 ∧ -(2 ^ 62) ≤ j ∧ j < 2 ^ 62) ∧ ∃ W : Nat → Nat → L2.St → Hp → Prop, (∃ m, W 0 m σ H1) ∧ ∀ k m σ H, W k m σ H →
  ((Itr i (j - i).toNat).stop k H ∧ D.nx σ H) ∨ ((Itr i (j - i).toNat).go k H ∧ ∃ N : L2.St → Hp → Prop, (∀ σ' H', N σ' H' → ∃ m', m' < m ∧ W (k + 1) m' σ' H') ∧ ∀ x H', (Itr i (j - i).toNat).yld k H x H' → g x σ H' fun σ2 H2 => tb { D with nx := N, ct := N, bk := D.nx } σ2 H2)
def rLoopL (K : PySem.W.Frag) (g : TG) (tb : TS) (D : Ends) (σ : L2.St) (x : V) (H1 : Hp) : Prop := ∃ a, x = .ref a ∧ LoopL K a g tb D σ H1
def rLoopT (K : PySem.W.Frag) (g : TG) (tb : TS) (D : Ends) (σ : L2.St) (x : V) (H1 : Hp) : Prop := ∃ a, x = .ref a ∧ LoopT K a g tb D σ H1
theorem w_forR1 (h : tA σ H fun vs H1 => rLoop1 g tb D σ vs H1) : tFor (iRng1 tA) g tb D σ H := h
instance (priority := 900) i_w_forR1  : Stp (tFor (iRng1 tA) g tb D σ H) (tA σ H fun vs H1 => rLoop1 g tb D σ vs H1) := ⟨w_forR1⟩
theorem w_forR2 (h : tA σ H fun vs H1 => rLoop2 g tb D σ vs H1) : tFor (iRng2 tA) g tb D σ H := h
instance (priority := 900) i_w_forR2  : Stp (tFor (iRng2 tA) g tb D σ H) (tA σ H fun vs H1 => rLoop2 g tb D σ vs H1) := ⟨w_forR2⟩
theorem w_forL (h : tl σ H fun x H1 => rLoopL K g tb D σ x H1) : tFor (iList K tl) g tb D σ H := h
instance (priority := 900) i_w_forL  : Stp (tFor (iList K tl) g tb D σ H) (tl σ H fun x H1 => rLoopL K g tb D σ x H1) := ⟨w_forL⟩
theorem w_forT (h : tl σ H fun x H1 => rLoopT K g tb D σ x H1) : tFor (iTup K tl) g tb D σ H := h
instance (priority := 900) i_w_forT  : Stp (tFor (iTup K tl) g tb D σ H) (tl σ H fun x H1 => rLoopT K g tb D σ x H1) := ⟨w_forT⟩
/-- for i in range(n), n a Nat -/
theorem loop1 {n : Nat} (Pv : Nat → L2.St → Hp → Prop) {j : Int} (hj : j = (n : Int)) (hn : n < 4000000000) (h0 : Pv 0 σ H)
    (hs : ∀ i σ H, i < n → Pv i σ H → g (.int (i : Int)) σ H fun σ2 H2 => tb { D with nx := Pv (i + 1), ct := Pv (i + 1), bk := D.nx } σ2 H2) (hd : ∀ σ H, Pv n σ H → D.nx σ H) : rLoop1 g tb D σ [.int j] H := by
  subst hj
  refine ⟨(n : Int), rfl, by omega, by omega, for_range (lo := 0) (n := (n : Int).toNat) Pv h0 (fun i σ H hi p => ?_) (fun σ H p => hd σ H ?_)⟩
  · have e : (0 : Int) + (i : Int) = (i : Int) := Int.zero_add _
    rw [e]
    exact hs i σ H (by omega) p
  · have e : (n : Int).toNat = n := Int.toNat_natCast n
    rw [e] at p
    exact p
theorem loop2 {lo hi : Int} (Pv : Nat → L2.St → Hp → Prop) (hn : -4000000000 < lo ∧ lo < 4000000000 ∧ -4000000000 < hi ∧ hi < 4000000000) (h0 : Pv 0 σ H)
    (hs : ∀ (i : Nat) σ H, lo + i < hi → Pv i σ H → g (.int (lo + i)) σ H fun σ2 H2 => tb { D with nx := Pv (i + 1), ct := Pv (i + 1), bk := D.nx } σ2 H2) (hd : ∀ σ H, Pv (hi - lo).toNat σ H → D.nx σ H) : rLoop2 g tb D σ [.int lo, .int hi] H := by
  refine ⟨lo, hi, rfl, ⟨by omega, by omega, by omega, by omega⟩, for_range (lo := lo) (n := (hi - lo).toNat) Pv h0 (fun i σ H hi' p => hs i σ H (by omega) p) (fun σ H p => hd σ H p)⟩
theorem loopL {a : Addr} {xs : List V} (Pv : Nat → L2.St → Hp → Prop) (hx : SqL K H a xs) (h0 : Pv 0 σ H) (hl : ∀ i σ H, i ≤ xs.length → Pv i σ H → SqL K H a xs)
    (hs : ∀ i x σ H, xs[i]? = some x → Pv i σ H → g x σ H fun σ2 H2 => tb { D with nx := Pv (i + 1), ct := Pv (i + 1), bk := D.nx } σ2 H2) (hd : ∀ σ H, Pv xs.length σ H → D.nx σ H) : rLoopL K g tb D σ (.ref a) H := ⟨a, rfl, ⟨_, hx⟩, for_list Pv h0 hl hs hd⟩
theorem loopT {a : Addr} {xs : List V} (Pv : Nat → L2.St → Hp → Prop) (hx : SqT K H a xs) (h0 : Pv 0 σ H) (hl : ∀ i σ H, i ≤ xs.length → Pv i σ H → SqT K H a xs)
    (hs : ∀ i x σ H, xs[i]? = some x → Pv i σ H → g x σ H fun σ2 H2 => tb { D with nx := Pv (i + 1), ct := Pv (i + 1), bk := D.nx } σ2 H2) (hd : ∀ σ H, Pv xs.length σ H → D.nx σ H) : rLoopT K g tb D σ (.ref a) H := ⟨a, rfl, ⟨_, hx⟩, for_tup Pv h0 hl hs hd⟩
end
/-! ### heaps -/
theorem up_k {H : Hp} {a b : Addr} {o u : HO} (h : H b = some u) (n : b ≠ a) : upd H a o b = some u := (upd_ne n).trans h
theorem up_n {H : Hp} {a b : Addr} {o u : HO} (h : H b = some u) (n : H a = none) : upd H a o b = some u := up_k h (ne_of_none h n)
theorem same_new {H : Hp} {a : Addr} {o : HO} (n : H a = none) : Same H (upd H a o) := fun _ _ e => up_n e n
theorem same_trans_new {H H1 : Hp} {a : Addr} {o : HO} (s : Same H H1) (n : H1 a = none) : Same H (upd H1 a o) := fun b u e => up_n (s b u e) n
theorem seqL_new {K : PySem.W.Frag} {H : Hp} {a b : Addr} {o : HO} {xs : List V} (h : SqL K H b xs) (n : H a = none) : SqL K (upd H a o) b xs := (same_new n).seq h
theorem seqL_put {K : PySem.W.Frag} {H : Hp} {a b : Addr} {o : HO} {xs : List V} (h : SqL K H b xs) (n : a ≠ b) : SqL K (upd H a o) b xs := by
  rcases h with (h | ⟨u, h⟩) | h
  · exact .inl (.inl (up_k h n.symm))
  · exact .inl (.inr ⟨u, up_k h n.symm⟩)
  · exact .inr h
end G
namespace G
open PySem PySem.Spec PyProof.Rows L2
/-! ### the script, which nobody writes -/
/-- a list that stands still: frozen, or of the written part -/
def Scr (K : PySem.W.Frag) (H : Hp) (a : Addr) (xs : List V) : Prop := (∃ o, H a = some (.frz o (.lst xs))) ∨
    ∃ (o : Obj) (its : Array Value) (n : Nat), K.lookup a = some o ∧ o.cls = .type "list" ∧ o.dict = none ∧ o.data = .seq its n ∧ its.size ≤ sizeLine ∧ Vals xs its.toList
section
variable {K : PySem.W.Frag} {H H' : Hp} {a q : Addr} {xs : List V} {o : HO}
theorem Scr.sq (h : Scr K H a xs) : SqL K H a xs := by
  rcases h with ⟨o, h⟩ | h
  · exact .inl (.inr ⟨o, h⟩)
  · exact .inr h
theorem Scr.same (h : Scr K H a xs) (s : Same H H') : Scr K H' a xs := by
  rcases h with ⟨o, h⟩ | h
  · exact .inl ⟨o, s _ _ h⟩
  · exact .inr h
theorem Scr.of (hO : Only H) (h : SqL K H a xs) : Scr K H a xs := by
  rcases h with (h | ⟨o, h⟩) | h
  · rcases hO a with e | ⟨o, ys, e⟩
    · rw [e] at h; cases h
    · rw [e] at h; cases h
  · exact .inl ⟨o, h⟩
  · exact .inr h
theorem Scr.new (h : Scr K H a xs) (n : H q = none) : Scr K (upd H q o) a xs := h.same (same_new n)
/-- not frozen -/
def Thw (H : Hp) (q : Addr) : Prop := ∀ o u, H q ≠ some (.frz o u)
theorem Thw.lst {xs : List V} (h : H q = some (.lst xs)) : Thw H q := fun _ _ e => by rw [h] at e; cases e
theorem Thw.ins {C dx : Addr} {fs : List (Str × V)} (h : H q = some (.ins C dx fs)) : Thw H q := fun _ _ e => by rw [h] at e; cases e
theorem Scr.put (h : Scr K H a xs) (n : Thw H q) : Scr K (upd H q o) a xs := by
  rcases h with ⟨u, h⟩ | h
  · refine .inl ⟨u, up_k h ?_⟩
    intro e
    subst e
    exact n _ _ h
  · exact .inr h
/-- written objects are not frozen: what was frozen stays so -/
def FrzIn (H H' : Hp) : Prop := ∀ b o u, H b = some (.frz o u) → H' b = some (.frz o u)
theorem Scr.frz (h : Scr K H a xs) (s : FrzIn H H') : Scr K H' a xs := by
  rcases h with ⟨o, h⟩ | h
  · exact .inl ⟨o, s _ _ _ h⟩
  · exact .inr h
end
theorem up_none {H : Hp} {a b : Addr} {o : HO} (h : upd H a o b = none) : b ≠ a ∧ H b = none := by
  by_cases e : b = a
  · subst e; rw [upd_same] at h; cases h
  · rw [upd_ne e] at h; exact ⟨e, h⟩
theorem none_up {H : Hp} {a b : Addr} {o : HO} (n : b ≠ a) (h : H b = none) : upd H a o b = none := (upd_ne n).trans h
theorem if_yes {p : Prop} [Decidable p] {A B : Prop} (h : p) (q : A) : if decide p = true then A else B := by rw [decide_eq_true h]; exact q
theorem if_no {p : Prop} [Decidable p] {A B : Prop} (h : ¬ p) (q : B) : if decide p = true then A else B := by rw [decide_eq_false h]; exact q
theorem if_nyes {p : Prop} [Decidable p] {A B : Prop} (h : ¬ p) (q : A) : if (!decide p) = true then A else B := by rw [decide_eq_false h]; exact q
theorem if_nno {p : Prop} [Decidable p] {A B : Prop} (h : p) (q : B) : if (!decide p) = true then A else B := by rw [decide_eq_true h]; exact q
end G

namespace G
open PySem PySem.Spec PyProof.Rows L2
theorem w_cut {t u : TS} {D : Ends} {σ : L2.St} {H : Hp} (Mid : L2.St → Hp → Prop) (h : t { D with nx := Mid } σ H) (k : ∀ σ' H', Mid σ' H' → u D σ' H') : Evl.tCut t u D σ H := ⟨Mid, h, k⟩
theorem ixN_of {n j : Nat} {k : Int} (e : k = (j : Int)) (h : j < n) : ixN n k = some j := by
  subst e
  unfold ixN
  rw [if_pos (by omega), if_pos (by omega)]; simp
end G

namespace G
open PySem PySem.Spec PyProof.Rows L2
/-! the same, the cheap question first -/
section
variable {K : PySem.W.Frag} {H : Hp} {a b q : Addr} {o u : HO} {xs : List V}
theorem up_k' (n : b ≠ a) (h : H b = some u) : upd H a o b = some u := up_k h n
theorem scr_new' (n : H q = none) (h : Scr K H a xs) : Scr K (upd H q o) a xs := h.new n
theorem scr_put' (n : Thw H q) (h : Scr K H a xs) : Scr K (upd H q o) a xs := h.put n
theorem sq_new' (n : H a = none) (h : SqL K H b xs) : SqL K (upd H a o) b xs := seqL_new h n
theorem sq_put' (n : a ≠ b) (h : SqL K H b xs) : SqL K (upd H a o) b xs := seqL_put h n
end
end G

namespace G
open PySem PySem.Spec PyProof.Rows L2
section
variable {H : Hp} {Q : VK} {i : Int} {a : Addr} {b : Bool} {z : Str}
theorem w_isN0 (q : Q (.bl true) H) : rIsN .non .non H Q := ⟨rfl, q⟩
instance (priority := 900) i_w_isN0  : Stp (rIsN .non .non H Q) (Q (.bl true) H) := ⟨w_isN0⟩
theorem w_isNi (q : Q (.bl false) H) : rIsN (.int i) .non H Q := ⟨rfl, q⟩
instance (priority := 900) i_w_isNi  : Stp (rIsN (.int i) .non H Q) (Q (.bl false) H) := ⟨w_isNi⟩
theorem w_isNr (q : Q (.bl false) H) : rIsN (.ref a) .non H Q := ⟨rfl, q⟩
instance (priority := 900) i_w_isNr  : Stp (rIsN (.ref a) .non H Q) (Q (.bl false) H) := ⟨w_isNr⟩
theorem w_isNb (q : Q (.bl false) H) : rIsN (.bl b) .non H Q := ⟨rfl, q⟩
instance (priority := 900) i_w_isNb  : Stp (rIsN (.bl b) .non H Q) (Q (.bl false) H) := ⟨w_isNb⟩
theorem w_isNs (q : Q (.bl false) H) : rIsN (.str z) .non H Q := ⟨rfl, q⟩
instance (priority := 900) i_w_isNs  : Stp (rIsN (.str z) .non H Q) (Q (.bl false) H) := ⟨w_isNs⟩
theorem w_notN0 (q : Q (.bl false) H) : rNotN .non .non H Q := ⟨rfl, q⟩
instance (priority := 900) i_w_notN0  : Stp (rNotN .non .non H Q) (Q (.bl false) H) := ⟨w_notN0⟩
theorem w_notNi (q : Q (.bl true) H) : rNotN (.int i) .non H Q := ⟨rfl, q⟩
instance (priority := 900) i_w_notNi  : Stp (rNotN (.int i) .non H Q) (Q (.bl true) H) := ⟨w_notNi⟩
theorem w_notNr (q : Q (.bl true) H) : rNotN (.ref a) .non H Q := ⟨rfl, q⟩
instance (priority := 900) i_w_notNr  : Stp (rNotN (.ref a) .non H Q) (Q (.bl true) H) := ⟨w_notNr⟩
theorem w_notNb (q : Q (.bl true) H) : rNotN (.bl b) .non H Q := ⟨rfl, q⟩
instance (priority := 900) i_w_notNb  : Stp (rNotN (.bl b) .non H Q) (Q (.bl true) H) := ⟨w_notNb⟩
theorem w_notNs (q : Q (.bl true) H) : rNotN (.str z) .non H Q := ⟨rfl, q⟩
instance (priority := 900) i_w_notNs  : Stp (rNotN (.str z) .non H Q) (Q (.bl true) H) := ⟨w_notNs⟩
end
end G

/-! properties, own ==, isinstance, further facts of the head -/
namespace G
open PySem PySem.Spec PyProof.Rows L2

/-! ### the Hook with getters and any Bool facts -/
/-- where a property's getter stands -/
def prA (K : PySem.W.Frag) (C f : Str) : Addr := match PySem.W.recIn K (He.ma K (He.ga K C) f) "property" with
  | some (.ref g :: _) => g
  | _ => 0
structure Pr where
  cls : Str
  fld : Str
  d : He.DefD
def fnWA (K : PySem.W.Frag) (a : Addr) : He.FnW := match K.lookup a with
  | some ⟨_, _, .func fd, _⟩ => some (fd.name, fd.qualname, fd.params, fd.body, fd.scope, fd.globals, fd.closure, fd.builtins)
  | _ => none
def okA (K : PySem.W.Frag) (a : Addr) (d : He.DefD) : Bool := PySem.W.keepIn K (.ref a) && (match K.lookup a with
  | some ⟨_, _, .func fd, _⟩ => PySem.W.codeIn K fd.code d.qual && (He.dflB K fd.defaults (d.dvs K) && He.kwdB K fd.kwdefaults (d.kws K))
  | _ => false)
theorem funD_A {K : PySem.W.Frag} {d : He.DefD} {a : Addr} (e : fnWA K a = d.val) (c : okA K a d = true) : ∃ fd, FunD K d.name d.qual d.params d.body d.scope (d.dvs K) (d.kws K) a fd := by
  obtain ⟨kp, c2⟩ := He.ba c
  unfold fnWA at e
  cases q : K.lookup a with
  | none =>
    rw [q] at c2
    cases c2
  | some o =>
    obtain ⟨oc, od, dt, osl⟩ := o
    rw [q] at c2 e
    cases dt with
    | func fd =>
      obtain ⟨n1, n2, n3, n4, n5, n6, n7, n8, n9, n10, n11, n12, n13, n14, n15⟩ := fd
      have e2 : (some (n1, n2, n3, n4, n5, n6, n7, n15) : He.FnW) = some (d.name, d.qual, d.params, .stmts d.body, d.scope, mainGlobals, [], builtinsNs) := e
      simp only [Option.some.injEq, Prod.mk.injEq] at e2
      obtain ⟨h1, h2, h3, h4, h5, h6, h7, h8⟩ := e2
      subst h1 h2 h3 h4 h5 h6 h7 h8
      have c3 : (PySem.W.codeIn K n13 d.qual && (He.dflB K n8 (d.dvs K) && He.kwdB K n9 (d.kws K))) = true := c2
      obtain ⟨k1, k2⟩ := He.ba c3
      obtain ⟨k3, k4⟩ := He.ba k2
      exact ⟨_, ⟨oc, od, n8, n9, n10, n11, n12, n13, n14, osl, rfl, q, k1, He.dflB_ok k3, He.kwdB_ok k4⟩, kp⟩
    | _ => cases c2
def Pr.ok (K : PySem.W.Frag) (p : Pr) : Bool :=
  He.eqO (PySem.W.findIn K (.ref (He.ga K p.cls)) p.fld) (some (some (.ref (He.ma K (He.ga K p.cls) p.fld)))) &&
  (He.eqO (PySem.W.specialIn K (.ref (He.ma K (He.ga K p.cls) p.fld)) "__get__") (some (some (.builtin "property.__get__"))) &&
  (decide (PySem.W.takesIn K (.ref (He.ma K (He.ga K p.cls) p.fld)) = some true) &&
  ((match PySem.W.recIn K (He.ma K (He.ga K p.cls) p.fld) "property" with
    | some (.ref _ :: _) => true
    | _ => false) && okA K (prA K p.cls p.fld) p.d)))
theorem Pr.prop {K : PySem.W.Frag} {p : Pr} (h : p.ok K = true) : PropOf K (He.ga K p.cls) p.fld (He.ma K (He.ga K p.cls) p.fld) (prA K p.cls p.fld) ∧ okA K (prA K p.cls p.fld) p.d = true := by
  obtain ⟨h1, h⟩ := He.ba h
  obtain ⟨h2, h⟩ := He.ba h
  obtain ⟨h3, h⟩ := He.ba h
  obtain ⟨h4, h5⟩ := He.ba h
  refine ⟨⟨He.eqO_ok h1, He.eqO_ok h2, of_decide_eq_true h3, ?_⟩, h5⟩
  unfold prA
  split at h4
  · rename_i g rest q
    rw [q]
    exact ⟨rest, rfl⟩
  · cases h4

abbrev AlB : Type := (He.AlD × List He.FnW) × Bool
abbrev Ex : Type := PySem.W.Frag → Bool
def obsB (fa : List He.Fa) (fn : List He.DefD) (pr : List Pr) (ex : List Ex) (K : PySem.W.Frag) : AlB := ((He.obsD fa fn K, pr.map fun p => fnWA K (prA K p.cls p.fld)), (pr.all fun p => p.ok K) && ex.all fun f => f K)
def valB (fn : List He.DefD) (pr : List Pr) : AlB := ((He.valD fn, pr.map fun p => p.d.val), true)
def SaysB (fa : List He.Fa) (fn : List He.DefD) (pr : List Pr) (ex : List Ex) (K : PySem.W.Frag) : Prop := obsB fa fn pr ex K = valB fn pr
def obsBG (n : Nat) (fa : List He.Fa) (fn : List He.DefD) (pr : List Pr) (ex : List Ex) (g : Addr → Option Obj) : AlB := obsB fa fn pr ex (He.frG g (He.asD g n))
def hookB (n : Nat) (fa : List He.Fa) (fn : List He.DefD) (pr : List Pr) (ex : List Ex) : PySem.W.Hook where
  α := AlB
  obs := fun s => obsBG n fa fn pr ex s.heap.get?
  val := fun _ => valB fn pr
  says := fun _ h => ∃ K : PySem.W.Frag, K.In h ∧ SaysB fa fn pr ex K
  of := fun _ _ e => ⟨_, He.frG_in, e⟩
  keeps := fun _ _ _ ⟨K, hK, c⟩ k => ⟨K, PySem.W.Frag.In.keeps hK k, c⟩
theorem obsBG_eq {n : Nat} {fa : List He.Fa} {fn : List He.DefD} {pr : List Pr} {ex : List Ex} {g : Addr → Option Obj} {s : Shared} (h : ∀ a, g a = s.heap.get? a) : obsBG n fa fn pr ex g = (hookB n fa fn pr ex).obs s := by
  have e : g = s.heap.get? := funext h
  rw [e] <;> rfl
section
variable {fa : List He.Fa} {fn : List He.DefD} {pr : List Pr} {ex : List Ex} {K : PySem.W.Frag}
theorem SaysB.d (c : SaysB fa fn pr ex K) : He.SaysD fa fn K := congrArg (fun z : AlB => z.1.1) c
theorem SaysB.ex_ (c : SaysB fa fn pr ex K) (i : Nat) {f : Ex} (h : ex[i]? = some f := by rfl) : f K = true := by
  have c1 := (He.ba (show ((pr.all fun p => p.ok K) && ex.all fun f => f K) = true from congrArg (fun z : AlB => z.2) c)).2
  exact List.all_eq_true.mp c1 f (List.mem_of_getElem? h)
theorem SaysB.pr_ (c : SaysB fa fn pr ex K) (i : Nat) {p : Pr} (h : pr[i]? = some p := by rfl) :
    PropOf K (He.ga K p.cls) p.fld (He.ma K (He.ga K p.cls) p.fld) (prA K p.cls p.fld) ∧ ∃ fd, FunD K p.d.name p.d.qual p.d.params p.d.body p.d.scope (p.d.dvs K) (p.d.kws K) (prA K p.cls p.fld) fd := by
  have c1 := (He.ba (show ((pr.all fun p => p.ok K) && ex.all fun f => f K) = true from congrArg (fun z : AlB => z.2) c)).1
  obtain ⟨a, b⟩ := Pr.prop (List.all_eq_true.mp c1 p (List.mem_of_getElem? h))
  have e : pr.map (fun p => fnWA K (prA K p.cls p.fld)) = pr.map fun p => p.d.val := congrArg (fun z : AlB => z.1.2) c
  have e2 : (pr.map fun p => fnWA K (prA K p.cls p.fld))[i]? = (pr.map fun p => p.d.val)[i]? := by rw [e]
  rw [List.getElem?_map, List.getElem?_map, h] at e2
  exact ⟨a, funD_A (Option.some.inj e2) b⟩
end
/-- the head's facts, with getters and Bools -/
structure TxB (fa : List He.Fa) (fn : List He.DefD) (pr : List Pr) (ex : List Ex) (K : PySem.W.Frag) (mg : Str → Option Value) (base : Heap) : Prop extends Tx fa fn K mg base where
  b : SaysB fa fn pr ex K

/-! ### properties -/
section
variable (P : Program) (w : World) (K : PySem.W.Frag) (mg : Str → Option Value) (base : Heap)
structure HasP (k : Nat) (c f : Str) (ps : List Str) (sp : Sp) : Prop where
  cl : Cls K (He.ga K c)
  pr : PropOf K (He.ga K c) f (He.ma K (He.ga K c) f) (prA K c f)
  ex : ∃ fd, FnOk P w K mg base (L2.CX P w) k (prA K c f) fd ps sp ∧ Binds K fd ps []
end
theorem HasP.mono {P : Program} {w : World} {K : PySem.W.Frag} {mg : Str → Option Value} {base : Heap} {j k : Nat} {c f : Str} {ps : List Str} {sp : Sp} (h : HasP P w K mg base j c f ps sp) (l : j ≤ k) : HasP P w K mg base k c f ps sp :=
  ⟨h.cl, h.pr, let ⟨fd, F, b⟩ := h.ex; ⟨fd, F.mono l, b⟩⟩
/-- e.f -/
def tPr (C : Addr) (sp : Sp) (ta : TE) : TE := fun σ H Q => ta σ H fun x H1 => ∃ a dx fs, x = .ref a ∧ H1 a = some (.ins C dx fs) ∧ sp [.ref a] H1 Q E0
section
variable {X : Cx} {k : Nat} {C p g a dx : Addr} {fs : List (Str × V)} {c f : Str} {fd : FuncData} {ps : List Str} {sp : Sp} {E : L2.St → XK} {e : Expr} {pos : Pos} {ta : TE}
theorem getprop_okS {pins : List (Addr × Obj)} {σ : L2.St} {H : Hp} {s : Shared} {Q : VK} {b : Bool} (I : Inv X pins σ H s) (ea : H a = some (.ins C dx fs)) (c : Cls X.K C) (hp : PropOf X.K C f p g)
    (F : FnOk X.prog X.w X.K X.mg X.base (XC X) k g fd ps sp) (hr : Room (k + 1) X.A) (hb : Binds X.K fd ps []) (h : sp [.ref a] H Q E0) :
    wpAny (model X.prog X.w) X.A (getAttr (.ref a) f b) (EP X pins σ Q) X.xe s := by
  obtain ⟨mA, O, _, _, _, _⟩ := ins_get I.hok ea
  obtain ⟨od, J, _⟩ := O.look
  obtain ⟨rest, hrec⟩ := hp.rec_
  have I1 := I.tok (s.toks + 1)
  have hl : ([Value.ref a] ++ ([] : List Value)).length = ps.length := by
    rw [← F.len _ _ _ _ h]
    rfl
  have hc : (PySem.W.clsIn X.K C).isSome = true := by
    obtain ⟨cd, hc, _⟩ := PySem.W.any_some c.hd
    rw [hc]
    rfl
  refine PySem.W.get_bind I.kIn J (PySem.W.plainGet_of (c.get f)).1 (PySem.W.findObj_data hc hp.at_ hp.get hp.tak) (PySem.W.plainGet_of (c.get f)).2 (wpAny_call (PySem.W.prop_get (s := { s with toks := s.toks + 1 }) I.kIn hrec ?_))
  refine codeAny_mono (F.run X.A.in1 X.stack { s with toks := s.toks + 1 } H ⟨[.ref a], []⟩ [.ref a] [.ref a] Q E0 hr.in1 I1.env0.in1 (hb _ [.ref a] I1.kIn hl) (.cons rfl .nil) h) fun r s' hq => ?_
  cases r with
  | error er =>
    obtain ⟨_, _, _, _, _, _, _, _, _, _, _, _, z⟩ := hq
    exact z.elim
  | ok fl =>
    cases fl with
    | ret u =>
      obtain ⟨v, H', I3, rv, q3⟩ := I1.after hq
      show wpAny _ _ (handedOut u) _ _ _
      rw [PySem.W.handedOut_of (handed_of rv)]
      exact wpAny_pure ⟨v, H', I3, rv, q3⟩
    | next => exact False.elim hq
    | brk => exact False.elim hq
    | cont => exact False.elim hq
theorem pe_pr (he : PE X e ta) (h : HasP X.prog X.w X.K X.mg X.base k c f ps sp) (hr : Room (k + 1) X.A)
    (hab : attributeBase e f X.env (eval e X.env) = eval e X.env := by rfl) : PE X (.Attribute e f pos) (tPr (He.ga X.K c) sp ta) := by
  obtain ⟨fd, F, b⟩ := h.ex
  refine ⟨fun pins s σ H Q I hh => ?_⟩
  refine attr_of hab (thn (he.run pins s σ H _ I hh) fun u s1 ⟨x, H1, I1, rx, a, dx, fs, ex, ea, q⟩ => ?_)
  subst ex
  obtain rfl : u = Value.ref a := rx
  exact getprop_okS I1 ea h.cl h.pr F hr b q
end
theorem mk_hasP {P : Program} {w : World} {K : PySem.W.Frag} {mg : Str → Option Value} {base : Heap} {k : Nat} {c m name qual : Str} {params : Arguments} {body : List Stmt} {scope : Scope} {N ps : List Str} {sp : Sp} (cl : Cls K (He.ga K c))
    (F : PropOf K (He.ga K c) m (He.ma K (He.ga K c) m) (prA K c m) ∧ ∃ fd, FunD K name qual params body scope [] [] (prA K c m) fd) (S : FnScope N ps scope)
    (hb : ∀ (kV doc pm : Value) (an : Option Addr) (cdv ct : Value) (us : List Value), us.length = ps.length → bindArgs (PySem.W.fnOf name qual params body scope .none kV doc pm an cdv ct) ⟨us, []⟩ = pure (ps.zip us))
    (len : ∀ vs H Q E, sp vs H Q E → vs.length = ps.length) (hbody : Body P w K mg base k N qual scope (prA K c m) body sp) : HasP P w K mg base (k + 1) c m ps sp := by
  obtain ⟨pr, fd, F⟩ := F
  exact ⟨cl, pr, fd, FunD.ok (CX := L2.CX P w) F S len hbody, F.bindsN hb⟩
section
variable {K : PySem.W.Frag} {σ : L2.St} {H : Hp} {Q : VK} {ta : TE}
theorem w_pr {C : Addr} {sp : Sp} (h : ta σ H fun x H1 => ∃ a dx fs, x = .ref a ∧ H1 a = some (.ins C dx fs) ∧ sp [.ref a] H1 Q E0) : tPr C sp ta σ H Q := h
instance (priority := 900) i_w_pr {C : Addr} {sp : Sp} : Stp (tPr C sp ta σ H Q) (ta σ H fun x H1 => ∃ a dx fs, x = .ref a ∧ H1 a = some (.ins C dx fs) ∧ sp [.ref a] H1 Q E0) := ⟨w_pr⟩
theorem w_pr1 {a C dx : Addr} {fs : List (Str × V)} {P : Addr → Prop} (h : H a = some (.ins C dx fs)) (q : P a) : ∃ a' dx' fs', V.ref a = .ref a' ∧ H a' = some (.ins C dx' fs') ∧ P a' := ⟨a, dx, fs, rfl, h, q⟩
end

/-! ### own == -/
/-- what the right side of == may be: its type -/
def tyR (K : PySem.W.Frag) (H : Hp) (y : V) (t : Value) : Prop := (∃ C dx fs b, y = .ref b ∧ H b = some (.ins C dx fs) ∧ t = .ref C) ∨ ((∃ i, y = .int i) ∧ t = .type "int") ∨ (y = .non ∧ t = .type "NoneType") ∨ ((∃ x, y = .str x) ∧ t = .type "str") ∨
  ((∃ b, y = .bl b) ∧ t = .type "bool") ∨ (∃ a xs, y = .ref a ∧ H a = some (.lst xs) ∧ t = .type "list") ∨ (∃ a xs, y = .ref a ∧ H a = some (.tup xs) ∧ t = .type "tuple")
def rOwn (K : PySem.W.Frag) (C : Addr) (sp : Sp) : R2 := fun x y H Q => ∃ a dx fs t, x = .ref a ∧ H a = some (.ins C dx fs) ∧ tyR K H y t ∧ PySem.W.notFirst K C t = true ∧ sp [.ref a, y] H (fun v H' => ∃ b, v = .bl b ∧ Q (.bl b) H') E0
section
variable {X : Cx} {k : Nat} {c : Str} {ps : List Str} {sp : Sp}
theorem op_own (h : HasM X.prog X.w X.K X.mg X.base k c "__eq__" ps sp) (hr : Room k X.A) : OpR X (compareOp .Eq) (rOwn X.K (He.ga X.K c) sp) := by
  intro pins s σ H x y v u Q I rx ry hq
  obtain ⟨fd, F, hb⟩ := h.ex
  obtain ⟨a, dx, fs, t, ex, ea, ty, nf, q⟩ := hq
  subst ex
  obtain rfl : v = Value.ref a := rx
  obtain ⟨mA, J, _⟩ := ins_get I.hok ea
  obtain ⟨od, J, _⟩ := J.look
  obtain ⟨m, hF⟩ := I.fr
  have L : PySem.W.Looks (model X.prog X.w) s.heap (typeOf u) t := by
    rcases ty with ⟨C', dy, gs, b, rfl, eb, rfl⟩ | ⟨⟨i, rfl⟩, rfl⟩ | ⟨rfl, rfl⟩ | ⟨⟨i, rfl⟩, rfl⟩ | ⟨⟨i, rfl⟩, rfl⟩ | ⟨b, xs, rfl, eb, rfl⟩ | ⟨b, xs, rfl, eb, rfl⟩
    · obtain rfl : u = Value.ref b := ry
      obtain ⟨mB, J', _⟩ := ins_get I.hok eb
      obtain ⟨od', J', _⟩ := J'.look
      exact J'.type
    · obtain ⟨t, rfl⟩ := (show ∃ t, u = Value.int i t from ry)
      exact .now
    · obtain rfl := (show u = Value.none from ry)
      exact .now
    · obtain ⟨t, rfl⟩ := (show ∃ t, u = Value.str i t from ry)
      exact .now
    · obtain rfl := (show u = Value.bool i from ry)
      exact .now
    · obtain rfl : u = Value.ref b := ry
      obtain ⟨_, _, n, _, h1⟩ := (show ObjOk X.prog X.w H s.heap b (.lst xs) from I.hok b _ eb)
      exact (PySem.W.Looks.ld (part := none) h1).andThen .now
    · obtain rfl : u = Value.ref b := ry
      obtain ⟨_, _, _, o, h1, h2, _⟩ := (show ObjOk X.prog X.w H s.heap b (.tup xs) from I.hok b _ eb)
      refine (PySem.W.Looks.ld (part := none) h1).andThen ?_
      rw [h2]
      exact .now
  show wpAny (model X.prog X.w) X.A (richCompare .Eq (.ref a) u) (EP X pins σ Q) X.xe s
  refine PySem.W.cmp_K (op := .Eq) hr.units0 hF I.ok.mod.kin J L nf h.me.at_ h.me.fn ?_
  have hl := F.len _ _ _ _ q
  have r2 : Vals [V.ref a, y] [Value.ref a, u] := .cons rfl (.cons ry .nil)
  refine wpAny_call (codeAny_mono (F.run X.A X.stack s H ⟨[.ref a, u], []⟩ [.ref a, u] [.ref a, y] _ E0 hr I.env0 (by
    have := hb s [.ref a, u] I.kIn (by simpa using hl)
    simpa using this) r2 q) fun r s' hq => ?_)
  cases r with
  | error e => exact passZ σ pins H s e s' I hq
  | ok fl =>
    cases fl with
    | ret w =>
      obtain ⟨z, H', I', rz, b, ez, ex⟩ := I.after hq
      subst ez
      obtain rfl : w = Value.bool b := rz
      exact ⟨.bl b, H', I', rfl, ex⟩
    | next => exact False.elim hq
    | brk => exact False.elim hq
    | cont => exact False.elim hq
end
section
variable {K : PySem.W.Frag} {H : Hp} {Q : VK} {y : V} {sp : Sp}
theorem w_own {C a dx : Addr} {fs : List (Str × V)} {t : Value} (h : H a = some (.ins C dx fs)) (ty : tyR K H y t) (nf : PySem.W.notFirst K C t = true) (q : sp [.ref a, y] H (fun v H' => ∃ b, v = .bl b ∧ Q (.bl b) H') E0) : rOwn K C sp (.ref a) y H Q :=
  ⟨a, dx, fs, t, rfl, h, ty, nf, q⟩
theorem tyR_ins {b C dx : Addr} {fs : List (Str × V)} (h : H b = some (.ins C dx fs)) : tyR K H (.ref b) (.ref C) := .inl ⟨C, dx, fs, b, rfl, h, rfl⟩
theorem tyR_lst {b : Addr} {xs : List V} (h : H b = some (.lst xs)) : tyR K H (.ref b) (.type "list") := .inr (.inr (.inr (.inr (.inr (.inl ⟨b, xs, rfl, h, rfl⟩)))))
theorem tyR_tup {b : Addr} {xs : List V} (h : H b = some (.tup xs)) : tyR K H (.ref b) (.type "tuple") := .inr (.inr (.inr (.inr (.inr (.inr ⟨b, xs, rfl, h, rfl⟩)))))
theorem nf_same {C : Addr} : PySem.W.notFirst K C (.ref C) = true := by
  unfold PySem.W.notFirst
  have e : ((Value.ref C) == (Value.ref C)) = true := beq_self_eq_true _
  rw [e]
  rfl
end

/-! ### isinstance -/
/-- what an own class has for isinstance of its instances -/
structure InsC (K : PySem.W.Frag) (C : Addr) : Prop where
  cl : Cls K C
  ha : PySem.W.findIn K (.ref C) "__class__" = some (some (.builtin "object.__class__"))
  hn : PySem.W.specialIn K (.builtin "object.__class__") "__get__" = some (some (.builtin "getset_descriptor.__get__"))
  ht : PySem.W.takesIn K (.builtin "object.__class__") = some true
  hm : PySem.W.mroIn K C (.type "object") = some true
def insB (c : Str) : Ex := fun K => He.Fa.ok K (.cls c) && (He.eqO (PySem.W.findIn K (.ref (He.ga K c)) "__class__") (some (some (.builtin "object.__class__"))) &&
  (He.eqO (PySem.W.specialIn K (.builtin "object.__class__") "__get__") (some (some (.builtin "getset_descriptor.__get__"))) &&
  (decide (PySem.W.takesIn K (.builtin "object.__class__") = some true) && decide (PySem.W.mroIn K (He.ga K c) (.type "object") = some true))))
theorem insB_ok {K : PySem.W.Frag} {c : Str} (h : insB c K = true) : InsC K (He.ga K c) := by
  obtain ⟨h0, h⟩ := He.ba h
  obtain ⟨h1, h⟩ := He.ba h
  obtain ⟨h2, h⟩ := He.ba h
  obtain ⟨h3, h4⟩ := He.ba h
  exact ⟨He.cls_ok h0, He.eqO_ok h1, He.eqO_ok h2, of_decide_eq_true h3, of_decide_eq_true h4⟩
/-- isinstance of a built-in type's values and an own class; of an own class's instances and a class -/
def kitTB (t : String) (c : Str) (b : Bool) : Ex := fun K => decide (PySem.W.kitOne K (.type t) (.ref (He.ga K c)) = some b)
def kitOB (c d : Str) (b : Bool) : Ex := fun K => decide (PySem.W.kitOne K (.ref (He.ga K c)) (.ref (He.ga K d)) = some b)
def kitUB (c : Str) (t : String) (b : Bool) : Ex := fun K => decide (PySem.W.kitOne K (.ref (He.ga K c)) (.type t) = some b)
def nfB (c : Str) (t : String) : Ex := fun K => PySem.W.notFirst K (He.ga K c) (.type t)
def nfOB (c d : Str) : Ex := fun K => PySem.W.notFirst K (He.ga K c) (.ref (He.ga K d))
def tupX (x : Str) (vs : List He.Dv) : Ex := fun K => He.tupB K x vs
def lstX (x : Str) (vs : List He.Dv) : Ex := fun K => He.lstB K x vs
def excCB (c : Str) : Ex := fun K => He.eqO (PySem.W.findIn K (.ref (He.ga K c)) "__getattribute__") (some (some (.builtin "BaseException.__getattribute__"))) &&
  (He.eqO (PySem.W.findIn K (.ref (He.ga K c)) "__getattr__") (some none) && (decide (PySem.W.subIn K (.ref (He.ga K c)) (.type "BaseException") = some true) && (PySem.W.hasDictIn K (He.ga K c) &&
  (He.eqO (PySem.W.findIn K (.ref (He.ga K c)) "__class__") (some (some (.builtin "object.__class__"))) && (He.eqO (PySem.W.specialIn K (.builtin "object.__class__") "__get__") (some (some (.builtin "getset_descriptor.__get__"))) &&
  (decide (PySem.W.takesIn K (.builtin "object.__class__") = some true) && decide (PySem.W.mroIn K (He.ga K c) (.type "object") = some true)))))))
theorem excCB_ok {K : PySem.W.Frag} {c : Str} (h : excCB c K = true) : ExcC K (He.ga K c) := by
  obtain ⟨h1, h⟩ := He.ba h
  obtain ⟨h2, h⟩ := He.ba h
  obtain ⟨h3, h⟩ := He.ba h
  obtain ⟨h4, h⟩ := He.ba h
  obtain ⟨h5, h⟩ := He.ba h
  obtain ⟨h6, h⟩ := He.ba h
  obtain ⟨h7, h8⟩ := He.ba h
  exact ⟨He.eqO_ok h1, He.eqO_ok h2, of_decide_eq_true h3, h4, He.eqO_ok h5, He.eqO_ok h6, of_decide_eq_true h7, of_decide_eq_true h8⟩
/-- isinstance(e, c) in a suite -/
def rIsX (K : PySem.W.Frag) (a : Addr) (clX : Value) (dX : Option Addr) : List V → Hp → VK → Prop := fun xs H Q => ∃ (D : Addr) (c : V) (cv : Value) (b : Bool), clX = .ref D ∧ dX = none ∧ ExcC K D ∧ xs = [.ref a, c] ∧ ClsV c cv ∧ PySem.W.kitOne K (.ref D) cv = some b ∧ Q (.bl b) H
theorem call_isX {X : Cx} {a : Addr} {clX : Value} {dX : Option Addr} {oe : Obj} {pn : List (Addr × Obj)} (hz : Zc clX dX oe) (hf : ∃ vs, oe.data = .fields vs) : CallR (X.suite a ((a, oe) :: pn)) (.builtin "isinstance") (rIsX X.K a clX dX) := by
  intro pins s σ H xs us Q I r h
  obtain ⟨D, c, cv, b, e1, e2, C, ex, hc, k, q⟩ := h
  subst e1 e2
  exact call_isE C hz hf pins s σ H xs us Q I r ⟨c, cv, b, ex, fun u ru => hc.eq ru, k, q⟩
section
variable {K : PySem.W.Frag} {σ : L2.St} {H : Hp} {Q : VK}
theorem w_isX {a D : Addr} {c : V} {cv : Value} {b : Bool} (C : ExcC K D) (hc : ClsV c cv) (k : PySem.W.kitOne K (.ref D) cv = some b) (q : Q (.bl b) H) : rIsX K a (.ref D) none [.ref a, c] H Q := ⟨D, c, cv, b, rfl, rfl, C, rfl, hc, k, q⟩
theorem w_isi {x c : V} {t u : Value} {b : Bool} (k : ClsV c u) (ty : TyX K H x t) (e : PySem.W.kitOne K t u = some b) (q : Q (.bl b) H) : rIsi K [x, c] H Q := ⟨x, c, t, u, b, rfl, k, ty, e, q⟩
theorem w_isi_ii {i : Int} (q : Q (.bl true) H) : rIsi K [.int i, .ty "int"] H Q := w_isi (.ty _) (.base (.int _)) (kit_ty (by decide +kernel)) q
instance (priority := 900) i_w_isi_ii {i : Int} : Stp (rIsi K [.int i, .ty "int"] H Q) (Q (.bl true) H) := ⟨w_isi_ii⟩
theorem w_isi_ib {i : Int} (q : Q (.bl false) H) : rIsi K [.int i, .ty "bool"] H Q := w_isi (.ty _) (.base (.int _)) (kit_ty (by decide +kernel)) q
instance (priority := 900) i_w_isi_ib {i : Int} : Stp (rIsi K [.int i, .ty "bool"] H Q) (Q (.bl false) H) := ⟨w_isi_ib⟩
theorem w_isi_is {i : Int} (q : Q (.bl false) H) : rIsi K [.int i, .ty "str"] H Q := w_isi (.ty _) (.base (.int _)) (kit_ty (by decide +kernel)) q
instance (priority := 900) i_w_isi_is {i : Int} : Stp (rIsi K [.int i, .ty "str"] H Q) (Q (.bl false) H) := ⟨w_isi_is⟩
theorem w_isi_il {i : Int} (q : Q (.bl false) H) : rIsi K [.int i, .ty "list"] H Q := w_isi (.ty _) (.base (.int _)) (kit_ty (by decide +kernel)) q
instance (priority := 900) i_w_isi_il {i : Int} : Stp (rIsi K [.int i, .ty "list"] H Q) (Q (.bl false) H) := ⟨w_isi_il⟩
theorem w_isi_it {i : Int} (q : Q (.bl false) H) : rIsi K [.int i, .ty "tuple"] H Q := w_isi (.ty _) (.base (.int _)) (kit_ty (by decide +kernel)) q
instance (priority := 900) i_w_isi_it {i : Int} : Stp (rIsi K [.int i, .ty "tuple"] H Q) (Q (.bl false) H) := ⟨w_isi_it⟩
theorem w_isi_bi {i : Bool} (q : Q (.bl true) H) : rIsi K [.bl i, .ty "int"] H Q := w_isi (.ty _) (.base (.bl _)) (kit_ty (by decide +kernel)) q
instance (priority := 900) i_w_isi_bi {i : Bool} : Stp (rIsi K [.bl i, .ty "int"] H Q) (Q (.bl true) H) := ⟨w_isi_bi⟩
theorem w_isi_bb {i : Bool} (q : Q (.bl true) H) : rIsi K [.bl i, .ty "bool"] H Q := w_isi (.ty _) (.base (.bl _)) (kit_ty (by decide +kernel)) q
instance (priority := 900) i_w_isi_bb {i : Bool} : Stp (rIsi K [.bl i, .ty "bool"] H Q) (Q (.bl true) H) := ⟨w_isi_bb⟩
theorem w_isi_ss {i : Str} (q : Q (.bl true) H) : rIsi K [.str i, .ty "str"] H Q := w_isi (.ty _) (.base (.str _)) (kit_ty (by decide +kernel)) q
instance (priority := 900) i_w_isi_ss {i : Str} : Stp (rIsi K [.str i, .ty "str"] H Q) (Q (.bl true) H) := ⟨w_isi_ss⟩
theorem w_isi_sl {i : Str} (q : Q (.bl false) H) : rIsi K [.str i, .ty "list"] H Q := w_isi (.ty _) (.base (.str _)) (kit_ty (by decide +kernel)) q
instance (priority := 900) i_w_isi_sl {i : Str} : Stp (rIsi K [.str i, .ty "list"] H Q) (Q (.bl false) H) := ⟨w_isi_sl⟩
theorem w_isi_st {i : Str} (q : Q (.bl false) H) : rIsi K [.str i, .ty "tuple"] H Q := w_isi (.ty _) (.base (.str _)) (kit_ty (by decide +kernel)) q
instance (priority := 900) i_w_isi_st {i : Str} : Stp (rIsi K [.str i, .ty "tuple"] H Q) (Q (.bl false) H) := ⟨w_isi_st⟩
theorem w_isi_nl (q : Q (.bl false) H) : rIsi K [.non, .ty "list"] H Q := w_isi (.ty _) (.base .non) (kit_ty (by decide +kernel)) q
instance (priority := 900) i_w_isi_nl  : Stp (rIsi K [.non, .ty "list"] H Q) (Q (.bl false) H) := ⟨w_isi_nl⟩
theorem w_isi_nt (q : Q (.bl false) H) : rIsi K [.non, .ty "tuple"] H Q := w_isi (.ty _) (.base .non) (kit_ty (by decide +kernel)) q
instance (priority := 900) i_w_isi_nt  : Stp (rIsi K [.non, .ty "tuple"] H Q) (Q (.bl false) H) := ⟨w_isi_nt⟩
theorem w_isi_ll {a : Addr} {xs : List V} (h : H a = some (.lst xs)) (q : Q (.bl true) H) : rIsi K [.ref a, .ty "list"] H Q := w_isi (.ty _) (.base (.lst h)) (kit_ty (by decide +kernel)) q
theorem w_isi_lt {a : Addr} {xs : List V} (h : H a = some (.lst xs)) (q : Q (.bl false) H) : rIsi K [.ref a, .ty "tuple"] H Q := w_isi (.ty _) (.base (.lst h)) (kit_ty (by decide +kernel)) q
theorem w_isi_li {a : Addr} {xs : List V} (h : H a = some (.lst xs)) (q : Q (.bl false) H) : rIsi K [.ref a, .ty "int"] H Q := w_isi (.ty _) (.base (.lst h)) (kit_ty (by decide +kernel)) q
theorem w_isi_tt {a : Addr} {xs : List V} (h : H a = some (.tup xs)) (q : Q (.bl true) H) : rIsi K [.ref a, .ty "tuple"] H Q := w_isi (.ty _) (.base (.tup h)) (kit_ty (by decide +kernel)) q
theorem w_isi_tl {a : Addr} {xs : List V} (h : H a = some (.tup xs)) (q : Q (.bl false) H) : rIsi K [.ref a, .ty "list"] H Q := w_isi (.ty _) (.base (.tup h)) (kit_ty (by decide +kernel)) q
theorem w_isi_own {a C dx : Addr} {fs : List (Str × V)} {c : V} {u : Value} {b : Bool} (h : H a = some (.ins C dx fs)) (i : InsC K C) (k : ClsV c u) (e : PySem.W.kitOne K (.ref C) u = some b) (q : Q (.bl b) H) : rIsi K [.ref a, c] H Q :=
  w_isi k (.base (.ins h i.cl i.ha i.hn i.ht i.hm)) e q
end
end G

/-! == of lists and tuples, by data -/
namespace G
open PySem PySem.Spec PyProof.Rows L2
abbrev rIsB : R2 := fun x y H Q => ∃ a b, x = .bl a ∧ y = .bl b ∧ Q (.bl (decide (a = b))) H
abbrev rNotB : R2 := fun x y H Q => ∃ a b, x = .bl a ∧ y = .bl b ∧ Q (.bl (!decide (a = b))) H
section
variable {K : PySem.W.Frag} {H : Hp} {Q : VK} {x y : V} {d e : PyData} {xs ys : List Int} {a b : Addr}
theorem w_isB {p q : Bool} (h : Q (.bl (decide (p = q))) H) : rIsB (.bl p) (.bl q) H Q := ⟨p, q, rfl, rfl, h⟩
instance (priority := 900) i_w_isB {p q : Bool} : Stp (rIsB (.bl p) (.bl q) H Q) (Q (.bl (decide (p = q))) H) := ⟨w_isB⟩
theorem w_notB {p q : Bool} (h : Q (.bl (!decide (p = q))) H) : rNotB (.bl p) (.bl q) H Q := ⟨p, q, rfl, rfl, h⟩
instance (priority := 900) i_w_notB {p q : Bool} : Stp (rNotB (.bl p) (.bl q) H Q) (Q (.bl (!decide (p = q))) H) := ⟨w_notB⟩
theorem dp_ints : ∀ xs : List Int, DpAll K H (xs.map V.int) (xs.map PyData.int)
  | [] => .nil
  | x :: xs => .cons (.int x) (dp_ints xs)
theorem eqv_ints : ∀ xs ys : List Int, PyData.eqvAll (xs.map PyData.int) (ys.map PyData.int) = decide (xs = ys)
  | [], [] => by simp [PyData.eqvAll]
  | [], y :: ys => by simp [PyData.eqvAll]
  | x :: xs, [] => by simp [PyData.eqvAll]
  | x :: xs, y :: ys => by
    have h := eqv_ints xs ys
    show (PyData.eqv (.int x) (.int y) && PyData.eqvAll (xs.map PyData.int) (ys.map PyData.int)) = _
    rw [h]
    unfold PyData.eqv
    by_cases h1 : x = y <;> by_cases h2 : xs = ys <;> simp [h1, h2]
theorem lay_ints : ∀ xs : List Int, PyData.canLayAll0 (xs.map PyData.int) = true
  | [] => rfl
  | x :: xs => by
    show (PyData.canLay0 (.int x) && PyData.canLayAll0 (xs.map PyData.int)) = true
    rw [lay_ints xs]
    rfl
theorem depth_ints : ∀ xs : List Int, PyData.depthAll (xs.map PyData.int) = 0
  | [] => by simp [PyData.depthAll]
  | x :: xs => by
    have h := depth_ints xs
    simp only [List.map_cons, PyData.depthAll, PyData.depth, h]
    rfl
theorem shaped_li : SeqAt.shaped (.list (xs.map PyData.int)) = true := by
  unfold SeqAt.shaped
  have h := lay_ints xs
  have h2 := depth_ints xs
  simp [PyData.canLay0, PyData.depth, h, h2]
theorem shaped_ti : SeqAt.shaped (.tuple (xs.map PyData.int)) = true := by
  unfold SeqAt.shaped
  have h := lay_ints xs
  have h2 := depth_ints xs
  simp [PyData.canLay0, PyData.depth, h, h2]
theorem w_eqLI (h1 : SqL K H a (xs.map V.int)) (h2 : SqL K H b (ys.map V.int)) (q : Q (.bl (decide (xs = ys))) H) : rEqD K (.ref a) (.ref b) H Q :=
  ⟨_, _, .lst h1 (dp_ints xs), .lst h2 (dp_ints ys), shaped_li, shaped_li, by
    show Q (.bl (PyData.eqvAll _ _)) H
    rw [eqv_ints]; exact q⟩
theorem w_neLI (h1 : SqL K H a (xs.map V.int)) (h2 : SqL K H b (ys.map V.int)) (q : Q (.bl (!decide (xs = ys))) H) : rNeD K (.ref a) (.ref b) H Q :=
  ⟨_, _, .lst h1 (dp_ints xs), .lst h2 (dp_ints ys), shaped_li, shaped_li, by
    show Q (.bl (!PyData.eqvAll _ _)) H
    rw [eqv_ints]; exact q⟩
theorem w_eqTI (h1 : SqT K H a (xs.map V.int)) (h2 : SqT K H b (ys.map V.int)) (q : Q (.bl (decide (xs = ys))) H) : rEqD K (.ref a) (.ref b) H Q :=
  ⟨_, _, .tup h1 (dp_ints xs), .tup h2 (dp_ints ys), shaped_ti, shaped_ti, by
    show Q (.bl (PyData.eqvAll _ _)) H
    rw [eqv_ints]; exact q⟩
theorem w_neTI (h1 : SqT K H a (xs.map V.int)) (h2 : SqT K H b (ys.map V.int)) (q : Q (.bl (!decide (xs = ys))) H) : rNeD K (.ref a) (.ref b) H Q :=
  ⟨_, _, .tup h1 (dp_ints xs), .tup h2 (dp_ints ys), shaped_ti, shaped_ti, by
    show Q (.bl (!PyData.eqvAll _ _)) H
    rw [eqv_ints]; exact q⟩
theorem w_eqL' {vs ws : List V} (xs ys : List Int) (h1 : SqL K H a vs) (h2 : SqL K H b ws) (q : Q (.bl (decide (xs = ys))) H) (e1 : vs = xs.map V.int := by rfl) (e2 : ws = ys.map V.int := by rfl) : rEqD K (.ref a) (.ref b) H Q := by
  subst e1 e2
  exact w_eqLI h1 h2 q
theorem w_neL' {vs ws : List V} (xs ys : List Int) (h1 : SqL K H a vs) (h2 : SqL K H b ws) (q : Q (.bl (!decide (xs = ys))) H) (e1 : vs = xs.map V.int := by rfl) (e2 : ws = ys.map V.int := by rfl) : rNeD K (.ref a) (.ref b) H Q := by
  subst e1 e2
  exact w_neLI h1 h2 q
theorem w_eqT' {vs ws : List V} (xs ys : List Int) (h1 : SqT K H a vs) (h2 : SqT K H b ws) (q : Q (.bl (decide (xs = ys))) H) (e1 : vs = xs.map V.int := by rfl) (e2 : ws = ys.map V.int := by rfl) : rEqD K (.ref a) (.ref b) H Q := by
  subst e1 e2
  exact w_eqTI h1 h2 q
theorem w_neT' {vs ws : List V} (xs ys : List Int) (h1 : SqT K H a vs) (h2 : SqT K H b ws) (q : Q (.bl (!decide (xs = ys))) H) (e1 : vs = xs.map V.int := by rfl) (e2 : ws = ys.map V.int := by rfl) : rNeD K (.ref a) (.ref b) H Q := by
  subst e1 e2
  exact w_neTI h1 h2 q
/-! by data -/
theorem w_eqD (h1 : Dp K H x d) (h2 : Dp K H y e) (s1 : SeqAt.shaped d = true) (s2 : SeqAt.shaped e = true) (q : Q (.bl (PyData.eqv d e)) H) : rEqD K x y H Q := ⟨d, e, h1, h2, s1, s2, q⟩
theorem w_neD (h1 : Dp K H x d) (h2 : Dp K H y e) (s1 : SeqAt.shaped d = true) (s2 : SeqAt.shaped e = true) (q : Q (.bl (!PyData.eqv d e)) H) : rNeD K x y H Q := ⟨d, e, h1, h2, s1, s2, q⟩
mutual
theorem eqv_refl : ∀ d : PyData, d.canLay0 = true → PyData.eqv d d = true
  | .none, _ => by simp [PyData.eqv]
  | .bool b, _ => by simp [PyData.eqv]
  | .int i, _ => by simp [PyData.eqv]
  | .str s, _ => by simp [PyData.eqv]
  | .list xs, h => by
    have := eqvAll_refl xs (by simpa [PyData.canLay0] using h)
    simpa [PyData.eqv] using this
  | .tuple xs, h => by
    have := eqvAll_refl xs (by simpa [PyData.canLay0] using h)
    simpa [PyData.eqv] using this
  | .dict _, h => by simp [PyData.canLay0] at h
theorem eqvAll_refl : ∀ ds : List PyData, PyData.canLayAll0 ds = true → PyData.eqvAll ds ds = true
  | [], _ => by simp [PyData.eqvAll]
  | d :: ds, h => by
    have h1 : PyData.canLay0 d = true ∧ PyData.canLayAll0 ds = true := by simpa [PyData.canLayAll0] using h
    have := eqv_refl d h1.1
    have := eqvAll_refl ds h1.2
    simp [PyData.eqvAll, *]
end
theorem eqv_self {d : PyData} (h : SeqAt.shaped d = true) : PyData.eqv d d = true := eqv_refl d (SeqAt.canLay_of_shaped h)
end
end G

/-! heaps that grow; the drawn cells, as any numbers -/
namespace G
open PySem PySem.Spec PyProof.Rows L2
/-- grown, but for p -/
def ExtP (p : Addr) (H H' : Hp) : Prop := ∀ a o, a ≠ p → H a = some o → H' a = some o
section
variable {K : PySem.W.Frag} {H H1 H' : Hp} {a b p q : Addr} {o u o' : HO} {xs : List V}
theorem ext_get (e : Ext H H') (h : H b = some u) : H' b = some u := e _ _ h
theorem extp_get (e : ExtP p H H') (n : b ≠ p) (h : H b = some u) : H' b = some u := e _ _ n h
theorem ext_toP (e : Ext H H') : ExtP p H H' := fun a o _ h => e a o h
theorem ExtP.rfl' : ExtP p H H := fun _ _ _ h => h
theorem ExtP.trans (e : ExtP p H H1) (f : ExtP p H1 H') : ExtP p H H' := fun a o n h => f a o n (e a o n h)
theorem ext_via (f : Ext H1 H') (e : Ext H H1) : Ext H H' := e.trans f
theorem extp_via (f : ExtP p H1 H') (e : ExtP p H H1) : ExtP p H H' := e.trans f
theorem extp_viae (f : Ext H1 H') (e : ExtP p H H1) : ExtP p H H' := e.trans (ext_toP f)
theorem ext_up (n : H1 a = none) (e : Ext H H1) : Ext H (upd H1 a o) := fun b u h => up_n (e b u h) n
theorem extp_up (n : H1 a = none) (e : ExtP p H H1) : ExtP p H (upd H1 a o) := fun b u hb h => up_n (e b u hb h) n
theorem extp_put (e : ExtP p H H1) : ExtP p H (upd H1 p o) := fun b u hb h => up_k (e b u hb h) hb
/-- an object that was made since is written -/
theorem ext_put (n : H a = none) (e : Ext H H1) : Ext H (upd H1 a o) := fun b u h => up_k (e b u h) (ne_of_none h n)
theorem extp_putn (n : H a = none) (e : ExtP p H H1) : ExtP p H (upd H1 a o) := fun b u hb h => up_k (e b u hb h) (ne_of_none h n)
theorem ext_of_extp (n : H p = none) (e : ExtP p H H') : Ext H H' := fun a o h => e a o (ne_of_none h n) h
theorem extp_of_extp (n : H q = none) (e : ExtP q H H') : ExtP p H H' := ext_toP (ext_of_extp n e)
theorem ext_thr (n : H p = none) (f : ExtP p H1 H') (e : Ext H H1) : Ext H H' := fun a o h => f a o (ne_of_none h n) (e a o h)
theorem extp_thr (n : H q = none) (f : ExtP q H1 H') (e : ExtP p H H1) : ExtP p H H' := fun a o hp h => f a o (ne_of_none h n) (e a o hp h)
theorem Scr.ext (h : Scr K H a xs) (e : Ext H H') : Scr K H' a xs := h.same e
theorem scr_ext (e : Ext H H') (h : Scr K H a xs) : Scr K H' a xs := h.same e
theorem scr_extp (e : ExtP p H H') (n : Thw H p) (h : Scr K H a xs) : Scr K H' a xs := h.frz fun b o u hb => e b _ (fun z => by subst z; exact n o u hb) hb
theorem scr_extn (e : ExtP p H H') (n : H p = none) (h : Scr K H a xs) : Scr K H' a xs := h.frz fun b o u hb => e b _ (ne_of_none hb n) hb
theorem sq_ext (e : Ext H H') (h : SqL K H a xs) : SqL K H' a xs := h.ext e
theorem sqt_ext (e : Ext H H') (h : SqT K H a xs) : SqT K H' a xs := h.ext e
theorem SqT.of' (h : H a = some (.tup xs)) : SqT K H a xs := .inl (.inl h)
theorem ne_of' (h1 : H a = some o) (h2 : H b = some u) (n : o ≠ u) : a ≠ b := fun e => by
  subst e
  rw [h1] at h2
  cases h2
  exact n rfl
theorem up_nn (n : H a = none) (h : H b = some u) : upd H a o b = some u := up_n h n
theorem none_dn (h : upd H a o b = none) : H b = none := (up_none h).2
theorem up_ko (h : H b = some u) (h2 : H a = some o') (n : u ≠ o') : upd H a o b = some u := up_k h (ne_of' h h2 n)
end
/-! ### promises -/
def gsCell (K : PySem.W.Frag) : Sp := fun vs H Q _ => ∃ (a : Addr) (ns : List Int) (k : Int), vs = [.ref a, .int k] ∧ SqL K H a (ns.map V.int) ∧ 0 ≤ k ∧ ∀ n, Q (.int n) H
def gsStart (K : PySem.W.Frag) : Sp := fun vs H Q _ => ∃ (c k : Int), vs = [.int c, .int k] ∧ ∀ n p, H p = none → Q (.ref p) (upd H p (.lst [.int n]))
def gsDigit (K : PySem.W.Frag) : Sp := fun vs H Q _ => ∃ (p : Addr) (n m : Int), vs = [.ref p, .int m] ∧ H p = some (.lst [.int n]) ∧ 0 < m ∧ m < 1099511627776 ∧
  ∀ d n', 0 ≤ d → d < m → Q (.int d) (upd H p (.lst [.int n']))
/-- a bool or not, by isinstance: an integer -/
def gsIsInt (K : PySem.W.Frag) : Sp := fun vs H Q _ => ∃ (x : V), vs = [x] ∧ ((∃ i, x = .int i ∧ Q (.bl true) H) ∨ (∃ b, x = .bl b ∧ Q (.bl false) H))
section
variable {K : PySem.W.Frag} {H : Hp} {Q : VK} {E : XK} {a p : Addr} {k m n c : Int} {ns : List Int}
theorem c_cell (hS : SqL K H a (ns.map V.int)) (h0 : 0 ≤ k) (q : ∀ n, Q (.int n) H) : gsCell K [.ref a, .int k] H Q E := ⟨a, ns, k, rfl, hS, h0, q⟩
theorem c_start (q : ∀ n p, H p = none → Q (.ref p) (upd H p (.lst [.int n]))) : gsStart K [.int c, .int k] H Q E := ⟨c, k, rfl, q⟩
theorem c_digit (h : H p = some (.lst [.int n])) (h0 : 0 < m) (h1 : m < 1099511627776) (q : ∀ d n', 0 ≤ d → d < m → Q (.int d) (upd H p (.lst [.int n']))) : gsDigit K [.ref p, .int m] H Q E := ⟨p, n, m, rfl, h, h0, h1, q⟩
theorem c_isint (q : Q (.bl true) H) : gsIsInt K [.int n] H Q E := ⟨_, rfl, .inl ⟨n, rfl, q⟩⟩
end
theorem pr_pow (i : Nat) (h : i < 4) : (618970019642690137449562111 : Int) ^ i < 618970019642690137449562111 ^ 3 + 1 ∧ (0 : Int) < 618970019642690137449562111 ^ i := by
  have : i = 0 ∨ i = 1 ∨ i = 2 ∨ i = 3 := by omega
  rcases this with rfl | rfl | rfl | rfl <;> decide +kernel
theorem num_step {n m q : Int} (h0 : 0 ≤ n) (h1 : n < q) (h2 : 0 ≤ m) (h3 : m < 618970019642690137449562111) : 0 ≤ n * 618970019642690137449562111 + m ∧ n * 618970019642690137449562111 + m < q * 618970019642690137449562111 := by omega
theorem small_w {x : Int} (h0 : 0 ≤ x) (h : x < 618970019642690137449562111 ^ 3 + 1) : x.natAbs < 2 ^ 300 := by
  have e : (618970019642690137449562111 : Int) ^ 3 + 1 < ((2 ^ 300 : Nat) : Int) := by decide +kernel
  have e2 : x < ((2 ^ 300 : Nat) : Int) := Int.lt_trans h e
  omega
theorem ints_at {gs : List Int} {j : Nat} {z : Int} (h : gs[j]? = some z) {k : Int} (e : k = (j : Int)) : atI (gs.map V.int) k = some (V.int z) := at_of e (by rw [List.getElem?_map, h]; rfl)
theorem digit_div {m : Int} (h0 : 0 < m) (h1 : m < 1099511627776) : ∀ i : Int, CDivW i m := fun i => wide_div (b := 40) h0 (by omega) (by decide) (by decide)
/-! ### slices of lists of integers -/
theorem sum_app (xs ys : List Int) : (xs ++ ys).sum = xs.sum + ys.sum := by
  induction xs with
  | nil => simp
  | cons a r ih => rw [List.cons_append, List.sum_cons, List.sum_cons, ih]; omega
end G

/-! comprehensions whose turns only make objects; slices; indexing -/
namespace G
open PySem PySem.Spec PyProof.Rows L2
section
variable {K : PySem.W.Frag} {σ : L2.St} {H : Hp} {Q : VK} {g : TG} {tt : TT} {te : TE} {vs : List Nat} {tA : TA} {tl : TE}
def rLc (J : It) (g : TG) (tt : TT) (te : TE) (vs : List Nat) (σ : L2.St) (H1 : Hp) (Q : VK) : Prop := ∀ D, H1 D = none → ∃ W : Nat → Nat → Hp → Prop, (∃ m, W 0 m (upd H1 D (.lst []))) ∧ ∀ i m H, W i m H →
  (J.stop i H ∧ Q (.ref D) H) ∨ (J.go i H ∧ ∃ Nx : Hp → Prop, (∀ H', Nx H' → ∃ m', m' < m ∧ W (i + 1) m' H') ∧ ∀ x H', J.yld i H x H' → g x (wipe σ vs) H' fun σ2 H2 => wipe σ2 vs = wipe σ vs ∧ tt σ2 H2 fun b H3 =>
    if b = true then te σ2 H3 fun y H4 => ∃ acc, H4 D = some (.lst acc) ∧ acc.length < sizeLine ∧ Nx (upd H4 D (.lst (acc ++ [y]))) else Nx H3)
def rLcR1 (g : TG) (tt : TT) (te : TE) (ws : List Nat) (σ : L2.St) (Q : VK) (vs : List V) (H1 : Hp) : Prop := ∃ j : Int, vs = [.int j] ∧ -(2 ^ 62) ≤ j ∧ j < 2 ^ 62 ∧ rLc (Itr 0 j.toNat) g tt te ws σ H1 Q
def rLcR2 (g : TG) (tt : TT) (te : TE) (ws : List Nat) (σ : L2.St) (Q : VK) (vs : List V) (H1 : Hp) : Prop := ∃ i j : Int, vs = [.int i, .int j] ∧ (-(2 ^ 62) ≤ i ∧ i < 2 ^ 62 ∧ -(2 ^ 62) ≤ j ∧ j < 2 ^ 62) ∧ rLc (Itr i (j - i).toNat) g tt te ws σ H1 Q
def rLcL (K : PySem.W.Frag) (g : TG) (tt : TT) (te : TE) (ws : List Nat) (σ : L2.St) (Q : VK) (x : V) (H1 : Hp) : Prop := ∃ a, x = .ref a ∧ (∃ xs, SqL K H1 a xs) ∧ rLc (Itl K a) g tt te ws σ H1 Q
def rLcT (K : PySem.W.Frag) (g : TG) (tt : TT) (te : TE) (ws : List Nat) (σ : L2.St) (Q : VK) (x : V) (H1 : Hp) : Prop := ∃ a, x = .ref a ∧ (∃ xs, SqT K H1 a xs) ∧ rLc (Itt K a) g tt te ws σ H1 Q
theorem w_lcR1 (h : tA σ H fun ws H1 => rLcR1 g tt te vs σ Q ws H1) : tLc (iRng1 tA) g tt te vs σ H Q := h
instance (priority := 900) i_w_lcR1  : Stp (tLc (iRng1 tA) g tt te vs σ H Q) (tA σ H fun ws H1 => rLcR1 g tt te vs σ Q ws H1) := ⟨w_lcR1⟩
theorem w_lcR2 (h : tA σ H fun ws H1 => rLcR2 g tt te vs σ Q ws H1) : tLc (iRng2 tA) g tt te vs σ H Q := h
instance (priority := 900) i_w_lcR2  : Stp (tLc (iRng2 tA) g tt te vs σ H Q) (tA σ H fun ws H1 => rLcR2 g tt te vs σ Q ws H1) := ⟨w_lcR2⟩
theorem w_lcL (h : tl σ H fun x H1 => rLcL K g tt te vs σ Q x H1) : tLc (iList K tl) g tt te vs σ H Q := h
instance (priority := 900) i_w_lcL  : Stp (tLc (iList K tl) g tt te vs σ H Q) (tl σ H fun x H1 => rLcL K g tt te vs σ Q x H1) := ⟨w_lcL⟩
theorem w_lcT (h : tl σ H fun x H1 => rLcT K g tt te vs σ Q x H1) : tLc (iTup K tl) g tt te vs σ H Q := h
instance (priority := 900) i_w_lcT  : Stp (tLc (iTup K tl) g tt te vs σ H Q) (tl σ H fun x H1 => rLcT K g tt te vs σ Q x H1) := ⟨w_lcT⟩
theorem wipe1 {v : Nat} {x : Option V} : wipe ((wipe σ [v]).set v x) [v] = wipe σ [v] := by
  show ((σ.set v none).set v x).set v none = σ.set v none
  rw [List.set_set, List.set_set]
def LcAdd (D : Addr) (Pv : Nat → Hp → Prop) (i : Nat) (y : V) (H4 : Hp) : Prop := ∃ acc, H4 D = some (.lst acc) ∧ acc.length < sizeLine ∧ Pv (i + 1) (upd H4 D (.lst (acc ++ [y])))
/-- grown only, the list so far at D -/
def PvE (H : Hp) (D : Addr) (A : Nat → List V) (i : Nat) (H' : Hp) : Prop := Ext H H' ∧ H' D = some (.lst (A i))
theorem lc_add {D : Addr} {A : Nat → List V} {i : Nat} {y : V} {H4 : Hp} (h : H4 D = some (.lst (A i))) (e : Ext H H4) (n : H D = none) (ha : A (i + 1) = A i ++ [y]) (hl : (A i).length < sizeLine) : LcAdd D (PvE H D A) i y H4 :=
  ⟨A i, h, hl, ext_put n e, by rw [upd_same, ha]⟩
theorem lc_skip {D : Addr} {A : Nat → List V} {i : Nat} {H3 : Hp} (h : H3 D = some (.lst (A i))) (e : Ext H H3) (ha : A (i + 1) = A i) : PvE H D A (i + 1) H3 := ⟨e, by rw [ha]; exact h⟩
/-- over any walk, growth only: A i the list so far -/
theorem lcE {J : It} {n : Nat} {G : Hp → Prop} {Y : Nat → Hp → V → Hp → Prop} (w : Walk J n G Y) (A : Nat → List V) (h0 : A 0 = []) (hG : ∀ H', Ext H H' → G H')
    (hs : ∀ i x D H1 H2, i < n → H D = none → Ext H H1 → H1 D = some (.lst (A i)) → Y i H1 x H2 → g x (wipe σ vs) H2 fun σ2 H2 => wipe σ2 vs = wipe σ vs ∧ tt σ2 H2 fun b H3 =>
      if b = true then te σ2 H3 fun y H4 => LcAdd D (PvE H D A) i y H4 else PvE H D A (i + 1) H3)
    (hd : ∀ D H1, H D = none → Ext H H1 → H1 D = some (.lst (A n)) → Q (.ref D) H1) : rLc J g tt te vs σ H Q := fun D hD =>
  lc_it w (PvE H D A) ⟨ext_up hD Ext.rfl', by rw [upd_same, h0]⟩ (fun i H' _ h => hG H' h.1) (fun i x H1 H2 hi h y => hs i x D H1 H2 hi hD h.1 h.2 y) fun H1 h => hd D H1 hD h.1 h.2
abbrev accM (fV : Nat → V) : Nat → List V := fun i => (List.range i).map fV
abbrev accF (p : Nat → Bool) (fV : Nat → V) : Nat → List V := fun i => ((List.range i).filter p).map fV
theorem accM_succ {fV : Nat → V} {i : Nat} : accM fV (i + 1) = accM fV i ++ [fV i] := by
  unfold accM
  rw [List.range_succ, List.map_append]
  rfl
theorem accM_len {fV : Nat → V} {i : Nat} : (accM fV i).length = i := by unfold accM; simp
theorem accF_yes {p : Nat → Bool} {fV : Nat → V} {i : Nat} (h : p i = true) : accF p fV (i + 1) = accF p fV i ++ [fV i] := by
  unfold accF
  rw [List.range_succ, List.filter_append, List.map_append]
  simp [h]
theorem accF_no {p : Nat → Bool} {fV : Nat → V} {i : Nat} (h : p i = false) : accF p fV (i + 1) = accF p fV i := by
  unfold accF
  rw [List.range_succ, List.filter_append, List.map_append]
  simp [h]
theorem accF_len {p : Nat → Bool} {fV : Nat → V} {i : Nat} : (accF p fV i).length ≤ i := by
  unfold accF
  rw [List.length_map]
  exact Nat.le_trans (List.length_filter_le _ _) (by simp)
theorem lc_one {D : Addr} {fV : Nat → V} {i : Nat} {y : V} {H4 : Hp} (h : H4 D = some (.lst (accM fV i))) (e : Ext H H4) (n : H D = none) (hi : i < 16000000) (ha : y = fV i) : LcAdd D (PvE H D (accM fV)) i y H4 :=
  lc_add h e n (by rw [accM_succ, ha]) (by rw [accM_len]; exact Nat.lt_trans hi (by decide))
theorem lc_onef {D : Addr} {p : Nat → Bool} {fV : Nat → V} {i : Nat} {y : V} {H4 : Hp} (h : H4 D = some (.lst (accF p fV i))) (e : Ext H H4) (n : H D = none) (hi : i < 16000000) (hp : p i = true) (ha : y = fV i) : LcAdd D (PvE H D (accF p fV)) i y H4 :=
  lc_add h e n (by rw [accF_yes hp, ha]) (Nat.lt_of_le_of_lt accF_len (Nat.lt_trans hi (by decide)))
theorem lc_nonef {D : Addr} {p : Nat → Bool} {fV : Nat → V} {i : Nat} {H3 : Hp} (h : H3 D = some (.lst (accF p fV i))) (e : Ext H H3) (hp : p i = false) : PvE H D (accF p fV) (i + 1) H3 :=
  lc_skip h e (accF_no hp)
/-! the usual ones: one name -/
variable {v : Nat} {j lo hi : Int}
theorem lcR1 {n : Nat} (fV : Nat → V) (hj : j = (n : Int)) (hn : n < 16000000) (hs : ∀ (i : Nat) D H1, i < n → H D = none → Ext H H1 → H1 D = some (.lst (accM fV i)) → te ((σ.set v none).set v (some (.int (i : Int)))) H1 fun y H4 => LcAdd D (PvE H D (accM fV)) i y H4)
    (hd : ∀ D H1, H D = none → Ext H H1 → H1 D = some (.lst (accM fV n)) → Q (.ref D) H1) : rLcR1 (gName v) tYes te [v] σ Q [.int j] H := by
  subst hj
  refine ⟨(n : Int), rfl, by omega, by omega, lcE walk_range (accM fV) rfl (fun _ _ => trivial) ?_ (by rw [Int.toNat_natCast]; exact hd)⟩
  rintro i x D H1 H2 hi hD e hA ⟨rfl, rfl⟩
  refine ⟨wipe1, ?_⟩
  show te ((σ.set v none).set v (some (.int (0 + (i : Int))))) H2 _
  rw [Int.zero_add]
  exact hs i D H2 (by omega) hD e hA
theorem lcR2 (fV : Nat → V) (hn : -4000000000 < lo ∧ lo < 4000000000 ∧ -4000000000 < hi ∧ hi < 4000000000) (hn2 : hi - lo < 16000000) (hs : ∀ (i : Nat) D H1, lo + i < hi → H D = none → Ext H H1 → H1 D = some (.lst (accM fV i)) → te ((σ.set v none).set v (some (.int (lo + (i : Int))))) H1 fun y H4 => LcAdd D (PvE H D (accM fV)) i y H4)
    (hd : ∀ D H1, H D = none → Ext H H1 → H1 D = some (.lst (accM fV (hi - lo).toNat)) → Q (.ref D) H1) : rLcR2 (gName v) tYes te [v] σ Q [.int lo, .int hi] H := by
  refine ⟨lo, hi, rfl, ⟨by omega, by omega, by omega, by omega⟩, lcE walk_range (accM fV) rfl (fun _ _ => trivial) ?_ hd⟩
  rintro i x D H1 H2 hi hD e hA ⟨rfl, rfl⟩
  exact ⟨wipe1, hs i D H2 (by omega) hD e hA⟩
theorem lcL {a : Addr} {xs : List V} (fV : Nat → V) (hx : SqL K H a xs) (hn : xs.length < 16000000) (hs : ∀ (i : Nat) x D H1, xs[i]? = some x → H D = none → Ext H H1 → H1 D = some (.lst (accM fV i)) → te ((σ.set v none).set v (some x)) H1 fun y H4 => LcAdd D (PvE H D (accM fV)) i y H4)
    (hd : ∀ D H1, H D = none → Ext H H1 → H1 D = some (.lst (accM fV xs.length)) → Q (.ref D) H1) : rLcL K (gName v) tYes te [v] σ Q (.ref a) H := by
  refine ⟨a, rfl, ⟨_, hx⟩, lcE walk_list (accM fV) rfl (fun _ e => hx.ext e) ?_ hd⟩
  rintro i x D H1 H2 hi hD e hA ⟨rfl, hxi⟩
  exact ⟨wipe1, hs i x D H2 hxi hD e hA⟩
theorem lcLF {a : Addr} {xs : List V} (p : Nat → Bool) (fV : Nat → V) (hx : SqL K H a xs) (hn : xs.length < 16000000) (hs : ∀ (i : Nat) x D H1, xs[i]? = some x → H D = none → Ext H H1 → H1 D = some (.lst (accF p fV i)) →
      tt ((σ.set v none).set v (some x)) H1 fun b H3 => if b = true then te ((σ.set v none).set v (some x)) H3 fun y H4 => LcAdd D (PvE H D (accF p fV)) i y H4 else PvE H D (accF p fV) (i + 1) H3)
    (hd : ∀ D H1, H D = none → Ext H H1 → H1 D = some (.lst (accF p fV xs.length)) → Q (.ref D) H1) : rLcL K (gName v) tt te [v] σ Q (.ref a) H := by
  refine ⟨a, rfl, ⟨_, hx⟩, lcE walk_list (accF p fV) rfl (fun _ e => hx.ext e) ?_ hd⟩
  rintro i x D H1 H2 hi hD e hA ⟨rfl, hxi⟩
  exact ⟨wipe1, hs i x D H2 hxi hD e hA⟩
theorem lcT {a : Addr} {xs : List V} (fV : Nat → V) (hx : SqT K H a xs) (hn : xs.length < 16000000) (hs : ∀ (i : Nat) x D H1, xs[i]? = some x → H D = none → Ext H H1 → H1 D = some (.lst (accM fV i)) → te ((σ.set v none).set v (some x)) H1 fun y H4 => LcAdd D (PvE H D (accM fV)) i y H4)
    (hd : ∀ D H1, H D = none → Ext H H1 → H1 D = some (.lst (accM fV xs.length)) → Q (.ref D) H1) : rLcT K (gName v) tYes te [v] σ Q (.ref a) H := by
  refine ⟨a, rfl, ⟨_, hx⟩, lcE walk_tup (accM fV) rfl (fun _ e => hx.ext e) ?_ hd⟩
  rintro i x D H1 H2 hi hD e hA ⟨rfl, hxi⟩
  exact ⟨wipe1, hs i x D H2 hxi hD e hA⟩
end
/-! ### slices -/
section
variable {K : PySem.W.Frag} {σ : L2.St} {H : Hp} {Q : VK} {te : TE} {tl th : TO} {r : V → Option Int → Option Int → Hp → VK → Prop} {a : Addr} {xs : List V} {l h : Option Int} {i j : Int} {Qo : Option Int → Hp → Prop} {t : TE}
theorem w_sl (h : te σ H fun x H1 => tl σ H1 fun l H2 => th σ H2 fun u H3 => r x l u H3 Q) : tSl r te tl th σ H Q := h
instance (priority := 900) i_w_sl  : Stp (tSl r te tl th σ H Q) (te σ H fun x H1 => tl σ H1 fun l H2 => th σ H2 fun u H3 => r x l u H3 Q) := ⟨w_sl⟩
theorem w_nopart (q : Qo none H) : tNoPart σ H Qo := q
instance (priority := 900) i_w_nopart  : Stp (tNoPart σ H Qo) (Qo none H) := ⟨w_nopart⟩
theorem w_part (q : t σ H fun x H1 => ∃ i, x = .int i ∧ Qo (some i) H1) : tPart t σ H Qo := q
instance (priority := 900) i_w_part  : Stp (tPart t σ H Qo) (t σ H fun x H1 => ∃ i, x = .int i ∧ Qo (some i) H1) := ⟨w_part⟩
theorem w_pint {P : Int → Prop} (q : P i) : ∃ k, V.int i = .int k ∧ P k := ⟨i, rfl, q⟩
instance (priority := 900) i_w_pint {P : Int → Prop} : Stp (∃ k, V.int i = .int k ∧ P k) (P i) := ⟨w_pint⟩
theorem w_slL (hx : SqL K H a xs) (q : ∀ p, H p = none → Q (.ref p) (upd H p (.lst (cutV xs l h)))) : rSlL K (.ref a) l h H Q := ⟨a, xs, rfl, hx, q⟩
theorem cut_from {xs : List V} (h0 : 0 ≤ i) : cutV xs (some i) none = xs.drop i.toNat := by
  obtain ⟨n, rfl⟩ := Int.eq_ofNat_of_zero_le h0
  unfold cutV
  rw [HT.sIx_nat, HT.sIx_none, Int.toNat_natCast]
  by_cases hn : n ≤ xs.length
  · rw [Nat.min_eq_left hn, List.take_of_length_le]
    rw [List.length_drop]
    omega
  · rw [Nat.min_eq_right (by omega), List.drop_eq_nil_of_le (Nat.le_refl _), List.drop_eq_nil_of_le (by omega)]
    simp
theorem cut_to {xs : List V} (h0 : 0 ≤ i) : cutV xs none (some i) = xs.take i.toNat := by
  obtain ⟨n, rfl⟩ := Int.eq_ofNat_of_zero_le h0
  unfold cutV
  rw [HT.sIx_nat, HT.sIx_none, Int.toNat_natCast, List.drop_zero, Nat.sub_zero]
  by_cases hn : n ≤ xs.length
  · rw [Nat.min_eq_left hn]
  · rw [Nat.min_eq_right (by omega), List.take_of_length_le (Nat.le_refl _), List.take_of_length_le (by omega)]
theorem cut_mid {xs : List V} (h0 : 0 ≤ i) (h1 : i ≤ j) : cutV xs (some i) (some j) = (xs.drop i.toNat).take (j - i).toNat := by
  obtain ⟨n, rfl⟩ := Int.eq_ofNat_of_zero_le h0
  obtain ⟨m, rfl⟩ := Int.eq_ofNat_of_zero_le (Int.le_trans h0 h1)
  unfold cutV
  rw [HT.sIx_nat, HT.sIx_nat, Int.toNat_natCast]
  have e : ((m : Int) - (n : Int)).toNat = m - n := by omega
  rw [e]
  by_cases hn : n ≤ xs.length
  · rw [Nat.min_eq_left hn]
    by_cases hm : m ≤ xs.length
    · rw [Nat.min_eq_left hm]
    · rw [Nat.min_eq_right (by omega), List.take_of_length_le (by rw [List.length_drop]; omega), List.take_of_length_le (by rw [List.length_drop]; omega)]
  · rw [Nat.min_eq_right (by omega : xs.length ≤ n), List.drop_eq_nil_of_le (Nat.le_refl _), List.drop_eq_nil_of_le (by omega)]
    simp
theorem w_slLfrom (hx : SqL K H a xs) (h0 : 0 ≤ i) (q : ∀ p, H p = none → Q (.ref p) (upd H p (.lst (xs.drop i.toNat)))) : rSlL K (.ref a) (some i) none H Q := w_slL hx fun p hp => by rw [cut_from h0]; exact q p hp
theorem w_slLto (hx : SqL K H a xs) (h0 : 0 ≤ i) (q : ∀ p, H p = none → Q (.ref p) (upd H p (.lst (xs.take i.toNat)))) : rSlL K (.ref a) none (some i) H Q := w_slL hx fun p hp => by rw [cut_to h0]; exact q p hp
theorem w_slLmid (hx : SqL K H a xs) (h0 : 0 ≤ i) (h1 : i ≤ j) (q : ∀ p, H p = none → Q (.ref p) (upd H p (.lst ((xs.drop i.toNat).take (j - i).toNat)))) : rSlL K (.ref a) (some i) (some j) H Q := w_slL hx fun p hp => by rw [cut_mid h0 h1]; exact q p hp
/-! ### more of lists -/
theorem small_le {n : Nat} (h : Nat.ble n 1000 = true) : n ≤ sizeLine := Nat.le_trans (Nat.le_of_ble_eq_true h) (by decide)
theorem w_cat {l b : Addr} {xs zs : List V} (h1 : H l = some (.lst xs)) (h2 : H b = some (.lst zs)) (hz : xs.length + zs.length ≤ sizeLine) (q : ∀ p, H p = none → Q (.ref p) (upd H p (.lst (xs ++ zs)))) : rCat (.ref l) (.ref b) H Q := ⟨l, b, xs, zs, rfl, rfl, h1, h2, hz, q⟩
end
end G

/-! grown, but for some -/
namespace G
open PySem PySem.Spec PyProof.Rows L2
structure ExtS (S : List Addr) (H H' : Hp) : Prop where
  get : ∀ a o, a ∉ S → H a = some o → H' a = some o
  dom : ∀ a, H' a = none → H a = none
/-- each of S' is one of S, or not there in H -/
def SubN (S' S : List Addr) (H : Hp) : Prop := ∀ x ∈ S', x ∈ S ∨ H x = none
section
variable {K : PySem.W.Frag} {H H1 H' : Hp} {a b p q x y : Addr} {o u o' : HO} {xs : List V} {S S' : List Addr}
theorem ext_none (e : Ext H H') (h : H' x = none) : H x = none := by
  cases hx : H x with
  | none => rfl
  | some u => rw [e x u hx] at h; cases h
theorem upd_none (h : upd H a o x = none) : H x = none := (up_none h).2
theorem ExtS.rfl' : ExtS S H H := ⟨fun _ _ _ h => h, fun _ h => h⟩
theorem exts_ext (e : Ext H H') : ExtS S H H' := ⟨fun a o _ h => e a o h, fun a h => ext_none e h⟩
theorem exts_of_p (e : ExtP p H H') (d : H' p = some o) : ExtS [p] H H' := ⟨fun a o n h => e a o (fun z => n (by rw [z]; exact List.mem_singleton.mpr rfl)) h, fun a h => by
  cases hx : H a with
  | none => rfl
  | some u =>
    by_cases z : a = p
    · subst z; rw [d] at h; cases h
    · rw [e a u z hx] at h; cases h⟩
theorem exts_nil (e : ExtS [] H H') : Ext H H' := fun a o h => e.get a o (fun z => nomatch z) h
theorem extp_of_s (e : ExtS [p] H H') : ExtP p H H' := fun a o n h => e.get a o (fun z => n (List.mem_singleton.mp z)) h
theorem exts_mono {S2 : List Addr} (e : ExtS S H H') (h : ∀ x ∈ S, x ∈ S2) : ExtS S2 H H' := ⟨fun a o n => e.get a o fun z => n (h a z), e.dom⟩
theorem SubN.nil : SubN [] S H := fun _ z => nomatch z
theorem SubN.inn (h : x ∈ S) (s : SubN S' S H) : SubN (x :: S') S H := fun y hy => by
  rcases List.mem_cons.mp hy with rfl | hy
  · exact .inl h
  · exact s y hy
theorem SubN.new (h : H x = none) (s : SubN S' S H) : SubN (x :: S') S H := fun y hy => by
  rcases List.mem_cons.mp hy with rfl | hy
  · exact .inr h
  · exact s y hy
theorem SubN.all (h : ∀ x ∈ S', H x = none) : SubN S' S H := fun y hy => .inr (h y hy)
theorem SubN.app {S1 S2 : List Addr} (h : SubN S1 S H) (h2 : SubN S2 S H) : SubN (S1 ++ S2) S H := fun y hy => (List.mem_append.mp hy).elim (h y) (h2 y)
theorem exts_thr (f : ExtS S' H1 H') (n : SubN S' S H) (e : ExtS S H H1) : ExtS S H H' := ⟨fun a o ha h => f.get a o (fun z => (n a z).elim ha (fun z => by rw [z] at h; cases h)) (e.get a o ha h), fun a h => e.dom a (f.dom a h)⟩
theorem exts_thrE (f : Ext H1 H') (e : ExtS S H H1) : ExtS S H H' := ⟨fun a o ha h => f a o (e.get a o ha h), fun a h => e.dom a (ext_none f h)⟩
theorem exts_thrP (f : ExtP p H1 H') (d : H' p = some o) (n : SubN [p] S H) (e : ExtS S H H1) : ExtS S H H' := exts_thr (exts_of_p f d) n e
theorem exts_up (n : H1 a = none) (e : ExtS S H H1) : ExtS S H (upd H1 a o) := ⟨fun b u hb h => up_n (e.get b u hb h) n, fun b h => e.dom b (upd_none h)⟩
theorem exts_put (n : SubN [a] S H) (e : ExtS S H H1) : ExtS S H (upd H1 a o) := ⟨fun b u hb h => up_k (e.get b u hb h) (fun z => (n b (by rw [z]; exact List.mem_singleton.mpr rfl)).elim hb (fun z => by rw [z] at h; cases h)), fun b h => e.dom b (upd_none h)⟩
theorem ni_nil : x ∉ ([] : List Addr) := fun z => nomatch z
theorem ni_cons (n : x ≠ y) (m : x ∉ S) : x ∉ y :: S := fun z => (List.mem_cons.mp z).elim n m
theorem ni_app {S2 : List Addr} (n : x ∉ S) (m : x ∉ S2) : x ∉ S ++ S2 := fun z => (List.mem_append.mp z).elim n m
theorem ni_new (h : H x = some u) (n : ∀ y ∈ S, H y = none) : x ∉ S := fun z => by
  rw [n x z] at h
  cases h
theorem exts_get (e : ExtS S H H') (n : x ∉ S) (h : H x = some u) : H' x = some u := e.get _ _ n h
theorem exts_none (e : ExtS S H H') (h : H' x = none) : H x = none := e.dom x h
theorem mem_hd : x ∈ x :: S := List.mem_cons_self
theorem mem_tl (h : x ∈ S) : x ∈ y :: S := List.mem_cons_of_mem _ h
theorem scr_exts (e : ExtS S H H') (n : ∀ y ∈ S, Thw H y) (h : Scr K H a xs) : Scr K H' a xs := h.frz fun b o u hb => e.get b _ (fun z => n b z o u hb) hb
theorem all_nil {P : Addr → Prop} : ∀ y ∈ ([] : List Addr), P y := fun _ z => nomatch z
theorem all_cons {P : Addr → Prop} (h : P x) (t : ∀ y ∈ S, P y) : ∀ y ∈ x :: S, P y := fun y hy => by
  rcases List.mem_cons.mp hy with rfl | hy
  · exact h
  · exact t y hy
theorem thw_none (h : H x = none) : Thw H x := fun o u z => by rw [h] at z; cases z
theorem sq_exts (e : ExtS S H H') (n : a ∉ S) (h : H a = some (.lst xs)) : SqL K H' a xs := SqL.of (e.get _ _ n h)
end
end G

/-! rows of lists of integers; more steps -/
namespace G
open PySem PySem.Spec PyProof.Rows L2
/-- the lists at these addresses -/
def Rows (H : Hp) (as : List Addr) (ms : List (List Int)) : Prop := as.length = ms.length ∧ ∀ (i : Nat) (a : Addr) (m : List Int), as[i]? = some a → ms[i]? = some m → H a = some (.lst (m.map V.int))
section
variable {K : PySem.W.Frag} {H H1 H' : Hp} {a b p q x y : Addr} {o u o' : HO} {xs zs : List V} {S S' as bs : List Addr} {ms : List (List Int)} {m : List Int} {Q : VK} {σ : L2.St} {i j k : Int}
theorem Rows.nil : Rows H [] [] := ⟨rfl, fun i a m h => by simp at h⟩
theorem Rows.at (h : Rows H as ms) {i : Nat} (hi : i < ms.length) : ∃ (a : Addr) (m : List Int), as[i]? = some a ∧ ms[i]? = some m ∧ H a = some (.lst (m.map V.int)) := by
  have h2 : i < as.length := by rw [h.1]; exact hi
  exact ⟨as[i], ms[i], List.getElem?_eq_getElem h2, List.getElem?_eq_getElem hi, h.2 i _ _ (List.getElem?_eq_getElem h2) (List.getElem?_eq_getElem hi)⟩
theorem Rows.mem (h : Rows H as ms) (ha : a ∈ as) : ∃ m : List Int, H a = some (.lst (m.map V.int)) := by
  obtain ⟨i, hi, e⟩ := List.mem_iff_getElem.mp ha
  obtain ⟨a', m, h1, h2, h3⟩ := h.at (i := i) (by rw [← h.1]; exact hi)
  rw [List.getElem?_eq_getElem hi, e] at h1
  cases h1
  exact ⟨m, h3⟩
theorem Rows.ext (h : Rows H as ms) (e : Ext H H') : Rows H' as ms := ⟨h.1, fun i a m h1 h2 => e _ _ (h.2 i a m h1 h2)⟩
theorem Rows.exts (h : Rows H as ms) (e : ExtS S H H') (n : ∀ a ∈ as, a ∉ S) : Rows H' as ms := ⟨h.1, fun i a m h1 h2 => e.get _ _ (n a (List.mem_of_getElem? h1)) (h.2 i a m h1 h2)⟩
theorem Rows.snoc (h : Rows H as ms) (h1 : H a = Option.some (.lst (m.map V.int))) : Rows H (as ++ [a]) (ms ++ [m]) := by
  refine ⟨by rw [List.length_append, List.length_append, h.1]; rfl, fun i b m' hb hm => ?_⟩
  by_cases hi : i < as.length
  · rw [List.getElem?_append_left hi] at hb
    rw [List.getElem?_append_left (by rw [← h.1]; exact hi)] at hm
    exact h.2 i b m' hb hm
  · rw [List.getElem?_append_right (by omega)] at hb
    rw [List.getElem?_append_right (by rw [← h.1]; omega), ← h.1] at hm
    have e : i - as.length = 0 := by
      have := (List.getElem?_eq_some_iff.mp hb).1
      simp at this
      omega
    rw [e] at hb hm
    cases hb
    cases hm
    exact h1
theorem Rows.new (h : Rows H as ms) (n : H x = none) : Rows (upd H x o) as ms := h.ext (ext_up n Ext.rfl')
theorem Rows.put (h : Rows H as ms) (n : x ∉ as) : Rows (upd H x o) as ms := ⟨h.1, fun i a m h1 h2 => up_k (h.2 i a m h1 h2) fun z => n (by rw [← z]; exact List.mem_of_getElem? h1)⟩
theorem Rows.no (h : Rows H as ms) (n : H x = none) : x ∉ as := fun z => by
  obtain ⟨m, e⟩ := h.mem z
  rw [n] at e
  cases e
theorem Rows.noi (h : Rows H as ms) {C dx : Addr} {fs : List (Str × V)} (n : H x = some (.ins C dx fs)) : x ∉ as := fun z => by
  obtain ⟨m, e⟩ := h.mem z
  rw [n] at e
  cases e
theorem nodup_snoc (h : as.Nodup) (n : x ∉ as) : (as ++ [x]).Nodup := List.nodup_append.mpr ⟨h, by simp, fun a ha b hb => by
  rw [List.mem_singleton.mp hb]
  intro z
  rw [z] at ha
  exact n ha⟩
theorem mem_snoc {P : Addr → Prop} (h : ∀ a ∈ as, P a) (n : P x) : ∀ a ∈ as ++ [x], P a := fun a ha => (List.mem_append.mp ha).elim (h a) fun z => by
  rw [List.mem_singleton.mp z]
  exact n
theorem ni_snoc (h : y ∉ as) (n : y ≠ x) : y ∉ as ++ [x] := fun z => (List.mem_append.mp z).elim h fun z => n (List.mem_singleton.mp z)
theorem Rows.take (h : Rows H as ms) (n : Nat) : Rows H (as.take n) (ms.take n) := ⟨by rw [List.length_take, List.length_take, h.1], fun i a m h1 h2 => by
  rw [List.getElem?_take] at h1 h2
  by_cases hi : i < n
  · rw [if_pos hi] at h1 h2
    exact h.2 i a m h1 h2
  · rw [if_neg hi] at h1
    cases h1⟩
theorem Rows.drop (h : Rows H as ms) (n : Nat) : Rows H (as.drop n) (ms.drop n) := ⟨by rw [List.length_drop, List.length_drop, h.1], fun i a m h1 h2 => by
  rw [List.getElem?_drop] at h1 h2
  exact h.2 _ a m h1 h2⟩
theorem w_sum {ns : List Int} {a : Addr} (h : SqL K H a (ns.map V.int)) (q : Q (.int ns.sum) H) : rSum K [.ref a] H Q := ⟨a, ns, rfl, h, q⟩
theorem w_extend {l b : Addr} (h1 : H l = some (.lst xs)) (h2 : H b = some (.lst zs)) (hz : xs.length + zs.length ≤ sizeLine) (q : Q .non (upd H l (.lst (xs ++ zs)))) : rExtend (.ref l) [.ref b] H Q := ⟨l, b, xs, zs, rfl, rfl, h1, h2, hz, q⟩
theorem w_rep {l : Addr} (h1 : H l = some (.lst xs)) (h0 : 0 ≤ k) (hk : k < 4611686018427387904) (hz : xs.length * k.toNat ≤ sizeLine) (q : ∀ p, H p = none → Q (.ref p) (upd H p (.lst (List.replicate k.toNat xs).flatten))) : rRep (.ref l) (.int k) H Q :=
  ⟨l, k, xs, rfl, rfl, h1, by omega, by omega, hz, q⟩
theorem w_intb {c : Bool} (q : Q (.int (if c then 1 else 0)) H) : gInt1 [.bl c] H Q := .inr ⟨c, rfl, q⟩
instance (priority := 900) i_w_intb {c : Bool} : Stp (gInt1 [.bl c] H Q) (Q (.int (if c then 1 else 0)) H) := ⟨w_intb⟩
theorem w_tryas {tb : WX → TS} {c : Value} {n : Nat} {ts : Addr → Value → Option Addr → TS} {Wout : WX} {D : Ends} (h : tb (wAs K c n ts Wout D) D σ H) : (fun D σ H => (fun W1 : WX => tb W1) (wAs K c n ts Wout D) D σ H) D σ H := h
/-- while, the test's reading told by a fact of monotony -/
theorem w_while {c : TT} {tb : TS} {D : Ends} (Pv : L2.St → Hp → Prop) (μ : L2.St → Hp → Nat) (h0 : Pv σ H)
    (hs : ∀ σ H, Pv σ H → c σ H fun b H1 => if b = true then tb { D with nx := fun σ' H' => Pv σ' H' ∧ μ σ' H' < μ σ H, ct := fun σ' H' => Pv σ' H' ∧ μ σ' H' < μ σ H, bk := D.nx } σ H1 else D.nx σ H1)
    (mono : ∀ σ H Q Q', (∀ b H1, Q b H1 → Q' b H1) → c σ H Q → c σ H Q') : tWhile c tb D σ H := while_by Pv μ h0 hs mono
end
theorem small16 {n : Nat} (h : n ≤ 16000000) : n ≤ sizeLine := Nat.le_trans h (by decide)
theorem small16l {n : Nat} (h : n < 16000000) : n < sizeLine := Nat.lt_of_lt_of_le h (by decide)
theorem map_inj_int {xs ys : List Int} (h : xs.map V.int = ys.map V.int) : xs = ys := by
  induction xs generalizing ys with
  | nil => cases ys with
    | nil => rfl
    | cons y ys => simp at h
  | cons x xs ih => cases ys with
    | nil => simp at h
    | cons y ys =>
      simp only [List.map_cons, List.cons.injEq, V.int.injEq] at h
      rw [h.1, ih h.2]
theorem atI_int {L : List Int} {a : Nat} (h : a < L.length) {k : Int} (e : k = (a : Int)) : atI (L.map V.int) k = some (V.int (L.getD a 0)) := at_of e (by
  rw [List.getElem?_map, List.getElem?_eq_getElem h, List.getD_eq_getElem?_getD, List.getElem?_eq_getElem h]
  rfl)
theorem atI_ref {L : List Addr} {a : Nat} {r : Addr} (h : L[a]? = some r) {k : Int} (e : k = (a : Int)) : atI (L.map V.ref) k = some (V.ref r) := at_of e (by rw [List.getElem?_map, h]; rfl)
end G

/-! tuples of texts, dict displays, comprehensions with any word -/
namespace G
open PySem PySem.Spec PyProof.Rows L2
/-- t.index(x), t of texts, x there -/
def rTIdxS (K : PySem.W.Frag) : V → List V → Hp → VK → Prop := fun x xs H Q => ∃ (a : Addr) (ys : List Str) (k : Str), x = .ref a ∧ xs = [.str k] ∧ SqT K H a (ys.map V.str) ∧ k ∈ ys ∧ Q (.int (ys.idxOf k : Nat)) H
theorem mt_tindexS {X : Cx} : MtR X "tuple.index" (rTIdxS X.K) := by
  intro pins s σ H x xs v us Q I rx rxs h
  obtain ⟨a, ys, k, rfl, rfl, hs, hk, q⟩ := h
  cases rx
  cases rxs with
  | cons ry rt =>
    cases rt
    obtain ⟨t, rfl⟩ := ry
    obtain ⟨its, rv, e, z⟩ := I.tuple hs
    exact SeqAt.tuple_index_strs e (strsAre_of rv) hk ⟨.int (ys.idxOf k : Nat), H, I.tok _, ⟨_, rfl⟩, q⟩
def tyTB (x : Str) : Ex := fun K => match K.lookup (He.ga K x) with
  | some o => (match o.cls with | .type n => decide (n = "tuple") | _ => false) && o.dict.isNone
  | none => false
theorem tyTB_ok {K : PySem.W.Frag} {x : Str} (h : tyTB x K = true) (H : Hp) : tyV K "tuple" (.ref (He.ga K x)) H := by
  unfold tyTB at h
  cases q : K.lookup (He.ga K x) with
  | none => rw [q] at h; cases h
  | some o =>
    rw [q] at h
    obtain ⟨oc, od, dt, sl⟩ := o
    obtain ⟨h1, h2⟩ := He.ba h
    refine .inr (.inl ⟨rfl, _, q, ?_, ?_⟩)
    · cases oc with
      | type n => exact congrArg Value.type (of_decide_eq_true h1)
      | _ => cases h1
    · cases od with
      | none => rfl
      | some d => cases h2
section
variable {K : PySem.W.Frag} {σ : L2.St} {H : Hp} {Q : VK} {x y v : V} {a : Addr} {k : Str} {ys : List Str} {kvs : List (Key × V)}
theorem ty_tupX {x : Str} {P : Prop} (h : tyTB x K = true) (q : P) : tyV K "tuple" (.ref (He.ga K x)) H ∧ P := ⟨tyTB_ok h H, q⟩
theorem w_tidxS (h : SqT K H a (ys.map V.str)) (hk : k ∈ ys) (q : Q (.int (ys.idxOf k : Nat)) H) : rTIdxS K (.ref a) [.str k] H Q := ⟨a, ys, k, rfl, rfl, h, hk, q⟩
/-! dicts -/
abbrev gDGet := tDGet
theorem w_dget {td ty : TE} (h : td σ H fun x H1 => ty σ H1 fun y H2 => ∃ a v, x = .ref a ∧ DGet H2 a y (some v) ∧ Q v H2) : tDGet td ty σ H Q := h
instance (priority := 900) i_w_dget {td ty : TE} : Stp (tDGet td ty σ H Q) (td σ H fun x H1 => ty σ H1 fun y H2 => ∃ a v, x = .ref a ∧ DGet H2 a y (some v) ∧ Q v H2) := ⟨w_dget⟩
theorem w_dgetS (h : H a = some (.dK kvs)) (e : valV kvs (.inr k : Key) = some v) (q : Q v H) : ∃ a' v', V.ref a = .ref a' ∧ DGet H a' (.str k) (some v') ∧ Q v' H := ⟨a, v, rfl, e ▸ DGet.k (k := .inr k) h, q⟩
theorem w_dgetI {i : Int} (h : H a = some (.dK kvs)) (e : valV kvs (.inl i : Key) = some v) (q : Q v H) : ∃ a' v', V.ref a = .ref a' ∧ DGet H a' (.int i) (some v') ∧ Q v' H := ⟨a, v, rfl, e ▸ DGet.k (k := .inl i) h, q⟩
theorem w_disp {trs : List (TE × TE)} (h : ∀ p, H p = none → tPairs trs σ (upd H p (.dK [])) fun ps H2 => H2 p = some (.dK []) ∧ ∃ kvs : List (Key × V), ps = kvs.map (fun kv => (kV kv.1, kv.2)) ∧ kvs.length ≤ 15 ∧ Q (.ref p) (upd H2 p (.dK (mergeK [] kvs)))) : tDisp trs σ H Q := h
instance (priority := 900) i_w_disp {trs : List (TE × TE)} : Stp (tDisp trs σ H Q) (∀ p, H p = none → tPairs trs σ (upd H p (.dK [])) fun ps H2 => H2 p = some (.dK []) ∧ ∃ kvs : List (Key × V), ps = kvs.map (fun kv => (kV kv.1, kv.2)) ∧ kvs.length ≤ 15 ∧ Q (.ref p) (upd H2 p (.dK (mergeK [] kvs)))) := ⟨w_disp⟩
theorem w_prs {tk tv : TE} {r : List (TE × TE)} {Q : List (V × V) → Hp → Prop} (h : tk σ H fun x H1 => tv σ H1 fun y H2 => tPairs r σ H2 fun ps H3 => Q ((x, y) :: ps) H3) : tPairs ((tk, tv) :: r) σ H Q := h
instance (priority := 900) i_w_prs {tk tv : TE} {r : List (TE × TE)} {Q : List (V × V) → Hp → Prop} : Stp (tPairs ((tk, tv) :: r) σ H Q) (tk σ H fun x H1 => tv σ H1 fun y H2 => tPairs r σ H2 fun ps H3 => Q ((x, y) :: ps) H3) := ⟨w_prs⟩
theorem w_prn {Q : List (V × V) → Hp → Prop} (h : Q [] H) : tPairs [] σ H Q := h
instance (priority := 900) i_w_prn {Q : List (V × V) → Hp → Prop} : Stp (tPairs [] σ H Q) (Q [] H) := ⟨w_prn⟩
/-! in -/
theorem w_inT {xs : List V} (h : SqT K H a xs) (fx : flatV x = true) (fs : xs.all flatV = true) (q : Q (.bl (inV x xs)) H) : rIn K false x (.ref a) H Q := ⟨a, xs, rfl, .inr h, fx, fs, q⟩
theorem w_inL {xs : List V} (h : SqL K H a xs) (fx : flatV x = true) (fs : xs.all flatV = true) (q : Q (.bl (inV x xs)) H) : rIn K false x (.ref a) H Q := ⟨a, xs, rfl, .inl h, fx, fs, q⟩
theorem w_ninT {xs : List V} (h : SqT K H a xs) (fx : flatV x = true) (fs : xs.all flatV = true) (q : Q (.bl (!inV x xs)) H) : rIn K true x (.ref a) H Q := ⟨a, xs, rfl, .inr h, fx, fs, q⟩
theorem w_ninL {xs : List V} (h : SqL K H a xs) (fx : flatV x = true) (fs : xs.all flatV = true) (q : Q (.bl (!inV x xs)) H) : rIn K true x (.ref a) H Q := ⟨a, xs, rfl, .inl h, fx, fs, q⟩
/-! tuple(list), list of a tuple -/
theorem w_tupL {xs : List V} (h : SqL K H a xs) (q : ∀ l, H l = none → Q (.ref l) (upd H l (.tup xs))) : gTupOf K [.ref a] H Q := ⟨a, xs, rfl, .inl ⟨h, q⟩⟩
end
/-! ### comprehensions, any word -/
section
variable {K : PySem.W.Frag} {σ : L2.St} {H : Hp} {Q : VK} {g : TG} {tt : TT} {te : TE} {vs : List Nat} {tA : TA} {tl : TE} {v : Nat} {j lo hi : Int}
theorem w_yes {Q : Bool → Hp → Prop} (h : Q true H) : tYes σ H Q := h
instance (priority := 900) i_w_yes {Q : Bool → Hp → Prop} : Stp (tYes σ H Q) (Q true H) := ⟨w_yes⟩
theorem lc_addG {D : Addr} {Pv : Addr → Nat → Hp → Prop} {i : Nat} {y : V} {H4 : Hp} {A : List V} (h : H4 D = some (.lst A)) (hl : A.length < sizeLine) (q : Pv D (i + 1) (upd H4 D (.lst (A ++ [y])))) : LcAdd D (Pv D) i y H4 := ⟨A, h, hl, q⟩
theorem lcG {J : It} {n : Nat} {G : Hp → Prop} {Y : Nat → Hp → V → Hp → Prop} (w : Walk J n G Y) (Pv : Addr → Nat → Hp → Prop) (h0 : ∀ D, H D = none → Pv D 0 (upd H D (.lst []))) (hG : ∀ D i H', Pv D i H' → G H')
    (hs : ∀ i x D H1 H2, i < n → H D = none → Pv D i H1 → Y i H1 x H2 → g x (wipe σ vs) H2 fun σ2 H2 => wipe σ2 vs = wipe σ vs ∧ tt σ2 H2 fun b H3 =>
      if b = true then te σ2 H3 fun y H4 => LcAdd D (Pv D) i y H4 else Pv D (i + 1) H3)
    (hd : ∀ D H1, H D = none → Pv D n H1 → Q (.ref D) H1) : rLc J g tt te vs σ H Q := fun D hD =>
  lc_it w (Pv D) (h0 D hD) (fun i H' _ h => hG D i H' h) (fun i x H1 H2 hi h y => hs i x D H1 H2 hi hD h y) fun H1 h => hd D H1 hD h
theorem lcR1G {n : Nat} (Pv : Addr → Nat → Hp → Prop) (hj : j = (n : Int)) (hn : n < 16000000) (h0 : ∀ D, H D = none → Pv D 0 (upd H D (.lst [])))
    (hs : ∀ (i : Nat) D H1, i < n → H D = none → Pv D i H1 → te ((σ.set v none).set v (some (.int (i : Int)))) H1 fun y H4 => LcAdd D (Pv D) i y H4)
    (hd : ∀ D H1, H D = none → Pv D n H1 → Q (.ref D) H1) : rLcR1 (gName v) tYes te [v] σ Q [.int j] H := by
  subst hj
  refine ⟨(n : Int), rfl, by omega, by omega, lcG walk_range Pv h0 (fun _ _ _ _ => trivial) ?_ (by rw [Int.toNat_natCast]; exact hd)⟩
  rintro i x D H1 H2 hi hD hP ⟨rfl, rfl⟩
  refine ⟨wipe1, ?_⟩
  show te ((σ.set v none).set v (some (.int (0 + (i : Int))))) H2 _
  rw [Int.zero_add]
  exact hs i D H2 (by omega) hD hP
/-- drawn numbers: [digit(state, m) for k in range(n)] -/
theorem lcDraw {s : Addr} {n0 m : Int} {n : Nat} (hj : j = (n : Int)) (hn : n < 16000000) (hs : H s = some (.lst [.int n0])) (h0 : 0 < m)
    (hb : ∀ (i : Nat) D H1 n1, i < n → H D = none → ExtP s H H1 → H1 s = some (.lst [.int n1]) → s ≠ D → te ((σ.set v none).set v (some (.int (i : Int)))) H1 fun y H4 => ∃ d n2, y = .int d ∧ 0 ≤ d ∧ d < m ∧ H4 = upd H1 s (.lst [.int n2]))
    (mono : ∀ (σ : L2.St) H (Q Q' : VK), (∀ y H1, Q y H1 → Q' y H1) → te σ H Q → te σ H Q')
    (hd : ∀ D H1 (ds : List Int) n1, H D = none → ExtP s H H1 → H1 s = some (.lst [.int n1]) → ds.length = n → (∀ d ∈ ds, 0 ≤ d ∧ d < m) → H1 D = some (.lst (ds.map V.int)) → Q (.ref D) H1) : rLcR1 (gName v) tYes te [v] σ Q [.int j] H := by
  refine lcR1G (fun D i H' => ExtP s H H' ∧ (∃ n1, H' s = some (.lst [.int n1])) ∧ ∃ ds : List Int, ds.length = i ∧ (∀ d ∈ ds, 0 ≤ d ∧ d < m) ∧ H' D = some (.lst (ds.map V.int))) hj hn (fun D hD => ⟨extp_up hD ExtP.rfl', ⟨n0, up_n hs hD⟩, [], rfl, (fun d hd => by cases hd), upd_same⟩) ?_ ?_
  · rintro i D H1 hi hD ⟨e, ⟨n1, hs1⟩, ds, hl, hds, hA⟩
    have nsD : s ≠ D := ne_of_none hs hD
    refine mono _ _ _ _ ?_ (hb i D H1 n1 hi hD e hs1 nsD)
    rintro y H4 ⟨d, n2, rfl, d0, d1, rfl⟩
    refine lc_addG (Pv := fun D i H' => ExtP s H H' ∧ (∃ n1, H' s = some (.lst [.int n1])) ∧ ∃ ds : List Int, ds.length = i ∧ (∀ d ∈ ds, 0 ≤ d ∧ d < m) ∧ H' D = some (.lst (ds.map V.int))) (A := ds.map V.int) (up_k hA nsD.symm) (by rw [List.length_map]; exact small16l (by omega)) ⟨extp_putn hD (extp_put e), ⟨n2, up_k upd_same nsD⟩, ds ++ [d], by rw [List.length_append, hl]; rfl, ?_, by rw [upd_same, List.map_append]; rfl⟩
    intro z hz
    rcases List.mem_append.mp hz with hz | hz
    · exact hds z hz
    · rw [List.mem_singleton.mp hz]
      exact ⟨d0, d1⟩
  · rintro D H1 hD ⟨e, ⟨n1, hs1⟩, ds, hl, hds, hA⟩
    exact hd D H1 ds n1 hD e hs1 hl hds hA
end
end G

/-! classes made with keywords -/
namespace G
open PySem PySem.Spec PyProof.Rows L2
section
variable (P : Program) (w : World) (K : PySem.W.Frag) (mg : Str → Option Value) (base : Heap)
/-- a class made with n positional values and the keywords ks; gV: in the parameters' order -/
structure HasK (k : Nat) (c : Str) (n : Nat) (ks ps : List Str) (gV : List V → List V → List V) (sp : Sp) : Prop where
  gl : mg c = some (.ref (He.ga K c))
  mkr : Mk K (He.ga K c) (He.ma K (He.ga K c) "__init__")
  ex : ∃ (fd : FuncData) (g : List Value → List Value → List Value), FnOk P w K mg base (L2.CX P w) k (He.ma K (He.ga K c) "__init__") fd ps sp ∧ KBn K fd ps (n + 1) ks g gV
end
theorem HasK.mono {P : Program} {w : World} {K : PySem.W.Frag} {mg : Str → Option Value} {base : Heap} {j k n : Nat} {c : Str} {ks ps : List Str} {gV : List V → List V → List V} {sp : Sp} (h : HasK P w K mg base j c n ks ps gV sp) (l : j ≤ k) : HasK P w K mg base k c n ks ps gV sp :=
  ⟨h.gl, h.mkr, let ⟨fd, g, F, b⟩ := h.ex; ⟨fd, g, F.mono l, b⟩⟩
/-- C(.., k = v, ..) -/
def tMkK (C : Addr) (n m : Nat) (sp : Sp) (gV : List V → List V → List V) (E : L2.St → XK) (t tk : TA) : TE := fun σ H Q => t σ H fun vs H1 => tk σ H1 fun zs H2 => vs.length = n ∧ zs.length = m ∧ ∀ x dx, H2 x = none → H2 dx = none → dx ≠ x →
  sp (gV (.ref x :: vs) zs) (upd (upd H2 dx (.own x)) x (.ins C dx [])) (fun v H3 => v = .non ∧ Q (.ref x) H3) (E σ)
section
variable {X : Cx} {k n : Nat} {f C : Addr} {fd : FuncData} {ps ks : List Str} {sp : Sp} {E : L2.St → XK} {x c : Str} {p pos : Pos} {e : Expr} {es : List Expr} {kws : List Keyword} {t tk : TA} {g : List Value → List Value → List Value} {gV : List V → List V → List V}
theorem run_mkK {pins : List (Addr × Obj)} {σ : L2.St} {H : Hp} {s : Shared} {Q : VK} {us ws : List Value} {vs zs : List V} (M : Mk X.K C f) (F : FnOk X.prog X.w X.K X.mg X.base (XC X) k f fd ps sp) (hr : Room (k + 1) X.A) (hb : KBn X.K fd ps (n + 1) ks g gV) (hx : PassesAt (XC X) X σ (E σ))
    (I : Inv X pins σ H s) (r : Vals vs us) (rz : Vals zs ws) (l1 : vs.length = n) (l2 : zs.length = ks.length)
    (h : ∀ x dx, H x = none → H dx = none → dx ≠ x → sp (gV (.ref x :: vs) zs) (upd (upd H dx (.own x)) x (.ins C dx [])) (fun v H2 => v = .non ∧ Q (.ref x) H2) (E σ)) :
    wpAny (model X.prog X.w) X.A (call (.ref C) us (ks.zip ws)) (EP X pins σ Q) X.xe s := by
  have hq := h (s.heap.objs.size + 1) s.heap.objs.size (I.hok.fresh (Nat.le_succ _)) (I.hok.fresh (Nat.le_refl _)) (Nat.ne_of_lt (Nat.lt_succ_self _))
  have I2 := Inv.made (C := C) I
  have r1 : Vals (V.ref (s.heap.objs.size + 1) :: vs) (Value.ref (s.heap.objs.size + 1) :: us) := .cons rfl r
  have r2 := hb.rel r1 rz
  have n1 : (Value.ref (s.heap.objs.size + 1) :: us).length = n + 1 := by
    rw [List.length_cons, ← r.length, l1]
  refine wpAny_call (make_map (f := f) I.kIn M.makes M.init (beq_iff_eq.mp M.fn) (codeAny_mono (F.run _ X.stack _ _ ⟨Value.ref (s.heap.objs.size + 1) :: us, ks.zip ws⟩ (g (Value.ref (s.heap.objs.size + 1) :: us) ws) _ _ (E σ) (hr.make C us (ks.zip ws))
    (I2.env0.make C us (ks.zip ws)) (hb.to _ (Value.ref (s.heap.objs.size + 1) :: us) ws I2.kIn n1 (rz.length.symm.trans l2)) r2 hq) fun r s' hq' => ?_))
  cases r with
  | error e => exact hx pins _ _ e s' I2 hq'
  | ok fl =>
    cases fl with
    | ret u =>
      obtain ⟨v, H', I3, rv, ev, q3⟩ := I2.after hq'
      subst ev
      exact ⟨rv, ⟨V.ref (s.heap.objs.size + 1), H', I3, rfl, q3⟩⟩
    | next => exact False.elim hq'
    | brk => exact False.elim hq'
    | cont => exact False.elim hq'
theorem pe_mkK0 (h : HasK X.prog X.w X.K X.mg X.base k c 0 ks ps gV sp) (hr : Room (k + 1) X.A) (hg : Gl X c) (hx : ∀ σ, PassesAt (XC X) X σ (E σ)) (hkw : PK X kws tk)
    (hall : (backToKw pos (keywordEach kws X.env)).all (·.1.isSome) = true := by rfl) (hks : (backToKw pos (keywordEach kws X.env)).filterMap (·.1) = ks := by rfl) (hdb : (c == ("__debug__" : Str)) = false := by decide)
    (hpl : ((backTo pos (starEach [] X.env)).any (·.1) || (backToKw pos (keywordEach kws X.env)).any (·.1.isNone)) = false := by rfl) :
    PE X (.Call (.Name c p) [] kws pos) (tMkK (He.ga X.K c) 0 ks.length sp gV E tNil tk) := by
  obtain ⟨fd, g, F, hb⟩ := h.ex
  refine ⟨fun pins s σ H Q I hh => ?_⟩
  refine wpAny_Call_Name_kw (ld_glob I hg h.gl ?_ hdb)
  refine PySem.W.callWith_KW0 (h₀ := X.base) I.ok.mod.kin h.mkr.kp hall ?_ hpl
  refine thn (hkw.run pos pins s σ H _ I hh) fun ws s2 ⟨zs, H2, I2, rz, l1, l2, q2⟩ => ⟨I2.kIn, ?_⟩
  rw [hks]
  exact run_mkK (us := []) (vs := []) h.mkr F hr hb (hx σ) I2 .nil rz rfl l2 q2
theorem pe_mkK (h : HasK X.prog X.w X.K X.mg X.base k c n ks ps gV sp) (hr : Room (k + 1) X.A) (hg : Gl X c) (hx : ∀ σ, PassesAt (XC X) X σ (E σ)) (ha : PA X (e :: es) t) (hkw : PK X kws tk)
    (hall : (backToKw pos (keywordEach kws X.env)).all (·.1.isSome) = true := by rfl) (hks : (backToKw pos (keywordEach kws X.env)).filterMap (·.1) = ks := by rfl) (hdb : (c == ("__debug__" : Str)) = false := by decide)
    (he : starEach (e :: es) X.env = (false, eval e X.env) :: starEach es X.env := by rfl) (hpl : ((backTo pos (starEach (e :: es) X.env)).any (·.1) || (backToKw pos (keywordEach kws X.env)).any (·.1.isNone)) = false := by rfl) :
    PE X (.Call (.Name c p) (e :: es) kws pos) (tMkK (He.ga X.K c) n ks.length sp gV E t tk) := by
  obtain ⟨fd, g, F, hb⟩ := h.ex
  refine ⟨fun pins s σ H Q I hh => ?_⟩
  refine wpAny_Call_Name_kw (ld_glob I hg h.gl ?_ hdb)
  refine PySem.W.callWith_KW (h₀ := X.base) I.ok.mod.kin h.mkr.kp hall (thn (ha.run pos pins s σ H _ I hh) fun us s1 ⟨vs, H1, I1, r, q⟩ => ?_) hpl he
  refine thn (hkw.run pos pins s1 σ H1 _ I1 q) fun ws s2 ⟨zs, H2, I2, rz, l1, l2, q2⟩ => ⟨I2.kIn, ?_⟩
  rw [hks]
  exact run_mkK h.mkr F hr hb (hx σ) I2 r rz l1 l2 q2
end
/-- every keyword-only parameter is written -/
theorem kbn_all {K : PySem.W.Frag} {x qual : Str} {params : Arguments} {body : List Stmt} {scope : Scope} {kws : List (Str × V)} {f : Addr} {fd : FuncData} {ps : List Str} (F : FunD K x qual params body scope [] kws f fd) (n : Nat) (ks : List Str)
    (g : {α : Type} → List α → List α → List α) (hrel : ∀ {vs zs : List V} {us ws : List Value}, Vals vs us → Vals zs ws → Vals (g vs zs) (g us ws))
    (h : ∀ (kV doc pm : Value) (an : Option Addr) (cdv ct : Value) (us ws : List Value), us.length = n → ws.length = ks.length → bindArgs (PySem.W.fnOf x qual params body scope .none kV doc pm an cdv ct) ⟨us, ks.zip ws⟩ = pure (ps.zip (g us ws))) :
    KBn K fd ps n ks (fun us ws => g us ws) (fun vs zs => g vs zs) := by
  obtain ⟨oc, od, dV, kV, doc, pm, an, cdv, ct, osl, rfl, lk, hcd, hD, hK⟩ := F.ex
  rcases hD with ⟨_, rfl⟩ | ⟨e, _⟩
  · exact ⟨fun s us ws X l1 l2 => .of_eq (h kV doc pm an cdv ct us ws l1 l2), fun r1 r2 => hrel r1 r2⟩
  · exact absurd rfl e
/-- what a def with keyword-only parameters promises, before it is called -/
theorem mk_fn {P : Program} {w : World} {K : PySem.W.Frag} {mg : Str → Option Value} {base : Heap} {k : Nat} {x qual : Str} {params : Arguments} {body : List Stmt} {scope : Scope} {N ps : List Str} {sp : Sp} {dvs : List V} {kws : List (Str × V)} {f : Addr}
    (F : ∃ fd, FunD K x qual params body scope dvs kws f fd) (S : FnScope N ps scope) (len : ∀ vs H Q E, sp vs H Q E → vs.length = ps.length) (hbody : Body P w K mg base k N qual scope f body sp) :
    ∃ fd, FunD K x qual params body scope dvs kws f fd ∧ FnOk P w K mg base (L2.CX P w) (k + 1) f fd ps sp := by
  obtain ⟨fd, F⟩ := F
  exact ⟨fd, F, FunD.ok (CX := L2.CX P w) F S len hbody⟩
section
variable {K : PySem.W.Frag} {σ : L2.St} {H : Hp} {Q : VK}
theorem w_mkK {C : Addr} {n m : Nat} {sp : Sp} {gV : List V → List V → List V} {E : L2.St → XK} {t tk : TA} (h : t σ H fun vs H1 => tk σ H1 fun zs H2 => vs.length = n ∧ zs.length = m ∧ ∀ x dx, H2 x = none → H2 dx = none → dx ≠ x →
  sp (gV (.ref x :: vs) zs) (upd (upd H2 dx (.own x)) x (.ins C dx [])) (fun v H3 => v = .non ∧ Q (.ref x) H3) (E σ)) : tMkK C n m sp gV E t tk σ H Q := h
theorem w_ll {a b c d : Nat} {P : Prop} (h1 : a = b) (h2 : c = d) (p : P) : a = b ∧ c = d ∧ P := ⟨h1, h2, p⟩
end
end G

/-! data at values, through a heap that grows -/
namespace G
open PySem PySem.Spec PyProof.Rows L2
section
variable {K : PySem.W.Frag} {H H' : Hp}
mutual
theorem dp_ext (e : Ext H H') : ∀ {v : V} {d : PyData}, Dp K H v d → Dp K H' v d
  | _, _, .non => .non
  | _, _, .bl b => .bl b
  | _, _, .int i => .int i
  | _, _, .str x => .str x
  | _, _, .lst h a => .lst (h.ext e) (dpAll_ext e a)
  | _, _, .tup h a => .tup (h.ext e) (dpAll_ext e a)
theorem dpAll_ext (e : Ext H H') : ∀ {vs : List V} {ds : List PyData}, DpAll K H vs ds → DpAll K H' vs ds
  | _, _, .nil => .nil
  | _, _, .cons h a => .cons (dp_ext e h) (dpAll_ext e a)
end
theorem dpAll_snoc {v : V} {d : PyData} : ∀ {vs : List V} {ds : List PyData}, DpAll K H vs ds → Dp K H v d → DpAll K H (vs ++ [v]) (ds ++ [d])
  | _, _, .nil, h => .cons h .nil
  | _, _, .cons h1 a, h => .cons h1 (dpAll_snoc a h)
end
theorem lay_map {α : Type} {f : α → PyData} : ∀ {xs : List α}, (∀ x ∈ xs, (f x).canLay0 = true) → PyData.canLayAll0 (xs.map f) = true
  | [], _ => rfl
  | x :: xs, h => by
    show (PyData.canLay0 (f x) && PyData.canLayAll0 (xs.map f)) = true
    rw [h x List.mem_cons_self, lay_map fun y hy => h y (List.mem_cons_of_mem _ hy)]
    rfl
theorem depth_map {α : Type} {f : α → PyData} {n : Nat} : ∀ {xs : List α}, (∀ x ∈ xs, (f x).depth ≤ n) → PyData.depthAll (xs.map f) ≤ n
  | [], _ => by simp [PyData.depthAll]
  | x :: xs, h => by
    have h1 := h x List.mem_cons_self
    have h2 := depth_map (xs := xs) fun y hy => h y (List.mem_cons_of_mem _ hy)
    simp only [List.map_cons, PyData.depthAll]
    omega
theorem shaped_of {d : PyData} (h1 : d.canLay0 = true) (h2 : d.depth ≤ 64) : SeqAt.shaped d = true := by
  unfold SeqAt.shaped
  rw [h1, decide_eq_true h2]
  rfl
theorem shaped_lm {α : Type} {f : α → PyData} {xs : List α} (h1 : ∀ x ∈ xs, (f x).canLay0 = true) (h2 : ∀ x ∈ xs, (f x).depth ≤ 63) : SeqAt.shaped (.list (xs.map f)) = true := by
  refine shaped_of ?_ ?_
  · show PyData.canLayAll0 (xs.map f) = true
    exact lay_map h1
  · have := depth_map h2
    simp only [PyData.depth]
    omega
/-- two data that are the same -/
theorem w_eqS' {K : PySem.W.Frag} {H : Hp} {Q : VK} {x y : V} {d : PyData} (h1 : Dp K H x d) (h2 : Dp K H y d) (s : SeqAt.shaped d = true) (q : Q (.bl true) H) : rEqD K x y H Q := w_eqD h1 h2 s s (by rw [eqv_self s]; exact q)
theorem w_neS' {K : PySem.W.Frag} {H : Hp} {Q : VK} {x y : V} {d : PyData} (h1 : Dp K H x d) (h2 : Dp K H y d) (s : SeqAt.shaped d = true) (q : Q (.bl false) H) : rNeD K x y H Q := w_neD h1 h2 s s (by rw [eqv_self s]; exact q)
/-! range with a step -/
theorem w_forR3 {g : TG} {tb : TS} {D : Ends} {σ : L2.St} {H : Hp} {tA : TA} (h : tA σ H fun vs H1 => ∃ (i j c : Int) (n : Nat), vs = [.int i, .int j, .int c] ∧ RgC i j c n ∧ ∃ W : Nat → Nat → L2.St → Hp → Prop, (∃ m, W 0 m σ H1) ∧ ∀ k m σ H, W k m σ H →
  ((Itc i c n).stop k H ∧ D.nx σ H) ∨ ((Itc i c n).go k H ∧ ∃ N : L2.St → Hp → Prop, (∀ σ' H', N σ' H' → ∃ m', m' < m ∧ W (k + 1) m' σ' H') ∧ ∀ x H', (Itc i c n).yld k H x H' → g x σ H' fun σ2 H2 => tb { D with nx := N, ct := N, bk := D.nx } σ2 H2)) : tFor (iRng3 tA) g tb D σ H := h
theorem rgC_pos {n c : Int} (h0 : 0 ≤ n) (h1 : n < 10000000) (c0 : 1 ≤ c) (c1 : c < 1073741824) : RgC 0 n c ((n + c - 1) / c).toNat := by
  have e := rangeSize_pos (len := n) c0 h0
  have q0 : 0 ≤ (n + c - 1) / c := Int.ediv_nonneg (by omega) (by omega)
  have q1 : (n + c - 1) / c ≤ n + c - 1 := Int.ediv_le_self _ (by omega)
  refine ⟨by omega, by omega, ?_, ?_⟩
  · unfold Builtin.Range.small
    rw [e]
    simp only [Builtin.Range.rangeFitsLong, Bool.and_eq_true, Bool.or_eq_true, decide_eq_true_eq, beq_iff_eq]
    rw [if_pos (by omega)]
    simp only [Bool.and_eq_true, decide_eq_true_eq]
    generalize (n + c - 1) / c = z at *
    omega
  · rw [e]
    omega
def rLoop3 (g : TG) (tb : TS) (D : Ends) (σ : L2.St) (vs : List V) (H1 : Hp) : Prop := ∃ (i j c : Int) (n : Nat), vs = [.int i, .int j, .int c] ∧ RgC i j c n ∧ ∃ W : Nat → Nat → L2.St → Hp → Prop, (∃ m, W 0 m σ H1) ∧ ∀ k m σ H, W k m σ H →
  ((Itc i c n).stop k H ∧ D.nx σ H) ∨ ((Itc i c n).go k H ∧ ∃ N : L2.St → Hp → Prop, (∀ σ' H', N σ' H' → ∃ m', m' < m ∧ W (k + 1) m' σ' H') ∧ ∀ x H', (Itc i c n).yld k H x H' → g x σ H' fun σ2 H2 => tb { D with nx := N, ct := N, bk := D.nx } σ2 H2)
theorem w_for3 {g : TG} {tb : TS} {D : Ends} {σ : L2.St} {H : Hp} {tA : TA} (h : tA σ H fun vs H1 => rLoop3 g tb D σ vs H1) : tFor (iRng3 tA) g tb D σ H := h
instance (priority := 900) i_w_for3 {g : TG} {tb : TS} {D : Ends} {σ : L2.St} {H : Hp} {tA : TA} : Stp (tFor (iRng3 tA) g tb D σ H) (tA σ H fun vs H1 => rLoop3 g tb D σ vs H1) := ⟨w_for3⟩
/-- for x in range(0, n, c) -/
theorem loop3 {g : TG} {tb : TS} {D : Ends} {σ : L2.St} {H : Hp} {n c : Int} (Pv : Nat → L2.St → Hp → Prop) (h0 : 0 ≤ n) (h1 : n < 10000000) (c0 : 1 ≤ c) (c1 : c < 1073741824) (hb : Pv 0 σ H)
    (hs : ∀ (i : Nat) σ H, (i : Int) * c < n → Pv i σ H → g (.int ((i : Int) * c)) σ H fun σ2 H2 => tb { D with nx := Pv (i + 1), ct := Pv (i + 1), bk := D.nx } σ2 H2) (hd : ∀ (N : Nat) σ H, n ≤ (N : Int) * c → (N : Int) * c < n + c → Pv N σ H → D.nx σ H) : rLoop3 g tb D σ [.int 0, .int n, .int c] H := by
  have q0 : 0 ≤ (n + c - 1) / c := Int.ediv_nonneg (by omega) (by omega)
  have e1 := Int.emod_add_mul_ediv (n + c - 1) c
  have e2 := Int.emod_nonneg (n + c - 1) (b := c) (by omega)
  have e3 := Int.emod_lt_of_pos (n + c - 1) (b := c) (by omega)
  have em : c * ((n + c - 1) / c) = ((n + c - 1) / c) * c := Int.mul_comm _ _
  have ez : ((((n + c - 1) / c).toNat : Nat) : Int) = (n + c - 1) / c := by omega
  refine ⟨0, n, c, _, rfl, rgC_pos h0 h1 c0 c1, for_rangeC (lo := 0) (c := c) (n := ((n + c - 1) / c).toNat) Pv hb (fun i σ H hi p => ?_) (fun σ H p => hd _ σ H ?_ ?_ p)⟩
  · have e : (0 : Int) + (i : Nat) * c = (i : Int) * c := Int.zero_add _
    rw [e]
    refine hs i σ H ?_ p
    have hi2 : (i : Int) + 1 ≤ (n + c - 1) / c := by omega
    have hm := Int.mul_le_mul_of_nonneg_right hi2 (show 0 ≤ c by omega)
    rw [Int.add_mul, Int.one_mul] at hm
    omega
  · rw [ez]; omega
  · rw [ez]; omega
theorem upd_thru {H : Hp} {p m : Addr} {x y z : HO} (n : m ≠ p) : upd (upd (upd H p x) m y) p z = upd (upd H m y) p z := by
  funext a
  by_cases h : a = p
  · subst h
    rw [upd_same, upd_same]
  · rw [upd_ne h, upd_ne h]
    by_cases h2 : a = m
    · subst h2
      rw [upd_same, upd_same]
    · rw [upd_ne h2, upd_ne h2, upd_ne h]
end G

/-! what a run owns: a list of claims on disjoint parts of the heap; a marked cell is only read, and may be claimed often -/
namespace G
open PySem PySem.Spec PyProof.Rows L2
abbrev LH : Type := Addr → Option (HO × Bool)
abbrev HP : Type := LH → Prop
def LHle (h : LH) (H : Hp) : Prop := ∀ a o b, h a = some (o, b) → H a = some o
def Dis (h k : LH) : Prop := ∀ a x y, h a = some x → k a = some y → x.2 = true
def LSub (h k : LH) : Prop := ∀ a x, h a = some x → k a = some x
def LHor (h k : LH) : LH := fun a => match h a with
  | some x => some x
  | none => k a
def LHupd (h : LH) (a : Addr) (x : HO × Bool) : LH := fun b => if b = a then some x else h b
def LHnone : LH := fun _ => none
def AllRo (h : LH) : Prop := ∀ a x, h a = some x → x.2 = true
def stars : List HP → HP
  | [] => fun _ => True
  | P :: L => fun h => ∃ h1 h2, Dis h1 h2 ∧ LSub h1 h ∧ LSub h2 h ∧ P h1 ∧ stars L h2
def Own (L : List HP) (H : Hp) : Prop := ∃ h, LHle h H ∧ stars L h
def cell (b : Bool) (a : Addr) (o : HO) : HP := fun h => h a = some (o, b)
abbrev pt (a : Addr) (o : HO) : HP := cell false a o
abbrev ro (a : Addr) (o : HO) : HP := cell true a o
def hex {α : Sort _} (f : α → HP) : HP := fun h => ∃ x, f x h
def hpu (p : Prop) : HP := fun _ => p
section
variable {h k h1 h2 h3 g : LH} {a b : Addr} {x y : HO × Bool} {L M R : List HP} {P Q : HP} {H H' : Hp} {o u : HO}
theorem LSub.rfl' : LSub h h := fun _ _ e => e
theorem LSub.trans (s : LSub h k) (t : LSub k g) : LSub h g := fun a x e => t a x (s a x e)
theorem lor_l : LSub h (LHor h k) := fun a x e => by unfold LHor; rw [e]
theorem lor_sub (s : LSub h g) (t : LSub k g) : LSub (LHor h k) g := fun a x e => by
  unfold LHor at e
  cases q : h a with
  | some z => rw [q] at e; cases e; exact s a _ q
  | none => rw [q] at e; exact t a x e
theorem lor_r (s : LSub h g) (t : LSub k g) : LSub k (LHor h k) := fun a x e => by
  unfold LHor
  cases q : h a with
  | some z =>
    have e1 := s a z q
    rw [t a x e] at e1
    cases e1
    rfl
  | none => exact e
theorem lor_of (e : LHor h k a = some x) : h a = some x ∨ k a = some x := by
  unfold LHor at e
  split at e
  · rename_i z q
    cases e
    exact .inl q
  · exact .inr e
theorem Dis.symm (d : Dis h k) (s : LSub h g) (t : LSub k g) : Dis k h := fun a x y e f => by
  have e1 := t a x e
  rw [s a y f] at e1
  cases e1
  exact d a _ _ f e
theorem dis_or (d : Dis h k) (e : Dis h g) : Dis h (LHor k g) := fun a x y p q => (lor_of q).elim (d a x y p) (e a x y p)
theorem or_dis (d : Dis h g) (e : Dis k g) : Dis (LHor h k) g := fun a x y p q => (lor_of p).elim (fun p => d a x y p q) fun p => e a x y p q
theorem Dis.sub_l (d : Dis h k) (s : LSub g h) : Dis g k := fun a x y p q => d a x y (s a x p) q
theorem Dis.sub_r (d : Dis h k) (s : LSub g k) : Dis h g := fun a x y p q => d a x y p (s a y q)
theorem dis_none : Dis LHnone h := fun a x y e _ => nomatch e
theorem dis_none_r : Dis h LHnone := fun a x y _ e => nomatch e
theorem sub_none : LSub LHnone h := fun a x e => nomatch e
theorem stars_mono : ∀ {L : List HP} {h k : LH}, stars L h → LSub h k → stars L k
  | [], _, _, _, _ => trivial
  | _ :: _, _, _, ⟨h1, h2, d, s1, s2, p, q⟩, s => ⟨h1, h2, d, s1.trans s, s2.trans s, p, q⟩
theorem stars_swap (s : stars (P :: Q :: L) h) : stars (Q :: P :: L) h := by
  obtain ⟨h1, h2, d, s1, s2, p, h3, h4, d2, s3, s4, q, t⟩ := s
  refine ⟨h3, LHor h1 h4, dis_or ((d.sub_r s3).symm s1 (s3.trans s2)) d2, s3.trans s2, lor_sub s1 (s4.trans s2), q, h1, h4, d.sub_r s4, lor_l, lor_r s1 (s4.trans s2), p, t⟩
theorem stars_cons (t : ∀ h, stars L h → stars M h) (s : stars (P :: L) h) : stars (P :: M) h := by
  obtain ⟨h1, h2, d, s1, s2, p, q⟩ := s
  exact ⟨h1, h2, d, s1, s2, p, t _ q⟩
theorem stars_head (t : ∀ h, P h → Q h) (s : stars (P :: L) h) : stars (Q :: L) h := by
  obtain ⟨h1, h2, d, s1, s2, p, q⟩ := s
  exact ⟨h1, h2, d, s1, s2, t _ p, q⟩
theorem stars_perm (p : L.Perm M) : ∀ {h}, stars L h → stars M h := by
  induction p with
  | nil => exact fun s => s
  | cons x _ ih => exact fun s => stars_cons (fun h => ih) s
  | swap x y l => exact fun s => stars_swap s
  | trans _ _ i1 i2 => exact fun s => i2 (i1 s)
theorem stars_app : ∀ {L M : List HP} {h : LH}, stars (L ++ M) h ↔ ∃ h1 h2, Dis h1 h2 ∧ LSub h1 h ∧ LSub h2 h ∧ stars L h1 ∧ stars M h2
  | [], M, h => ⟨fun s => ⟨LHnone, h, dis_none, sub_none, LSub.rfl', trivial, s⟩, fun ⟨_, _, _, _, s, _, q⟩ => stars_mono q s⟩
  | P :: L, M, h => by
    constructor
    · rintro ⟨hp, h', d, s1, s2, p, q⟩
      obtain ⟨h1, h2, d2, s3, s4, q1, q2⟩ := stars_app.mp q
      exact ⟨LHor hp h1, h2, or_dis (d.sub_r s4) d2, lor_sub s1 (s3.trans s2), s4.trans s2, ⟨hp, h1, d.sub_r s3, lor_l, lor_r s1 (s3.trans s2), p, q1⟩, q2⟩
    · rintro ⟨h1, h2, d, s1, s2, ⟨hp, h3, d2, s3, s4, p, q1⟩, q2⟩
      exact ⟨hp, LHor h3 h2, dis_or d2 (d.sub_l s3), s3.trans s1, lor_sub (s4.trans s1) s2, p, stars_app.mpr ⟨h3, h2, d.sub_l s4, lor_l, lor_r (s4.trans s1) s2, q1, q2⟩⟩
theorem stars_flat : stars (stars L :: M) h ↔ stars (L ++ M) h := by
  rw [stars_app]
  rfl
/-! ### claims -/
theorem Own.nil : Own [] H := ⟨LHnone, (fun _ _ _ e => nomatch e), trivial⟩
theorem Own.map (t : ∀ h, stars L h → stars M h) (o : Own L H) : Own M H := let ⟨h, e, s⟩ := o; ⟨h, e, t h s⟩
theorem Own.perm (o : Own L H) (p : L.Perm M) : Own M H := o.map fun _ => stars_perm p
theorem Own.swap (o : Own (P :: Q :: L) H) : Own (Q :: P :: L) H := o.map fun _ => stars_swap
theorem Own.tail (o : Own (P :: L) H) : Own L H := o.map fun h s => by
  obtain ⟨_, _, _, _, s2, _, q⟩ := s
  exact stars_mono q s2
theorem Own.flat (o : Own (stars L :: M) H) : Own (L ++ M) H := o.map fun _ => stars_flat.mp
theorem Own.fold (o : Own (L ++ M) H) : Own (stars L :: M) H := o.map fun _ => stars_flat.mpr
theorem Own.head (t : ∀ h, P h → Q h) (o : Own (P :: L) H) : Own (Q :: L) H := o.map fun _ => stars_head t
theorem Own.rest (t : ∀ h, stars L h → stars M h) (o : Own (P :: L) H) : Own (P :: M) H := o.map fun _ => stars_cons t
theorem Own.ex {α : Sort _} {f : α → HP} (o : Own (hex f :: L) H) : ∃ x, Own (f x :: L) H := by
  obtain ⟨h, e, h1, h2, d, s1, s2, ⟨x, p⟩, q⟩ := o
  exact ⟨x, h, e, h1, h2, d, s1, s2, p, q⟩
theorem Own.exi {α : Sort _} {f : α → HP} (x : α) (o : Own (f x :: L) H) : Own (hex f :: L) H := o.head fun _ p => ⟨x, p⟩
theorem Own.pu {p : Prop} (o : Own (hpu p :: L) H) : p ∧ Own L H := by
  obtain ⟨h, e, h1, h2, d, s1, s2, z, q⟩ := o
  exact ⟨z, h, e, stars_mono q s2⟩
theorem Own.pui {p : Prop} (z : p) (o : Own L H) : Own (hpu p :: L) H := o.map fun h s => ⟨LHnone, h, dis_none, sub_none, LSub.rfl', z, s⟩
/-- a claim that needs no cell -/
theorem Own.free (z : P LHnone) (o : Own L H) : Own (P :: L) H := o.map fun h s => ⟨LHnone, h, dis_none, sub_none, LSub.rfl', z, s⟩
/-! ### what a claim tells -/
def Ent (L : List HP) (φ : Hp → Prop) : Prop := ∀ h, stars L h → ∀ H, LHle h H → φ H
def Tell (P : HP) (φ : Hp → Prop) : Prop := ∀ h, P h → ∀ H, LHle h H → φ H
theorem LHle.sub (e : LHle k H) (s : LSub h k) : LHle h H := fun a o b z => e a o b (s a _ z)
theorem Ent.here {φ : Hp → Prop} (t : Tell P φ) : Ent (P :: L) φ := fun _ ⟨_, _, _, s1, _, p, _⟩ _ e => t _ p _ (e.sub s1)
theorem Ent.next {φ : Hp → Prop} (t : Ent L φ) : Ent (P :: L) φ := fun _ ⟨_, _, _, _, s2, _, q⟩ _ e => t _ q _ (e.sub s2)
theorem Own.ent {φ : Hp → Prop} (o : Own L H) (t : Ent L φ) : φ H := let ⟨_, e, s⟩ := o; t _ s _ e
theorem tell_cell {c : Bool} : Tell (cell c a o) (fun H => H a = some o) := fun _ p _ e => e _ _ _ p
/-- the cell at a holds o -/
abbrev Got (L : List HP) (a : Addr) (o : HO) : Prop := Ent L fun H => H a = some o
theorem Got.here {c : Bool} : Got (cell c a o :: L) a o := Ent.here tell_cell
theorem Got.next (t : Got L a o) : Got (P :: L) a o := Ent.next t
theorem Own.get (w : Own L H) (t : Got L a o) : H a = some o := w.ent t
theorem Own.get' {c : Bool} (w : Own (cell c a o :: L) H) : H a = some o := w.get Got.here
/-! ### taking a claim out -/
def Pick (L : List HP) (P : HP) (R : List HP) : Prop := ∀ h, stars L h → stars (P :: R) h
class Ro (P : HP) : Prop where
  ro : ∀ h, P h → ∃ g, LSub g h ∧ AllRo g ∧ P g
theorem stars_dup (c : Ro P) (s : stars (P :: L) h) : stars (P :: P :: L) h := by
  obtain ⟨h1, h2, d, s1, s2, p, q⟩ := s
  obtain ⟨g, t, r, p'⟩ := c.ro _ p
  exact ⟨g, h, fun a x y e f => r a x e, t.trans s1, LSub.rfl', p', h1, h2, d, s1, s2, p, q⟩
theorem Pick.here : Pick (P :: R) P R := fun _ s => s
theorem Pick.keep [c : Ro P] : Pick (P :: R) P (P :: R) := fun _ s => stars_dup c s
theorem Pick.next (p : Pick L P R) : Pick (Q :: L) P (Q :: R) := fun _ s => stars_swap (stars_cons p s)
theorem Own.pick (o : Own L H) (p : Pick L P R) : Own (P :: R) H := o.map p
theorem Own.dup [c : Ro P] (o : Own (P :: L) H) : Own (P :: P :: L) H := o.map fun _ s => stars_dup c s
theorem lup_none {z : HO × Bool} (e : LHupd LHnone a z b = some x) : b = a ∧ x = z := by
  unfold LHupd at e
  split at e
  · rename_i q
    cases e
    exact ⟨q, rfl⟩
  · cases e
instance : Ro (cell true a o) := ⟨fun h p => ⟨LHupd LHnone a (o, true), (fun b x e => by
    obtain ⟨rfl, rfl⟩ := lup_none e
    exact p), (fun b x e => by
    obtain ⟨rfl, rfl⟩ := lup_none e
    rfl), if_pos rfl⟩⟩
instance {α : Sort _} {f : α → HP} [c : ∀ x, Ro (f x)] : Ro (hex f) := ⟨fun h ⟨x, p⟩ => let ⟨g, s, r, q⟩ := (c x).ro h p; ⟨g, s, r, x, q⟩⟩
instance {p : Prop} : Ro (hpu p) := ⟨fun h z => ⟨LHnone, sub_none, (fun _ _ e => nomatch e), z⟩⟩
theorem allRo_or (p : AllRo h) (q : AllRo k) : AllRo (LHor h k) := fun a x e => (lor_of e).elim (p a x) (q a x)
instance : Ro (stars []) := ⟨fun h _ => ⟨LHnone, sub_none, (fun _ _ e => nomatch e), trivial⟩⟩
instance [c : Ro P] [d : Ro (stars L)] : Ro (stars (P :: L)) := ⟨fun h ⟨h1, h2, _, s1, s2, p, q⟩ => by
  obtain ⟨g1, t1, r1, p'⟩ := c.ro _ p
  obtain ⟨g2, t2, r2, q'⟩ := d.ro _ q
  exact ⟨LHor g1 g2, lor_sub (t1.trans s1) (t2.trans s2), allRo_or r1 r2, g1, g2, fun a x y e f => r1 a x e, lor_l, lor_r (t1.trans s1) (t2.trans s2), p', q'⟩⟩
/-! ### writing -/
theorem lup_same : LHupd h a x a = some x := if_pos rfl
theorem lup_ne (n : b ≠ a) : LHupd h a x b = h b := if_neg n
theorem le_lup (e : LHle h H) {c : Bool} : LHle (LHupd h a (o, c)) (upd H a o) := fun b u d z => by
  by_cases n : b = a
  · subst n
    rw [lup_same] at z
    cases z
    exact upd_same
  · rw [lup_ne n] at z
    rw [upd_ne n]
    exact e b u d z
def Put (L : List HP) (a : Addr) (u o : HO) (M : List HP) : Prop := ∀ h, stars L h → h a = some (u, false) ∧ stars M (LHupd h a (o, false))
theorem Put.here : Put (pt a u :: L) a u o (pt a o :: L) := by
  rintro h ⟨h1, h2, d, s1, s2, p, q⟩
  have n2 : h2 a = none := by
    cases z : h2 a with
    | none => rfl
    | some y => exact absurd (d a _ _ p z) Bool.false_ne_true
  refine ⟨s1 _ _ p, LHupd LHnone a (o, false), h2, ?_, ?_, ?_, lup_same, q⟩
  · intro b x y e f
    by_cases n : b = a
    · subst n
      rw [n2] at f
      cases f
    · rw [lup_ne n] at e
      cases e
  · intro b x e
    by_cases n : b = a
    · subst n
      rw [lup_same] at e ⊢
      exact e
    · rw [lup_ne n] at e
      cases e
  · intro b x e
    have n : b ≠ a := fun z => by
      subst z
      rw [n2] at e
      cases e
    rw [lup_ne n]
    exact s2 b x e
theorem Put.next (t : Put L a u o M) : Put (P :: L) a u o (P :: M) := by
  rintro h ⟨h1, h2, d, s1, s2, p, q⟩
  obtain ⟨e2, q2⟩ := t _ q
  have n1 : h1 a = none := by
    cases z : h1 a with
    | none => rfl
    | some y =>
      have e1 := s1 _ _ z
      rw [s2 _ _ e2] at e1
      cases e1
      exact absurd (d a _ _ z e2) Bool.false_ne_true
  refine ⟨s2 _ _ e2, h1, LHupd h2 a (o, false), ?_, ?_, ?_, p, q2⟩
  · intro b x y e f
    have n : b ≠ a := fun z => by
      subst z
      rw [n1] at e
      cases e
    rw [lup_ne n] at f
    exact d b x y e f
  · intro b x e
    have n : b ≠ a := fun z => by
      subst z
      rw [n1] at e
      cases e
    rw [lup_ne n]
    exact s1 b x e
  · intro b x e
    by_cases n : b = a
    · subst n
      rw [lup_same] at e ⊢
      exact e
    · rw [lup_ne n] at e ⊢
      exact s2 b x e
theorem Own.put (w : Own L H) (t : Put L a u o M) : Own M (upd H a o) := by
  obtain ⟨h, e, s⟩ := w
  exact ⟨_, le_lup e, (t h s).2⟩
theorem Own.putGet (w : Own L H) (t : Put L a u o M) : H a = some u := by
  obtain ⟨h, e, s⟩ := w
  exact e _ _ _ (t h s).1
theorem Own.newC (c : Bool) (n : H a = none) (w : Own L H) : Own (cell c a o :: L) (upd H a o) := by
  obtain ⟨h, e, s⟩ := w
  have n2 : h a = none := by
    cases z : h a with
    | none => rfl
    | some y =>
      obtain ⟨y1, y2⟩ := y
      rw [e a y1 y2 z] at n
      cases n
  refine ⟨LHupd h a (o, c), le_lup e, LHupd LHnone a (o, c), h, ?_, ?_, ?_, lup_same, s⟩
  · intro b x y e f
    by_cases n : b = a
    · subst n
      rw [n2] at f
      cases f
    · rw [lup_ne n] at e
      cases e
  · intro b x e
    by_cases n : b = a
    · subst n
      rw [lup_same] at e ⊢
      exact e
    · rw [lup_ne n] at e
      cases e
  · intro b x e
    have n : b ≠ a := fun z => by
      subst z
      rw [n2] at e
      cases e
    rw [lup_ne n]
    exact e
theorem Own.new (n : H a = none) (w : Own L H) : Own (pt a o :: L) (upd H a o) := w.newC false n
theorem Own.newT {xs : List V} (n : H a = none) (w : Own L H) : Own (ro a (.tup xs) :: L) (upd H a (.tup xs)) := w.newC true n
/-- an object and its dict -/
theorem Own.made {C dx : Addr} (n : H a = none) (m : H dx = none) (ne : dx ≠ a) (w : Own L H) : Own (pt a (.ins C dx []) :: L) (upd (upd H dx (.own a)) a (.ins C dx [])) :=
  (w.new m).tail.new (none_up ne.symm n)
/-- a claim that does not look at the marks is only read from now on -/
def Mk0 (P : HP) : Prop := ∀ h k : LH, (∀ a o b, h a = some (o, b) → ∃ c, k a = some (o, c)) → P h → P k
theorem AllRo.or_ro (q : AllRo h) : Dis h k := fun a x y e _ => q a x e
def mark (h : LH) : LH := fun a => match h a with
  | some (o, _) => some (o, true)
  | none => none
/-- h, with the cells of h1 marked -/
def over (h1 h : LH) : LH := fun a => match h1 a with
  | some (o, _) => some (o, true)
  | none => h a
theorem mark_of (e : mark h a = some x) : ∃ b, h a = some (x.1, b) ∧ x.2 = true := by
  unfold mark at e
  split at e
  · rename_i o b q
    cases e
    exact ⟨b, q, rfl⟩
  · cases e
theorem mark_to {c : Bool} (e : h a = some (o, c)) : mark h a = some (o, true) := by
  unfold mark
  rw [e]
theorem Own.freeze (m : ∀ h, P h → P (mark h)) (w : Own (P :: L) H) : Own (P :: L) H ∧ ∃ h1, AllRo h1 ∧ P h1 ∧ LHle h1 H ∧ ∃ h, LHle h H ∧ LSub h1 h ∧ ∃ h2, LSub h2 h ∧ stars L h2 := by
  refine ⟨w, ?_⟩
  obtain ⟨h, e, h1, h2, d, s1, s2, p, q⟩ := w
  have o1 : ∀ a o c, h1 a = some (o, c) → over h1 h a = some (o, true) := fun a o c z => by
    unfold over
    rw [z]
  have o2 : ∀ a, h1 a = none → over h1 h a = h a := fun a z => by
    unfold over
    rw [z]
  refine ⟨mark h1, fun a x e => (mark_of e).elim fun b z => z.2, m _ p, ?_, over h1 h, ?_, ?_, h2, ?_, q⟩
  · intro a o b z
    obtain ⟨c, z1, _⟩ := mark_of z
    exact e a o c (s1 _ _ z1)
  · intro a o b z
    cases z1 : h1 a with
    | none =>
      rw [o2 a z1] at z
      exact e a o b z
    | some y =>
      obtain ⟨y1, y2⟩ := y
      rw [o1 a y1 y2 z1] at z
      cases z
      exact e a _ _ (s1 _ _ z1)
  · intro a x z
    obtain ⟨c, z1, z2⟩ := mark_of z
    rw [o1 a _ c z1]
    obtain ⟨x1, x2⟩ := x
    cases z2
    rfl
  · intro a x z
    cases z1 : h1 a with
    | none =>
      rw [o2 a z1]
      exact s2 a x z
    | some y =>
      obtain ⟨y1, y2⟩ := y
      have t := d a _ _ z1 z
      have e1 := s1 _ _ z1
      rw [s2 _ _ z] at e1
      cases e1
      rw [o1 a _ _ z1]
      cases t
      rfl
/-- only read from now on -/
def Rd (P : HP) : HP := fun h => ∃ g, LSub g h ∧ AllRo g ∧ P g
instance : Ro (Rd P) := ⟨fun h ⟨g, s, r, p⟩ => ⟨g, s, r, g, LSub.rfl', r, p⟩⟩
theorem Own.toRd (m : ∀ h, P h → P (mark h)) (w : Own (P :: L) H) : Own (Rd P :: L) H := by
  obtain ⟨_, h1, r, p, _, h, e, s1, h2, s2, q⟩ := w.freeze m
  exact ⟨h, e, h1, h2, fun a x y z _ => r a x z, s1, s2, ⟨h1, LSub.rfl', r, p⟩, q⟩
theorem tell_rd {φ : Hp → Prop} (t : Tell P φ) : Tell (Rd P) φ := fun h ⟨g, s, _, p⟩ H e => t g p H (e.sub s)
theorem Own.toRo (w : Own (pt a o :: L) H) : Own (ro a o :: L) H := by
  obtain ⟨h, e, h1, h2, d, s1, s2, p, q⟩ := w
  have n2 : h2 a = none := by
    cases z : h2 a with
    | none => rfl
    | some y => exact absurd (d a _ _ p z) Bool.false_ne_true
  refine ⟨LHupd h a (o, true), ?_, LHupd LHnone a (o, true), h2, ?_, ?_, ?_, lup_same, q⟩
  · intro b u c z
    by_cases n : b = a
    · subst n
      rw [lup_same] at z
      cases z
      exact e _ _ _ (s1 _ _ p)
    · rw [lup_ne n] at z
      exact e b u c z
  · intro b x y e f
    by_cases n : b = a
    · subst n
      rw [n2] at f
      cases f
    · rw [lup_ne n] at e
      cases e
  · intro b x e
    by_cases n : b = a
    · subst n
      rw [lup_same] at e ⊢
      exact e
    · rw [lup_ne n] at e
      cases e
  · intro b x e
    have n : b ≠ a := fun z => by
      subst z
      rw [n2] at e
      cases e
    rw [lup_ne n]
    exact s2 b x e
end
end G

/-! claims: data, rows of claims, the script, drawn numbers; the steps that write -/
namespace G
open PySem PySem.Spec PyProof.Rows L2
section
variable {K : PySem.W.Frag} {h k h1 h2 : LH} {a b : Addr} {L M R : List HP} {P P' Q : HP} {H H' : Hp} {o u : HO} {v : V} {vs : List V} {d : PyData} {ds : List PyData} {c : Bool} {xs : List Int}
/-! ### data -/
def DT (K : PySem.W.Frag) (v : V) (d : PyData) : HP := fun h => ∀ H, LHle h H → Dp K H v d
def DTs (K : PySem.W.Frag) (vs : List V) (ds : List PyData) : HP := fun h => ∀ H, LHle h H → DpAll K H vs ds
theorem tell_DT : Tell (DT K v d) (fun H => Dp K H v d) := fun h p H e => p H e
theorem tell_DTs : Tell (DTs K vs ds) (fun H => DpAll K H vs ds) := fun h p H e => p H e
theorem mark_le (e : LHle (mark h) H) : LHle h H := fun a o b z => e a o true (mark_to z)
theorem le_mark (e : LHle h H) : LHle (mark h) H := fun a o b z => let ⟨c, z1, _⟩ := mark_of z; e a o c z1
theorem DT.mark (p : DT K v d h) : DT K v d (mark h) := fun H e => p H (mark_le e)
theorem DTs.mark (p : DTs K vs ds h) : DTs K vs ds (G.mark h) := fun H e => p H (mark_le e)
theorem lor_le (e : LHle k H) (s : LSub h1 k) (t : LSub h2 k) : LHle (LHor h1 h2) H := e.sub (lor_sub s t)
/-- two claims, told at once -/
theorem Own.join (t : ∀ h1 h2 h, LSub h1 h → LSub h2 h → P h1 → Q h2 → P' h) (w : Own (P :: Q :: L) H) : Own (P' :: L) H := w.map fun h s => by
  obtain ⟨h1, h2, d, s1, s2, p, h3, h4, d2, s3, s4, q, z⟩ := s
  exact ⟨LHor h1 h3, h4, or_dis (d.sub_r s4) d2, lor_sub s1 (s3.trans s2), s4.trans s2, t _ _ _ lor_l (lor_r s1 (s3.trans s2)) p q, z⟩
theorem Own.dtScalar (z : ∀ H, Dp K H v d) (w : Own L H) : Own (DT K v d :: L) H := w.free fun H _ => z H
theorem Own.dtNil (w : Own L H) : Own (DTs K [] [] :: L) H := w.free fun H _ => .nil
theorem Own.dtCons (w : Own (DT K v d :: DTs K vs ds :: L) H) : Own (DTs K (v :: vs) (d :: ds) :: L) H := w.join fun h1 h2 h s t p q H e => .cons (p H (e.sub s)) (q H (e.sub t))
theorem Own.dtSnoc (w : Own (DTs K vs ds :: DT K v d :: L) H) : Own (DTs K (vs ++ [v]) (ds ++ [d]) :: L) H := w.join fun h1 h2 h s t p q H e => dpAll_snoc (p H (e.sub s)) (q H (e.sub t))
theorem Own.dtLst (w : Own (cell c a (.lst vs) :: DTs K vs ds :: L) H) : Own (DT K (.ref a) (.list ds) :: L) H := w.join fun h1 h2 h s t p q H e => .lst (SqL.of (e _ _ _ (s _ _ p))) (q H (e.sub t))
theorem Own.dtTup (w : Own (cell c a (.tup vs) :: DTs K vs ds :: L) H) : Own (DT K (.ref a) (.tuple ds) :: L) H := w.join fun h1 h2 h s t p q H e => .tup (SqT.of' (e _ _ _ (s _ _ p))) (q H (e.sub t))
theorem Own.dtInts (w : Own (cell c a (.lst (xs.map V.int)) :: L) H) : Own (DT K (.ref a) (.list (xs.map PyData.int)) :: L) H := w.head fun h p H e => .lst (SqL.of (e _ _ _ p)) (dp_ints xs)
theorem Own.dtRd (w : Own (DT K v d :: L) H) : Own (Rd (DT K v d) :: L) H := w.toRd fun _ => DT.mark
theorem Own.dp (w : Own (DT K v d :: L) H) : Dp K H v d := w.ent (Ent.here tell_DT)
abbrev GotD (K : PySem.W.Frag) (L : List HP) (v : V) (d : PyData) : Prop := Ent L fun H => Dp K H v d
theorem Own.dpG (w : Own L H) (t : GotD K L v d) : Dp K H v d := w.ent t
theorem GotD.here : GotD K (DT K v d :: L) v d := Ent.here tell_DT
theorem GotD.hereR : GotD K (Rd (DT K v d) :: L) v d := Ent.here (tell_rd tell_DT)
theorem GotD.ints : GotD K (cell c a (.lst (xs.map V.int)) :: L) (.ref a) (.list (xs.map PyData.int)) := Ent.here fun h p H e => .lst (SqL.of (e _ _ _ p)) (dp_ints xs)
theorem GotD.next (t : GotD K L v d) : GotD K (P :: L) v d := Ent.next t
/-! ### lists that are read -/
abbrev GotL (K : PySem.W.Frag) (L : List HP) (a : Addr) (vs : List V) : Prop := Ent L fun H => SqL K H a vs
/-- a list that stands still -/
def ScP (K : PySem.W.Frag) (a : Addr) (vs : List V) : HP := fun h => (∃ o, h a = some (.frz o (.lst vs), true)) ∨
    ∃ (o : Obj) (its : Array Value) (n : Nat), K.lookup a = some o ∧ o.cls = .type "list" ∧ o.dict = none ∧ o.data = .seq its n ∧ its.size ≤ sizeLine ∧ Vals vs its.toList
theorem tell_scr : Tell (ScP K a vs) (fun H => Scr K H a vs) := fun h p H e => p.elim (fun ⟨o, z⟩ => .inl ⟨o, e _ _ _ z⟩) .inr
instance : Ro (ScP K a vs) := ⟨fun h p => p.elim (fun ⟨o, z⟩ => ⟨LHupd LHnone a (.frz o (.lst vs), true), (fun b x e => by
    obtain ⟨rfl, rfl⟩ := lup_none e
    exact z), (fun b x e => by
    obtain ⟨rfl, rfl⟩ := lup_none e
    rfl), .inl ⟨o, if_pos rfl⟩⟩) fun z => ⟨LHnone, sub_none, (fun _ _ e => nomatch e), .inr z⟩⟩
theorem Own.ofScr (s : Scr K H a vs) : Own [ScP K a vs] H := by
  rcases s with ⟨o, z⟩ | z
  · refine ⟨LHupd LHnone a (.frz o (.lst vs), true), fun b x c e => ?_, LHupd LHnone a (.frz o (.lst vs), true), LHnone, dis_none_r, LSub.rfl', sub_none, .inl ⟨o, if_pos rfl⟩, trivial⟩
    obtain ⟨rfl, e2⟩ := lup_none e
    cases e2
    exact z
  · exact ⟨LHnone, (fun _ _ _ e => nomatch e), LHnone, LHnone, dis_none, sub_none, sub_none, .inr z, trivial⟩
theorem GotL.here : GotL K (cell c a (.lst vs) :: L) a vs := Ent.here fun h p H e => SqL.of (e _ _ _ p)
theorem GotL.hereS : GotL K (ScP K a vs :: L) a vs := Ent.here fun h p H e => (tell_scr h p H e).sq
theorem GotL.next (t : GotL K L a vs) : GotL K (P :: L) a vs := Ent.next t
theorem Own.sql (w : Own L H) (t : GotL K L a vs) : SqL K H a vs := w.ent t
/-! ### drawn numbers -/
def Drw (s : Addr) : HP := hex fun n : Int => pt s (.lst [.int n])
theorem Own.drw {n : Int} (w : Own (pt a (.lst [.int n]) :: L) H) : Own (Drw a :: L) H := w.exi n
/-! ### rows of claims -/
def big {α β : Type} (f : α → β → HP) : List α → List β → HP
  | [], [] => fun _ => True
  | a :: as, b :: bs => stars [f a b, big f as bs]
  | _, _ => fun _ => False
section
variable {α β : Type} {f : α → β → HP} {as as' : List α} {bs bs' : List β} {x : α} {y : β}
theorem big_len_h : ∀ {as : List α} {bs : List β} {h : LH}, big f as bs h → as.length = bs.length
  | [], [], _, _ => rfl
  | _ :: _, _ :: _, _, ⟨_, _, _, _, _, _, _, _, _, _, _, q, _⟩ => congrArg (· + 1) (big_len_h q)
  | [], _ :: _, _, p => p.elim
  | _ :: _, [], _, p => p.elim
theorem Own.bigLen (w : Own (big f as bs :: L) H) : as.length = bs.length := w.ent (Ent.here fun _ p _ _ => big_len_h p)
theorem Own.bigNil (w : Own L H) : Own (big f [] [] :: L) H := w.free trivial
theorem Own.bigCons (w : Own (f x y :: big f as bs :: L) H) : Own (big f (x :: as) (y :: bs) :: L) H := Own.fold (L := [_, _]) w
theorem Own.bigUncons (w : Own (big f (x :: as) (y :: bs) :: L) H) : Own (f x y :: big f as bs :: L) H := Own.flat (L := [_, _]) w
theorem Own.unFalse (z : ∀ h, P h → False) (w : Own (P :: L) H) : False := w.ent (φ := fun _ => False) (Ent.here fun h p _ _ => z h p)
theorem big_mono : ∀ {as : List α} {bs : List β} {h k : LH}, big f as bs h → LSub h k → big f as bs k
  | [], [], _, _, _, _ => trivial
  | _ :: _, _ :: _, _, _, p, s => stars_mono (L := [_, _]) p s
  | [], _ :: _, _, _, p, _ => p.elim
  | _ :: _, [], _, _, p, _ => p.elim
theorem big_app_h : ∀ {as : List α} {bs : List β} {h1 h2 h : LH}, big f as bs h1 → big f as' bs' h2 → Dis h1 h2 → LSub h1 h → LSub h2 h → big f (as ++ as') (bs ++ bs') h
  | [], [], _, _, _, _, q, _, _, t => big_mono q t
  | _ :: _, _ :: _, h1, h2, h, ⟨g1, g2, d, s1, s2, p, g3, g4, d2, s3, s4, r, _⟩, q, e, s, t => by
    refine ⟨g1, LHor g3 h2, dis_or (d.sub_r s3) (e.sub_l s1), s1.trans s, lor_sub (s3.trans (s2.trans s)) t, p, LHor g3 h2, LHnone, dis_none_r, LSub.rfl', sub_none, ?_, trivial⟩
    exact big_app_h r q (e.sub_l (s3.trans s2)) lor_l (lor_r (s3.trans (s2.trans s)) t)
  | [], _ :: _, _, _, _, p, _, _, _, _ => p.elim
  | _ :: _, [], _, _, _, p, _, _, _, _ => p.elim
theorem Own.bigApp (w : Own (big f as bs :: big f as' bs' :: L) H) : Own (big f (as ++ as') (bs ++ bs') :: L) H := w.map fun h s => by
  obtain ⟨h1, h2, d, s1, s2, p, h3, h4, d2, s3, s4, q, z⟩ := s
  exact ⟨LHor h1 h3, h4, or_dis (d.sub_r s4) d2, lor_sub s1 (s3.trans s2), s4.trans s2, big_app_h p q (d.sub_r s3) lor_l (lor_r s1 (s3.trans s2)), z⟩
theorem Own.bigSnoc (w : Own (big f as bs :: f x y :: L) H) : Own (big f (as ++ [x]) (bs ++ [y]) :: L) H :=
  Own.bigApp (Own.swap (Own.bigCons (Own.swap (Own.bigNil (Own.swap w)))).swap.swap)
theorem Own.big1 (w : Own (f x y :: L) H) : Own (big f [x] [y] :: L) H := Own.bigCons (Own.swap (Own.bigNil w))
theorem Own.bigSplit : ∀ {as : List α} {bs : List β} {as' : List α} {bs' : List β} {L : List HP}, as.length = bs.length → Own (big f (as ++ as') (bs ++ bs') :: L) H → Own (big f as bs :: big f as' bs' :: L) H
  | [], [], _, _, _, _, w => w.bigNil
  | _ :: as, _ :: bs, as', bs', L, e, w => by
    have w1 : Own (big f (as ++ as') (bs ++ bs') :: f _ _ :: L) H := w.bigUncons.swap
    have w2 := Own.bigSplit (Nat.succ.inj e) w1
    have w3 : Own (f _ _ :: big f as bs :: big f as' bs' :: L) H := w2.perm (((List.Perm.swap _ _ _).cons _).trans (List.Perm.swap _ _ _))
    exact w3.bigCons
  | [], _ :: _, _, _, _, e, _ => nomatch e
  | _ :: _, [], _, _, _, e, _ => nomatch e
/-- one of the row -/
theorem Own.bigOut {i : Nat} (w : Own (big f as bs :: L) H) (h1 : as[i]? = some x) (h2 : bs[i]? = some y) : Own (f x y :: big f (as.take i) (bs.take i) :: big f (as.drop (i + 1)) (bs.drop (i + 1)) :: L) H := by
  have e1 : as = as.take i ++ x :: as.drop (i + 1) := by
    obtain ⟨q, rfl⟩ := List.getElem?_eq_some_iff.mp h1
    rw [List.getElem_cons_drop, List.take_append_drop]
  have e2 : bs = bs.take i ++ y :: bs.drop (i + 1) := by
    obtain ⟨q, rfl⟩ := List.getElem?_eq_some_iff.mp h2
    rw [List.getElem_cons_drop, List.take_append_drop]
  have l := w.bigLen
  rw [e1, e2] at w
  have w2 := w.bigSplit (by rw [List.length_take, List.length_take, l])
  exact (w2.swap.bigUncons).perm (List.Perm.cons _ (List.Perm.swap _ _ _))
theorem Own.bigIn {i : Nat} (w : Own (f x y :: big f (as.take i) (bs.take i) :: big f (as.drop (i + 1)) (bs.drop (i + 1)) :: L) H) (l : i < as.length) (l2 : i < bs.length) : Own (big f (as.set i x) (bs.set i y) :: L) H := by
  rw [List.set_eq_take_append_cons_drop, List.set_eq_take_append_cons_drop, if_pos l, if_pos l2]
  refine Own.bigApp (Own.swap (Own.bigCons ?_))
  exact w.perm (List.Perm.cons _ (List.Perm.swap _ _ _))
/-- one of the row is changed in place -/
theorem Own.bigBack {i : Nat} (w : Own (f x y :: big f (as.take i) (bs.take i) :: big f (as.drop (i + 1)) (bs.drop (i + 1)) :: L) H) (h1 : as[i]? = some x) (l2 : i < bs.length) : Own (big f as (bs.set i y) :: L) H := by
  have l := (List.getElem?_eq_some_iff.mp h1).1
  have e : as.set i x = as := by
    have := (List.getElem?_eq_some_iff.mp h1).2
    rw [← this]
    exact List.set_getElem_self l
  have w2 := w.bigIn l l2
  rw [e] at w2
  exact w2
/-- one of the row is taken out -/
theorem Own.bigErase {i : Nat} (w : Own (big f as bs :: L) H) (h1 : as[i]? = some x) (h2 : bs[i]? = some y) : Own (f x y :: big f (as.eraseIdx i) (bs.eraseIdx i) :: L) H := by
  rw [List.eraseIdx_eq_take_drop_succ, List.eraseIdx_eq_take_drop_succ]
  have w2 := w.bigOut h1 h2
  exact (Own.bigApp (w2.perm ((List.Perm.swap _ _ _).trans (List.Perm.cons _ (List.Perm.swap _ _ _))))).swap
theorem ro_big (c : ∀ x y, Ro (f x y)) : ∀ (as : List α) (bs : List β), Ro (big f as bs)
  | [], [] => ⟨fun h _ => ⟨LHnone, sub_none, (fun _ _ e => nomatch e), trivial⟩⟩
  | a :: as, b :: bs => by
    have := c a b
    have := ro_big c as bs
    show Ro (stars [f a b, big f as bs])
    infer_instance
  | [], _ :: _ => ⟨fun h p => p.elim⟩
  | _ :: _, [] => ⟨fun h p => p.elim⟩
instance [c : ∀ x y, Ro (f x y)] : Ro (big f as bs) := ro_big c as bs
/-- one of a row that is only read -/
theorem big_at_h : ∀ {as : List α} {bs : List β} {h : LH} {i : Nat}, big f as bs h → as[i]? = some x → bs[i]? = some y → ∃ g, LSub g h ∧ f x y g
  | _ :: _, _ :: _, _, 0, ⟨g1, _, _, s1, _, p, _⟩, e, e2 => by
    cases e
    cases e2
    exact ⟨g1, s1, p⟩
  | _ :: _, _ :: _, _, i + 1, ⟨_, _, _, _, s2, _, g3, _, _, s3, _, q, _⟩, e, e2 => by
    obtain ⟨g, s, p⟩ := big_at_h (i := i) q e e2
    exact ⟨g, s.trans (s3.trans s2), p⟩
  | [], [], _, _, _, e, _ => nomatch e
  | [], _ :: _, _, _, p, _, _ => p.elim
  | _ :: _, [], _, _, p, _, _ => p.elim
/-- what one of the row tells -/
theorem Own.bigTell {φ : Hp → Prop} {i : Nat} (w : Own (big f as bs :: L) H) (h1 : as[i]? = some x) (h2 : bs[i]? = some y) (t : Tell (f x y) φ) : φ H := w.ent (Ent.here fun h p H e => by
  obtain ⟨g, s, z⟩ := big_at_h p h1 h2
  exact t g z H (e.sub s))
theorem Own.bigAt [c : ∀ x y, Ro (f x y)] {i : Nat} (w : Own (big f as bs :: L) H) (h1 : as[i]? = some x) (h2 : bs[i]? = some y) : Own (f x y :: big f as bs :: L) H := w.map fun h s => by
  obtain ⟨g1, g2, d, s1, s2, p, q⟩ := s
  obtain ⟨g, t, z⟩ := big_at_h p h1 h2
  obtain ⟨g', t', r, z'⟩ := (c x y).ro g z
  exact ⟨g', h, fun a x y e _ => r a x e, t'.trans (t.trans s1), LSub.rfl', z', g1, g2, d, s1, s2, p, q⟩
theorem Own.bigAt' (c : ∀ x y, Ro (f x y)) {i : Nat} (w : Own (big f as bs :: L) H) (h1 : as[i]? = some x) (h2 : bs[i]? = some y) : Own (f x y :: big f as bs :: L) H := w.bigAt h1 h2
theorem Own.bigHead {g : α → β → HP} (t : ∀ x y h, f x y h → g x y h) (w : Own (big f as bs :: L) H) : Own (big g as bs :: L) H := w.head fun h p => by
  have : ∀ {as : List α} {bs : List β} {h : LH}, big f as bs h → big g as bs h := by
    intro as
    induction as with
    | nil => intro bs h p; cases bs with
      | nil => trivial
      | cons b bs => exact p.elim
    | cons a as ih => intro bs h p; cases bs with
      | nil => exact p.elim
      | cons b bs =>
        obtain ⟨g1, g2, d, s1, s2, p, g3, g4, d2, s3, s4, q, z⟩ := p
        exact ⟨g1, g2, d, s1, s2, t _ _ _ p, g3, g4, d2, s3, s4, ih q, z⟩
  exact this p
end
end
end G

/-! the steps that write, by claims -/
namespace G
open PySem PySem.Spec PyProof.Rows L2
section
variable {K : PySem.W.Frag} {a b l s : Addr} {L M R : List HP} {P P' : HP} {H H' : Hp} {o u : HO} {v x y : V} {vs xs zs : List V} {c : Bool} {Q : VK} {E : L2.St → XK} {EX : XK} {σ : L2.St} {D : Ends} {tA tB : TA} {ta tb : TE} {sp : Sp} {n m : Nat} {i j k : Int}
/-! new tuples, lists -/
def kTup (Q : VK) : List V → Hp → Prop := fun xs H1 => xs.length ≤ sizeLine ∧ ∀ p, H1 p = none → Q (.ref p) (upd H1 p (.tup xs))
def kLst (Q : VK) : List V → Hp → Prop := fun xs H1 => xs.length ≤ sizeLine ∧ ∀ p, H1 p = none → Q (.ref p) (upd H1 p (.lst xs))
theorem w_tupK (h : tA σ H (kTup Q)) : tTup tA σ H Q := h
instance (priority := 900) i_w_tupK  : Stp (tTup tA σ H Q) (tA σ H (kTup Q)) := ⟨w_tupK⟩
theorem w_lstK (h : tA σ H (kLst Q)) : tLst tA σ H Q := h
instance (priority := 900) i_w_lstK  : Stp (tLst tA σ H Q) (tA σ H (kLst Q)) := ⟨w_lstK⟩
theorem k_tup (hl : Nat.ble xs.length 1000 = true) (w : Own L H) (q : ∀ p H', Own (ro p (.tup xs) :: L) H' → Q (.ref p) H') : kTup Q xs H := ⟨small_le hl, fun p hp => q p _ (w.newT hp)⟩
theorem k_lst (hl : Nat.ble xs.length 1000 = true) (w : Own L H) (q : ∀ p H', Own (pt p (.lst xs) :: L) H' → Q (.ref p) H') : kLst Q xs H := ⟨small_le hl, fun p hp => q p _ (w.new hp)⟩
/-! objects -/
def kMk (Cc : Addr) (sp : Sp) (E : L2.St → XK) (σ : L2.St) (Q : VK) : List V → Hp → Prop := fun vs H1 => ∀ x dx, H1 x = none → H1 dx = none → dx ≠ x → sp (.ref x :: vs) (upd (upd H1 dx (.own x)) x (.ins Cc dx [])) (fun v H2 => v = .non ∧ Q (.ref x) H2) (E σ)
theorem w_mkQ {Cc : Addr} (h : tA σ H (kMk Cc sp E σ Q)) : tMk Cc sp E tA σ H Q := h
instance (priority := 900) i_w_mkQ {Cc : Addr} : Stp (tMk Cc sp E tA σ H Q) (tA σ H (kMk Cc sp E σ Q)) := ⟨w_mkQ⟩
/-- what is wanted of an __init__ -/
def kIni (Q : VK) (x : Addr) : VK := fun v H2 => v = .non ∧ Q (.ref x) H2
theorem k_mk {Cc : Addr} (w : Own L H) (q : ∀ x dx H', Own (pt x (.ins Cc dx []) :: L) H' → sp (.ref x :: vs) H' (kIni Q x) (E σ)) : kMk Cc sp E σ Q vs H := fun x dx hx hd ne => q x dx _ (w.made hx hd ne)
def kMkK (Cc : Addr) (n m : Nat) (sp : Sp) (gV : List V → List V → List V) (E : L2.St → XK) (σ : L2.St) (Q : VK) (vs zs : List V) (H2 : Hp) : Prop := vs.length = n ∧ zs.length = m ∧ ∀ x dx, H2 x = none → H2 dx = none → dx ≠ x →
  sp (gV (.ref x :: vs) zs) (upd (upd H2 dx (.own x)) x (.ins Cc dx [])) (fun v H3 => v = .non ∧ Q (.ref x) H3) (E σ)
theorem w_mkKQ {Cc : Addr} {gV : List V → List V → List V} (h : tA σ H fun vs H1 => tB σ H1 fun zs H2 => kMkK Cc n m sp gV E σ Q vs zs H2) : tMkK Cc n m sp gV E tA tB σ H Q := h
instance (priority := 900) i_w_mkKQ {Cc : Addr} {gV : List V → List V → List V} : Stp (tMkK Cc n m sp gV E tA tB σ H Q) (tA σ H fun vs H1 => tB σ H1 fun zs H2 => kMkK Cc n m sp gV E σ Q vs zs H2) := ⟨w_mkKQ⟩
theorem k_mkK {Cc : Addr} {gV : List V → List V → List V} (h1 : vs.length = n) (h2 : zs.length = m) (w : Own L H) (q : ∀ x dx H', Own (pt x (.ins Cc dx []) :: L) H' → sp (gV (.ref x :: vs) zs) H' (kIni Q x) (E σ)) : kMkK Cc n m sp gV E σ Q vs zs H :=
  ⟨h1, h2, fun x dx hx hd ne => q x dx _ (w.made hx hd ne)⟩
theorem k_mkK' {Cc : Addr} {gV : List V → List V → List V} {as : List V} (e : ∀ x : Addr, gV (.ref x :: vs) zs = .ref x :: as) (h1 : vs.length = n) (h2 : zs.length = m) (w : Own L H) (q : ∀ x dx H', Own (pt x (.ins Cc dx []) :: L) H' → sp (.ref x :: as) H' (kIni Q x) (E σ)) : kMkK Cc n m sp gV E σ Q vs zs H :=
  k_mkK h1 h2 w fun x dx H' w' => by rw [e]; exact q x dx H' w'
theorem w_mtE {C : Addr} {m : Str} {P : Addr → Prop} (h : ∃ dx fs, H a = some (.ins C dx fs) ∧ fs.lookup m = none) (q : P a) : ∃ a' dx' fs', V.ref a = .ref a' ∧ H a' = some (.ins C dx' fs') ∧ fs'.lookup m = none ∧ P a' :=
  let ⟨dx, fs, h1, h2⟩ := h
  ⟨a, dx, fs, rfl, h1, h2, q⟩
theorem w_fldE {C : Addr} {f : Str} {v : V} {P : Addr → Addr → Addr → List (Str × V) → V → Prop} (h : ∃ dx fs, H a = some (.ins C dx fs) ∧ fs.lookup f = some v) (c : Cls K C) (na : NoAttr K C f) (q : ∀ dx fs, P a C dx fs v) : ∃ a' C' dx' fs' v', V.ref a = .ref a' ∧ H a' = some (.ins C' dx' fs') ∧ Cls K C' ∧ NoAttr K C' f ∧ fs'.lookup f = some v' ∧ P a' C' dx' fs' v' :=
  let ⟨dx, fs, h1, h2⟩ := h
  ⟨a, C, dx, fs, v, rfl, h1, c, na, h2, q dx fs⟩
/-- a claim tells an attribute; that there is a method -/
abbrev TFld (X : HP) (a C : Addr) (f : Str) (v : V) : Prop := Tell X fun H => ∃ dx fs, H a = some (.ins C dx fs) ∧ fs.lookup f = some v
abbrev TMt (X : HP) (a C : Addr) (m : Str) : Prop := Tell X fun H => ∃ dx fs, H a = some (.ins C dx fs) ∧ fs.lookup m = none
/-- an attribute that a claim tells -/
theorem w_fldT {C : Addr} {f : Str} {v : V} {P : Addr → Addr → Addr → List (Str × V) → V → Prop} {X : HP} (t : Tell X (fun H => ∃ dx fs, H a = some (.ins C dx fs) ∧ fs.lookup f = some v)) (w : Own L H) (pk : Pick L X R) (c : Cls K C) (na : NoAttr K C f) (q : ∀ dx fs, P a C dx fs v) : ∃ a' C' dx' fs' v', V.ref a = .ref a' ∧ H a' = some (.ins C' dx' fs') ∧ Cls K C' ∧ NoAttr K C' f ∧ fs'.lookup f = some v' ∧ P a' C' dx' fs' v' :=
  w_fldE ((w.pick pk).ent (.here t)) c na q
/-- a method of an object that a claim tells -/
theorem w_mtT {C : Addr} {m : Str} {P : Addr → Prop} {X : HP} (t : Tell X (fun H => ∃ dx fs, H a = some (.ins C dx fs) ∧ fs.lookup m = none)) (w : Own L H) (pk : Pick L X R) (q : P a) : ∃ a' dx' fs', V.ref a = .ref a' ∧ H a' = some (.ins C dx' fs') ∧ fs'.lookup m = none ∧ P a' :=
  w_mtE ((w.pick pk).ent (.here t)) q
theorem k_ini (q : Q (.ref a) H) : kIni Q a .non H := ⟨rfl, q⟩
instance (priority := 900) i_k_ini  : Stp (kIni Q a .non H) (Q (.ref a) H) := ⟨k_ini⟩
/-- some of the claims -/
def Sel (L M : List HP) : Prop := ∀ h, stars L h → stars M h
theorem Sel.rf : Sel L L := fun _ s => s
theorem Sel.nil : Sel L [] := fun _ _ => trivial
theorem Sel.cons (p : Pick L P R) (s : Sel R M) : Sel L (P :: M) := fun h z => stars_cons s (p h z)
theorem Sel.drop (s : Sel L M) : Sel (P :: L) M := fun h z => s h (by
  obtain ⟨_, _, _, _, s2, _, q⟩ := z
  exact stars_mono q s2)
theorem Own.sel (w : Own L H) (s : Sel L M) : Own M H := w.map s
theorem Own.restS (w : Own (P :: L) H) (s : Sel L M) : Own (P :: M) H := w.rest s
theorem Own.take2 {P1 P2 : HP} {L1 : List HP} (w : Own L H) (p1 : Pick L P1 L1) (p2 : Pick L1 P2 R) : Own (P1 :: P2 :: R) H := (w.pick p1).rest p2
theorem Own.take3 {P1 P2 P3 : HP} {L1 L2 : List HP} (w : Own L H) (p1 : Pick L P1 L1) (p2 : Pick L1 P2 L2) (p3 : Pick L2 P3 R) : Own (P1 :: P2 :: P3 :: R) H := (w.pick p1).rest (Sel.cons p2 p3)
theorem Own.take4 {P1 P2 P3 P4 : HP} {L1 L2 L3 : List HP} (w : Own L H) (p1 : Pick L P1 L1) (p2 : Pick L1 P2 L2) (p3 : Pick L2 P3 L3) (p4 : Pick L3 P4 R) : Own (P1 :: P2 :: P3 :: P4 :: R) H := (w.pick p1).rest (Sel.cons p2 (Sel.cons p3 p4))
theorem Pick.st (p : Pick L P R) : ∀ h, stars L h → stars (P :: R) h := p
theorem Own.pick2 (w : Own (P' :: L) H) (p : Pick L P R) : Own (P' :: P :: R) H := w.rest p
theorem Own.cellRo (w : Own (cell c a o :: L) H) : Own (ro a o :: L) H := by
  cases c
  · exact w.toRo
  · exact w
/-! attributes -/
def kFld (K : PySem.W.Frag) (f : Str) (D : Ends) (σ : L2.St) (y x : V) (H2 : Hp) : Prop := ∃ a C dx fs, x = .ref a ∧ H2 a = some (.ins C dx fs) ∧ Cls K C ∧ NoAttr K C f ∧ fs.length < 1000 ∧ D.nx σ (upd H2 a (.ins C dx (putF f y fs)))
theorem w_sfldQ {f : Str} (h : tb σ H fun y H1 => ta σ H1 fun x H2 => kFld K f D σ y x H2) : sFld K ta tb f D σ H := h
instance (priority := 900) i_w_sfldQ {f : Str} : Stp (sFld K ta tb f D σ H) (tb σ H fun y H1 => ta σ H1 fun x H2 => kFld K f D σ y x H2) := ⟨w_sfldQ⟩
theorem k_fld {f : Str} {C dx : Addr} {fs fs' : List (Str × V)} (w : Own L H) (p : Put L a (.ins C dx fs) (.ins C dx fs') M) (c : Cls K C) (na : NoAttr K C f) (e : putF f y fs = fs') (l : Nat.blt fs.length 1000 = true) (q : ∀ H', Own M H' → D.nx σ H') : kFld K f D σ y (.ref a) H :=
  ⟨a, C, dx, fs, rfl, w.putGet p, c, na, Nat.le_of_ble_eq_true l, by rw [e]; exact q _ (w.put p)⟩
def kFA (a C : Addr) (f : Str) (D : Ends) (σ : L2.St) (z : V) (H3 : Hp) : Prop := ∃ dx' fs', H3 a = some (.ins C dx' fs') ∧ fs'.length < 1000 ∧ D.nx σ (upd H3 a (.ins C dx' (putF f z fs')))
theorem w_sfaQ {f : Str} {rd : V → V → Hp → VK → Prop} (h : ta σ H fun x H1 => ∃ a C dx fs v, x = .ref a ∧ H1 a = some (.ins C dx fs) ∧ Cls K C ∧ NoAttr K C f ∧ fs.lookup f = some v ∧
  tb σ H1 fun y H2 => rd v y H2 fun z H3 => kFA a C f D σ z H3) : sFldAug K ta tb rd f D σ H := h
instance (priority := 900) i_w_sfaQ {f : Str} {rd : V → V → Hp → VK → Prop} : Stp (sFldAug K ta tb rd f D σ H) (ta σ H fun x H1 => ∃ a C dx fs v, x = .ref a ∧ H1 a = some (.ins C dx fs) ∧ Cls K C ∧ NoAttr K C f ∧ fs.lookup f = some v ∧ tb σ H1 fun y H2 => rd v y H2 fun z H3 => kFA a C f D σ z H3) := ⟨w_sfaQ⟩
theorem k_fa {f : Str} {C dx : Addr} {fs fs' : List (Str × V)} (w : Own L H) (p : Put L a (.ins C dx fs) (.ins C dx fs') M) (e : putF f y fs = fs') (l : Nat.blt fs.length 1000 = true) (q : ∀ H', Own M H' → D.nx σ H') : kFA a C f D σ y H :=
  ⟨dx, fs, w.putGet p, Nat.le_of_ble_eq_true l, by rw [e]; exact q _ (w.put p)⟩
/-! lists -/
theorem k_app (w : Own L H) (p : Put L l (.lst xs) (.lst (xs ++ [v])) M) (hz : xs.length < sizeLine) (q : ∀ H', Own M H' → Q .non H') : rAppend (.ref l) [v] H Q := w_app (w.putGet p) hz (q _ (w.put p))
theorem k_setL {Qo : Hp → Prop} {z : Nat} (w : Own L H) (p : Put L l (.lst xs) (.lst (xs.set z v)) M) (hj : ixN xs.length k = some z) (q : ∀ H', Own M H' → Qo H') : rSetL (.ref l) (.int k) v H Qo := w_setL (w.putGet p) hj (q _ (w.put p))
theorem k_extend (w : Own L H) (p : Put L l (.lst xs) (.lst (xs ++ zs)) M) (g : Got L b (.lst zs)) (hz : xs.length + zs.length ≤ sizeLine) (q : ∀ H', Own M H' → Q .non H') : rExtend (.ref l) [.ref b] H Q := w_extend (w.putGet p) (w.get g) hz (q _ (w.put p))
theorem k_cat (w : Own L H) (g1 : Got L l (.lst xs)) (g2 : Got L b (.lst zs)) (hz : xs.length + zs.length ≤ sizeLine) (q : ∀ p H', Own (pt p (.lst (xs ++ zs)) :: L) H' → Q (.ref p) H') : rCat (.ref l) (.ref b) H Q := w_cat (w.get g1) (w.get g2) hz fun p hp => q p _ (w.new hp)
theorem k_rep (w : Own L H) (g1 : Got L l (.lst xs)) (h0 : 0 ≤ k) (hk : k < 4611686018427387904) (hz : xs.length * k.toNat ≤ sizeLine) (q : ∀ p H', Own (pt p (.lst (List.replicate k.toNat xs).flatten) :: L) H' → Q (.ref p) H') : rRep (.ref l) (.int k) H Q := w_rep (w.get g1) h0 hk hz fun p hp => q p _ (w.new hp)
theorem k_listL (w : Own L H) (g : SqL K H a xs) (q : ∀ p H', Own (pt p (.lst xs) :: L) H' → Q (.ref p) H') : gListOf K [.ref a] H Q := w_listL g fun p hp => q p _ (w.new hp)
theorem k_listT (w : Own L H) (g : SqT K H a xs) (q : ∀ p H', Own (pt p (.lst xs) :: L) H' → Q (.ref p) H') : gListOf K [.ref a] H Q := w_listT g fun p hp => q p _ (w.new hp)
theorem k_tupL (w : Own L H) (g : SqL K H a xs) (q : ∀ p H', Own (ro p (.tup xs) :: L) H' → Q (.ref p) H') : gTupOf K [.ref a] H Q := w_tupL g fun p hp => q p _ (w.newT hp)
theorem k_slfrom (w : Own L H) (g : SqL K H a xs) (h0 : 0 ≤ i) (q : ∀ p H', Own (pt p (.lst (xs.drop i.toNat)) :: L) H' → Q (.ref p) H') : rSlL K (.ref a) (some i) none H Q := w_slLfrom g h0 fun p hp => q p _ (w.new hp)
theorem k_slto (w : Own L H) (g : SqL K H a xs) (h0 : 0 ≤ i) (q : ∀ p H', Own (pt p (.lst (xs.take i.toNat)) :: L) H' → Q (.ref p) H') : rSlL K (.ref a) none (some i) H Q := w_slLto g h0 fun p hp => q p _ (w.new hp)
theorem k_slmid (w : Own L H) (g : SqL K H a xs) (h0 : 0 ≤ i) (h1 : i ≤ j) (q : ∀ p H', Own (pt p (.lst ((xs.drop i.toNat).take (j - i).toNat)) :: L) H' → Q (.ref p) H') : rSlL K (.ref a) (some i) (some j) H Q := w_slLmid g h0 h1 fun p hp => q p _ (w.new hp)
variable {ns ms : List Int} {ps : List Addr} {r : Addr}
theorem eraseIdx_map' {α β : Type} (f : α → β) : ∀ (l : List α) (i : Nat), (l.eraseIdx i).map f = (l.map f).eraseIdx i
  | [], i => by simp
  | a :: l, 0 => rfl
  | a :: l, i + 1 => by simp [eraseIdx_map' f l i]
theorem k_slfromI (w : Own L H) (g : SqL K H a (ns.map V.int)) (h0 : 0 ≤ i) (q : ∀ p H', Own (pt p (.lst ((ns.drop i.toNat).map V.int)) :: L) H' → Q (.ref p) H') : rSlL K (.ref a) (some i) none H Q := k_slfrom w g h0 (by rw [← List.map_drop]; exact q)
theorem k_sltoI (w : Own L H) (g : SqL K H a (ns.map V.int)) (h0 : 0 ≤ i) (q : ∀ p H', Own (pt p (.lst ((ns.take i.toNat).map V.int)) :: L) H' → Q (.ref p) H') : rSlL K (.ref a) none (some i) H Q := k_slto w g h0 (by rw [← List.map_take]; exact q)
theorem k_slmidI (w : Own L H) (g : SqL K H a (ns.map V.int)) (h0 : 0 ≤ i) (h1 : i ≤ j) (q : ∀ p H', Own (pt p (.lst (((ns.drop i.toNat).take (j - i).toNat).map V.int)) :: L) H' → Q (.ref p) H') : rSlL K (.ref a) (some i) (some j) H Q := k_slmid w g h0 h1 (by rw [← List.map_drop, ← List.map_take]; exact q)
theorem k_catI (w : Own L H) (g1 : Got L l (.lst (ns.map V.int))) (g2 : Got L b (.lst (ms.map V.int))) (hz : ns.length + ms.length ≤ sizeLine) (q : ∀ p H', Own (pt p (.lst ((ns ++ ms).map V.int)) :: L) H' → Q (.ref p) H') : rCat (.ref l) (.ref b) H Q := k_cat w g1 g2 (by rw [List.length_map, List.length_map]; exact hz) (by rw [← List.map_append]; exact q)
theorem k_catR {qs : List Addr} (w : Own L H) (g1 : Got L l (.lst (ps.map V.ref))) (g2 : Got L b (.lst (qs.map V.ref))) (hz : ps.length + qs.length ≤ sizeLine) (q : ∀ p H', Own (pt p (.lst ((ps ++ qs).map V.ref)) :: L) H' → Q (.ref p) H') : rCat (.ref l) (.ref b) H Q := k_cat w g1 g2 (by rw [List.length_map, List.length_map]; exact hz) (by rw [← List.map_append]; exact q)
theorem k_slfromR (w : Own L H) (g : SqL K H a (ps.map V.ref)) (h0 : 0 ≤ i) (q : ∀ p H', Own (pt p (.lst ((ps.drop i.toNat).map V.ref)) :: L) H' → Q (.ref p) H') : rSlL K (.ref a) (some i) none H Q := k_slfrom w g h0 (by rw [← List.map_drop]; exact q)
theorem k_sltoR (w : Own L H) (g : SqL K H a (ps.map V.ref)) (h0 : 0 ≤ i) (q : ∀ p H', Own (pt p (.lst ((ps.take i.toNat).map V.ref)) :: L) H' → Q (.ref p) H') : rSlL K (.ref a) none (some i) H Q := k_slto w g h0 (by rw [← List.map_take]; exact q)
theorem k_slfromRs {j : Nat} (w : Own L H) (g : SqL K H a (ps.map V.ref)) (q : ∀ p H', Own (pt p (.lst ((ps.drop (j + 1)).map V.ref)) :: L) H' → Q (.ref p) H') : rSlL K (.ref a) (some ((j : Int) + 1)) none H Q := k_slfromR w g (by omega) (by rw [show ((j : Int) + 1).toNat = j + 1 by omega]; exact q)
theorem k_slfromRn {j : Nat} (w : Own L H) (g : SqL K H a (ps.map V.ref)) (q : ∀ p H', Own (pt p (.lst ((ps.drop j).map V.ref)) :: L) H' → Q (.ref p) H') : rSlL K (.ref a) (some (j : Int)) none H Q := k_slfromR w g (by omega) q
theorem k_slfromR1 (w : Own L H) (g : SqL K H a (ps.map V.ref)) (q : ∀ p H', Own (pt p (.lst ((ps.drop 1).map V.ref)) :: L) H' → Q (.ref p) H') : rSlL K (.ref a) (some 1) none H Q := k_slfromR w g (by decide) q
theorem k_sltoRn {j : Nat} (w : Own L H) (g : SqL K H a (ps.map V.ref)) (q : ∀ p H', Own (pt p (.lst ((ps.take j).map V.ref)) :: L) H' → Q (.ref p) H') : rSlL K (.ref a) none (some (j : Int)) H Q := k_sltoR w g (by omega) q
theorem k_sltoR1 (w : Own L H) (g : SqL K H a (ps.map V.ref)) (q : ∀ p H', Own (pt p (.lst ((ps.take 1).map V.ref)) :: L) H' → Q (.ref p) H') : rSlL K (.ref a) none (some 1) H Q := k_sltoR w g (by decide) q
theorem k_slfromIs {j : Nat} (w : Own L H) (g : SqL K H a (ns.map V.int)) (q : ∀ p H', Own (pt p (.lst ((ns.drop (j + 1)).map V.int)) :: L) H' → Q (.ref p) H') : rSlL K (.ref a) (some ((j : Int) + 1)) none H Q := k_slfromI w g (by omega) (by rw [show ((j : Int) + 1).toNat = j + 1 by omega]; exact q)
theorem k_slfromIn {j : Nat} (w : Own L H) (g : SqL K H a (ns.map V.int)) (q : ∀ p H', Own (pt p (.lst ((ns.drop j).map V.int)) :: L) H' → Q (.ref p) H') : rSlL K (.ref a) (some (j : Int)) none H Q := k_slfromI w g (by omega) q
theorem k_slfromI1 (w : Own L H) (g : SqL K H a (ns.map V.int)) (q : ∀ p H', Own (pt p (.lst ((ns.drop 1).map V.int)) :: L) H' → Q (.ref p) H') : rSlL K (.ref a) (some 1) none H Q := k_slfromI w g (by decide) q
theorem k_sltoIn {j : Nat} (w : Own L H) (g : SqL K H a (ns.map V.int)) (q : ∀ p H', Own (pt p (.lst ((ns.take j).map V.int)) :: L) H' → Q (.ref p) H') : rSlL K (.ref a) none (some (j : Int)) H Q := k_sltoI w g (by omega) q
theorem k_sltoI1 (w : Own L H) (g : SqL K H a (ns.map V.int)) (q : ∀ p H', Own (pt p (.lst ((ns.take 1).map V.int)) :: L) H' → Q (.ref p) H') : rSlL K (.ref a) none (some 1) H Q := k_sltoI w g (by decide) q
theorem k_appI (w : Own L H) (p : Put L l (.lst (ns.map V.int)) (.lst ((ns ++ [i]).map V.int)) M) (hz : ns.length < sizeLine) (q : ∀ H', Own M H' → Q .non H') : rAppend (.ref l) [.int i] H Q := k_app w (by rw [List.map_append] at p; exact p) (by rw [List.length_map]; exact hz) q
theorem k_appR (w : Own L H) (p : Put L l (.lst (ps.map V.ref)) (.lst ((ps ++ [r]).map V.ref)) M) (hz : ps.length < sizeLine) (q : ∀ H', Own M H' → Q .non H') : rAppend (.ref l) [.ref r] H Q := k_app w (by rw [List.map_append] at p; exact p) (by rw [List.length_map]; exact hz) q
theorem k_extendI (w : Own L H) (p : Put L l (.lst (ns.map V.int)) (.lst ((ns ++ ms).map V.int)) M) (g : Got L b (.lst (ms.map V.int))) (hz : ns.length + ms.length ≤ sizeLine) (q : ∀ H', Own M H' → Q .non H') : rExtend (.ref l) [.ref b] H Q := k_extend w (by rw [List.map_append] at p; exact p) g (by rw [List.length_map, List.length_map]; exact hz) q
theorem k_pop (w : Own L H) (p : Put L l (.lst xs) (.lst xs.dropLast) M) (h : xs[xs.length - 1]? = some y) (q : ∀ H', Own M H' → Q y H') : rPop (.ref l) [] H Q := ⟨l, xs, y, rfl, rfl, w.putGet p, h, q _ (w.put p)⟩
theorem k_popAt {z : Nat} (w : Own L H) (p : Put L l (.lst xs) (.lst (xs.eraseIdx z)) M) (h0 : -(2 ^ 63) ≤ i) (h1 : i < 2 ^ 63) (hz : seqIndex? i xs.length = some z) (h : xs[z]? = some y) (q : ∀ H', Own M H' → Q y H') : rPopAt (.ref l) [.int i] H Q := ⟨l, xs, i, z, y, rfl, rfl, w.putGet p, h0, h1, hz, h, q _ (w.put p)⟩
theorem k_pop0 (w : Own L H) (p : Put L l (.lst (y :: xs)) (.lst xs) M) (q : ∀ H', Own M H' → Q y H') : rPopAt (.ref l) [.int 0] H Q :=
  k_popAt (z := 0) (xs := y :: xs) w p (by decide) (by decide) (by simp [seqIndex?]) rfl q
def kDelL (D : Ends) (σ : L2.St) (x y : V) (H2 : Hp) : Prop := ∃ (l : Addr) (xs : List V) (i : Int) (k : Nat), x = .ref l ∧ y = .int i ∧ H2 l = some (.lst xs) ∧ -(2 ^ 63) ≤ i ∧ i < 2 ^ 63 ∧ seqIndex? i xs.length = some k ∧ D.nx σ (upd H2 l (.lst (xs.eraseIdx k)))
theorem w_delQ (h : ta σ H fun x H1 => tb σ H1 fun y H2 => kDelL D σ x y H2) : tDelL ta tb D σ H := h
instance (priority := 900) i_w_delQ  : Stp (tDelL ta tb D σ H) (ta σ H fun x H1 => tb σ H1 fun y H2 => kDelL D σ x y H2) := ⟨w_delQ⟩
theorem seqIx {i : Int} {n : Nat} (h0 : 0 ≤ i) (h1 : i < (n : Int)) : seqIndex? i n = some i.toNat := by
  unfold seqIndex?
  simp only [decide_eq_true_eq]
  repeat' split <;> first | rfl | omega | (simp at *; omega)
/-- del xs[i], the i-th of addresses -/
theorem k_delR {i : Int} {j : Nat} (w : Own L H) (e : i = (j : Int)) (h1 : j < ps.length) (h2 : ps.length ≤ 16000000) (p : Put L l (.lst (ps.map V.ref)) (.lst ((ps.eraseIdx j).map V.ref)) M) (q : ∀ H', Own M H' → D.nx σ H') : kDelL D σ (.ref l) (.int i) H :=
  ⟨l, ps.map V.ref, i, j, rfl, rfl, w.putGet p, by omega, by omega, by rw [seqIx (by omega) (by rw [List.length_map]; omega)]; subst e; rfl, by rw [← eraseIdx_map']; exact q _ (w.put p)⟩
theorem k_popAtR {i : Int} {j : Nat} {y : Addr} (w : Own L H) (e : i = (j : Int)) (h2 : ps.length ≤ 16000000) (hy : ps[j]? = some y) (p : Put L l (.lst (ps.map V.ref)) (.lst ((ps.eraseIdx j).map V.ref)) M) (q : ∀ H', Own M H' → Q (.ref y) H') : rPopAt (.ref l) [.int i] H Q := by
  have h1 := (List.getElem?_eq_some_iff.mp hy).1
  exact k_popAt (z := j) w (by rw [eraseIdx_map'] at p; exact p) (by omega) (by omega) (by rw [seqIx (by omega) (by rw [List.length_map]; omega)]; subst e; rfl) (by rw [List.getElem?_map, hy]; rfl) q
theorem k_clear (w : Own L H) (p : Put L l (.lst xs) (.lst []) M) (q : ∀ H', Own M H' → Q .non H') : rClear (.ref l) [] H Q := ⟨l, xs, rfl, rfl, w.putGet p, q _ (w.put p)⟩
theorem k_reverse (w : Own L H) (p : Put L l (.lst xs) (.lst xs.reverse) M) (q : ∀ H', Own M H' → Q .non H') : rReverse (.ref l) [] H Q := ⟨l, xs, rfl, rfl, w.putGet p, q _ (w.put p)⟩
theorem w_ixR {j : Nat} (g : SqL K H a (ps.map V.ref)) (h : ps[j]? = some r) (q : Q (.ref r) H) : rIxL K (.ref a) (.int (j : Int)) H Q := w_ixL g (atI_ref h rfl) q
theorem w_ixR0 (g : SqL K H a (ps.map V.ref)) (h : ps[0]? = some r) (q : Q (.ref r) H) : rIxL K (.ref a) (.int 0) H Q := w_ixL g (atI_ref (a := 0) h rfl) q
theorem w_ixRc (g : SqL K H a ((r :: ps).map V.ref)) (q : Q (.ref r) H) : rIxL K (.ref a) (.int 0) H Q := w_ixL g (atI_ref (a := 0) rfl rfl) q
theorem ix_neg1 {α : Type} {xs : List α} {y : α} (h : xs.getLast? = some y) : atI xs (-1) = some y := by
  have hl : 0 < xs.length := by
    cases xs with
    | nil => cases h
    | cons _ _ => exact Nat.succ_pos _
  unfold atI ixN
  rw [if_neg (by omega)]
  rw [List.getLast?_eq_getElem?] at h
  split
  · show xs[_]? = _
    rw [← h]
    congr 1
    omega
  · omega
theorem w_ixLastR (g : SqL K H a (ps.map V.ref)) (h : ps.getLast? = some r) (q : Q (.ref r) H) : rIxL K (.ref a) (.int (-1)) H Q := w_ixL g (ix_neg1 (by rw [List.getLast?_map, h]; rfl)) q
theorem cut_init {xs : List V} : cutV xs none (some (-1)) = xs.dropLast := by
  have e : HT.sIx xs.length xs.length (some (-1)) = xs.length - 1 := by
    show (if (-1 : Int) < 0 then ((-1 : Int) + (xs.length : Int)).toNat else min (-1 : Int).toNat xs.length) = _
    rw [if_pos (by decide)]
    omega
  unfold cutV
  rw [HT.sIx_none, e, List.drop_zero, Nat.sub_zero, List.dropLast_eq_take]
theorem k_slinitR (w : Own L H) (g : SqL K H a (ps.map V.ref)) (q : ∀ p H', Own (pt p (.lst (ps.dropLast.map V.ref)) :: L) H' → Q (.ref p) H') : rSlL K (.ref a) none (some (-1)) H Q := w_slL g fun p hp => by
  rw [cut_init, ← List.map_dropLast]
  exact q p _ (w.new hp)
theorem k_lst1R (w : Own L H) (q : ∀ p H', Own (pt p (.lst ([r].map V.ref)) :: L) H' → Q (.ref p) H') : kLst Q [.ref r] H := k_lst rfl w q
theorem k_lst1I (w : Own L H) (q : ∀ p H', Own (pt p (.lst ([i].map V.int)) :: L) H' → Q (.ref p) H') : kLst Q [.int i] H := k_lst rfl w q
theorem w_gTup {nn : Nat} {t : TGs} {Qs : L2.St → Hp → Prop} (g : SqT K H a xs) (h : xs.length = nn) (q : t xs σ H Qs) : gTup K nn t (.ref a) σ H Qs := ⟨a, xs, rfl, g, h, q⟩
theorem w_gCons {t : TG} {u : TGs} {Qs : L2.St → Hp → Prop} (q : t v σ H fun σ' H' => u xs σ' H' Qs) : gCons t u (v :: xs) σ H Qs := ⟨v, xs, rfl, q⟩
instance (priority := 900) i_w_gCons {t : TG} {u : TGs} {Qs : L2.St → Hp → Prop} : Stp (gCons t u (v :: xs) σ H Qs) (t v σ H fun σ' H' => u xs σ' H' Qs) := ⟨w_gCons⟩
theorem w_gNil {Qs : L2.St → Hp → Prop} (q : Qs σ H) : gNil [] σ H Qs := ⟨rfl, q⟩
instance (priority := 900) i_w_gNil {Qs : L2.St → Hp → Prop} : Stp (gNil [] σ H Qs) (Qs σ H) := ⟨w_gNil⟩
theorem w_lenLI (g : SqL K H a (ns.map V.int)) (q : Q (.int (ns.length : Int)) H) : gLen K [.ref a] H Q := w_lenL g (by rw [List.length_map]; exact q)
theorem w_lenLR (g : SqL K H a (ps.map V.ref)) (q : Q (.int (ps.length : Int)) H) : gLen K [.ref a] H Q := w_lenL g (by rw [List.length_map]; exact q)
theorem w_ixI (g : SqL K H a (ns.map V.int)) (h0 : 0 ≤ i) (h1 : i < (ns.length : Int)) (q : Q (.int (ns.getD i.toNat 0)) H) : rIxL K (.ref a) (.int i) H Q := w_ixL g (atI_int (a := i.toNat) (by omega) (by omega)) q
theorem emp_len {α : Type} (xs : List α) : (!xs.isEmpty) = decide (0 < xs.length) := by cases xs <;> simp
theorem k_truR {P : Bool → Prop} (g : SqL K H a (ps.map V.ref)) (q : P (decide (0 < ps.length))) : ∃ k, TruV K (.ref a) H k ∧ P k := ⟨_, .inl ⟨_, g, rfl⟩, by rw [emp_len, List.length_map]; exact q⟩
theorem k_truI {P : Bool → Prop} (g : SqL K H a (ns.map V.int)) (q : P (decide (0 < ns.length))) : ∃ k, TruV K (.ref a) H k ∧ P k := ⟨_, .inl ⟨_, g, rfl⟩, by rw [emp_len, List.length_map]; exact q⟩
theorem k_truL {P : Bool → Prop} (g : SqL K H a xs) (q : P (decide (0 < xs.length))) : ∃ k, TruV K (.ref a) H k ∧ P k := ⟨_, .inl ⟨_, g, rfl⟩, by rw [emp_len]; exact q⟩
/-! while -/
def NV (Pv : Nat → L2.St → Hp → Prop) (m : Nat) : L2.St → Hp → Prop := fun σ' H' => ∃ m', m' < m ∧ Pv m' σ' H'
def kWhT (Pv : Nat → L2.St → Hp → Prop) (tb : TS) (D : Ends) (m : Nat) (σ : L2.St) (H1 : Hp) : Prop := ∃ N : L2.St → Hp → Prop, (∀ σ' H', N σ' H' → ∃ m', m' < m ∧ Pv m' σ' H') ∧ tb { D with nx := N, ct := N, bk := D.nx } σ H1
theorem w_whileO {c : TT} {tb : TS} {m0 : Nat} (Pv : Nat → L2.St → Hp → Prop) (h0 : Pv m0 σ H) (hs : ∀ m σ H, Pv m σ H → c σ H fun b H1 => if b = true then kWhT Pv tb D m σ H1 else D.nx σ H1) : tWhile c tb D σ H := ⟨Pv, ⟨m0, h0⟩, hs⟩
theorem k_whT {Pv : Nat → L2.St → Hp → Prop} {tb : TS} {m : Nat} (h : tb { D with nx := NV Pv m, ct := NV Pv m, bk := D.nx } σ H) : kWhT Pv tb D m σ H := ⟨NV Pv m, fun _ _ h => h, h⟩
instance (priority := 900) i_k_whT {Pv : Nat → L2.St → Hp → Prop} {tb : TS} {m : Nat} : Stp (kWhT Pv tb D m σ H) (tb { D with nx := NV Pv m, ct := NV Pv m, bk := D.nx } σ H) := ⟨k_whT⟩
/-! the laws' helpers -/
theorem o_start {n c : Int} (w : Own L H) (q : ∀ p H', Own (Drw p :: L) H' → Q (.ref p) H') : gsStart K [.int c, .int n] H Q EX := c_start fun n p hp => q p _ (w.new hp).drw
theorem o_digit {m : Int} (w : Own L H) (p : Pick L (Drw s) R) (h0 : 0 < m) (h1 : m < 1099511627776) (q : ∀ d H', 0 ≤ d → d < m → Own (Drw s :: R) H' → Q (.int d) H') : gsDigit K [.ref s, .int m] H Q EX := by
  obtain ⟨n, w1⟩ := (w.pick p).ex
  exact c_digit w1.get' h0 h1 fun d n' d0 d1 => q d _ d0 d1 (w1.put .here).drw
/-! comprehensions -/
def PvO (Pv : Nat → List V → List HP → Prop) (D : Addr) (i : Nat) (H' : Hp) : Prop := ∃ A L, Pv i A L ∧ Own (pt D (.lst A) :: L) H'
theorem lc_addO {Pv : Nat → List V → List HP → Prop} {Da : Addr} {i : Nat} {A : List V} (w : Own L H) (p : Pick L (pt Da (.lst A)) R) (hl : A.length < sizeLine) (q : Pv (i + 1) (A ++ [y]) R) : LcAdd Da (PvO Pv Da) i y H := by
  have w1 := w.pick p
  exact ⟨A, w1.get', hl, _, R, q, w1.put .here⟩
theorem lc_skipO {Pv : Nat → List V → List HP → Prop} {Da : Addr} {i : Nat} {A : List V} (w : Own L H) (p : Pick L (pt Da (.lst A)) R) (q : Pv (i + 1) A R) : PvO Pv Da (i + 1) H := ⟨A, R, q, w.pick p⟩
variable {g : TG} {tt : TT} {te : TE} {ws : List Nat} {w₀ : Nat}
/-- over any walk -/
theorem lcO {J : It} {n : Nat} {G : Hp → Prop} {Y : Nat → Hp → V → Hp → Prop} (wk : Walk J n G Y) (Pv : Nat → List V → List HP → Prop) (w : Own L H) (h0 : Pv 0 [] L) (hG : ∀ i A L D H', Pv i A L → Own (pt D (.lst A) :: L) H' → G H')
    (hs : ∀ i x D A L H1 H2, i < n → Pv i A L → Own (pt D (.lst A) :: L) H1 → Y i H1 x H2 → g x (wipe σ ws) H2 fun σ2 H2 => wipe σ2 ws = wipe σ ws ∧ tt σ2 H2 fun b H3 =>
      if b = true then te σ2 H3 fun y H4 => LcAdd D (PvO Pv D) i y H4 else PvO Pv D (i + 1) H3)
    (hd : ∀ D A L H1, Pv n A L → Own (pt D (.lst A) :: L) H1 → Q (.ref D) H1) : rLc J g tt te ws σ H Q :=
  lcG wk (PvO Pv) (fun D hD => ⟨[], L, h0, w.new hD⟩) (fun D i H' ⟨A, L, p, w⟩ => hG i A L D H' p w) (fun i x D H1 H2 hi _ ⟨A, L, p, w⟩ y => hs i x D A L H1 H2 hi p w y) fun D H1 _ ⟨A, L, p, w⟩ => hd D A L H1 p w
theorem lcR1O {n : Nat} (Pv : Nat → List V → List HP → Prop) (w : Own L H) (h0 : Pv 0 [] L) (hj : j = (n : Int)) (hn : n < 16000000)
    (hs : ∀ (i : Nat) D A L H1, i < n → Pv i A L → Own (pt D (.lst A) :: L) H1 → te ((σ.set w₀ none).set w₀ (some (.int (i : Int)))) H1 fun y H4 => LcAdd D (PvO Pv D) i y H4)
    (hd : ∀ D A L H1, Pv n A L → Own (pt D (.lst A) :: L) H1 → Q (.ref D) H1) : rLcR1 (gName w₀) tYes te [w₀] σ Q [.int j] H := by
  subst hj
  refine ⟨(n : Int), rfl, by omega, by omega, lcO walk_range Pv w h0 (fun _ _ _ _ _ _ _ => trivial) ?_ (by rw [Int.toNat_natCast]; exact hd)⟩
  rintro i x D A L H1 H2 hi hP ho ⟨rfl, rfl⟩
  refine ⟨wipe1, ?_⟩
  show te ((σ.set w₀ none).set w₀ (some (.int (0 + (i : Int))))) H2 _
  rw [Int.zero_add]
  exact hs i D A L H2 (by omega) hP ho
theorem lcR1FO {n : Nat} (Pv : Nat → List V → List HP → Prop) (w : Own L H) (h0 : Pv 0 [] L) (hj : j = (n : Int)) (hn : n < 16000000)
    (hs : ∀ (i : Nat) D A L H1, i < n → Pv i A L → Own (pt D (.lst A) :: L) H1 → tt ((σ.set w₀ none).set w₀ (some (.int (i : Int)))) H1 fun b H3 => if b = true then te ((σ.set w₀ none).set w₀ (some (.int (i : Int)))) H3 fun y H4 => LcAdd D (PvO Pv D) i y H4 else PvO Pv D (i + 1) H3)
    (hd : ∀ D A L H1, Pv n A L → Own (pt D (.lst A) :: L) H1 → Q (.ref D) H1) : rLcR1 (gName w₀) tt te [w₀] σ Q [.int j] H := by
  subst hj
  refine ⟨(n : Int), rfl, by omega, by omega, lcO walk_range Pv w h0 (fun _ _ _ _ _ _ _ => trivial) ?_ (by rw [Int.toNat_natCast]; exact hd)⟩
  rintro i x D A L H1 H2 hi hP ho ⟨rfl, rfl⟩
  refine ⟨wipe1, ?_⟩
  have e : (0 : Int) + (i : Int) = (i : Int) := Int.zero_add _
  show tt ((σ.set w₀ none).set w₀ (some (.int (0 + (i : Int))))) H2 (fun b H3 => if b = true then te ((σ.set w₀ none).set w₀ (some (.int (0 + (i : Int))))) H3 fun y H4 => LcAdd D (PvO Pv D) i y H4 else PvO Pv D (i + 1) H3)
  rw [e]
  exact hs i D A L H2 (by omega) hP ho
theorem lcR2O {lo hi : Int} (Pv : Nat → List V → List HP → Prop) (w : Own L H) (h0 : Pv 0 [] L) (hn : -4000000000 < lo ∧ lo < 4000000000 ∧ -4000000000 < hi ∧ hi < 4000000000) (hn2 : hi - lo < 16000000)
    (hs : ∀ (i : Nat) D A L H1, lo + i < hi → Pv i A L → Own (pt D (.lst A) :: L) H1 → te ((σ.set w₀ none).set w₀ (some (.int (lo + (i : Int))))) H1 fun y H4 => LcAdd D (PvO Pv D) i y H4)
    (hd : ∀ D A L H1, Pv (hi - lo).toNat A L → Own (pt D (.lst A) :: L) H1 → Q (.ref D) H1) : rLcR2 (gName w₀) tYes te [w₀] σ Q [.int lo, .int hi] H := by
  refine ⟨lo, hi, rfl, ⟨by omega, by omega, by omega, by omega⟩, lcO walk_range Pv w h0 (fun _ _ _ _ _ _ _ => trivial) ?_ hd⟩
  rintro i x D A L H1 H2 hi hP ho ⟨rfl, rfl⟩
  exact ⟨wipe1, hs i D A L H2 (by omega) hP ho⟩
theorem lcLO {vs : List V} (Pv : Nat → List V → List HP → Prop) (w : Own L H) (h0 : Pv 0 [] L) (hx : ∀ i A L D H', Pv i A L → Own (pt D (.lst A) :: L) H' → SqL K H' a vs)
    (hx0 : SqL K H a vs) (hs : ∀ (i : Nat) x D A L H1, vs[i]? = some x → Pv i A L → Own (pt D (.lst A) :: L) H1 → te ((σ.set w₀ none).set w₀ (some x)) H1 fun y H4 => LcAdd D (PvO Pv D) i y H4)
    (hd : ∀ D A L H1, Pv vs.length A L → Own (pt D (.lst A) :: L) H1 → Q (.ref D) H1) : rLcL K (gName w₀) tYes te [w₀] σ Q (.ref a) H := by
  refine ⟨a, rfl, ⟨_, hx0⟩, lcO walk_list Pv w h0 hx ?_ hd⟩
  rintro i x D A L H1 H2 hi hP ho ⟨rfl, hxi⟩
  exact ⟨wipe1, hs i x D A L H2 hxi hP ho⟩
theorem lcLFO {vs : List V} (Pv : Nat → List V → List HP → Prop) (w : Own L H) (h0 : Pv 0 [] L) (hx : ∀ i A L D H', Pv i A L → Own (pt D (.lst A) :: L) H' → SqL K H' a vs)
    (hx0 : SqL K H a vs) (hs : ∀ (i : Nat) x D A L H1, vs[i]? = some x → Pv i A L → Own (pt D (.lst A) :: L) H1 → tt ((σ.set w₀ none).set w₀ (some x)) H1 fun b H3 =>
      if b = true then te ((σ.set w₀ none).set w₀ (some x)) H3 fun y H4 => LcAdd D (PvO Pv D) i y H4 else PvO Pv D (i + 1) H3)
    (hd : ∀ D A L H1, Pv vs.length A L → Own (pt D (.lst A) :: L) H1 → Q (.ref D) H1) : rLcL K (gName w₀) tt te [w₀] σ Q (.ref a) H := by
  refine ⟨a, rfl, ⟨_, hx0⟩, lcO walk_list Pv w h0 hx ?_ hd⟩
  rintro i x D A L H1 H2 hi hP ho ⟨rfl, hxi⟩
  exact ⟨wipe1, hs i x D A L H2 hxi hP ho⟩
theorem lcTO {vs : List V} (Pv : Nat → List V → List HP → Prop) (w : Own L H) (h0 : Pv 0 [] L) (hx : ∀ i A L D H', Pv i A L → Own (pt D (.lst A) :: L) H' → SqT K H' a vs)
    (hx0 : SqT K H a vs) (hs : ∀ (i : Nat) x D A L H1, vs[i]? = some x → Pv i A L → Own (pt D (.lst A) :: L) H1 → te ((σ.set w₀ none).set w₀ (some x)) H1 fun y H4 => LcAdd D (PvO Pv D) i y H4)
    (hd : ∀ D A L H1, Pv vs.length A L → Own (pt D (.lst A) :: L) H1 → Q (.ref D) H1) : rLcT K (gName w₀) tYes te [w₀] σ Q (.ref a) H := by
  refine ⟨a, rfl, ⟨_, hx0⟩, lcO walk_tup Pv w h0 hx ?_ hd⟩
  rintro i x D A L H1 H2 hi hP ho ⟨rfl, hxi⟩
  exact ⟨wipe1, hs i x D A L H2 hxi hP ho⟩
/-- drawn numbers: [digit(state, m) for k in range(n)] -/
theorem lcDrawO {m : Int} {n : Nat} (w : Own L H) (p : Pick L (Drw s) R) (hj : j = (n : Int)) (hn : n < 16000000) (h0 : 0 < m) 
    (hb : ∀ (i : Nat) H1 n1, H1 s = some (.lst [.int n1]) → te ((σ.set w₀ none).set w₀ (some (.int (i : Int)))) H1 fun y H4 => ∃ d n2, y = .int d ∧ 0 ≤ d ∧ d < m ∧ H4 = upd H1 s (.lst [.int n2]))
    (mono : ∀ (σ : L2.St) H (Q Q' : VK), (∀ y H1, Q y H1 → Q' y H1) → te σ H Q → te σ H Q')
    (hd : ∀ D (ds : List Int) H1, ds.length = n → (∀ d ∈ ds, 0 ≤ d ∧ d < m) → Own (pt D (.lst (ds.map V.int)) :: Drw s :: R) H1 → Q (.ref D) H1) : rLcR1 (gName w₀) tYes te [w₀] σ Q [.int j] H := by
  refine lcR1O (fun i A L => L = Drw s :: R ∧ ∃ ds : List Int, ds.length = i ∧ (∀ d ∈ ds, 0 ≤ d ∧ d < m) ∧ A = ds.map V.int) (w.pick p) ⟨rfl, [], rfl, (fun d hd => by cases hd), rfl⟩ hj hn ?_ ?_
  · rintro i D A L H1 hi ⟨rfl, ds, hl, hds, rfl⟩ ho
    obtain ⟨n1, w1⟩ := ho.swap.ex
    refine mono _ _ _ _ ?_ (hb i H1 n1 w1.get')
    rintro y H4 ⟨d, n2, rfl, d0, d1, rfl⟩
    refine lc_addO ((w1.put .here).drw.swap) .here (by rw [List.length_map]; exact small16l (by omega)) ⟨rfl, ds ++ [d], by rw [List.length_append, hl]; rfl, ?_, by rw [List.map_append]; rfl⟩
    intro z hz
    rcases List.mem_append.mp hz with hz | hz
    · exact hds z hz
    · rw [List.mem_singleton.mp hz]
      exact ⟨d0, d1⟩
  · rintro D A L H1 ⟨rfl, ds, hl, hds, rfl⟩ ho
    exact hd D ds H1 hl hds ho
theorem mono_digit {t1 t2 : TE} {K : PySem.W.Frag} (m1 : ∀ (σ : L2.St) H (Q Q' : VK), (∀ y H1, Q y H1 → Q' y H1) → t1 σ H Q → t1 σ H Q') (m2 : ∀ (σ : L2.St) H (Q Q' : VK), (∀ y H1, Q y H1 → Q' y H1) → t2 σ H Q → t2 σ H Q') :
    ∀ (σ : L2.St) H (Q Q' : VK), (∀ y H1, Q y H1 → Q' y H1) → tCallS (gsDigit K) E (tCons t1 (tCons t2 tNil)) σ H Q → tCallS (gsDigit K) E (tCons t1 (tCons t2 tNil)) σ H Q' := fun σ H Q Q' hq h =>
  m1 σ H _ _ (fun y H1 h => m2 σ H1 _ _ (fun z H2 h => by
    obtain ⟨p, n, m, e, h1, h2, h3, h4⟩ := h
    exact ⟨p, n, m, e, h1, h2, h3, fun d n' a b => hq _ _ (h4 d n' a b)⟩) h) h
theorem mono_var {n : Nat} : ∀ (σ : L2.St) H (Q Q' : VK), (∀ y H1, Q y H1 → Q' y H1) → tVar n σ H Q → tVar n σ H Q' := fun _ _ _ _ hq ⟨v, e, q⟩ => ⟨v, e, hq _ _ q⟩
theorem mono_c {v : V} : ∀ (σ : L2.St) H (Q Q' : VK), (∀ y H1, Q y H1 → Q' y H1) → tC v σ H Q → tC v σ H Q' := fun _ _ _ _ hq q => hq _ _ q
end
end G

/-! the laws' own helpers, once for all laws -/
namespace G
open PySem PySem.Spec PyProof.Rows L2
abbrev GN_law_cell : List Str := ["script", "k"]
abbrev GN_law_start : List Str := ["cell", "k", "prime", "mixed", "number", "turn"]
abbrev GN_law_digit : List Str := ["state", "many", "digit"]
abbrev GN_law_is_integer : List Str := ["told"]
def gt_law_cell (K : PySem.W.Frag) (E : XK) : TS :=
  (tSeq (tIfS (tTest (tOp gLt (tVar 1) (tCB (gLen K) (tCons (tVar 0) tNil))))
  (tRet (tOp (rIxL K) (tVar 0) (tVar 1)))
  tNext)
  (tRet (tC (.int 0))))
def gt_law_start (K : PySem.W.Frag) (E : XK) : TS :=
  (tSeq (tAsg (tC (.int 618970019642690137449562111)) (gName 2))
  (tSeq (tIfS (tTest (tChain gLt gLt (tUn gNeg (tC (.int 1000000000000000000))) (tVar 0) (tC (.int 1000000000000000000))))
  (tSeq (tAsg (tOp gMod (tCB gInt1 (tCons (tOp gAdd (tOp gMul (tVar 0) (tC (.int 2654435761))) (tOp gMul (tOp gAdd (tVar 1) (tC (.int 1))) (tC (.int 6700417)))) tNil)) (tVar 2)) (gName 3))
  (tSeq (tAsg (tC (.int 0)) (gName 4))
  (tSeq (tFor (iRng1 (tCons (tC (.int 4)) tNil)) (gName 5)
  (tSeq (tAsg (tOp gMod (tCB gInt1 (tCons (tOp gAdd (tOp gAdd (tOp gAdd (tOp gMulW (tVar 3) (tVar 3)) (tOp gMul (tC (.int 7)) (tVar 3))) (tVar 1)) (tVar 5)) tNil)) (tVar 2)) (gName 3))
  (tAsg (tOp gAdd (tOp gMulW (tVar 4) (tVar 2)) (tVar 3)) (gName 4))))
  (tRet (tLst (tCons (tVar 4) tNil))))))
  tNext)
  (tRet (tLst (tCons (tVar 0) tNil)))))
def gt_law_digit (K : PySem.W.Frag) (E : XK) : TS :=
  (tSeq (tAsg (tOp gMod (tCB gInt1 (tCons (tOp (rIxL K) (tVar 0) (tC (.int 0))) tNil)) (tVar 1)) (gName 2))
  (tSeq (tAsg (tOp gDivW (tOp (rIxL K) (tVar 0) (tC (.int 0))) (tVar 1)) (gSub (tVar 0) (tC (.int 0)) rSetL))
  (tRet (tVar 2))))
def gt_law_is_integer (K : PySem.W.Frag) (E : XK) : TS :=
  (tRet (tAndV (tCB (rIsi K) (tCons (tVar 0) (tCons (tC (.ty "int")) tNil))) (tNotV (tCB (rIsi K) (tCons (tVar 0) (tCons (tC (.ty "bool")) tNil))))))
section
local macro_rules | `(tactic| wtm_at "g_get") => `(tactic| first | fail)
local macro_rules | `(tactic| wtm_at "g_set") => `(tactic| first | fail)
local macro_rules | `(tactic| wtm_at "g_set2") => `(tactic| first | fail)
local macro_rules | `(tactic| wtm_at "g_mt") => `(tactic| first | fail)
local macro_rules | `(tactic| wtm_at "g_call") => `(tactic| first | fail)
local macro_rules | `(tactic| wtm_at "g_eq") => `(tactic| first | fail)
local macro_rules | `(tactic| wtm_at "g_ne") => `(tactic| first
  | (with_reducible assumption) | (with_reducible exact Ne.symm (by assumption)) | (with_reducible exact ne_of_none (by assumption) (by assumption)) | (with_reducible exact (ne_of_none (by assumption) (by assumption)).symm)
  | fail)
local macro_rules | `(tactic| wtm_at "g_hp") => `(tactic| first
  | (with_reducible assumption) | (with_reducible exact upd_same) | ((with_reducible refine' up_nn ?k1 ?k2); (case k1 => with_reducible assumption); (case k2 => wtm_at "g_hp")) | ((with_reducible refine' up_k' ?k1 ?k2); (case k1 => wtm_at "g_ne"); (case k2 => wtm_at "g_hp"))
  | ((with_reducible refine' up_ko ?k1 ?k2 ?k3); (case k1 => wtm_at "g_hp"); (case k2 => wtm_at "g_hp"); (case k3 => (intro z; cases z)))
  | ((with_reducible refine' ext_get ?k1 ?k2); (case k1 => assumption); (case k2 => wtm_at "g_hp"))
  | ((with_reducible refine' extp_get ?k1 ?k2 ?k3); (case k1 => assumption); (case k2 => wtm_at "g_ne"); (case k3 => wtm_at "g_hp"))
  | ((with_reducible refine' exts_get ?k1 ?k2 ?k3); (case k1 => assumption); (case k2 => wtm_at "g_ni"); (case k3 => wtm_at "g_hp"))
  | fail)
local macro_rules | `(tactic| wtm_at "g_ni") => `(tactic| first
  | (with_reducible assumption) | (with_reducible exact ni_nil)
  | ((with_reducible refine' ni_cons ?k1 ?k2); (case k1 => wtm_at "g_ne"); (case k2 => wtm_at "g_ni"))
  | fail)
local macro_rules | `(tactic| wtm_at "g_mem") => `(tactic| first
  | (with_reducible assumption) | (with_reducible exact mem_hd)
  | ((with_reducible refine' mem_tl ?k1); (case k1 => wtm_at "g_mem"))
  | fail)
local macro_rules | `(tactic| wtm_at "g_sub") => `(tactic| first
  | (with_reducible assumption) | (with_reducible exact SubN.nil)
  | ((with_reducible refine' SubN.inn ?k1 ?k2); (case k1 => wtm_at "g_mem"); (case k2 => wtm_at "g_sub"))
  | ((with_reducible refine' SubN.new ?k1 ?k2); (case k1 => wtm_at "g_nn"); (case k2 => wtm_at "g_sub"))
  | fail)
local macro_rules | `(tactic| wtm_at "g_nn") => `(tactic| first
  | (with_reducible assumption) | ((with_reducible refine' none_up ?k1 ?k2); (case k1 => wtm_at "g_ne"); (case k2 => wtm_at "g_nn")) | ((with_reducible refine' none_dn ?k1); (case k1 => with_reducible assumption))
  | ((with_reducible refine' exts_none ?k1 ?k2); (case k1 => assumption); (case k2 => with_reducible assumption)) | ((with_reducible refine' ext_none ?k1 ?k2); (case k1 => assumption); (case k2 => with_reducible assumption))
  | fail)
local macro_rules | `(tactic| wtm_at "g_ex") => `(tactic| first
  | (with_reducible assumption) | (with_reducible exact Ext.rfl') | (with_reducible exact ExtP.rfl')
  | ((with_reducible refine' ext_up ?k1 ?k2); (case k1 => wtm_at "g_nn"); (case k2 => wtm_at "g_ex"))
  | ((with_reducible refine' ext_put ?k1 ?k2); (case k1 => wtm_at "g_nn"); (case k2 => wtm_at "g_ex"))
  | ((with_reducible refine' ext_via ?k1 ?k2); (case k1 => assumption); (case k2 => wtm_at "g_ex"))
  | ((with_reducible refine' ext_thr ?k1 ?k2 ?k3); (case k2 => assumption); (case k1 => wtm_at "g_nn"); (case k3 => wtm_at "g_ex"))
  | ((with_reducible refine' extp_put ?k1); (case k1 => wtm_at "g_ex"))
  | ((with_reducible refine' extp_up ?k1 ?k2); (case k1 => wtm_at "g_nn"); (case k2 => wtm_at "g_ex"))
  | ((with_reducible refine' extp_putn ?k1 ?k2); (case k1 => wtm_at "g_nn"); (case k2 => wtm_at "g_ex"))
  | ((with_reducible refine' extp_via ?k1 ?k2); (case k1 => assumption); (case k2 => wtm_at "g_ex"))
  | ((with_reducible refine' extp_viae ?k1 ?k2); (case k1 => assumption); (case k2 => wtm_at "g_ex"))
  | ((with_reducible refine' extp_thr ?k1 ?k2 ?k3); (case k2 => assumption); (case k1 => wtm_at "g_nn"); (case k3 => wtm_at "g_ex"))
  | (with_reducible exact ExtS.rfl')
  | ((with_reducible refine' exts_up ?k1 ?k2); (case k1 => wtm_at "g_nn"); (case k2 => wtm_at "g_ex"))
  | ((with_reducible refine' exts_put ?k1 ?k2); (case k1 => wtm_at "g_sub"); (case k2 => wtm_at "g_ex"))
  | ((with_reducible refine' exts_thrE ?k1 ?k2); (case k1 => assumption); (case k2 => wtm_at "g_ex"))
  | ((with_reducible refine' exts_thrP ?k1 ?k2 ?k3 ?k4); (case k1 => assumption); (case k2 => assumption); (case k3 => wtm_at "g_sub"); (case k4 => wtm_at "g_ex"))
  | ((with_reducible refine' exts_thr ?k1 ?k2 ?k3); (case k1 => assumption); (case k2 => wtm_at "g_sub"); (case k3 => wtm_at "g_ex"))
  | fail)
local macro_rules | `(tactic| wtm_at "g_thw") => `(tactic| first
  | (with_reducible assumption) | ((with_reducible refine' Thw.lst ?k1); (case k1 => wtm_at "g_hp")) | ((with_reducible refine' Thw.ins ?k1); (case k1 => wtm_at "g_hp"))
  | fail)
local macro_rules | `(tactic| wtm_at "g_sc") => `(tactic| first
  | (with_reducible assumption) | ((with_reducible refine' scr_new' ?k1 ?k2); (case k1 => wtm_at "g_nn"); (case k2 => wtm_at "g_sc")) | ((with_reducible refine' scr_put' ?k1 ?k2); (case k1 => wtm_at "g_thw"); (case k2 => wtm_at "g_sc"))
  | ((with_reducible refine' scr_ext ?k1 ?k2); (case k1 => assumption); (case k2 => wtm_at "g_sc")) | ((with_reducible refine' scr_extp ?k1 ?k2 ?k3); (case k1 => assumption); (case k2 => wtm_at "g_thw"); (case k3 => wtm_at "g_sc")) | ((with_reducible refine' scr_extn ?k1 ?k2 ?k3); (case k1 => assumption); (case k2 => wtm_at "g_nn"); (case k3 => wtm_at "g_sc"))
  | fail)
local macro_rules | `(tactic| wtm_at "g_sq") => `(tactic| first
  | (with_reducible assumption) | ((with_reducible refine' SqL.of ?k1); (case k1 => wtm_at "g_hp")) | ((with_reducible refine' Scr.sq ?k1); (case k1 => wtm_at "g_sc")) | ((with_reducible refine' sq_new' ?k1 ?k2); (case k1 => wtm_at "g_nn"); (case k2 => wtm_at "g_sq")) | ((with_reducible refine' sq_put' ?k1 ?k2); (case k1 => wtm_at "g_ne"); (case k2 => wtm_at "g_sq"))
  | ((with_reducible refine' sq_ext ?k1 ?k2); (case k1 => assumption); (case k2 => wtm_at "g_sq"))
  | fail)
local macro_rules | `(tactic| wtm_at "g_sqt") => `(tactic| first
  | (with_reducible assumption) | ((with_reducible refine' SqT.of' ?k1); (case k1 => wtm_at "g_hp")) | ((with_reducible refine' sqt_ext ?k1 ?k2); (case k1 => assumption); (case k2 => wtm_at "g_sqt"))
  | fail)
local macro_rules | `(tactic| wtm_at "g_st") => `(tactic| first
  | (with_reducible first
      | refine w_seq ?_ | refine w_asg ?_ | refine w_nm ?_ | refine w_next ?_ | refine w_if ?_ | refine w_ret ?_ | refine w_retN ?_ | refine w_drop ?_
      | refine w_var rfl ?_ | refine w_c ?_ | refine w_op ?_ | refine w_I0 ?_
      | refine w_eqI ?_ | refine w_neI ?_ | refine w_eqB ?_ | refine w_neB ?_ | refine w_eqS ?_ | refine w_neS ?_ | refine w_isN0 ?_ | refine w_isNi ?_ | refine w_isNr ?_ | refine w_isNb ?_ | refine w_isNs ?_ | refine w_notN0 ?_ | refine w_notNi ?_ | refine w_notNr ?_ | refine w_notNb ?_ | refine w_notNs ?_ | refine w_isN ?_ | refine w_notN ?_ | refine w_isB ?_ | refine w_notB ?_
      | refine w_un ?_ | refine w_U ?_ | refine w_chain ?_ | refine w_k ?_ | refine w_test ?_ | refine w_tB ?_ | refine w_tru ?_ | refine w_not ?_ | refine w_and ?_ | refine w_or ?_
      | refine w_andV ?_ | refine w_orV ?_ | refine w_notV ?_ | refine w_ife ?_ | refine w_nil ?_ | refine w_cons ?_ | refine w_tup ?_ | refine w_lst ?_ | refine w_small rfl ?_
      | refine w_call ?_ | refine w_mk ?_ | refine w_mt ?_ | refine w_cb ?_ | refine w_min2 ?_ | refine w_max2 ?_ | refine w_abs ?_ | refine w_int ?_
      | refine w_fld0 ?_ | refine w_bm ?_ | refine w_bm0 ?_ | refine w_sub ?_ | refine w_sfld ?_ | refine w_sfa ?_ | refine w_radd ?_ | refine w_rsub ?_ | refine w_ip ?_ | refine w_rs ?_ | refine w_pr ?_
      | refine w_lcR1 ?_ | refine w_lcR2 ?_ | refine w_lcL ?_ | refine w_lcT ?_ | refine w_yes ?_ | refine w_disp ?_ | refine w_prs ?_ | refine w_prn ?_ | refine w_dget ?_ | refine w_sl ?_ | refine w_nopart ?_ | refine w_part ?_ | refine w_pint ?_
      | refine w_for3 ?_ | refine w_mkK ?_ | refine w_forR1 ?_ | refine w_forR2 ?_ | refine w_forL ?_ | refine w_forT ?_ | refine w_aug rfl ?_ | refine w_par ?_ | refine w_brk ?_ | refine w_cont ?_
      | refine w_isi_ii ?_ | refine w_isi_ib ?_ | refine w_isi_bi ?_ | refine w_isi_bb ?_ | refine w_isi_ss ?_ | refine w_isi_is ?_ | refine w_isi_il ?_ | refine w_isi_it ?_ | refine w_isi_sl ?_ | refine w_isi_st ?_ | refine w_isi_nl ?_ | refine w_isi_nt ?_
      | refine if_T ?_ | refine if_F ?_ | refine if_nT ?_ | refine if_nF ?_)
  | ((with_reducible refine' w_lenL ?k1 ?_); (case k1 => wtm_at "g_sq"))
  | ((with_reducible refine' w_lenT ?k1 ?_); (case k1 => wtm_at "g_sqt"))
  | ((with_reducible refine' w_isi_ll ?k1 ?_); (case k1 => wtm_at "g_hp"))
  | ((with_reducible refine' w_isi_tt ?k1 ?_); (case k1 => wtm_at "g_hp"))
  | ((with_reducible refine' w_isi_lt ?k1 ?_); (case k1 => wtm_at "g_hp"))
  | ((with_reducible refine' w_isi_tl ?k1 ?_); (case k1 => wtm_at "g_hp"))
  | ((with_reducible refine' w_ll ?k1 ?k2 ?_); (case k1 => rfl); (case k2 => rfl))
  | wtm_at "g_get"
  | wtm_at "g_mt"
  | wtm_at "g_set"
  | wtm_at "g_set2"
  | wtm_at "g_call"
  | fail)
local macro_rules | `(tactic| wtm_at "g_go") => `(tactic| repeat wtm_at "g_st")
local macro_rules | `(tactic| wtm_at "g_ifo") => `(tactic| first
  | (refine if_nno rfl ?_) | (refine if_yes rfl ?_)
  | (refine if_no (by omega) ?_)
  | (refine if_yes (by omega) ?_)
  | (refine if_nno (by omega) ?_)
  | (refine if_nyes (by omega) ?_)
  | (refine if_nno (decide_eq_false (by omega)).symm ?_)
  | (refine if_nno (decide_eq_true (by omega)).symm ?_)
  | fail)
local macro_rules | `(tactic| wtm_at "g_goo") => `(tactic| repeat (first | wtm_at "g_st" | wtm_at "g_ifo"))
section
variable {K : PySem.W.Frag} {mg : Str → Option Value} {base : Heap}
theorem g_law_cell (vs : List V) (H : Hp) (Q : VK) (E : XK) (h : gsCell K vs H Q E) : gt_law_cell K E { nx := fun _ H' => Q .non H', rt := Q } (start GN_law_cell vs) H := by
  obtain ⟨a, ns, k, rfl, hS, h0, q⟩ := h
  unfold gt_law_cell
  wtm_at "g_go"
  rw [List.length_map]
  refine if_d (fun hk => ?_) (fun hk => ?_)
  · wtm_at "g_go"
    obtain ⟨z, hz⟩ : ∃ z, ns[k.toNat]? = some z := ⟨ns[k.toNat], List.getElem?_eq_getElem (by omega)⟩
    refine w_ixL hS (at_of (j := k.toNat) (v := V.int z) (by omega) (by rw [List.getElem?_map, hz]; rfl)) (q z)
  · wtm_at "g_go"
    exact q 0
theorem g_law_digit (vs : List V) (H : Hp) (Q : VK) (E : XK) (h : gsDigit K vs H Q E) : gt_law_digit K E { nx := fun _ H' => Q .non H', rt := Q } (start GN_law_digit vs) H := by
  obtain ⟨p, n, m, rfl, hp, h0, h1, q⟩ := h
  unfold gt_law_digit
  wtm_at "g_go"
  refine w_ixL (SqL.of hp) (v := .int n) rfl ?_
  wtm_at "g_go"
  refine w_I h0 ?_
  wtm_at "g_go"
  refine w_ixL (SqL.of hp) (v := .int n) rfl ?_
  wtm_at "g_go"
  refine w_I (digit_div h0 h1 _) ?_
  wtm_at "g_go"
  refine w_setL hp (j := 0) rfl ?_
  wtm_at "g_go"
  exact q _ _ (Int.emod_nonneg _ (by omega)) (Int.emod_lt_of_pos _ h0)
theorem g_law_start (vs : List V) (H : Hp) (Q : VK) (E : XK) (h : gsStart K vs H Q E) : gt_law_start K E { nx := fun _ H' => Q .non H', rt := Q } (start GN_law_start vs) H := by
  obtain ⟨c, k, rfl, q⟩ := h
  unfold gt_law_start
  wtm_at "g_go"
  refine if_d (fun h1 => ?_) (fun h1 => ?_)
  · wtm_at "g_go"
    refine if_d (fun h2 => ?_) (fun h2 => ?_)
    · wtm_at "g_go"
      refine w_I (.inr (by decide)) ?_
      wtm_at "g_go"
      refine w_I (.inr (by decide)) ?_
      wtm_at "g_go"
      refine w_I (by decide) ?_
      wtm_at "g_go"
      refine loop1 (n := 4) (fun i σ H' => H' = H ∧ ∃ (m n : Int) (v : Option V), σ = [some (.int c), some (.int k), some (.int 618970019642690137449562111), some (.int m), some (.int n), v] ∧ 0 ≤ m ∧ m < 618970019642690137449562111 ∧ 0 ≤ n ∧ n < (618970019642690137449562111 : Int) ^ i) rfl (by decide)
        ⟨rfl, _, _, _, rfl, Int.emod_nonneg _ (by decide), Int.emod_lt_of_pos _ (by decide), by decide, by decide⟩ ?_ ?_
      · rintro i σ H' hi ⟨rfl, m, n, v, rfl, m0, m1, n0, n1⟩
        obtain ⟨b1, b2⟩ := pr_pow i hi
        have e3 : (618970019642690137449562111 : Int) < 618970019642690137449562111 ^ 3 + 1 := by decide +kernel
        wtm_at "g_go"
        refine w_I (wide_mul (a := 300) (b := 300) (small_w m0 (Int.lt_trans m1 e3)) (small_w m0 (Int.lt_trans m1 e3)) (by decide) (by decide) (by decide)) ?_
        wtm_at "g_go"
        refine w_I (.inl (by decide)) ?_
        wtm_at "g_go"
        refine w_I (by decide) ?_
        wtm_at "g_go"
        refine w_I (wide_mul (a := 300) (b := 300) (small_w n0 (Int.lt_trans n1 b1)) (small_w (by decide) e3) (by decide) (by decide) (by decide)) ?_
        wtm_at "g_go"
        refine ⟨rfl, _, _, _, rfl, Int.emod_nonneg _ (by decide), Int.emod_lt_of_pos _ (by decide), ?_⟩
        rw [Int.pow_succ]
        exact num_step n0 n1 (Int.emod_nonneg _ (by decide)) (Int.emod_lt_of_pos _ (by decide))
      · rintro σ H' ⟨rfl, m, n, v, rfl, m0, m1, n0, n1⟩
        wtm_at "g_go"
        exact q n
    · wtm_at "g_go"
      exact q c
  · wtm_at "g_go"
    exact q c
end
section
variable {K : PySem.W.Frag} {mg : Str → Option Value} {base : Heap}
theorem g_law_is_integer (vs : List V) (H : Hp) (Q : VK) (E : XK) (h : gsIsInt K vs H Q E) : gt_law_is_integer K E { nx := fun _ H' => Q .non H', rt := Q } (start GN_law_is_integer vs) H := by
  obtain ⟨x, rfl, ⟨i, rfl, q⟩ | ⟨i, rfl, q⟩⟩ := h
  · unfold gt_law_is_integer
    wtm_at "g_go"
    exact q
  · unfold gt_law_is_integer
    wtm_at "g_go"
    exact q
end
end
end G

/-! a op b op c op d as a test -/
namespace G
open PySem PySem.Spec PyProof.Rows L2
def tChain3 (r r' r2 : R2) (ta tb tc td : TE) : TE := fun σ H Q => ta σ H fun x H1 => tb σ H1 fun y H2 => r x y H2 fun z H3 => ∃ k, z = .bl k ∧
  (if k = true then tc σ H3 fun u H4 => r' y u H4 fun z' H5 => ∃ k', z' = .bl k' ∧ (if k' = true then td σ H5 fun v H6 => r2 u v H6 Q else Q (.bl false) H5) else Q (.bl false) H3)
section
variable {X : Cx} {a b c d : Expr} {pos : Pos} {ta tb tc td : TE}
theorem pt_chain3 {op op' op2 : CmpOp} {r r' r2 : R2} (ho : OpR X (compareOp op) r) (ho' : OpR X (compareOp op') r') (ho2 : OpR X (compareOp op2) r2) (ha : PE X a ta) (hb : PE X b tb) (hc : PE X c tc) (hd : PE X d td)
    (hm : lastMarks [op, op', op2] [b, c, d] = false := by with_unfolding_all rfl) : PT X (.Compare a [op, op', op2] [b, c, d] pos) (tTest (tChain3 r r' r2 ta tb tc td)) := by
  refine ⟨fun pins s σ H Q I h => ?_⟩
  refine isTrue_chain (thn (ha.run pins s σ H _ I h) fun v s1 ⟨x, H1, I1, r1, q1⟩ => test_link (thn (hb.run pins s1 σ H1 _ I1 q1) fun u s2 ⟨y, H2, I2, r2, q2⟩ =>
    thn (ho pins s2 σ H2 x y v u _ I2 r1 r2 q2) fun d s3 ⟨z, H3, I3, r3, k, e, q3⟩ => ?_)) hm
  subst e
  cases r3
  refine wpAny_truthy_bool ?_
  cases k with
  | false =>
    obtain ⟨k', e', q'⟩ := q3
    cases e'
    exact ite_ff ⟨H3, I3, q'⟩
  | true =>
    refine ite_tt (test_link (thn (hc.run pins s3 σ H3 _ I3 q3) fun w' s4 ⟨z', H4, I4, r4, q4⟩ => thn (ho' pins s4 σ H4 y z' u w' _ I4 r2 r4 q4) fun d' s5 ⟨z2, H5, I5, r5, k2, e2, q5⟩ => ?_))
    subst e2
    cases r5
    refine wpAny_truthy_bool ?_
    cases k2 with
    | false =>
      obtain ⟨k', e', q'⟩ := q5
      cases e'
      exact ite_ff ⟨H5, I5, q'⟩
    | true =>
      refine ite_tt (test_last (thn (hd.run pins s5 σ H5 _ I5 q5) fun w2 s6 ⟨z6, H6, I6, r6, q6⟩ => thn (ho2 pins s6 σ H6 z' z6 w' w2 _ I6 r4 r6 q6) fun d2 s7 ⟨z7, H7, I7, r7, k7, e7, q7⟩ => ?_))
      subst e7
      cases r7
      exact wpAny_truthy_bool ⟨H7, I7, q7⟩
theorem pe_chain3 {op op' op2 : CmpOp} {r r' r2 : R2} (ho : OpR X (compareOp op) r) (ho' : OpR X (compareOp op') r') (ho2 : OpR X (compareOp op2) r2) (ha : PE X a ta) (hb : PE X b tb) (hc : PE X c tc) (hd : PE X d td)
    (hm : lastMarks [op, op', op2] [b, c, d] = false := by with_unfolding_all rfl) : PE X (.Compare a [op, op', op2] [b, c, d] pos) (tChain3 r r' r2 ta tb tc td) := by
  refine ⟨fun pins s σ H Q I h => ?_⟩
  refine Compare_chain (thn (ha.run pins s σ H _ I h) fun v s1 ⟨x, H1, I1, r1, q1⟩ => chain_link (thn (hb.run pins s1 σ H1 _ I1 q1) fun u s2 ⟨y, H2, I2, r2, q2⟩ =>
    thn (ho pins s2 σ H2 x y v u _ I2 r1 r2 q2) fun d s3 ⟨z, H3, I3, r3, k, e, q3⟩ => ?_)) hm
  subst e
  cases r3
  refine wpAny_truthy_bool ?_
  cases k with
  | false => exact ite_ff ⟨.bl false, H3, I3, rfl, q3⟩
  | true =>
    refine ite_tt (chain_link (thn (hc.run pins s3 σ H3 _ I3 q3) fun w' s4 ⟨z', H4, I4, r4, q4⟩ => thn (ho' pins s4 σ H4 y z' u w' _ I4 r2 r4 q4) fun d' s5 ⟨z2, H5, I5, r5, k2, e2, q5⟩ => ?_))
    subst e2
    cases r5
    refine wpAny_truthy_bool ?_
    cases k2 with
    | false => exact ite_ff ⟨.bl false, H5, I5, rfl, q5⟩
    | true => exact ite_tt (chain_last (thn (hd.run pins s5 σ H5 _ I5 q5) fun w2 s6 ⟨z6, H6, I6, r6, q6⟩ => ho2 pins s6 σ H6 z' z6 w' w2 Q I6 r4 r6 q6))
theorem w_chain3 {σ : L2.St} {H : Hp} {Q : VK} {r r' r2 : R2} (h : ta σ H fun x H1 => tb σ H1 fun y H2 => r x y H2 fun z H3 => ∃ k, z = .bl k ∧
  (if k = true then tc σ H3 fun u H4 => r' y u H4 fun z' H5 => ∃ k', z' = .bl k' ∧ (if k' = true then td σ H5 fun v H6 => r2 u v H6 Q else Q (.bl false) H5) else Q (.bl false) H3)) : tChain3 r r' r2 ta tb tc td σ H Q := h
end
end G

/-! sorted: tuples that their first items, ints, tell apart -/
namespace SrtO
open PySem PySem.Spec PyProof.Rows Srt
section
variable {prog : Program} {w : World} {A : Around} {E : Value → Shared → Prop} {s : Shared}
theorem eqBool_self {v : Value} {Q : Bool → Shared → Prop} (h : Q true s) : wpAny (model prog w) A (eqBool v v) Q E s := by
  unfold eqBool
  refine wpAny_holding ?_
  refine wpAny_ite_split (fun _ => ?_) (fun e => absurd (beq_self_eq_true v) e)
  exact wpAny_bind (wpAny_rule (wpAny_pure h))
theorem kat_same {b fin : Bool} {Q : Bool → Shared → Prop} (h : Q fin s) : ∀ (l : List Value) (i : Nat), PySem.W.KatLex prog w A b fin Q (l.zip l) i s
  | [], _ => PySem.W.kat_nil h
  | v :: l, i => PySem.W.kat_cons (eqBool_self (PySem.W.kat_yes (kat_same h l (i + 1))))
def IsKey (h : Heap) (v : Value) (x : Int) : Prop := ∃ a o t xs tl n, v = .ref a ∧ h.get? a = some o ∧ o.cls = .type "tuple" ∧ o.data = .seq xs n ∧ xs.toList = .int x t :: tl
theorem IsKey.keeps {h h' : Heap} {v : Value} {x : Int} (p : IsKey h v x) (k : ∀ b o, h.get? b = some o → o.cls = .type "tuple" → h'.get? b = some o) : IsKey h' v x := by
  obtain ⟨a, o, t, xs, tl, n, e, ho, hc, hd⟩ := p
  exact ⟨a, o, t, xs, tl, n, e, k _ _ ho hc, hc, hd⟩
theorem swo_key (k : Value → Int) : Swo fun v u => decide (k v < k u) := by
  refine ⟨fun x y h => ?_, fun x y z h1 h2 => ?_⟩
  · have a := of_decide_eq_true h
    exact decide_eq_false (by omega)
  · have a := of_decide_eq_false h1
    have b := of_decide_eq_false h2
    exact decide_eq_false (by omega)
theorem key_cmp {vs : List Value} {k : Value → Int} (hp : ∀ v ∈ vs, IsKey s.heap v (k v)) (inj : ∀ v ∈ vs, ∀ u ∈ vs, k v = k u → v = u) : Cmp prog w A s (tuples' true) (fun p => p.1 ∈ vs) (lt2 fun v u => decide (k v < k u)) := by
  intro p q hm hm'
  show wpAny (model prog w) A (keyLt' (tuples' true) p.1 q.1) (fun r s' => s' = s ∧ r = decide (k p.1 < k q.1)) (fun _ _ => False) s
  by_cases e : k p.1 = k q.1
  · have ev := inj _ hm _ hm' e
    obtain ⟨a, o, t, xs, tl, n, e1, ho, hc, hd, hx⟩ := hp _ hm
    rw [← ev, e1]
    refine PySem.W.kat_lt ho hd ho hd ?_
    refine kat_same ?_ _ _
    exact ⟨rfl, by rw [decide_eq_false (Nat.lt_irrefl _), decide_eq_false (Int.lt_irrefl _)]⟩
  · obtain ⟨a, o, t, xs, tl, n, e1, ho, hc, hd, hx⟩ := hp _ hm
    obtain ⟨a', o', t', xs', tl', n', e1', ho', hc', hd', hx'⟩ := hp _ hm'
    generalize k p.1 = i at *
    generalize k q.1 = j at *
    rw [e1, e1']
    refine PySem.W.kat_lt ho hd ho' hd' ?_
    rw [hx, hx']
    show PySem.W.KatLex prog w A true _ _ ((Value.int i t, Value.int j t') :: tl.zip tl') 0 s
    refine PySem.W.kat_cons (SeqAt.EqAt.int_int i t j t' prog w _ _ ?_)
    refine PySem.W.kat_go (fun e1 => absurd (show i = j by simpa using e1) e) (fun e1 => ?_)
    exact PySem.W.kat_no (oneLt_int ⟨rfl, rfl⟩)
theorem keyfirsts_of {h : Heap} {k : Value → Int} : ∀ {vs : List Value}, (∀ v ∈ vs, IsKey h v (k v)) → ∃ fs : List Value, PySem.W.KatTups h vs fs ∧ fs.length = vs.length ∧ ∀ f ∈ fs, ∃ x t, f = Value.int x t
  | [], _ => ⟨[], PySem.W.KatTups.nil, rfl, fun _ hm => by simp at hm⟩
  | v :: vs, hp => by
    obtain ⟨fs, h1, h2, h3⟩ := keyfirsts_of (vs := vs) fun v' hm => hp v' (List.mem_cons_of_mem _ hm)
    obtain ⟨a, o, t, xs, tl, n, e, ho, hc, hd, hx⟩ := hp v (List.mem_cons_self ..)
    rw [e]
    refine ⟨.int (k v) t :: fs, PySem.W.KatTups.cons ho hc hd ?_ h1, by rw [List.length_cons, List.length_cons, h2], fun f hm => ?_⟩
    · have z := congrArg (fun l : List Value => l[0]?) hx
      simpa using z
    · rcases List.mem_cons.mp hm with rfl | hm
      · exact ⟨_, t, rfl⟩
      · exact h3 f hm
theorem key_sortableO {a : Addr} {vs : List Value} {k : Value → Int} (h0 : 0 < vs.length) (hp : ∀ v ∈ vs, IsKey s.heap v (k v)) (inj : ∀ v ∈ vs, ∀ u ∈ vs, k v = k u → v = u) (ha : ∀ o, s.heap.get? a = some o → o.cls ≠ .type "tuple") : SortableO prog w A s a vs fun v u => decide (k v < k u) := by
  intro h' keep
  have hp' : ∀ v ∈ vs, IsKey h' v (k v) := fun v hm => (hp v hm).keeps fun b o e c => keep b o (fun z => by subst z; exact ha o e c) e
  obtain ⟨fs, h1, h2, h3⟩ := keyfirsts_of hp'
  refine ⟨tuples' true, fun Q E hq => ?_, key_cmp hp' inj⟩
  refine PySem.W.kat_kind (T := .type "int") h1 (by omega) (fun f hm => ?_) (by rfl) ?_
  · obtain ⟨x, t, rfl⟩ := h3 f hm
    exact PySem.W.Looks.now
  · have e : (Value.type "int" != Value.type "tuple") = true := by first | decide +kernel | rfl | decide
    rw [e]
    exact hq
theorem sorted_keyO {l : Addr} {vs : List Value} {k : Value → Int} {Q : Value → Shared → Prop} (hl : s.heap.IsList l vs.toArray) (hz : vs.length ≤ sizeLine) (hp : ∀ v ∈ vs, IsKey s.heap v (k v)) (inj : ∀ v ∈ vs, ∀ u ∈ vs, k v = k u → v = u)
    (h : ∀ (h' : Heap) (d : Addr) (out : List Value), Srtd (fun v u => decide (k v < k u)) out → Stb (fun v u => decide (k v < k u)) out vs → (∀ b o, s.heap.get? b = some o → h'.get? b = some o) → s.heap.objs.size ≤ d → (∃ n, h'.get? d = some (seqObj "list" out.toArray n)) → Q (.ref d) { s with heap := h' }) :
    wpAny (model prog w) A (call (.builtin "sorted") [.ref l]) Q E s := by
  refine sorted_ord (swo_key k) hl hz (fun h2 h₁ a ha kk => ?_) fun out hs hb => ?_
  · refine key_sortableO (s := { s with heap := h₁ }) (by omega) (fun v hm => (hp v hm).keeps fun b o e _ => (kk b o e).2) inj fun o e => ?_
    have e' : some o = some (seqObj "list" vs.toArray 0) := e.symm.trans ha
    cases e'
    intro c
    exact absurd (Value.type.inj c) (by decide)
  · exact h _ _ out hs hb (fun b o e => sortedAll_old e) (Nat.le_succ _) (sortedAll_at s.heap vs out.toArray)
end
end SrtO
namespace G
open PySem PySem.Spec PyProof.Rows L2
theorem units65 {k : Nat} {A : Around} (r : Room k A) : A.units + 65 < cLine := by
  have := r.un
  omega
/-- sorted(xs): xs are tuples that their first items, ints, tell apart -/
def rSortedD (K : PySem.W.Frag) : List V → Hp → VK → Prop := fun vs H Q => ∃ (a : Addr) (xs : List V) (k : V → Int), vs = [V.ref a] ∧ SqL K H a xs ∧ (∀ x ∈ xs, ∃ t tl, x = V.ref t ∧ H t = some (.tup (.int (k x) :: tl))) ∧ (∀ x ∈ xs, ∀ y ∈ xs, k x = k y → x = y) ∧
  ∀ ys p, ys.Pairwise (fun x y => k x ≤ k y) → ys.Perm xs → H p = none → Q (.ref p) (upd H p (.lst ys))
theorem cr_sortedD {X : Cx} : CallR X (.builtin "sorted") (rSortedD X.K) := by
  intro pins s σ H vs us Q I r h
  obtain ⟨a, xs, k, rfl, hs, hx, hj, q⟩ := h
  obtain ⟨its, rv, hl, hz⟩ := I.list hs
  obtain ⟨u, rfl, ru⟩ := vals1 r
  obtain rfl : u = Value.ref a := ru
  obtain ⟨e1, e2⟩ := refs_back rv fun x m => by
    obtain ⟨t, _, e, _⟩ := hx x m
    exact ⟨t, e⟩
  refine SrtO.sorted_keyO (k := fun u => k (backV u)) hl.isList (by rw [← rv.length]; exact hz) (fun v hv => ?_) (fun v hv u hu e => ?_) fun h' d out h1 h2 kp hd hn => ?_
  · obtain ⟨t, rfl⟩ := e2 v hv
    have hm : V.ref t ∈ xs := by rw [e1]; exact List.mem_map.mpr ⟨_, hv, rfl⟩
    obtain ⟨t', tl, e, ht⟩ := hx _ hm
    cases e
    obtain ⟨_, its2, r2, o, ho, hc, n, hd⟩ := I.hok _ _ ht
    cases r2 with
    | cons ri rt =>
      obtain ⟨t1, rfl⟩ := ri
      exact ⟨t, o, t1, _, _, n, rfl, ho, hc, hd, rfl⟩
  · have m1 : backV v ∈ xs := by rw [e1]; exact List.mem_map.mpr ⟨_, hv, rfl⟩
    have m2 : backV u ∈ xs := by rw [e1]; exact List.mem_map.mpr ⟨_, hu, rfl⟩
    obtain ⟨a1, rfl⟩ := e2 v hv
    obtain ⟨a2, rfl⟩ := e2 u hu
    have := hj _ m1 _ m2 e
    cases this
    rfl
  · have h3 : ∀ u ∈ out, ∃ a, u = Value.ref a := fun u hu => e2 u (h2.perm.mem_iff.mp hu)
    obtain ⟨n, hn⟩ := hn
    refine ⟨.ref d, upd H d (.lst (out.map backV)), I.laid (t' := s.toks) kp hd ⟨?_, out, n, vals_back h3, hn⟩, rfl, q _ d ?_ ?_ (I.hok.fresh hd)⟩
    · rw [List.length_map, h2.perm.length_eq, ← rv.length]; exact hz
    · refine List.pairwise_map.mpr (h1.imp fun {x y} h => ?_)
      have := of_decide_eq_false h
      omega
    · rw [e1]; exact h2.perm.map backV
end G

/-! comprehensions over a list whose rows are claims -/
namespace G
open PySem PySem.Spec PyProof.Rows L2
theorem mra {ps : List Addr} {i : Nat} {x : V} (h : (ps.map V.ref)[i]? = some x) : ∃ p, ps[i]? = some p ∧ V.ref p = x := by
  rw [List.getElem?_map] at h
  cases e : ps[i]? with
  | none => rw [e] at h; cases h
  | some p => rw [e] at h; cases h; exact ⟨p, rfl, rfl⟩
theorem aol {α β : Type} {as : List α} {bs : List β} {i : Nat} {a : α} (h : as[i]? = some a) (l : as.length = bs.length) : ∃ b, bs[i]? = some b := by
  have := (List.getElem?_eq_some_iff.mp h).1
  exact ⟨bs[i]'(by omega), List.getElem?_eq_getElem (by omega)⟩
theorem fltT {α : Type} {P : α → Bool} {xs : List α} {i : Nat} {x : α} (h : xs[i]? = some x) : (xs.take (i + 1)).filter P = (xs.take i).filter P ++ if P x = true then [x] else [] := by
  rw [List.take_add_one, h, List.filter_append]
  congr 1
  show [x].filter P = _
  rw [List.filter_cons, List.filter_nil]
theorem filter_tt {α : Type} (xs : List α) : xs.filter (fun _ => true) = xs := List.filter_eq_self.mpr fun _ _ => rfl
section
variable {K : PySem.W.Frag} {l : Addr} {L L1 R : List HP} {H : Hp} {Q : VK} {σ : L2.St} {c : Bool} {g : TG} {tt : TT} {te : TE} {ws : List Nat} {β γ : Type} {F : Addr → β → HP} {G : Addr → γ → HP} {ps : List Addr} {xs : List β}
/-- the heap stays -/
theorem lcSel (P : β → Bool) (gv : β → V) (hn : xs.length ≤ 1000000) (w : Own L H) (p1 : Pick L (cell c l (.lst (ps.map V.ref))) L1) (p2 : Pick L1 (big F ps xs) R)
    (ht : ∀ (i : Nat) (a : Addr) (x : β) (H1 : Hp) (X : HP) (B0 : Hp → Prop) (B1 : VK), ps[i]? = some a → xs[i]? = some x → Own (X :: cell c l (.lst (ps.map V.ref)) :: big F ps xs :: R) H1 →
      (P x = false → B0 H1) → (P x = true → B1 (gv x) H1) → g (.ref a) (wipe σ ws) H1 fun σ2 H2 => wipe σ2 ws = wipe σ ws ∧ tt σ2 H2 fun b H3 => if b = true then te σ2 H3 B1 else B0 H3)
    (q : ∀ D H', Own (pt D (.lst ((xs.filter P).map gv)) :: cell c l (.lst (ps.map V.ref)) :: big F ps xs :: R) H' → Q (.ref D) H') : rLcL K g tt te ws σ Q (.ref l) H := by
  have w1 := w.take2 p1 p2
  have hlen := w1.swap.bigLen
  refine ⟨l, rfl, ⟨_, w1.sql .here⟩, lcO (walk_list (xs := ps.map V.ref)) (fun i A L => A = ((xs.take i).filter P).map gv ∧ L = cell c l (.lst (ps.map V.ref)) :: big F ps xs :: R) w1 ⟨rfl, rfl⟩ ?_ ?_ ?_⟩
  · rintro i A L D H' ⟨rfl, rfl⟩ w'
    exact w'.sql (.next .here)
  · rintro i y D A L H1 H2 hi ⟨rfl, rfl⟩ w' ⟨rfl, hy⟩
    obtain ⟨a, ha, rfl⟩ := mra hy
    obtain ⟨x, hx⟩ := aol ha hlen
    have hil := (List.getElem?_eq_some_iff.mp hx).1
    refine ht i a x _ _ _ _ ha hx w' (fun hP => ?_) (fun hP => ?_)
    · refine lc_skipO w' .here ⟨?_, rfl⟩
      rw [fltT hx, if_neg (by rw [hP]; decide), List.append_nil]
    · refine lc_addO w' .here (by rw [List.length_map]; exact small16l (Nat.lt_of_le_of_lt (List.length_filter_le _ _) (by rw [List.length_take]; omega))) ⟨?_, rfl⟩
      rw [fltT hx, if_pos hP, List.map_append]
      rfl
  · rintro D A L H1 ⟨rfl, rfl⟩ w'
    rw [List.length_map, hlen, List.take_length] at w'
    exact q D H1 w'
/-- new objects, one for each -/
theorem lcBig (P : β → Bool) (gv : β → γ) (G : Addr → γ → HP) (hn : xs.length ≤ 1000000) (w : Own L H) (p1 : Pick L (cell c l (.lst (ps.map V.ref))) L1) (p2 : Pick L1 (big F ps xs) R)
    (ht : ∀ (i : Nat) (a : Addr) (x : β) (H1 : Hp) (X Y : HP) (B0 : Hp → Prop) (B1 : VK), ps[i]? = some a → xs[i]? = some x → Own (X :: Y :: cell c l (.lst (ps.map V.ref)) :: big F ps xs :: R) H1 →
      (P x = false → ∀ H2, Own (X :: Y :: cell c l (.lst (ps.map V.ref)) :: big F ps xs :: R) H2 → B0 H2) → (P x = true → ∀ H2 t, Own (G t (gv x) :: X :: Y :: cell c l (.lst (ps.map V.ref)) :: big F ps xs :: R) H2 → B1 (.ref t) H2) →
      g (.ref a) (wipe σ ws) H1 fun σ2 H2 => wipe σ2 ws = wipe σ ws ∧ tt σ2 H2 fun b H3 => if b = true then te σ2 H3 B1 else B0 H3)
    (q : ∀ D ts H', Own (pt D (.lst (ts.map V.ref)) :: big G ts ((xs.filter P).map gv) :: cell c l (.lst (ps.map V.ref)) :: big F ps xs :: R) H' → Q (.ref D) H') : rLcL K g tt te ws σ Q (.ref l) H := by
  have w1 := w.take2 p1 p2
  have hlen := w1.swap.bigLen
  refine ⟨l, rfl, ⟨_, w1.sql .here⟩, lcO (walk_list (xs := ps.map V.ref)) (fun i A L => ∃ ts : List Addr, A = ts.map V.ref ∧ ts.length ≤ i ∧ L = big G ts (((xs.take i).filter P).map gv) :: cell c l (.lst (ps.map V.ref)) :: big F ps xs :: R) (Own.bigNil w1) ⟨[], rfl, Nat.le_refl _, rfl⟩ ?_ ?_ ?_⟩
  · rintro i A L D H' ⟨ts, rfl, hts, rfl⟩ w'
    exact w'.sql (.next (.next .here))
  · rintro i y D A L H1 H2 hi ⟨ts, rfl, hts, rfl⟩ w' ⟨rfl, hy⟩
    obtain ⟨a, ha, rfl⟩ := mra hy
    obtain ⟨x, hx⟩ := aol ha hlen
    have hil := (List.getElem?_eq_some_iff.mp hx).1
    refine ht i a x _ _ _ _ _ ha hx w' (fun hP H2 w2 => ?_) (fun hP H2 t w2 => ?_)
    · refine lc_skipO w2 .here ⟨ts, rfl, Nat.le_succ_of_le hts, ?_⟩
      rw [fltT hx, if_neg (by rw [hP]; decide), List.append_nil]
    · have w3 : Own (big G ts (((xs.take i).filter P).map gv) :: G t (gv x) :: pt D (.lst (ts.map V.ref)) :: cell c l (.lst (ps.map V.ref)) :: big F ps xs :: R) H2 := Own.sel w2 (Sel.cons (.next (.next .here)) .rf)
      have w4 := w3.bigSnoc.swap
      refine lc_addO w4 .here (by rw [List.length_map]; exact small16l (by omega)) ⟨ts ++ [t], by rw [List.map_append]; rfl, by rw [List.length_append]; simp only [List.length_cons, List.length_nil]; omega, ?_⟩
      rw [fltT hx, if_pos hP, List.map_append]
      rfl
  · rintro D A L H1 ⟨ts, rfl, hts, rfl⟩ w'
    rw [List.length_map, hlen, List.take_length] at w'
    exact q D ts H1 w'
/-- some of a row of claims that are only read -/
theorem Own.bigPickAt [rc : ∀ x y, Ro (F x y)] {d1 : Addr} {d2 : β} {as : List Addr} {bs : List β} {L : List HP} : ∀ {ns : List Nat}, (∀ n ∈ ns, n < as.length) → Own (big F as bs :: L) H → Own (big F (ns.map (fun n => as.getD n d1)) (ns.map (fun n => bs.getD n d2)) :: big F as bs :: L) H
  | [], _, w => w.bigNil
  | n :: ns, h, w => by
    have ih := Own.bigPickAt (d1 := d1) (d2 := d2) (ns := ns) (fun m hm => h m (List.mem_cons_of_mem _ hm)) w
    have hl := w.bigLen
    have hn := h n List.mem_cons_self
    have w2 := (ih.swap).bigAt (i := n) (List.getElem?_eq_getElem hn) (List.getElem?_eq_getElem (by omega))
    have e1 : as[n] = as.getD n d1 := by rw [List.getD_eq_getElem?_getD, List.getElem?_eq_getElem hn]; rfl
    have e2 : bs[n]'(by omega) = bs.getD n d2 := by rw [List.getD_eq_getElem?_getD, List.getElem?_eq_getElem (by omega)]; rfl
    rw [e1, e2] at w2
    exact Own.bigCons (Own.sel w2 (Sel.cons .here (Sel.cons (.next .here) .rf)))
end
section
variable {K : PySem.W.Frag} {a b : Addr} {L : List HP} {H : Hp} {Q : VK} {xs ys : List V} {lo hi : Option Int}
theorem k_slT (w : Own L H) (g : Got L a (.tup xs)) (ne : (Nat.beq (HT.sIx xs.length 0 lo) 0 && Nat.beq (HT.sIx xs.length xs.length hi) xs.length) = false) (e : cutV xs lo hi = ys) (q : ∀ p H', Own (ro p (.tup ys) :: L) H' → Q (.ref p) H') : rSlT K (.ref a) lo hi H Q :=
  ⟨a, xs, rfl, SqT.of' (w.get g), (fun ⟨h1, h2⟩ => by rw [h1, h2, Nat.beq_refl, Nat.beq_refl] at ne; cases ne), fun p hp => by rw [e]; exact q p _ (w.newT hp)⟩
theorem k_catT (w : Own L H) (g1 : Got L a (.tup xs)) (g2 : Got L b (.tup ys)) (hx : xs.isEmpty = false) (hy : ys.isEmpty = false) (hl : Nat.ble (xs.length + ys.length) 1000 = true) (q : ∀ p H', Own (ro p (.tup (xs ++ ys)) :: L) H' → Q (.ref p) H') : rCatT K (.ref a) (.ref b) H Q :=
  ⟨a, b, xs, ys, rfl, rfl, SqT.of' (w.get g1), SqT.of' (w.get g2), (fun e => by rw [e] at hx; cases hx), Nat.le_trans (Nat.le_of_ble_eq_true hl) (by decide), (fun e => by rw [e] at hy; cases hy), fun _ p hp => q p _ (w.newT hp)⟩
end
end G

/-! len of an own instance; dicts by claims; enumerate -/
namespace G
open PySem PySem.Spec PyProof.Rows L2
/-! ### len(x), x with an own __len__ -/
section
variable {prog : Program} {w : World} {A : Around} {E : Value → Shared → Prop} {s : Shared} {K : PySem.W.Frag} {x C f : Addr} {ox : Obj} {odd : Option Obj}
open Builtin in
theorem len_inst {Q : Value → Shared → Prop} (X : K.In s.heap) (I : PySem.W.InstAt s.heap x ox C odd) (hs : PySem.W.findIn K (.ref C) "__len__" = some (some (.ref f))) (hf : PySem.W.isFn K (.ref f) = true)
    (h : wpAny (model prog w) A.in1 (call (.ref f) [.ref x]) (fun r s₁ => ∃ n u, r = Value.int n u ∧ 0 ≤ n ∧ n < 2 ^ 63 ∧ Q (.int n s₁.toks) { s₁ with toks := s₁.toks + 1 }) E s) : wpAny (model prog w) A (call (.builtin "len") [.ref x]) Q E s := by
  refine Calls.call_function_entry kind_len plain_len entry_len (args_len1 _) ?_
  unfold Builtin.«len»
  refine wpAny_bind (m := oneArg "len" _) (wpAny_pure ?_)
  refine wpAny_bind (m := callSpecial? (.ref x) (Str.ofString "__len__")) (PySem.W.special_fn X I hs (beq_iff_eq.mp hf) (wpAny_mono h (fun r s' hr => ?_) fun _ _ y => y))
  obtain ⟨n, u, rfl, h0, h1, hq⟩ := hr
  refine wpAny_bind (wpAny_holding (wpAny_pure ?_))
  refine wpAny_bind (wpAny_letGo ?_)
  show wpAny _ _ (if n < 0 then _ else _) _ _ _
  rw [if_neg (by omega)]
  show wpAny _ _ (if n ≥ 2 ^ 63 then _ else _) _ _ _
  rw [if_neg (by omega)]
  exact wpAny_bind (wpAny_mkInt (wpAny_pure ⟨_, rfl, hq⟩))
end
def rLenO (C : Addr) (sp : Sp) : List V → Hp → VK → Prop := fun xs H Q => ∃ a dx fs, xs = [.ref a] ∧ H a = some (.ins C dx fs) ∧ sp [.ref a] H (fun v H' => ∃ n : Int, v = .int n ∧ 0 ≤ n ∧ n < 2 ^ 63 ∧ Q (.int n) H') E0
theorem call_lenO {X : Cx} {k : Nat} {c : Str} {ps : List Str} {sp : Sp} (h : HasM X.prog X.w X.K X.mg X.base k c "__len__" ps sp) (hr : Room (k + 1) X.A) : CallR X (.builtin "len") (rLenO (He.ga X.K c) sp) := by
  intro pins s σ H xs us Q I r hh
  obtain ⟨fd, F, hb⟩ := h.ex
  obtain ⟨a, dx, fs, rfl, ea, q⟩ := hh
  obtain ⟨u, rfl, ru⟩ := vals1 r
  obtain rfl : u = Value.ref a := ru
  obtain ⟨mA, O, _⟩ := ins_get I.hok ea
  obtain ⟨od, J, _⟩ := O.look
  have hl : ([Value.ref a] ++ ([] : List Value)).length = ps.length := by
    rw [← F.len _ _ _ _ q]
    rfl
  refine len_inst I.kIn J h.me.at_ h.me.fn (wpAny_call (codeAny_mono (F.run X.A.in1 X.stack s H ⟨[.ref a], []⟩ [.ref a] [.ref a] _ E0 hr.in1 I.env0.in1 (hb s [.ref a] I.kIn hl) (.cons rfl .nil) q) fun r s' hq => ?_))
  cases r with
  | error e => exact passZ σ pins H s e s' I hq
  | ok fl =>
    cases fl with
    | ret w =>
      obtain ⟨z, H', I', rz, n, ez, h0, h1, qz⟩ := I.after hq
      subst ez
      obtain ⟨t, rfl⟩ := (show ∃ t, w = Value.int n t from rz)
      exact ⟨n, t, rfl, h0, h1, .int n, H', I'.tok _, ⟨_, rfl⟩, qz⟩
    | next => exact False.elim hq
    | brk => exact False.elim hq
    | cont => exact False.elim hq
section
variable {K : PySem.W.Frag} {a b d l : Addr} {L M R : List HP} {H H' : Hp} {v x y : V} {xs : List V} {Q : VK} {σ : L2.St} {D : Ends} {td tb ty tv : TE} {sp : Sp} {C dx : Addr} {fs : List (Str × V)} {kvs : List (Key × V)} {k : Key}
theorem w_lenO (h : H a = some (.ins C dx fs)) (q : sp [.ref a] H (fun v H' => ∃ n : Int, v = .int n ∧ 0 ≤ n ∧ n < 2 ^ 63 ∧ Q (.int n) H') E0) : rLenO C sp [.ref a] H Q := ⟨a, dx, fs, rfl, h, q⟩
/-! ### dicts -/
abbrev gLenD : List V → Hp → VK → Prop := fun xs H Q => ∃ a kvs, xs = [V.ref a] ∧ H a = some (.dK kvs) ∧ Q (.int kvs.length) H
abbrev gDictD : List V → Hp → VK → Prop := fun xs H Q => ∃ (a : Addr) (kvs : List (Key × V)), xs = [.ref a] ∧ L2.Rd H a (.dK kvs) ∧ ∀ p, H p = none → Q (.ref p) (upd H p (.dK kvs))
def kDIn (x y : V) (Q : VK) (H : Hp) : Prop := ∃ a o, x = .ref a ∧ DGet H a y o ∧ Q (.bl o.isSome) H
def kDNin (x y : V) (Q : VK) (H : Hp) : Prop := ∃ a o, x = .ref a ∧ DGet H a y o ∧ Q (.bl (!o.isSome)) H
def kDPut (D : Ends) (σ : L2.St) (x y v : V) (H : Hp) : Prop := ∃ a H4, x = .ref a ∧ DPut H a y v H4 ∧ D.nx σ H4
def kDDel (D : Ends) (σ : L2.St) (x y : V) (H : Hp) : Prop := ∃ a kvs k, x = .ref a ∧ H a = some (.dK kvs) ∧ y = kV k ∧ (valV kvs k).isSome = true ∧ D.nx σ (upd H a (.dK (dropK kvs k)))
def kDG (x y : V) (Q : VK) (H : Hp) : Prop := ∃ a v, x = .ref a ∧ DGet H a y (some v) ∧ Q v H
def kDG2 (a : Addr) (y z : V) (Q : VK) (H : Hp) : Prop := ∃ o, DGet H a y o ∧ Q (o.getD z) H
def kDNew (Q : VK) (H : Hp) : Prop := ∀ p, H p = none → Q (.ref p) (upd H p (.dK []))
instance (priority := 900) i_d_in : Stp (tDIn ty td σ H Q) (ty σ H fun y H1 => td σ H1 fun x H2 => kDIn x y Q H2) := ⟨fun h => h⟩
instance (priority := 900) i_d_nin : Stp (tDNotIn ty td σ H Q) (ty σ H fun y H1 => td σ H1 fun x H2 => kDNin x y Q H2) := ⟨fun h => h⟩
instance (priority := 950) i_d_get : Stp (tDGet td ty σ H Q) (td σ H fun x H1 => ty σ H1 fun y H2 => kDG x y Q H2) := ⟨fun h => h⟩
instance (priority := 900) i_d_put : Stp (sDPut td ty tv D σ H) (tv σ H fun v H1 => td σ H1 fun x H2 => ty σ H2 fun y H3 => kDPut D σ x y v H3) := ⟨fun h => h⟩
instance (priority := 900) i_d_del : Stp (sDDel td ty D σ H) (td σ H fun x H1 => ty σ H1 fun y H2 => kDDel D σ x y H2) := ⟨fun h => h⟩
instance (priority := 900) i_d_new : Stp (tDNewK σ H Q) (kDNew Q H) := ⟨fun h => h⟩
instance (priority := 900) i_d_get2 {tx : TE} : Stp (tDGet2 td ty tx σ H Q) (td σ H fun x H1 => ∃ a, x = .ref a ∧ IsD H1 a ∧ ty σ H1 fun y H2 => tx σ H2 fun z H3 => kDG2 a y z Q H3) := ⟨fun h => h⟩
theorem k_isD {P : Addr → Prop} (h : H d = some (.dK kvs)) (q : P d) : ∃ a, V.ref d = .ref a ∧ IsD H a ∧ P a := ⟨d, rfl, .inl ⟨kvs, .inl h⟩, q⟩
theorem k_dinI {i : Int} (h : H d = some (.dK kvs)) (q : Q (.bl (valV kvs (.inl i : Key)).isSome) H) : kDIn (.ref d) (.int i) Q H := ⟨d, _, rfl, DGet.k (k := .inl i) h, q⟩
theorem k_dinS {i : Str} (h : H d = some (.dK kvs)) (q : Q (.bl (valV kvs (.inr i : Key)).isSome) H) : kDIn (.ref d) (.str i) Q H := ⟨d, _, rfl, DGet.k (k := .inr i) h, q⟩
theorem k_dninI {i : Int} (h : H d = some (.dK kvs)) (q : Q (.bl (!(valV kvs (.inl i : Key)).isSome)) H) : kDNin (.ref d) (.int i) Q H := ⟨d, _, rfl, DGet.k (k := .inl i) h, q⟩
theorem k_dninS {i : Str} (h : H d = some (.dK kvs)) (q : Q (.bl (!(valV kvs (.inr i : Key)).isSome)) H) : kDNin (.ref d) (.str i) Q H := ⟨d, _, rfl, DGet.k (k := .inr i) h, q⟩
theorem k_dgI {i : Int} (h : H d = some (.dK kvs)) (e : valV kvs (.inl i : Key) = some v) (q : Q v H) : kDG (.ref d) (.int i) Q H := ⟨d, v, rfl, e ▸ DGet.k (k := .inl i) h, q⟩
theorem k_dgS {i : Str} (h : H d = some (.dK kvs)) (e : valV kvs (.inr i : Key) = some v) (q : Q v H) : kDG (.ref d) (.str i) Q H := ⟨d, v, rfl, e ▸ DGet.k (k := .inr i) h, q⟩
theorem k_dg2I {i : Int} (h : H d = some (.dK kvs)) (q : Q ((valV kvs (.inl i : Key)).getD y) H) : kDG2 d (.int i) y Q H := ⟨_, DGet.k (k := .inl i) h, q⟩
theorem k_dg2S {i : Str} (h : H d = some (.dK kvs)) (q : Q ((valV kvs (.inr i : Key)).getD y) H) : kDG2 d (.str i) y Q H := ⟨_, DGet.k (k := .inr i) h, q⟩
theorem k_dputI {i : Int} (w : Own L H) (p : Put L d (.dK kvs) (.dK (putK kvs (.inl i) v)) M) (hl : kvs.length < 1000000) (q : ∀ H', Own M H' → D.nx σ H') : kDPut D σ (.ref d) (.int i) v H := ⟨d, _, rfl, DPut.k (k := .inl i) (w.putGet p) (small16l (by omega)), q _ (w.put p)⟩
theorem k_dputS {i : Str} (w : Own L H) (p : Put L d (.dK kvs) (.dK (putK kvs (.inr i) v)) M) (hl : kvs.length < 1000000) (q : ∀ H', Own M H' → D.nx σ H') : kDPut D σ (.ref d) (.str i) v H := ⟨d, _, rfl, DPut.k (k := .inr i) (w.putGet p) (small16l (by omega)), q _ (w.put p)⟩
theorem k_dnew (w : Own L H) (q : ∀ p H', Own (pt p (.dK []) :: L) H' → Q (.ref p) H') : kDNew Q H := fun p hp => q p _ (w.new hp)
theorem k_dictD (w : Own L H) (h : H d = some (.dK kvs)) (q : ∀ p H', Own (pt p (.dK kvs) :: L) H' → Q (.ref p) H') : gDictD [.ref d] H Q := ⟨d, kvs, rfl, .inl h, fun p hp => q p _ (w.new hp)⟩
theorem k_lenD (h : H d = some (.dK kvs)) (q : Q (.int kvs.length) H) : gLenD [.ref d] H Q := ⟨d, kvs, rfl, h, q⟩
/-! ### enumerate -/
def rLoopE (K : PySem.W.Frag) (g : TG) (tb : TS) (D : Ends) (σ : L2.St) (vs : List V) (H1 : Hp) : Prop := ∃ a xs, vs = [.ref a] ∧ SqL K H1 a xs ∧ ∃ W : Nat → Nat → L2.St → Hp → Prop, (∃ m, W 0 m σ H1) ∧ ∀ i m σ H, W i m σ H →
  ((Ite K a).stop i H ∧ D.nx σ H) ∨ ((Ite K a).go i H ∧ ∃ N : L2.St → Hp → Prop, (∀ σ' H', N σ' H' → ∃ m', m' < m ∧ W (i + 1) m' σ' H') ∧ ∀ x H', (Ite K a).yld i H x H' → g x σ H' fun σ2 H2 => tb { D with nx := N, ct := N, bk := D.nx } σ2 H2)
instance (priority := 900) i_w_forE {tA : TA} {g : TG} {tb : TS} : Stp (tFor (iEnum K tA) g tb D σ H) (tA σ H fun vs H1 => rLoopE K g tb D σ vs H1) := ⟨fun h => h⟩
/-- Pv with the claims -/
def PO (Pv : Nat → L2.St → List HP → Prop) (i : Nat) : L2.St → Hp → Prop := fun σ H => ∃ L, Pv i σ L ∧ Own L H
theorem po_mk {Pv : Nat → L2.St → List HP → Prop} {i : Nat} (w : Own L H) (h : Pv i σ L) : PO Pv i σ H := ⟨L, h, w⟩
theorem loopEO {g : TG} {tb : TS} (Pv : Nat → L2.St → List HP → Prop) (w : Own L H) (h0 : Pv 0 σ L) (hx : ∀ i σ L, Pv i σ L → GotL K L a xs)
    (hs : ∀ i x T σ L H', xs[i]? = some x → Pv i σ L → Own (ro T (.tup [.int (i : Nat), x]) :: L) H' → g (.ref T) σ H' fun σ2 H2 => tb { D with nx := PO Pv (i + 1), ct := PO Pv (i + 1), bk := D.nx } σ2 H2)
    (hd : ∀ σ L H, Pv xs.length σ L → Own L H → D.nx σ H) : rLoopE K g tb D σ [.ref a] H := by
  refine ⟨a, xs, rfl, w.sql (hx _ _ _ h0), for_it (walk_enum (xs := xs)) (PO Pv) ⟨L, h0, w⟩ (fun i σ H _ ⟨L, h, w⟩ => w.sql (hx _ _ _ h)) ?_ (fun σ H ⟨L, h, w⟩ => hd σ L H h w)⟩
  rintro i x σ H H' hi ⟨L, h, w⟩ ⟨T, y, z, rfl, hn, rfl, e1, e2⟩
  cases e1
  exact hs i z T σ L _ e2 h (w.newT hn)
/-- over a list, with the claims -/
theorem loopLO {g : TG} {tb : TS} (Pv : Nat → L2.St → List HP → Prop) (w : Own L H) (h0 : Pv 0 σ L) (hx : ∀ i σ L, Pv i σ L → GotL K L a xs)
    (hs : ∀ i x σ L H', xs[i]? = some x → Pv i σ L → Own L H' → g x σ H' fun σ2 H2 => tb { D with nx := PO Pv (i + 1), ct := PO Pv (i + 1), bk := D.nx } σ2 H2)
    (hd : ∀ σ L H, Pv xs.length σ L → Own L H → D.nx σ H) : rLoopL K g tb D σ (.ref a) H :=
  loopL (PO Pv) (w.sql (hx _ _ _ h0)) ⟨L, h0, w⟩ (fun i σ H _ ⟨L, h, w⟩ => w.sql (hx _ _ _ h)) (fun i x σ H e ⟨L, h, w⟩ => hs i x σ L H e h w) (fun σ H ⟨L, h, w⟩ => hd σ L H h w)
theorem loop1O {g : TG} {tb : TS} {n : Nat} (Pv : Nat → L2.St → List HP → Prop) {j : Int} (w : Own L H) (hj : j = (n : Int)) (hn : n < 4000000000) (h0 : Pv 0 σ L)
    (hs : ∀ i σ L H, i < n → Pv i σ L → Own L H → g (.int (i : Int)) σ H fun σ2 H2 => tb { D with nx := PO Pv (i + 1), ct := PO Pv (i + 1), bk := D.nx } σ2 H2) (hd : ∀ σ L H, Pv n σ L → Own L H → D.nx σ H) : rLoop1 g tb D σ [.int j] H :=
  loop1 (PO Pv) hj hn ⟨L, h0, w⟩ (fun i σ H hi ⟨L, h, w⟩ => hs i σ L H hi h w) (fun σ H ⟨L, h, w⟩ => hd σ L H h w)
/-! enumerate in a comprehension -/
def rLcE (K : PySem.W.Frag) (g : TG) (tt : TT) (te : TE) (ws : List Nat) (σ : L2.St) (Q : VK) (vs : List V) (H : Hp) : Prop := ∃ a xs, vs = [.ref a] ∧ SqL K H a xs ∧ rLc (Ite K a) g tt te ws σ H Q
instance (priority := 900) i_w_lcE {tA : TA} {g : TG} {tt : TT} {te : TE} {ws : List Nat} : Stp (tLc (iEnum K tA) g tt te ws σ H Q) (tA σ H fun vs H1 => rLcE K g tt te ws σ Q vs H1) := ⟨fun h => h⟩
theorem lcEO {g : TG} {tt : TT} {te : TE} {ws : List Nat} (Pv : Nat → List V → List HP → Prop) (w : Own L H) (h0 : Pv 0 [] L) (hx : ∀ i A L, Pv i A L → GotL K L a xs)
    (hs : ∀ (i : Nat) x T Da A L H1, xs[i]? = some x → Pv i A L → Own (ro T (.tup [.int (i : Nat), x]) :: pt Da (.lst A) :: L) H1 → g (.ref T) (wipe σ ws) H1 fun σ2 H2 => wipe σ2 ws = wipe σ ws ∧ tt σ2 H2 fun b H3 =>
      if b = true then te σ2 H3 fun y H4 => LcAdd Da (PvO Pv Da) i y H4 else PvO Pv Da (i + 1) H3)
    (hd : ∀ Da A L H1, Pv xs.length A L → Own (pt Da (.lst A) :: L) H1 → Q (.ref Da) H1) : rLcE K g tt te ws σ Q [.ref a] H := by
  refine ⟨a, xs, rfl, w.sql (hx _ _ _ h0), lcO (walk_enum (xs := xs)) Pv w h0 (fun i A L Da H' h w' => w'.sql (.next (hx _ _ _ h))) ?_ hd⟩
  rintro i x Da A L H1 H2 hi h w' ⟨T, y, z, rfl, hn, rfl, e1, e2⟩
  cases e1
  exact hs i z T Da A L _ e2 h (w'.newT hn)
end
/-! ### dicts of ints -/
def kI (rows : List (Int × Int)) : List (Key × V) := rows.map fun r => (.inl r.1, .int r.2)
def lkI (rows : List (Int × Int)) (p : Int) : Option Int := (rows.find? fun r => decide (r.1 = p)).map (·.2)
theorem kI_len {rows : List (Int × Int)} : (kI rows).length = rows.length := List.length_map _
theorem valV_kI (rows : List (Int × Int)) (p : Int) : valV (kI rows) (.inl p : Key) = (lkI rows p).map V.int := by
  induction rows with
  | nil => rfl
  | cons r rs ih =>
    by_cases e : r.1 = p
    · have h1 : lkI (r :: rs) p = some r.2 := by unfold lkI; rw [List.find?_cons, decide_eq_true e]; rfl
      rw [h1]
      exact valV_pos (p := (Sum.inl r.1, V.int r.2)) (by rw [e])
    · have h1 : lkI (r :: rs) p = lkI rs p := by unfold lkI; rw [List.find?_cons, decide_eq_false e]
      rw [h1, ← ih]
      exact valV_neg (p := (Sum.inl r.1, V.int r.2)) (fun z => e (Sum.inl.inj z))
theorem putK_kI {rows : List (Int × Int)} {p v : Int} (h : lkI rows p = none) : putK (kI rows) (.inl p) (.int v) = kI (rows ++ [(p, v)]) := by
  rw [putK_new _ (by rw [valV_kI, h]; rfl)]
  unfold kI
  rw [List.map_append]
  rfl
end G

/-! sorted rows of claims -/
namespace G
open PySem PySem.Spec PyProof.Rows L2
theorem perm_inv {α β : Type} {f : α → β} : ∀ {ys : List β} {zs : List α}, ys.Perm (zs.map f) → ∃ zs' : List α, zs'.Perm zs ∧ zs'.map f = ys
  | [], zs, h => ⟨[], by have := h.length_eq; rw [List.length_map] at this; rw [List.eq_nil_of_length_eq_zero this.symm], rfl⟩
  | y :: ys, zs, h => by
    obtain ⟨z, hz, e⟩ := List.mem_map.mp (h.mem_iff.mp List.mem_cons_self)
    obtain ⟨a, b, rfl⟩ := List.append_of_mem hz
    have h2 : (y :: ys).Perm (y :: (a ++ b).map f) := by
      refine h.trans ?_
      rw [List.map_append, List.map_cons, e, List.map_append]
      exact List.perm_middle
    obtain ⟨zs', p, e2⟩ := perm_inv h2.cons_inv
    exact ⟨z :: zs', (p.cons z).trans List.perm_middle.symm, by rw [List.map_cons, e, e2]⟩
theorem big_perm {α : Type} {P : Addr → α → HP} {zs' zs : List (Addr × α)} (p : zs.Perm zs') : ∀ {L : List HP} {H : Hp}, Own (big P (zs.map (·.1)) (zs.map (·.2)) :: L) H → Own (big P (zs'.map (·.1)) (zs'.map (·.2)) :: L) H := by
  induction p with
  | nil => exact fun w => w
  | cons x _ ih => exact fun w => Own.bigCons (Own.swap (ih (Own.swap w.bigUncons)))
  | swap x y l =>
      intro L H w
      exact Own.bigCons (Own.swap (Own.bigCons (Own.sel (Own.swap w.bigUncons).bigUncons (Sel.cons (.next (.next .here)) (Sel.cons (.next .here) (Sel.cons .here .rf))))))
  | trans _ _ h1 h2 => exact fun w => h2 (h1 w)
theorem nodup_at' {l : List Int} (h : l.Nodup) {i j : Nat} {a : Int} (hi : l[i]? = some a) (hj : l[j]? = some a) : i = j :=
  (List.getElem?_inj (List.getElem?_eq_some_iff.mp hi).1 h).mp (hi.trans hj.symm)
section
variable {K : PySem.W.Frag}
theorem k_sortG {α : Type} {F : Addr → α → HP} {num : α → Int} (tl : ∀ t x, Tell (F t x) fun H => ∃ tl, H t = some (.tup (.int (num x) :: tl))) {L L1 R : List HP} {H : Hp} {Q : VK} {l : Addr} {c : Bool} {ts : List Addr} {xs : List α} (hn : (xs.map num).Nodup) (w : Own L H) (p1 : Pick L (cell c l (.lst (ts.map V.ref))) L1) (p2 : Pick L1 (big F ts xs) R)
    (q : ∀ D ts' xs' H', xs'.Perm xs → xs'.Pairwise (fun a b => num a ≤ num b) → Own (pt D (.lst (ts'.map V.ref)) :: big F ts' xs' :: cell c l (.lst (ts.map V.ref)) :: R) H' → Q (.ref D) H') : rSortedD K [.ref l] H Q := by
  have w1 := w.take2 p1 p2
  have hlen := w1.swap.bigLen
  have e1 : (ts.zip xs).map (·.1) = ts := List.map_fst_zip (by omega)
  have e2 : (ts.zip xs).map (·.2) = xs := List.map_snd_zip (by omega)
  have tell : ∀ z ∈ ts.zip xs, ∃ tl, H z.1 = some (.tup (.int (num z.2) :: tl)) := fun z hz => by
    obtain ⟨i, hi⟩ := List.getElem?_of_mem hz
    obtain ⟨ha, hb⟩ := List.getElem?_zip_eq_some.mp hi
    exact w1.swap.bigTell ha hb (tl _ _)
  have hk : ∀ z ∈ ts.zip xs, (match H z.1 with | some (.tup (.int n :: _)) => n | _ => 0) = num z.2 := fun z hz => by
    obtain ⟨tl, e⟩ := tell z hz
    rw [e]
  refine ⟨l, ts.map V.ref, fun v => match v with | .ref t => (match H t with | some (.tup (.int n :: _)) => n | _ => 0) | _ => 0, rfl, w1.sql .here, fun x hx => ?_, fun x hx y hy e => ?_, fun ys D hp1 hp2 hD => ?_⟩
  · rw [← e1] at hx
    obtain ⟨t, ht, rfl⟩ := List.mem_map.mp hx
    obtain ⟨z, hz, rfl⟩ := List.mem_map.mp ht
    obtain ⟨tl, e⟩ := tell z hz
    refine ⟨z.1, tl, rfl, ?_⟩
    show H z.1 = some (.tup (.int (match H z.1 with | some (.tup (.int n :: _)) => n | _ => 0) :: tl))
    rw [hk z hz]
    exact e
  · rw [← e1] at hx hy
    obtain ⟨t, ht, rfl⟩ := List.mem_map.mp hx
    obtain ⟨z, hz, rfl⟩ := List.mem_map.mp ht
    obtain ⟨t', ht', rfl⟩ := List.mem_map.mp hy
    obtain ⟨z', hz', rfl⟩ := List.mem_map.mp ht'
    have e' : num z.2 = num z'.2 := (hk z hz).symm.trans (e.trans (hk z' hz'))
    obtain ⟨i, hi⟩ := List.getElem?_of_mem hz
    obtain ⟨j, hj⟩ := List.getElem?_of_mem hz'
    have hi2 : (xs.map num)[i]? = some (num z.2) := by rw [List.getElem?_map, (List.getElem?_zip_eq_some.mp hi).2]; rfl
    have hj2 : (xs.map num)[j]? = some (num z.2) := by rw [List.getElem?_map, (List.getElem?_zip_eq_some.mp hj).2, e']; rfl
    have := nodup_at' hn hi2 hj2
    subst this
    rw [hi] at hj
    cases hj
    rfl
  · have e3 : ts.map V.ref = (ts.zip xs).map (fun z => V.ref z.1) := by
      have := congrArg (List.map V.ref) e1
      rw [List.map_map] at this
      exact this.symm
    rw [e3] at hp2
    obtain ⟨zs', hz, e4⟩ := perm_inv hp2
    have w2 : Own (big F ((ts.zip xs).map (·.1)) ((ts.zip xs).map (·.2)) :: cell c l (.lst (ts.map V.ref)) :: R) H := by rw [e1, e2]; exact w1.swap
    have w3 := (big_perm hz.symm w2).new hD (o := .lst ys)
    have e5 : ys = (zs'.map (·.1)).map V.ref := by rw [List.map_map]; exact e4.symm
    rw [e5] at w3 ⊢
    refine q D (zs'.map (·.1)) (zs'.map (·.2)) _ ?_ ?_ w3
    · have := hz.map (·.2)
      rw [e2] at this
      exact this
    · rw [← e4] at hp1
      rw [List.pairwise_map] at hp1 ⊢
      refine hp1.imp_of_mem fun {a b} ha hb h => ?_
      have h1 := hk a (hz.mem_iff.mp ha)
      have h2 := hk b (hz.mem_iff.mp hb)
      have h' : (match H a.1 with | some (.tup (.int n :: _)) => n | _ => 0) ≤ (match H b.1 with | some (.tup (.int n :: _)) => n | _ => 0) := h
      rw [h1, h2] at h'
      exact h'
end
/-- an ascending row of n numbers from lo on, below lo + n -/
theorem asc_all : ∀ {l : List Int} {lo : Int}, l.Pairwise (· < ·) → (∀ p ∈ l, lo ≤ p ∧ p < lo + (l.length : Int)) → ∀ i (h : i < l.length), l[i] = lo + (i : Int)
  | [], _, _, _, i, h => by simp at h
  | a :: t, lo, hp, hb, i, h => by
    obtain ⟨h1, h2⟩ := List.pairwise_cons.mp hp
    have ha := hb a List.mem_cons_self
    rw [List.length_cons] at ha
    have ih := asc_all (l := t) (lo := lo + 1) h2 (fun p hp => by
      have := hb p (List.mem_cons_of_mem _ hp)
      have := h1 p hp
      rw [List.length_cons] at *
      omega)
    have ea : a = lo := by
      cases t with
      | nil => simp at ha; omega
      | cons b t =>
        have hb0 := ih 0 (by simp)
        have := h1 b List.mem_cons_self
        simp at hb0
        omega
    cases i with
    | zero => simp [ea]
    | succ j =>
      have := ih j (by simpa using h)
      rw [List.getElem_cons_succ, this]
      omega
end G

/-! comprehensions: rows of data; some of the rows -/
namespace G
open PySem PySem.Spec PyProof.Rows L2
theorem big_filter {α : Type} {P : Addr → α → HP} (p : Addr × α → Bool) : ∀ {zs : List (Addr × α)} {L : List HP} {H : Hp}, Own (big P (zs.map (·.1)) (zs.map (·.2)) :: L) H → Own (big P ((zs.filter p).map (·.1)) ((zs.filter p).map (·.2)) :: L) H
  | [], _, _, w => w
  | z :: zs, L, H, w => by
    have w1 := w.bigUncons
    by_cases h : p z = true
    · rw [List.filter_cons, if_pos h]
      exact Own.bigCons (Own.swap (big_filter p (Own.swap w1)))
    · rw [List.filter_cons, if_neg h]
      exact big_filter p w1.tail
theorem zip_filter {α : Type} (P : α → Bool) : ∀ {ps : List Addr} {xs : List α}, ps.length = xs.length → ((ps.zip xs).filter (fun z => P z.2)).map (·.2) = xs.filter P
  | [], [], _ => rfl
  | p :: ps, x :: xs, h => by
    have ih := zip_filter P (ps := ps) (xs := xs) (by simpa using h)
    rw [List.zip_cons_cons, List.filter_cons, List.filter_cons]
    by_cases e : P x = true
    · rw [if_pos e, if_pos e, List.map_cons, ih]
    · rw [if_neg e, if_neg e, ih]
/-- a row again, one of it back -/
theorem Own.bigRet {α β : Type} {f : α → β → HP} {as : List α} {bs : List β} {x : α} {y : β} {i : Nat} {L : List HP} {H : Hp} (w : Own (f x y :: big f (as.take i) (bs.take i) :: big f (as.drop (i + 1)) (bs.drop (i + 1)) :: L) H) (h1 : as[i]? = some x) (h2 : bs[i]? = some y) : Own (big f as bs :: L) H := by
  obtain ⟨l1, e1⟩ := List.getElem?_eq_some_iff.mp h1
  obtain ⟨l2, e2⟩ := List.getElem?_eq_some_iff.mp h2
  have w1 := w.bigIn l1 l2
  have h1' : as.set i x = as := by rw [← e1]; exact List.set_getElem_self l1
  have h2' : bs.set i y = bs := by rw [← e2]; exact List.set_getElem_self l2
  rw [h1', h2'] at w1
  exact w1
/-- a row, one of it gone -/
theorem Own.bigGone {α β : Type} {f : α → β → HP} {as : List α} {bs : List β} {i : Nat} {L : List HP} {H : Hp} (w : Own (big f (as.take i) (bs.take i) :: big f (as.drop (i + 1)) (bs.drop (i + 1)) :: L) H) : Own (big f (as.eraseIdx i) (bs.eraseIdx i) :: L) H := by
  rw [List.eraseIdx_eq_take_drop_succ, List.eraseIdx_eq_take_drop_succ]
  exact w.bigApp
theorem Own.bigDropN {α β : Type} {f : α → β → HP} {as : List α} {bs : List β} {L : List HP} {H : Hp} (n : Nat) (w : Own (big f as bs :: L) H) : Own (big f (as.drop n) (bs.drop n) :: L) H := by
  have hl := w.bigLen
  have w1 : Own (big f (as.take n ++ as.drop n) (bs.take n ++ bs.drop n) :: L) H := by
    rw [List.take_append_drop, List.take_append_drop]
    exact w
  exact (Own.bigSplit (by rw [List.length_take, List.length_take, hl]) w1).tail
/-- a cell that is only read, found within the claims -/
theorem Own.roOf {α : Type} {a : α → Addr} {o : α → HO} {P : α → Hp → Prop} {L : List HP} {H : Hp} (t : ∀ h, stars L h → ∃ x, h (a x) = some (o x, true) ∧ ∀ H, LHle h H → P x H) (w : Own L H) : ∃ x, P x H ∧ Own (ro (a x) (o x) :: L) H := by
  obtain ⟨h, e, s⟩ := w
  obtain ⟨x, h1, h2⟩ := t h s
  exact ⟨x, h2 H e, h, e, LHupd LHnone (a x) (o x, true), h, (fun b y z e1 _ => by
    obtain ⟨rfl, rfl⟩ := lup_none e1
    rfl), (fun b y e1 => by
    obtain ⟨rfl, rfl⟩ := lup_none e1
    exact h1), LSub.rfl', lup_same, s⟩
section
variable {K : PySem.W.Frag} {l : Addr} {L L1 R : List HP} {H : Hp} {Q : VK} {σ : L2.St} {c : Bool} {g : TG} {tt : TT} {te : TE} {ws : List Nat} {β : Type} {F : Addr → β → HP} {ps : List Addr} {xs : List β}
/-- a row of data -/
theorem lcDT (P : β → Bool) (dv : β → PyData) (hn : xs.length ≤ 1000000) (w : Own L H) (p1 : Pick L (cell c l (.lst (ps.map V.ref))) L1) (p2 : Pick L1 (big F ps xs) R)
    (ht : ∀ (i : Nat) (a : Addr) (x : β) (H1 : Hp) (X Y : HP) (B0 : Hp → Prop) (B1 : VK), ps[i]? = some a → xs[i]? = some x → Own (X :: Y :: cell c l (.lst (ps.map V.ref)) :: big F ps xs :: R) H1 →
      (P x = false → ∀ H2, Own (X :: Y :: cell c l (.lst (ps.map V.ref)) :: big F ps xs :: R) H2 → B0 H2) → (P x = true → ∀ H2 y, Own (DT K y (dv x) :: X :: Y :: cell c l (.lst (ps.map V.ref)) :: big F ps xs :: R) H2 → B1 y H2) →
      g (.ref a) (wipe σ ws) H1 fun σ2 H2 => wipe σ2 ws = wipe σ ws ∧ tt σ2 H2 fun b H3 => if b = true then te σ2 H3 B1 else B0 H3)
    (q : ∀ D H', Own (Rd (DT K (.ref D) (.list ((xs.filter P).map dv))) :: cell c l (.lst (ps.map V.ref)) :: big F ps xs :: R) H' → Q (.ref D) H') : rLcL K g tt te ws σ Q (.ref l) H := by
  have w1 := w.take2 p1 p2
  have hlen := w1.swap.bigLen
  refine ⟨l, rfl, ⟨_, w1.sql .here⟩, lcO (walk_list (xs := ps.map V.ref)) (fun i A L => A.length ≤ i ∧ L = DTs K A (((xs.take i).filter P).map dv) :: cell c l (.lst (ps.map V.ref)) :: big F ps xs :: R) (Own.dtNil w1) ⟨Nat.le_refl _, rfl⟩ ?_ ?_ ?_⟩
  · rintro i A L D H' ⟨hA, rfl⟩ w'
    exact w'.sql (.next (.next .here))
  · rintro i y D A L H1 H2 hi ⟨hA, rfl⟩ w' ⟨rfl, hy⟩
    obtain ⟨a, ha, rfl⟩ := mra hy
    obtain ⟨x, hx⟩ := aol ha hlen
    have hil := (List.getElem?_eq_some_iff.mp hx).1
    refine ht i a x _ _ _ _ _ ha hx w' (fun hP H2 w2 => ?_) (fun hP H2 y w2 => ?_)
    · refine lc_skipO w2 .here ⟨Nat.le_succ_of_le hA, ?_⟩
      rw [fltT hx, if_neg (by rw [hP]; decide), List.append_nil]
    · have w3 : Own (DTs K A (((xs.take i).filter P).map dv) :: DT K y (dv x) :: pt D (.lst A) :: cell c l (.lst (ps.map V.ref)) :: big F ps xs :: R) H2 := Own.sel w2 (Sel.cons (.next (.next .here)) .rf)
      have w4 := w3.dtSnoc.swap
      refine lc_addO w4 .here (small16l (by omega)) ⟨by rw [List.length_append]; simp only [List.length_cons, List.length_nil]; omega, ?_⟩
      rw [fltT hx, if_pos hP, List.map_append]
      rfl
  · rintro D A L H1 ⟨hA, rfl⟩ w'
    rw [List.length_map, hlen, List.take_length] at w'
    exact q D H1 (w'.dtLst).dtRd
/-- some of the rows -/
theorem lcFil (P : β → Bool) (hn : xs.length ≤ 1000000) (w : Own L H) (p1 : Pick L (cell c l (.lst (ps.map V.ref))) L1) (p2 : Pick L1 (big F ps xs) R)
    (ht : ∀ (i : Nat) (a : Addr) (x : β) (H1 : Hp) (X : HP) (B0 : Hp → Prop) (B1 : VK), ps[i]? = some a → xs[i]? = some x → Own (X :: cell c l (.lst (ps.map V.ref)) :: big F ps xs :: R) H1 →
      (P x = false → ∀ H2, Own (X :: cell c l (.lst (ps.map V.ref)) :: big F ps xs :: R) H2 → B0 H2) → (P x = true → ∀ H2, Own (X :: cell c l (.lst (ps.map V.ref)) :: big F ps xs :: R) H2 → B1 (.ref a) H2) → g (.ref a) (wipe σ ws) H1 fun σ2 H2 => wipe σ2 ws = wipe σ ws ∧ tt σ2 H2 fun b H3 => if b = true then te σ2 H3 B1 else B0 H3)
    (q : ∀ D qs H', qs.length = (xs.filter P).length → Own (pt D (.lst (qs.map V.ref)) :: big F qs (xs.filter P) :: cell c l (.lst (ps.map V.ref)) :: R) H' → Q (.ref D) H') : rLcL K g tt te ws σ Q (.ref l) H := by
  have w1 := w.take2 p1 p2
  have hlen := w1.swap.bigLen
  have e1 : (ps.zip xs).map (·.1) = ps := List.map_fst_zip (by omega)
  have e2 : (ps.zip xs).map (·.2) = xs := List.map_snd_zip (by omega)
  refine ⟨l, rfl, ⟨_, w1.sql .here⟩, lcO (walk_list (xs := ps.map V.ref)) (fun i A L => A = ((((ps.zip xs).take i).filter (fun z => P z.2)).map (·.1)).map V.ref ∧ L = cell c l (.lst (ps.map V.ref)) :: big F ps xs :: R) w1 ⟨rfl, rfl⟩ ?_ ?_ ?_⟩
  · rintro i A L D H' ⟨rfl, rfl⟩ w'
    exact w'.sql (.next .here)
  · rintro i y D A L H1 H2 hi ⟨rfl, rfl⟩ w' ⟨rfl, hy⟩
    obtain ⟨a, ha, rfl⟩ := mra hy
    obtain ⟨x, hx⟩ := aol ha hlen
    have hil := (List.getElem?_eq_some_iff.mp hx).1
    have hz : (ps.zip xs)[i]? = some (a, x) := List.getElem?_zip_eq_some.mpr ⟨ha, hx⟩
    refine ht i a x _ _ _ _ ha hx w' (fun hP H2 w2 => ?_) (fun hP H2 w2 => ?_)
    · refine lc_skipO w2 .here ⟨?_, rfl⟩
      rw [fltT hz, if_neg (by show ¬ P x = true; rw [hP]; decide), List.append_nil]
    · refine lc_addO w2 .here (by rw [List.length_map, List.length_map]; exact small16l (Nat.lt_of_le_of_lt (List.length_filter_le _ _) (by rw [List.length_take]; omega))) ⟨?_, rfl⟩
      rw [fltT hz, if_pos hP, List.map_append, List.map_append]
      rfl
  · rintro D A L H1 ⟨rfl, rfl⟩ w'
    rw [List.length_map, List.take_of_length_le (by rw [List.length_zip]; omega)] at w'
    have w2 : Own (big F ((ps.zip xs).map (·.1)) ((ps.zip xs).map (·.2)) :: pt D (.lst ((((ps.zip xs).filter (fun z => P z.2)).map (·.1)).map V.ref)) :: cell c l (.lst (ps.map V.ref)) :: R) H1 := by
      rw [e1, e2]
      exact Own.sel w' (Sel.cons (.next (.next .here)) .rf)
    have w3 := big_filter (fun z => P z.2) w2
    rw [zip_filter P hlen] at w3
    exact q D _ H1 w3.bigLen w3.swap
end
end G

/-! sorted: tuples that their first items, texts, tell apart -/
namespace SrtO
open PySem PySem.Spec PyProof.Rows Srt
section
variable {prog : Program} {w : World} {A : Around} {E : Value → Shared → Prop} {s : Shared}
def ltS (a b : PySem.Str) : Bool := decide (a.cps.toList < b.cps.toList)
def IsKeyS (h : Heap) (v : Value) (x : PySem.Str) : Prop := ∃ a o t xs tl n, v = .ref a ∧ h.get? a = some o ∧ o.cls = .type "tuple" ∧ o.data = .seq xs n ∧ xs.toList = .str x t :: tl
theorem IsKeyS.keeps {h h' : Heap} {v : Value} {x : PySem.Str} (p : IsKeyS h v x) (k : ∀ b o, h.get? b = some o → o.cls = .type "tuple" → h'.get? b = some o) : IsKeyS h' v x := by
  obtain ⟨a, o, t, xs, tl, n, e, ho, hc, hd⟩ := p
  exact ⟨a, o, t, xs, tl, n, e, k _ _ ho hc, hc, hd⟩
theorem ltS_self (a : PySem.Str) : ltS a a = false := decide_eq_false (List.lt_irrefl _)
theorem swo_keyS (k : Value → PySem.Str) : Swo fun v u => ltS (k v) (k u) := by
  refine ⟨fun x y h => ?_, fun x y z h1 h2 => ?_⟩
  · exact decide_eq_false (fun h2 => List.lt_irrefl _ (List.lt_trans (of_decide_eq_true h) h2))
  · have a := List.not_lt.mp (of_decide_eq_false h1)
    have b := List.not_lt.mp (of_decide_eq_false h2)
    exact decide_eq_false (List.not_lt.mpr (List.le_trans (by assumption) (by assumption)))
theorem keyS_cmp {vs : List Value} {k : Value → PySem.Str} (hp : ∀ v ∈ vs, IsKeyS s.heap v (k v)) (inj : ∀ v ∈ vs, ∀ u ∈ vs, k v = k u → v = u) : Cmp prog w A s (tuples' true) (fun p => p.1 ∈ vs) (lt2 fun v u => ltS (k v) (k u)) := by
  intro p q hm hm'
  show wpAny (model prog w) A (keyLt' (tuples' true) p.1 q.1) (fun r s' => s' = s ∧ r = ltS (k p.1) (k q.1)) (fun _ _ => False) s
  by_cases e : k p.1 = k q.1
  · have ev := inj _ hm _ hm' e
    obtain ⟨a, o, t, xs, tl, n, e1, ho, hc, hd, hx⟩ := hp _ hm
    rw [← ev, e1]
    refine PySem.W.kat_lt ho hd ho hd ?_
    refine kat_same ?_ _ _
    exact ⟨rfl, by rw [decide_eq_false (Nat.lt_irrefl _), ltS_self]⟩
  · obtain ⟨a, o, t, xs, tl, n, e1, ho, hc, hd, hx⟩ := hp _ hm
    obtain ⟨a', o', t', xs', tl', n', e1', ho', hc', hd', hx'⟩ := hp _ hm'
    generalize k p.1 = i at *
    generalize k q.1 = j at *
    rw [e1, e1']
    refine PySem.W.kat_lt ho hd ho' hd' ?_
    rw [hx, hx']
    show PySem.W.KatLex prog w A true _ _ ((Value.str i t, Value.str j t') :: tl.zip tl') 0 s
    refine PySem.W.kat_cons (SeqAt.EqAt.str_str i t j t' prog w _ _ ?_)
    refine PySem.W.kat_go (fun e1 => absurd (show i = j by simpa using e1) e) (fun e1 => ?_)
    exact PySem.W.kat_no (oneLt_str ⟨rfl, rfl⟩)
theorem keySfirsts_of {h : Heap} {k : Value → PySem.Str} : ∀ {vs : List Value}, (∀ v ∈ vs, IsKeyS h v (k v)) → ∃ fs : List Value, PySem.W.KatTups h vs fs ∧ fs.length = vs.length ∧ ∀ f ∈ fs, ∃ x t, f = Value.str x t
  | [], _ => ⟨[], PySem.W.KatTups.nil, rfl, fun _ hm => by simp at hm⟩
  | v :: vs, hp => by
    obtain ⟨fs, h1, h2, h3⟩ := keySfirsts_of (vs := vs) fun v' hm => hp v' (List.mem_cons_of_mem _ hm)
    obtain ⟨a, o, t, xs, tl, n, e, ho, hc, hd, hx⟩ := hp v (List.mem_cons_self ..)
    rw [e]
    refine ⟨.str (k v) t :: fs, PySem.W.KatTups.cons ho hc hd ?_ h1, by rw [List.length_cons, List.length_cons, h2], fun f hm => ?_⟩
    · have z := congrArg (fun l : List Value => l[0]?) hx
      simpa using z
    · rcases List.mem_cons.mp hm with rfl | hm
      · exact ⟨_, t, rfl⟩
      · exact h3 f hm
theorem keyS_sortableO {a : Addr} {vs : List Value} {k : Value → PySem.Str} (h0 : 0 < vs.length) (hp : ∀ v ∈ vs, IsKeyS s.heap v (k v)) (inj : ∀ v ∈ vs, ∀ u ∈ vs, k v = k u → v = u) (ha : ∀ o, s.heap.get? a = some o → o.cls ≠ .type "tuple") : SortableO prog w A s a vs fun v u => ltS (k v) (k u) := by
  intro h' keep
  have hp' : ∀ v ∈ vs, IsKeyS h' v (k v) := fun v hm => (hp v hm).keeps fun b o e c => keep b o (fun z => by subst z; exact ha o e c) e
  obtain ⟨fs, h1, h2, h3⟩ := keySfirsts_of hp'
  refine ⟨tuples' true, fun Q E hq => ?_, keyS_cmp hp' inj⟩
  refine PySem.W.kat_kind (T := .type "str") h1 (by omega) (fun f hm => ?_) (by rfl) ?_
  · obtain ⟨x, t, rfl⟩ := h3 f hm
    exact PySem.W.Looks.now
  · have e : (Value.type "str" != Value.type "tuple") = true := by first | decide +kernel | rfl | decide
    rw [e]
    exact hq
theorem sorted_keySO {l : Addr} {vs : List Value} {k : Value → PySem.Str} {Q : Value → Shared → Prop} (hl : s.heap.IsList l vs.toArray) (hz : vs.length ≤ sizeLine) (hp : ∀ v ∈ vs, IsKeyS s.heap v (k v)) (inj : ∀ v ∈ vs, ∀ u ∈ vs, k v = k u → v = u)
    (h : ∀ (h' : Heap) (d : Addr) (out : List Value), Srtd (fun v u => ltS (k v) (k u)) out → Stb (fun v u => ltS (k v) (k u)) out vs → (∀ b o, s.heap.get? b = some o → h'.get? b = some o) → s.heap.objs.size ≤ d → (∃ n, h'.get? d = some (seqObj "list" out.toArray n)) → Q (.ref d) { s with heap := h' }) :
    wpAny (model prog w) A (call (.builtin "sorted") [.ref l]) Q E s := by
  refine sorted_ord (swo_keyS k) hl hz (fun h2 h₁ a ha kk => ?_) fun out hs hb => ?_
  · refine keyS_sortableO (s := { s with heap := h₁ }) (by omega) (fun v hm => (hp v hm).keeps fun b o e _ => (kk b o e).2) inj fun o e => ?_
    have e' : some o = some (seqObj "list" vs.toArray 0) := e.symm.trans ha
    cases e'
    intro c
    exact absurd (Value.type.inj c) (by decide)
  · exact h _ _ out hs hb (fun b o e => sortedAll_old e) (Nat.le_succ _) (sortedAll_at s.heap vs out.toArray)
end
end SrtO
namespace G
open PySem PySem.Spec PyProof.Rows L2
/-- sorted(xs): xs are tuples that their first items, ints, tell apart -/
def rSortedTS (K : PySem.W.Frag) : List V → Hp → VK → Prop := fun vs H Q => ∃ (a : Addr) (xs : List V) (k : V → Str), vs = [V.ref a] ∧ SqL K H a xs ∧ (∀ x ∈ xs, ∃ t tl, x = V.ref t ∧ H t = some (.tup (.str (k x) :: tl))) ∧ (∀ x ∈ xs, ∀ y ∈ xs, k x = k y → x = y) ∧
  ∀ ys p, ys.Pairwise (fun x y => SrtO.ltS (k y) (k x) = false) → ys.Perm xs → H p = none → Q (.ref p) (upd H p (.lst ys))
theorem cr_sortedTS {X : Cx} : CallR X (.builtin "sorted") (rSortedTS X.K) := by
  intro pins s σ H vs us Q I r h
  obtain ⟨a, xs, k, rfl, hs, hx, hj, q⟩ := h
  obtain ⟨its, rv, hl, hz⟩ := I.list hs
  obtain ⟨u, rfl, ru⟩ := vals1 r
  obtain rfl : u = Value.ref a := ru
  obtain ⟨e1, e2⟩ := refs_back rv fun x m => by
    obtain ⟨t, _, e, _⟩ := hx x m
    exact ⟨t, e⟩
  refine SrtO.sorted_keySO (k := fun u => k (backV u)) hl.isList (by rw [← rv.length]; exact hz) (fun v hv => ?_) (fun v hv u hu e => ?_) fun h' d out h1 h2 kp hd hn => ?_
  · obtain ⟨t, rfl⟩ := e2 v hv
    have hm : V.ref t ∈ xs := by rw [e1]; exact List.mem_map.mpr ⟨_, hv, rfl⟩
    obtain ⟨t', tl, e, ht⟩ := hx _ hm
    cases e
    obtain ⟨_, its2, r2, o, ho, hc, n, hd⟩ := I.hok _ _ ht
    cases r2 with
    | cons ri rt =>
      obtain ⟨t1, rfl⟩ := ri
      exact ⟨t, o, t1, _, _, n, rfl, ho, hc, hd, rfl⟩
  · have m1 : backV v ∈ xs := by rw [e1]; exact List.mem_map.mpr ⟨_, hv, rfl⟩
    have m2 : backV u ∈ xs := by rw [e1]; exact List.mem_map.mpr ⟨_, hu, rfl⟩
    obtain ⟨a1, rfl⟩ := e2 v hv
    obtain ⟨a2, rfl⟩ := e2 u hu
    have := hj _ m1 _ m2 e
    cases this
    rfl
  · have h3 : ∀ u ∈ out, ∃ a, u = Value.ref a := fun u hu => e2 u (h2.perm.mem_iff.mp hu)
    obtain ⟨n, hn⟩ := hn
    refine ⟨.ref d, upd H d (.lst (out.map backV)), I.laid (t' := s.toks) kp hd ⟨?_, out, n, vals_back h3, hn⟩, rfl, q _ d ?_ ?_ (I.hok.fresh hd)⟩
    · rw [List.length_map, h2.perm.length_eq, ← rv.length]; exact hz
    · refine List.pairwise_map.mpr (h1.imp fun {x y} h => ?_)
      exact h
    · rw [e1]; exact h2.perm.map backV
end G

/-! lists of the same things, compared -/
namespace G
open PySem PySem.Spec PyProof.Rows L2
def rNeI (K : PySem.W.Frag) : R2 := fun x y H Q => ∃ p q, ∃ rs : List Addr, x = .ref p ∧ y = .ref q ∧ SqL K H p (rs.map V.ref) ∧ SqL K H q (rs.map V.ref) ∧ Q (.bl false) H
theorem vals_refs : ∀ {rs : List Addr} {us ws : List Value}, Vals (rs.map V.ref) us → Vals (rs.map V.ref) ws → us = ws
  | [], _, _, h1, h2 => by cases h1; cases h2; rfl
  | r :: rs, _, _, h1, h2 => by
    cases h1 with
    | cons a1 a2 =>
      cases h2 with
      | cons b1 b2 =>
        cases a1
        cases b1
        rw [vals_refs a2 b2]
theorem op_neI {X : Cx} (hu : X.A.units + 64 < cLine) : OpR X (compareOp .NotEq) (rNeI X.K) := by
  intro pins s σ H x y v u Q I rx ry h
  obtain ⟨p, q, rs, rfl, rfl, h1, h2, hq⟩ := h
  cases rx
  cases ry
  obtain ⟨its, r1, ⟨o, n, ho, hc, _, hd⟩, _⟩ := I.list h1
  obtain ⟨its2, r2, ⟨o2, n2, ho2, hc2, _, hd2⟩, _⟩ := I.list h2
  cases vals_refs r1 r2
  have e : (!(List.range its.toArray.size).all fun _ => true) = false := by simp
  exact SeqAt.RcNeAt.lists (e := fun _ => true) ⟨o, ho, hc, n, hd⟩ ⟨o2, ho2, hc2, n2, hd2⟩ rfl (by omega) (fun j _ _ => SeqAt.EqAt.same _) _ _ _ _ (by rw [e]; exact ⟨.bl _, H, I, rfl, hq⟩)
section
variable {K : PySem.W.Frag} {H : Hp} {Q : VK} {p q : Addr} {rs : List Addr}
theorem w_neSI (h1 : SqL K H p (rs.map V.ref)) (h2 : SqL K H q (rs.map V.ref)) (k : Q (.bl false) H) : rNeI K (.ref p) (.ref q) H Q := ⟨p, q, rs, rfl, rfl, h1, h2, k⟩
end
end G
namespace G
open PySem PySem.Spec PyProof.Rows L2
section
variable {K : PySem.W.Frag} {H : Hp} {Q : VK} {σ : L2.St} {a : Addr} {xs : List V} {L : List HP}
/-- over a list that some claims tell of -/
theorem lcLX {g : TG} {tt : TT} {te : TE} {ws : List Nat} (Pv : Nat → List V → List HP → Prop) (w : Own L H) (h0 : Pv 0 [] L) (hx : ∀ i A L, Pv i A L → GotL K L a xs)
    (hs : ∀ (i : Nat) x Da A L H1, xs[i]? = some x → Pv i A L → Own (pt Da (.lst A) :: L) H1 → g x (wipe σ ws) H1 fun σ2 H2 => wipe σ2 ws = wipe σ ws ∧ tt σ2 H2 fun b H3 =>
      if b = true then te σ2 H3 fun y H4 => LcAdd Da (PvO Pv Da) i y H4 else PvO Pv Da (i + 1) H3)
    (hd : ∀ Da A L H1, Pv xs.length A L → Own (pt Da (.lst A) :: L) H1 → Q (.ref Da) H1) : rLcL K g tt te ws σ Q (.ref a) H := by
  refine ⟨a, rfl, ⟨_, w.sql (hx _ _ _ h0)⟩, lcO (walk_list (xs := xs)) Pv w h0 (fun i A L Da H' h w' => w'.sql (.next (hx _ _ _ h))) ?_ hd⟩
  rintro i x Da A L H1 H2 hi h w' ⟨rfl, e⟩
  exact hs i x Da A L _ e h w'
end
end G

/-! comprehensions within comprehensions -/
namespace G
open PySem PySem.Spec PyProof.Rows L2
theorem map_lookup {x : Str} {g : Str × NameKind → Str × NameKind} (h1 : ∀ p, (g p).1 = p.1) (h2 : ∀ p, p.2 = .cell ∨ p.2 = .free → (g p).2 = .cell ∨ (g p).2 = .free) : ∀ {ns : List (Str × NameKind)},
    (ns.lookup x = some .cell ∨ ns.lookup x = some .free) → (ns.map g).lookup x = some .cell ∨ (ns.map g).lookup x = some .free
  | [], h => by simp at h
  | p :: ns, h => by
    rw [List.map_cons]
    have e1 : (p :: ns).lookup x = if (x == p.1) = true then some p.2 else ns.lookup x := by
      cases p
      rw [List.lookup_cons]
      split <;> simp_all
    have e2 : (g p :: ns.map g).lookup x = if (x == p.1) = true then some (g p).2 else (ns.map g).lookup x := by
      rw [← h1 p]
      generalize g p = q
      cases q
      rw [List.lookup_cons]
      split <;> simp_all
    rw [e1] at h
    rw [e2]
    by_cases e : (x == p.1) = true
    · rw [if_pos e] at h ⊢
      rw [Option.some.injEq, Option.some.injEq] at h ⊢
      exact h2 p h
    · rw [if_neg e] at h ⊢
      exact map_lookup h1 h2 h
theorem blkOk_rel {N : List Str} {scope scope' : Scope} {own : List (Str × Nat)} {env : Env} (h : BlkOk N scope scope' own) : BlkOk N (relabel scope env) scope' own :=
  ⟨h.kind, h.uniq, h.ix, fun y hy e => map_lookup (fun p => by split; split <;> rfl) (fun p hp => by
    split
    rename_i n k
    split
    · exact .inl rfl
    · exact hp) (h.free y hy e), h.own⟩
theorem vals_take : ∀ (n : Nat) {vs : List V} {us : List Value}, Vals vs us → Vals (vs.take n) (us.take n)
  | 0, _, _, _ => .nil
  | _ + 1, _, _, .nil => .nil
  | n + 1, _, _, .cons h t => .cons h (vals_take n t)
theorem vals_drop : ∀ (n : Nat) {vs : List V} {us : List Value}, Vals vs us → Vals (vs.drop n) (us.drop n)
  | 0, _, _, h => h
  | _ + 1, _, _, .nil => .nil
  | n + 1, _, _, .cons _ t => vals_drop n t
end G

/-! comprehensions over dicts (locked meanwhile), over tuples; rows as data; sorted rows by texts -/
namespace G
open PySem PySem.Spec PyProof.Rows L2
section
variable {K : PySem.W.Frag} {H : Hp} {Q : VK} {σ : L2.St} {a d : Addr} {xs : List V} {L L1 M R : List HP} {v : V} {o : Obj} {kvs : List (Key × V)} {c : Bool}
def rLcK (g : TG) (tt : TT) (te : TE) (ws : List Nat) (σ : L2.St) (Q : VK) (x : V) (H1 : Hp) : Prop := ∃ d o, x = .ref d ∧ ((∃ kvs, H1 d = some (.frz o (.dK kvs)) ∧ rLc (Itk d o kvs) g tt te ws σ H1 Q) ∨ ∃ kvs, H1 d = some (.frz o (.dT kvs)) ∧ rLc (Itkt d o kvs) g tt te ws σ H1 Q)
instance (priority := 900) i_w_lcK {td : TE} {g : TG} {tt : TT} {te : TE} {ws : List Nat} : Stp (tLc (iKeys td) g tt te ws σ H Q) (td σ H fun x H1 => rLcK g tt te ws σ Q x H1) := ⟨fun h => h⟩
theorem lcKO {g : TG} {tt : TT} {te : TE} {ws : List Nat} (Pv : Nat → List V → List HP → Prop) (w : Own L H) (h0 : Pv 0 [] L) (hx : ∀ i A L, Pv i A L → Got L d (.frz o (.dK kvs)))
    (hs : ∀ (i : Nat) k v Da A L H1, kvs[i]? = some (k, v) → Pv i A L → Own (pt Da (.lst A) :: L) H1 → g (kV k) (wipe σ ws) H1 fun σ2 H2 => wipe σ2 ws = wipe σ ws ∧ tt σ2 H2 fun b H3 =>
      if b = true then te σ2 H3 fun y H4 => LcAdd Da (PvO Pv Da) i y H4 else PvO Pv Da (i + 1) H3)
    (hd : ∀ Da A L H1, Pv kvs.length A L → Own (pt Da (.lst A) :: L) H1 → Q (.ref Da) H1) : rLcK g tt te ws σ Q (.ref d) H := by
  refine ⟨d, o, rfl, .inl ⟨kvs, w.get (hx _ _ _ h0), lcO walk_keys Pv w h0 (fun i A L Da H' h w' => w'.get (.next (hx _ _ _ h))) ?_ hd⟩⟩
  rintro i x Da A L H1 H2 hi h w' ⟨rfl, k, v, e, rfl⟩
  exact hs i k v Da A L _ e h w'
/-- the dict is locked meanwhile -/
theorem k_lock {t : TE} {M : Obj → List HP} (w : Own L H) (g : Got L d (.dK kvs)) (h : ∀ od, Put L d (.dK kvs) (.frz od (.dK kvs)) (M od)) (q : ∀ od H1, Own (M od) H1 → t σ H1 fun v H' => H' d = some (.frz od (.dK kvs)) ∧ Q v (upd H' d (.dK kvs))) : tLockE t σ H Q :=
  ⟨d, .dK kvs, w.get g, trivial, fun od => q od _ (w.put (h od))⟩
theorem k_unlock {od : Obj} (w : Own L H) (p : Put L d (.frz od (.dK kvs)) (.dK kvs) M) (q : ∀ H', Own M H' → Q v H') : H d = some (.frz od (.dK kvs)) ∧ Q v (upd H d (.dK kvs)) := ⟨w.putGet p, q _ (w.put p)⟩
theorem k_dgFS {i : Str} (h : H d = some (.frz o (.dK kvs))) (e : valV kvs (.inr i : Key) = some v) (q : Q v H) : kDG (.ref d) (.str i) Q H := ⟨d, v, rfl, .inl ⟨kvs, .inr i, .inr ⟨o, h⟩, rfl, e.symm⟩, q⟩
theorem k_dgFI {i : Int} (h : H d = some (.frz o (.dK kvs))) (e : valV kvs (.inl i : Key) = some v) (q : Q v H) : kDG (.ref d) (.int i) Q H := ⟨d, v, rfl, .inl ⟨kvs, .inl i, .inr ⟨o, h⟩, rfl, e.symm⟩, q⟩
/-- over a tuple that some claims tell of -/
theorem lcTX {g : TG} {tt : TT} {te : TE} {ws : List Nat} (Pv : Nat → List V → List HP → Prop) (w : Own L H) (h0 : Pv 0 [] L) (hx : ∀ i A L, Pv i A L → Got L a (.tup xs))
    (hs : ∀ (i : Nat) x Da A L H1, xs[i]? = some x → Pv i A L → Own (pt Da (.lst A) :: L) H1 → g x (wipe σ ws) H1 fun σ2 H2 => wipe σ2 ws = wipe σ ws ∧ tt σ2 H2 fun b H3 =>
      if b = true then te σ2 H3 fun y H4 => LcAdd Da (PvO Pv Da) i y H4 else PvO Pv Da (i + 1) H3)
    (hd : ∀ Da A L H1, Pv xs.length A L → Own (pt Da (.lst A) :: L) H1 → Q (.ref Da) H1) : rLcT K g tt te ws σ Q (.ref a) H := by
  refine ⟨a, rfl, ⟨_, SqT.of' (w.get (hx _ _ _ h0))⟩, lcO (walk_tup (xs := xs)) Pv w h0 (fun i A L Da H' h w' => SqT.of' (w'.get (.next (hx _ _ _ h)))) ?_ hd⟩
  rintro i x Da A L H1 H2 hi h w' ⟨rfl, e⟩
  exact hs i x Da A L _ e h w'
theorem w_ixT' {i : Int} (g : SqT K H a xs) (h : atI xs i = some v) (q : Q v H) : rIx K (.ref a) (.int i) H Q := .inr (.inl ⟨a, xs, i, v, rfl, rfl, g, h, q⟩)
theorem w_ixL' {i : Int} (g : SqL K H a xs) (h : atI xs i = some v) (q : Q v H) : rIx K (.ref a) (.int i) H Q := .inl ⟨a, xs, i, v, rfl, rfl, g, h, q⟩
theorem k_sum {ns : List Int} (g : SqL K H a (ns.map V.int)) (q : Q (.int ns.sum) H) : rSum K [.ref a] H Q := ⟨a, ns, rfl, g, q⟩
theorem k_truB {b : Bool} {P : Bool → Prop} (q : P b) : ∃ k, TruV K (.bl b) H k ∧ P k := ⟨b, rfl, q⟩
instance (priority := 950) i_truB {b : Bool} {P : Bool → Prop} : Stp (∃ k, TruV K (.bl b) H k ∧ P k) (P b) := ⟨k_truB⟩
end
/-! rows as data -/
section
variable {K : PySem.W.Frag} {β : Type} {f : Addr → β → HP} {dv : β → PyData}
theorem dp_rows (t : ∀ x y, Tell (f x y) fun H => Dp K H (.ref x) (dv y)) : ∀ {as : List Addr} {bs : List β} {L : List HP} {H : Hp}, Own (big f as bs :: L) H → DpAll K H (as.map V.ref) (bs.map dv)
  | [], [], _, _, _ => .nil
  | a :: as, b :: bs, L, H, w => .cons (w.bigUncons.ent (.here (t a b))) (dp_rows t w.bigUncons.tail)
  | [], _ :: _, _, _, w => nomatch w.bigLen
  | _ :: _, [], _, _, w => nomatch w.bigLen
theorem Own.bigDts {as : List Addr} {bs : List β} {L : List HP} {H : Hp} (t : ∀ x y, Tell (f x y) fun H => Dp K H (.ref x) (dv y)) (w : Own (big f as bs :: L) H) : Own (DTs K (as.map V.ref) (bs.map dv) :: L) H :=
  w.head fun h p H e => dp_rows t (L := []) ⟨h, e, h, LHnone, dis_none_r, LSub.rfl', sub_none, p, trivial⟩
/-- a list of rows is data -/
theorem Own.bigDT {c : Bool} {l : Addr} {as : List Addr} {bs : List β} {L : List HP} {H : Hp} (t : ∀ x y, Tell (f x y) fun H => Dp K H (.ref x) (dv y)) (w : Own (cell c l (.lst (as.map V.ref)) :: big f as bs :: L) H) : Own (DT K (.ref l) (.list (bs.map dv)) :: L) H :=
  Own.dtLst ((Own.bigDts t w.swap).swap)
end
section
variable {K : PySem.W.Frag}
theorem k_sortGS {α : Type} {F : Addr → α → HP} {num : α → Str} (tl : ∀ t x, Tell (F t x) fun H => ∃ tl, H t = some (.tup (.str (num x) :: tl))) {L L1 R : List HP} {H : Hp} {Q : VK} {l : Addr} {c : Bool} {ts : List Addr} {xs : List α} (hn : (xs.map num).Nodup) (w : Own L H) (p1 : Pick L (cell c l (.lst (ts.map V.ref))) L1) (p2 : Pick L1 (big F ts xs) R)
    (q : ∀ D ts' xs' H', xs'.Perm xs → xs'.Pairwise (fun a b => SrtO.ltS (num b) (num a) = false) → Own (pt D (.lst (ts'.map V.ref)) :: big F ts' xs' :: cell c l (.lst (ts.map V.ref)) :: R) H' → Q (.ref D) H') : rSortedTS K [.ref l] H Q := by
  have w1 := w.take2 p1 p2
  have hlen := w1.swap.bigLen
  have e1 : (ts.zip xs).map (·.1) = ts := List.map_fst_zip (by omega)
  have e2 : (ts.zip xs).map (·.2) = xs := List.map_snd_zip (by omega)
  have tell : ∀ z ∈ ts.zip xs, ∃ tl, H z.1 = some (.tup (.str (num z.2) :: tl)) := fun z hz => by
    obtain ⟨i, hi⟩ := List.getElem?_of_mem hz
    obtain ⟨ha, hb⟩ := List.getElem?_zip_eq_some.mp hi
    exact w1.swap.bigTell ha hb (tl _ _)
  have hk : ∀ z ∈ ts.zip xs, (match H z.1 with | some (.tup (.str n :: _)) => n | _ => Str.empty) = num z.2 := fun z hz => by
    obtain ⟨tl, e⟩ := tell z hz
    rw [e]
  refine ⟨l, ts.map V.ref, fun v => match v with | .ref t => (match H t with | some (.tup (.str n :: _)) => n | _ => Str.empty) | _ => Str.empty, rfl, w1.sql .here, fun x hx => ?_, fun x hx y hy e => ?_, fun ys D hp1 hp2 hD => ?_⟩
  · rw [← e1] at hx
    obtain ⟨t, ht, rfl⟩ := List.mem_map.mp hx
    obtain ⟨z, hz, rfl⟩ := List.mem_map.mp ht
    obtain ⟨tl, e⟩ := tell z hz
    refine ⟨z.1, tl, rfl, ?_⟩
    show H z.1 = some (.tup (.str (match H z.1 with | some (.tup (.str n :: _)) => n | _ => Str.empty) :: tl))
    rw [hk z hz]
    exact e
  · rw [← e1] at hx hy
    obtain ⟨t, ht, rfl⟩ := List.mem_map.mp hx
    obtain ⟨z, hz, rfl⟩ := List.mem_map.mp ht
    obtain ⟨t', ht', rfl⟩ := List.mem_map.mp hy
    obtain ⟨z', hz', rfl⟩ := List.mem_map.mp ht'
    have e' : num z.2 = num z'.2 := (hk z hz).symm.trans (e.trans (hk z' hz'))
    obtain ⟨i, hi⟩ := List.getElem?_of_mem hz
    obtain ⟨j, hj⟩ := List.getElem?_of_mem hz'
    have hi2 : (xs.map num)[i]? = some (num z.2) := by rw [List.getElem?_map, (List.getElem?_zip_eq_some.mp hi).2]; rfl
    have hj2 : (xs.map num)[j]? = some (num z.2) := by rw [List.getElem?_map, (List.getElem?_zip_eq_some.mp hj).2, e']; rfl
    have : i = j := (List.getElem?_inj (List.getElem?_eq_some_iff.mp hi2).1 hn).mp (hi2.trans hj2.symm)
    subst this
    rw [hi] at hj
    cases hj
    rfl
  · have e3 : ts.map V.ref = (ts.zip xs).map (fun z => V.ref z.1) := by
      have := congrArg (List.map V.ref) e1
      rw [List.map_map] at this
      exact this.symm
    rw [e3] at hp2
    obtain ⟨zs', hz, e4⟩ := perm_inv hp2
    have w2 : Own (big F ((ts.zip xs).map (·.1)) ((ts.zip xs).map (·.2)) :: cell c l (.lst (ts.map V.ref)) :: R) H := by rw [e1, e2]; exact w1.swap
    have w3 := (big_perm hz.symm w2).new hD (o := .lst ys)
    have e5 : ys = (zs'.map (·.1)).map V.ref := by rw [List.map_map]; exact e4.symm
    rw [e5] at w3 ⊢
    refine q D (zs'.map (·.1)) (zs'.map (·.2)) _ ?_ ?_ w3
    · have := hz.map (·.2)
      rw [e2] at this
      exact this
    · rw [← e4] at hp1
      rw [List.pairwise_map] at hp1 ⊢
      refine hp1.imp_of_mem fun {a b} ha hb h => ?_
      have h1 := hk a (hz.mem_iff.mp ha)
      have h2 := hk b (hz.mem_iff.mp hb)
      have h' : SrtO.ltS (match H b.1 with | some (.tup (.str n :: _)) => n | _ => Str.empty) (match H a.1 with | some (.tup (.str n :: _)) => n | _ => Str.empty) = false := h
      rw [h1, h2] at h'
      exact h'
end
/-! the order of texts -/
theorem ltS_tri {a b : Str} (h1 : SrtO.ltS b a = false) (h2 : a ≠ b) : SrtO.ltS a b = true := by
  unfold SrtO.ltS at h1 ⊢
  rw [decide_eq_true_eq]
  have h1 := of_decide_eq_false h1
  refine Classical.byContradiction fun h3 => h2 ?_
  have e : a.cps.toList = b.cps.toList := List.le_antisymm (List.not_lt.mp h1) (List.not_lt.mp h3)
  cases a; cases b
  congr 1
  exact Array.toList_inj.mp e
theorem ltS_irr {a : Str} : SrtO.ltS a a ≠ true := by rw [SrtO.ltS_self]; exact Bool.false_ne_true
theorem ltS_trans {a b c : Str} (h1 : SrtO.ltS a b = true) (h2 : SrtO.ltS b c = true) : SrtO.ltS a c = true := by
  unfold SrtO.ltS at *
  rw [decide_eq_true_eq] at *
  exact List.lt_trans h1 h2
/-- strictly ascending rows with the same members are the same -/
theorem asc_ext {α : Type} {lt : α → α → Prop} (irr : ∀ a, ¬ lt a a) (tr : ∀ a b c, lt a b → lt b c → lt a c) : ∀ {l m : List α}, l.Pairwise lt → m.Pairwise lt → (∀ x, x ∈ l ↔ x ∈ m) → l = m
  | [], [], _, _, _ => rfl
  | [], b :: m, _, _, h => absurd ((h b).mpr List.mem_cons_self) (fun z => nomatch z)
  | a :: l, [], _, _, h => absurd ((h a).mp List.mem_cons_self) (fun z => nomatch z)
  | a :: l, b :: m, h1, h2, h => by
    obtain ⟨p1, p2⟩ := List.pairwise_cons.mp h1
    obtain ⟨q1, q2⟩ := List.pairwise_cons.mp h2
    have e : a = b := by
      rcases List.mem_cons.mp ((h a).mp List.mem_cons_self) with e | e
      · exact e
      · rcases List.mem_cons.mp ((h b).mpr List.mem_cons_self) with e2 | e2
        · exact e2.symm
        · exact absurd (tr _ _ _ (p1 b e2) (q1 a e)) (irr a)
    subst e
    rw [asc_ext irr tr p2 q2 fun x => ⟨fun hx => ?_, fun hx => ?_⟩]
    · rcases List.mem_cons.mp ((h x).mp (List.mem_cons_of_mem _ hx)) with e | e
      · subst e; exact absurd (p1 x hx) (irr x)
      · exact e
    · rcases List.mem_cons.mp ((h x).mpr (List.mem_cons_of_mem _ hx)) with e | e
      · subst e; exact absurd (q1 x hx) (irr x)
      · exact e
/-! in lists of texts, of numbers -/
theorem szl {n : Nat} (h : n < 16000000) : n < sizeLine := small16 (n := n + 1) h
theorem inV_strs {n : Str} : ∀ {ns : List Str}, inV (.str n) (ns.map V.str) = decide (n ∈ ns)
  | [] => by simp [inV]
  | m :: ns => by
    have ih := inV_strs (n := n) (ns := ns)
    unfold inV at ih ⊢
    rw [List.map_cons, List.any_cons, ih, Bool.eq_iff_iff, Bool.or_eq_true, decide_eq_true_eq, decide_eq_true_eq, List.mem_cons]
    have e : eqV (.str m) (.str n) = decide (m = n) := by
      show (m == n) = decide (m = n)
      rw [Bool.eq_iff_iff, beq_iff_eq, decide_eq_true_eq]
    rw [e, decide_eq_true_eq]
    exact ⟨fun z => z.elim (fun q => .inl q.symm) .inr, fun z => z.elim (fun q => .inl q.symm) .inr⟩
theorem strs_flat {ns : List Str} : (ns.map V.str).all flatV = true := by
  rw [List.all_map]
  exact List.all_eq_true.mpr fun _ _ => rfl
theorem mra_str {ps : List Str} {i : Nat} {x : V} (h : (ps.map V.str)[i]? = some x) : ∃ p, ps[i]? = some p ∧ V.str p = x := by
  rw [List.getElem?_map] at h
  cases e : ps[i]? with
  | none => rw [e] at h; cases h
  | some p => rw [e] at h; cases h; exact ⟨p, rfl, rfl⟩
theorem inV_ints {i : Int} : ∀ {ns : List Int}, inV (.int i) (ns.map V.int) = decide (i ∈ ns)
  | [] => by simp [inV]
  | n :: ns => by
    have ih := inV_ints (i := i) (ns := ns)
    unfold inV at ih ⊢
    rw [List.map_cons, List.any_cons, ih, Bool.eq_iff_iff, Bool.or_eq_true, decide_eq_true_eq, decide_eq_true_eq, List.mem_cons]
    have e : eqV (.int n) (.int i) = decide (n = i) := by
      show (n == i) = decide (n = i)
      rw [Bool.eq_iff_iff, beq_iff_eq, decide_eq_true_eq]
    rw [e, decide_eq_true_eq]
    exact ⟨fun z => z.elim (fun q => .inl q.symm) .inr, fun z => z.elim (fun q => .inl q.symm) .inr⟩
theorem ints_flat {ns : List Int} : (ns.map V.int).all flatV = true := by
  rw [List.all_map]
  exact List.all_eq_true.mpr fun _ _ => rfl
end G

/-! sorted: items that read as data -/
namespace G
open PySem PySem.Spec PyProof.Rows L2
theorem each_of_vals {R : Value → V → Prop} : ∀ {xs : List V} {us : List Value}, Vals xs us → (∀ x ∈ xs, ∀ u, RelV x u → R u x) → PySem.W.EachIs R us xs
  | _, _, .nil, _ => .nil
  | _, _, .cons r rs, h => .cons (h _ List.mem_cons_self _ r) (each_of_vals rs fun x hx => h x (List.mem_cons_of_mem _ hx))
theorem vals_of_each : ∀ {xs : List V} {us : List Value}, PySem.W.EachIs (fun u x => RelV x u) us xs → Vals xs us
  | _, _, .nil => .nil
  | _, _, .cons r rs => .cons r (vals_of_each rs)
/-- sorted(xs), xs read as data -/
def rSortedN (K : PySem.W.Frag) : List V → Hp → VK → Prop := fun vs H Q => ∃ (a : Addr) (bs : List (V × PyData)), vs = [V.ref a] ∧ SqL K H a (bs.map (·.1)) ∧ (∀ b ∈ bs, Dp K H b.1 b.2) ∧ PySem.W.AllAlike (bs.map (·.2)) ∧ PySem.W.Sortable (bs.map (·.2)) ∧ (∀ b ∈ bs, b.2.depth ≤ 60) ∧
  ∀ p, H p = none → Q (.ref p) (upd H p (.lst ((bs.mergeSort (PySem.W.dataLe false (·.2))).map (·.1))))
theorem each_of_valsM {β : Type} {f : β → V} {R : Value → β → Prop} : ∀ {bs : List β} {us : List Value}, Vals (bs.map f) us → (∀ b ∈ bs, ∀ u, RelV (f b) u → R u b) → PySem.W.EachIs R us bs
  | [], _, .nil, _ => .nil
  | b :: bs, _, .cons r rs, h => .cons (h _ List.mem_cons_self _ r) (each_of_valsM rs fun x hx => h x (List.mem_cons_of_mem _ hx))
theorem vals_of_eachM {β : Type} {f : β → V} : ∀ {bs : List β} {us : List Value}, PySem.W.EachIs (fun u b => RelV (f b) u) us bs → Vals (bs.map f) us
  | _, _, .nil => .nil
  | _, _, .cons r rs => .cons r (vals_of_eachM rs)
theorem cr_sortedN {X : Cx} (hu : X.A.units + 65 < cLine) : CallR X (.builtin "sorted") (rSortedN X.K) := by
  intro pins s σ H vs us Q I r h
  obtain ⟨a, bs, rfl, hs, hx, hal, hk, hd, q⟩ := h
  obtain ⟨its, rv, hl, hz⟩ := I.list hs
  obtain ⟨u, rfl, ru⟩ := vals1 r
  obtain rfl : u = Value.ref a := ru
  rw [List.length_map] at hz
  refine PySem.W.sorted_data (β := V × PyData) (R := fun u b => RelV b.1 u) (enc := (·.2)) (bs := bs) hl.isList (each_of_valsM rv fun x _ u h => h) (each_of_valsM rv fun x hm u h => Dp.reads I _ _ _ (hx x hm) h) hal hk hz (fun b hb => by have := hd b hb; omega) fun out ho eo => ?_
  obtain ⟨n, hn⟩ := sortedAll_at s.heap its out.toArray
  exact ⟨.ref (s.heap.objs.size + 1), upd H (s.heap.objs.size + 1) (.lst _), I.laid (t' := s.toks) (fun b o e => sortedAll_old e) (Nat.le_succ _) ⟨by rw [List.length_map, List.length_mergeSort]; exact hz, out, n, vals_of_eachM eo, hn⟩, rfl, q _ (I.hok.fresh (Nat.le_succ _))⟩
theorem k_sortN {K : PySem.W.Frag} {α : Type} {F : Addr → α → HP} {dv : α → PyData} (tl : ∀ t x, Tell (F t x) fun H => Dp K H (.ref t) (dv x)) (hal : ∀ x y, PySem.W.alike (dv x) (dv y) = true) (hk : ∀ x, ∃ y r, dv x = .tuple (y :: r)) (hd : ∀ x, (dv x).depth ≤ 60)
    {L L1 R : List HP} {H : Hp} {Q : VK} {l : Addr} {c : Bool} {ts : List Addr} {xs : List α} (w : Own L H) (p1 : Pick L (cell c l (.lst (ts.map V.ref))) L1) (p2 : Pick L1 (big F ts xs) R)
    (q : ∀ D ts' H', Own (pt D (.lst (ts'.map V.ref)) :: big F ts' (xs.mergeSort (PySem.W.dataLe false dv)) :: cell c l (.lst (ts.map V.ref)) :: R) H' → Q (.ref D) H') : rSortedN K [.ref l] H Q := by
  have w1 := w.take2 p1 p2
  have hlen := w1.swap.bigLen
  have e1 : (ts.zip xs).map (·.1) = ts := List.map_fst_zip (by omega)
  have e2 : (ts.zip xs).map (·.2) = xs := List.map_snd_zip (by omega)
  have tell : ∀ z ∈ ts.zip xs, Dp K H (.ref z.1) (dv z.2) := fun z hz => by
    obtain ⟨i, hi⟩ := List.getElem?_of_mem hz
    obtain ⟨ha, hb⟩ := List.getElem?_zip_eq_some.mp hi
    exact w1.swap.bigTell ha hb (tl _ _)
  have e3 : ts.map V.ref = ((ts.zip xs).map fun z => (V.ref z.1, dv z.2)).map (·.1) := by
    have := congrArg (List.map V.ref) e1
    rw [List.map_map] at this ⊢
    exact this.symm
  refine ⟨l, (ts.zip xs).map fun z => (V.ref z.1, dv z.2), rfl, by rw [← e3]; exact w1.sql .here, fun b hb => ?_, fun b hb b' hb' => ?_, .inl fun b hb => ?_, fun b hb => ?_, fun D hD => ?_⟩
  · obtain ⟨z, hz, rfl⟩ := List.mem_map.mp hb
    exact tell z hz
  · rw [List.map_map] at hb hb'
    obtain ⟨z, _, rfl⟩ := List.mem_map.mp hb
    obtain ⟨z', _, rfl⟩ := List.mem_map.mp hb'
    exact hal _ _
  · rw [List.map_map] at hb
    obtain ⟨z, _, rfl⟩ := List.mem_map.mp hb
    exact hk _
  · obtain ⟨z, hz, rfl⟩ := List.mem_map.mp hb
    exact hd _
  · have m1 := List.map_mergeSort (r := fun a b : Addr × α => PySem.W.dataLe false dv a.2 b.2) (s := PySem.W.dataLe false (·.2)) (f := fun z : Addr × α => (V.ref z.1, dv z.2)) (l := ts.zip xs) (fun _ _ _ _ => rfl)
    have m2 := List.map_mergeSort (r := fun a b : Addr × α => PySem.W.dataLe false dv a.2 b.2) (s := PySem.W.dataLe false dv) (f := fun z : Addr × α => z.2) (l := ts.zip xs) (fun _ _ _ _ => rfl)
    rw [← m1]
    rw [e2] at m2
    have hz := List.mergeSort_perm (ts.zip xs) (fun a b : Addr × α => PySem.W.dataLe false dv a.2 b.2)
    generalize (ts.zip xs).mergeSort (fun a b : Addr × α => PySem.W.dataLe false dv a.2 b.2) = zs' at m1 m2 hz ⊢
    have w2 : Own (big F ((ts.zip xs).map (·.1)) ((ts.zip xs).map (·.2)) :: cell c l (.lst (ts.map V.ref)) :: R) H := by rw [e1, e2]; exact w1.swap
    have e5 : (zs'.map fun z => (V.ref z.1, dv z.2)).map (·.1) = (zs'.map (·.1)).map V.ref := by rw [List.map_map, List.map_map]; rfl
    rw [e5]
    have w3 := (big_perm hz.symm w2).new hD (o := .lst ((zs'.map (·.1)).map V.ref))
    rw [← m2] at q
    exact q D (zs'.map (·.1)) _ w3
end G

namespace K74
open PySem PySem.Spec PyProof.Rows L2 G

def top (i : Nat) : Stmt := PySem.Challenge.pw_throughway_k74_tables_find_the_longest_p.main.body.getD i (.Pass ⟨0, 0, 0, 0⟩)

abbrev s_span_of : Stmt := top 8
abbrev N_span_of : List Str := ["length"]
abbrev P_span_of : List Str := ["length"]

theorem sc_span_of : FnScope N_span_of P_span_of (defScope s_span_of) := ⟨rfl, rfl, rfl, by decide +kernel, rfl, by decide +kernel, by decide +kernel⟩

abbrev D_span_of : He.DefD := ⟨("span_of", none), "span_of", "span_of", defArgs s_span_of, defBody s_span_of, defScope s_span_of, [], []⟩

abbrev s_bit_of : Stmt := top 9
abbrev N_bit_of : List Str := ["address", "at"]
abbrev P_bit_of : List Str := ["address", "at"]

theorem sc_bit_of : FnScope N_bit_of P_bit_of (defScope s_bit_of) := ⟨rfl, rfl, rfl, by decide +kernel, rfl, by decide +kernel, by decide +kernel⟩

abbrev D_bit_of : He.DefD := ⟨("bit_of", none), "bit_of", "bit_of", defArgs s_bit_of, defBody s_bit_of, defScope s_bit_of, [], []⟩

abbrev s_Prefix_init : Stmt := inClass (top 10) 0
abbrev N_Prefix_init : List Str := ["self", "base", "length"]
abbrev P_Prefix_init : List Str := ["self", "base", "length"]

theorem sc_Prefix_init : FnScope N_Prefix_init P_Prefix_init (defScope s_Prefix_init) := ⟨rfl, rfl, rfl, by decide +kernel, rfl, by decide +kernel, by decide +kernel⟩

abbrev D_Prefix_init : He.DefD := ⟨("Prefix", some "__init__"), "__init__", "Prefix.__init__", defArgs s_Prefix_init, defBody s_Prefix_init, defScope s_Prefix_init, [], []⟩

abbrev s_Prefix_pair : Stmt := inClass (top 10) 2
abbrev N_Prefix_pair : List Str := ["self"]
abbrev P_Prefix_pair : List Str := ["self"]

theorem sc_Prefix_pair : FnScope N_Prefix_pair P_Prefix_pair (defScope s_Prefix_pair) := ⟨rfl, rfl, rfl, by decide +kernel, rfl, by decide +kernel, by decide +kernel⟩

abbrev D_Prefix_pair : He.DefD := ⟨("Prefix", some "pair"), "pair", "Prefix.pair", defArgs s_Prefix_pair, defBody s_Prefix_pair, defScope s_Prefix_pair, [], []⟩

abbrev s_Node_init : Stmt := inClass (top 12) 0
abbrev N_Node_init : List Str := ["self"]
abbrev P_Node_init : List Str := ["self"]

theorem sc_Node_init : FnScope N_Node_init P_Node_init (defScope s_Node_init) := ⟨rfl, rfl, rfl, by decide +kernel, rfl, by decide +kernel, by decide +kernel⟩

abbrev D_Node_init : He.DefD := ⟨("Node", some "__init__"), "__init__", "Node.__init__", defArgs s_Node_init, defBody s_Node_init, defScope s_Node_init, [], []⟩

abbrev s_Node_is_empty : Stmt := inClass (top 12) 1
abbrev N_Node_is_empty : List Str := ["self"]
abbrev P_Node_is_empty : List Str := ["self"]

theorem sc_Node_is_empty : FnScope N_Node_is_empty P_Node_is_empty (defScope s_Node_is_empty) := ⟨rfl, rfl, rfl, by decide +kernel, rfl, by decide +kernel, by decide +kernel⟩

abbrev D_Node_is_empty : He.DefD := ⟨("Node", some "is_empty"), "is_empty", "Node.is_empty", defArgs s_Node_is_empty, defBody s_Node_is_empty, defScope s_Node_is_empty, [], []⟩

abbrev s_Node_fork : Stmt := inClass (top 12) 2
abbrev N_Node_fork : List Str := ["self", "double", "bit"]
abbrev P_Node_fork : List Str := ["self"]

theorem sc_Node_fork : FnScope N_Node_fork P_Node_fork (defScope s_Node_fork) := ⟨rfl, rfl, rfl, by decide +kernel, rfl, by decide +kernel, by decide +kernel⟩

abbrev D_Node_fork : He.DefD := ⟨("Node", some "fork"), "fork", "Node.fork", defArgs s_Node_fork, defBody s_Node_fork, defScope s_Node_fork, [], []⟩

abbrev s_prune : Stmt := top 13
abbrev N_prune : List Str := ["node", "bit"]
abbrev P_prune : List Str := ["node", "bit"]

theorem sc_prune : FnScope N_prune P_prune (defScope s_prune) := ⟨rfl, rfl, rfl, by decide +kernel, rfl, by decide +kernel, by decide +kernel⟩

abbrev D_prune : He.DefD := ⟨("prune", none), "prune", "prune", defArgs s_prune, defBody s_prune, defScope s_prune, [], []⟩

abbrev s_list_below : Stmt := top 14
abbrev N_list_below : List Str := ["node", "base", "length", "entries", "bit"]
abbrev P_list_below : List Str := ["node", "base", "length", "entries"]

theorem sc_list_below : FnScope N_list_below P_list_below (defScope s_list_below) := ⟨rfl, rfl, rfl, by decide +kernel, rfl, by decide +kernel, by decide +kernel⟩

abbrev D_list_below : He.DefD := ⟨("list_below", none), "list_below", "list_below", defArgs s_list_below, defBody s_list_below, defScope s_list_below, [], []⟩

abbrev s_Table_init : Stmt := inClass (top 15) 0
abbrev N_Table_init : List Str := ["self"]
abbrev P_Table_init : List Str := ["self"]

theorem sc_Table_init : FnScope N_Table_init P_Table_init (defScope s_Table_init) := ⟨rfl, rfl, rfl, by decide +kernel, rfl, by decide +kernel, by decide +kernel⟩

abbrev D_Table_init : He.DefD := ⟨("Table", some "__init__"), "__init__", "Table.__init__", defArgs s_Table_init, defBody s_Table_init, defScope s_Table_init, [], []⟩

abbrev s_Table_path : Stmt := inClass (top 15) 1
abbrev N_Table_path : List Str := ["self", "prefix", "nodes", "at", "node"]
abbrev P_Table_path : List Str := ["self", "prefix"]

theorem sc_Table_path : FnScope N_Table_path P_Table_path (defScope s_Table_path) := ⟨rfl, rfl, rfl, by decide +kernel, rfl, by decide +kernel, by decide +kernel⟩

abbrev D_Table_path : He.DefD := ⟨("Table", some "path"), "path", "Table.path", defArgs s_Table_path, defBody s_Table_path, defScope s_Table_path, [], []⟩

abbrev s_Table_put : Stmt := inClass (top 15) 2
abbrev N_Table_put : List Str := ["self", "prefix", "way", "nodes", "node", "at", "fresh"]
abbrev P_Table_put : List Str := ["self", "prefix", "way"]

theorem sc_Table_put : FnScope N_Table_put P_Table_put (defScope s_Table_put) := ⟨rfl, rfl, rfl, by decide +kernel, rfl, by decide +kernel, by decide +kernel⟩

abbrev D_Table_put : He.DefD := ⟨("Table", some "put"), "put", "Table.put", defArgs s_Table_put, defBody s_Table_put, defScope s_Table_put, [], []⟩

abbrev s_Table_drop : Stmt := inClass (top 15) 3
abbrev N_Table_drop : List Str := ["self", "prefix", "nodes", "at"]
abbrev P_Table_drop : List Str := ["self", "prefix"]

theorem sc_Table_drop : FnScope N_Table_drop P_Table_drop (defScope s_Table_drop) := ⟨rfl, rfl, rfl, by decide +kernel, rfl, by decide +kernel, by decide +kernel⟩

abbrev D_Table_drop : He.DefD := ⟨("Table", some "drop"), "drop", "Table.drop", defArgs s_Table_drop, defBody s_Table_drop, defScope s_Table_drop, [], []⟩

abbrev s_Table_way_of : Stmt := inClass (top 15) 4
abbrev N_Table_way_of : List Str := ["self", "prefix", "nodes"]
abbrev P_Table_way_of : List Str := ["self", "prefix"]

theorem sc_Table_way_of : FnScope N_Table_way_of P_Table_way_of (defScope s_Table_way_of) := ⟨rfl, rfl, rfl, by decide +kernel, rfl, by decide +kernel, by decide +kernel⟩

abbrev D_Table_way_of : He.DefD := ⟨("Table", some "way_of"), "way_of", "Table.way_of", defArgs s_Table_way_of, defBody s_Table_way_of, defScope s_Table_way_of, [], []⟩

abbrev s_Table_find : Stmt := inClass (top 15) 5
abbrev N_Table_find : List Str := ["self", "address", "way", "node", "at"]
abbrev P_Table_find : List Str := ["self", "address"]

theorem sc_Table_find : FnScope N_Table_find P_Table_find (defScope s_Table_find) := ⟨rfl, rfl, rfl, by decide +kernel, rfl, by decide +kernel, by decide +kernel⟩

abbrev D_Table_find : He.DefD := ⟨("Table", some "find"), "find", "Table.find", defArgs s_Table_find, defBody s_Table_find, defScope s_Table_find, [], []⟩

abbrev s_Table_entries : Stmt := inClass (top 15) 6
abbrev N_Table_entries : List Str := ["self", "entries"]
abbrev P_Table_entries : List Str := ["self"]

theorem sc_Table_entries : FnScope N_Table_entries P_Table_entries (defScope s_Table_entries) := ⟨rfl, rfl, rfl, by decide +kernel, rfl, by decide +kernel, by decide +kernel⟩

abbrev D_Table_entries : He.DefD := ⟨("Table", some "entries"), "entries", "Table.entries", defArgs s_Table_entries, defBody s_Table_entries, defScope s_Table_entries, [], []⟩

abbrev s_Table_fork : Stmt := inClass (top 15) 8
abbrev N_Table_fork : List Str := ["self", "double"]
abbrev P_Table_fork : List Str := ["self"]

theorem sc_Table_fork : FnScope N_Table_fork P_Table_fork (defScope s_Table_fork) := ⟨rfl, rfl, rfl, by decide +kernel, rfl, by decide +kernel, by decide +kernel⟩

abbrev D_Table_fork : He.DefD := ⟨("Table", some "fork"), "fork", "Table.fork", defArgs s_Table_fork, defBody s_Table_fork, defScope s_Table_fork, [], []⟩

abbrev s_law_span : Stmt := top 17
abbrev N_law_span : List Str := ["length"]
abbrev P_law_span : List Str := ["length"]

theorem sc_law_span : FnScope N_law_span P_law_span (defScope s_law_span) := ⟨rfl, rfl, rfl, by decide +kernel, rfl, by decide +kernel, by decide +kernel⟩

abbrev D_law_span : He.DefD := ⟨("_law_span", none), "_law_span", "_law_span", defArgs s_law_span, defBody s_law_span, defScope s_law_span, [], []⟩

abbrev s_law_cell : Stmt := top 18
abbrev N_law_cell : List Str := ["script", "k"]
abbrev P_law_cell : List Str := ["script", "k"]

theorem sc_law_cell : FnScope N_law_cell P_law_cell (defScope s_law_cell) := ⟨rfl, rfl, rfl, by decide +kernel, rfl, by decide +kernel, by decide +kernel⟩

abbrev D_law_cell : He.DefD := ⟨("_law_cell", none), "_law_cell", "_law_cell", defArgs s_law_cell, defBody s_law_cell, defScope s_law_cell, [], []⟩

abbrev s_law_start : Stmt := top 19
abbrev N_law_start : List Str := ["cell", "k", "prime", "mixed", "number", "turn"]
abbrev P_law_start : List Str := ["cell", "k"]

theorem sc_law_start : FnScope N_law_start P_law_start (defScope s_law_start) := ⟨rfl, rfl, rfl, by decide +kernel, rfl, by decide +kernel, by decide +kernel⟩

abbrev D_law_start : He.DefD := ⟨("_law_start", none), "_law_start", "_law_start", defArgs s_law_start, defBody s_law_start, defScope s_law_start, [], []⟩

abbrev s_law_digit : Stmt := top 20
abbrev N_law_digit : List Str := ["state", "many", "digit"]
abbrev P_law_digit : List Str := ["state", "many"]

theorem sc_law_digit : FnScope N_law_digit P_law_digit (defScope s_law_digit) := ⟨rfl, rfl, rfl, by decide +kernel, rfl, by decide +kernel, by decide +kernel⟩

abbrev D_law_digit : He.DefD := ⟨("_law_digit", none), "_law_digit", "_law_digit", defArgs s_law_digit, defBody s_law_digit, defScope s_law_digit, [], []⟩

abbrev s_law_prefix : Stmt := top 21
abbrev N_law_prefix : List Str := ["state", "length", "high", "address"]
abbrev P_law_prefix : List Str := ["state"]

theorem sc_law_prefix : FnScope N_law_prefix P_law_prefix (defScope s_law_prefix) := ⟨rfl, rfl, rfl, by decide +kernel, rfl, by decide +kernel, by decide +kernel⟩

abbrev D_law_prefix : He.DefD := ⟨("_law_prefix", none), "_law_prefix", "_law_prefix", defArgs s_law_prefix, defBody s_law_prefix, defScope s_law_prefix, [], []⟩

abbrev s_law_at : Stmt := top 22
abbrev N_law_at : List Str := ["rows", "key", "k"]
abbrev P_law_at : List Str := ["rows", "key"]

theorem sc_law_at : FnScope N_law_at P_law_at (defScope s_law_at) := ⟨rfl, rfl, rfl, by decide +kernel, rfl, by decide +kernel, by decide +kernel⟩

abbrev D_law_at : He.DefD := ⟨("_law_at", none), "_law_at", "_law_at", defArgs s_law_at, defBody s_law_at, defScope s_law_at, [], []⟩

abbrev s_law_find : Stmt := top 23
abbrev N_law_find : List Str := ["rows", "address", "best", "row", "covers"]
abbrev P_law_find : List Str := ["rows", "address"]

theorem sc_law_find : FnScope N_law_find P_law_find (defScope s_law_find) := ⟨rfl, rfl, rfl, by decide +kernel, rfl, by decide +kernel, by decide +kernel⟩

abbrev D_law_find : He.DefD := ⟨("_law_find", none), "_law_find", "_law_find", defArgs s_law_find, defBody s_law_find, defScope s_law_find, [], []⟩

abbrev s_law_agrees : Stmt := top 24
abbrev N_law_agrees : List Str := ["table", "rows", "state", "told", "prefix", "way", "addresses", "row", "first", "last", "address", "at"]
abbrev P_law_agrees : List Str := ["table", "rows", "state"]

theorem sc_law_agrees : FnScope N_law_agrees P_law_agrees (defScope s_law_agrees) := ⟨rfl, rfl, rfl, by decide +kernel, rfl, by decide +kernel, by decide +kernel⟩

abbrev D_law_agrees : He.DefD := ⟨("_law_agrees", none), "_law_agrees", "_law_agrees", defArgs s_law_agrees, defBody s_law_agrees, defScope s_law_agrees, [], []⟩

abbrev s_law_deed : Stmt := top 25
abbrev N_law_deed : List Str := ["table", "rows", "state", "prefix", "key", "at", "left", "row", "way"]
abbrev P_law_deed : List Str := ["table", "rows", "state"]

theorem sc_law_deed : FnScope N_law_deed P_law_deed (defScope s_law_deed) := ⟨rfl, rfl, rfl, by decide +kernel, rfl, by decide +kernel, by decide +kernel⟩

abbrev D_law_deed : He.DefD := ⟨("_law_deed", none), "_law_deed", "_law_deed", defArgs s_law_deed, defBody s_law_deed, defScope s_law_deed, [], []⟩

abbrev s_law : Stmt := top 26
abbrev N_law : List Str := ["script", "table", "rows", "beside", "kept", "k", "state"]
abbrev P_law : List Str := ["script"]

theorem sc_law : FnScope N_law P_law (defScope s_law) := ⟨rfl, rfl, rfl, by decide +kernel, rfl, by decide +kernel, by decide +kernel⟩

abbrev D_law : He.DefD := ⟨("law", none), "law", "law", defArgs s_law, defBody s_law, defScope s_law, [], []⟩

abbrev fn : List He.DefD := [D_span_of, D_bit_of, D_Prefix_init, D_Prefix_pair, D_Node_init, D_Node_is_empty, D_Node_fork, D_prune, D_list_below, D_Table_init, D_Table_path, D_Table_put, D_Table_drop, D_Table_way_of, D_Table_find, D_Table_entries, D_Table_fork, D_law_span, D_law_cell, D_law_start, D_law_digit, D_law_prefix, D_law_at, D_law_find, D_law_agrees, D_law_deed, D_law]

abbrev fa : List He.Fa := [.glo "SPANS", .int "BITS" 16, .exc "InvalidPrefix", .glo "InvalidPrefix", .int "ADDRESSES" 65536, .free "range", .free "len", .free "int", .free "sorted", .free "min", .glo "span_of", .glo "bit_of", .glo "Prefix", .mkr "Prefix", .cls "Prefix", .meth "Prefix" "pair", .glo "Node", .mkr "Node", .cls "Node", .meth "Node" "is_empty", .meth "Node" "fork", .glo "prune", .glo "list_below", .glo "Table", .mkr "Table", .cls "Table", .meth "Table" "path", .meth "Table" "put", .meth "Table" "drop", .meth "Table" "way_of", .meth "Table" "find", .meth "Table" "entries", .meth "Table" "fork", .glo "_law_span", .glo "_law_cell", .glo "_law_start", .glo "_law_digit", .glo "_law_prefix", .glo "_law_at", .glo "_law_find", .glo "_law_agrees", .glo "_law_deed", .glo "law", .noat "Prefix" "base", .noat "Prefix" "length", .noat "Node" "way", .noat "Node" "below", .noat "Table" "root"]

abbrev pr : List Pr := []
abbrev ex : List Ex := [(tupX "SPANS" [.int 65536, .int 32768, .int 16384, .int 8192, .int 4096, .int 2048, .int 1024, .int 512, .int 256, .int 128, .int 64, .int 32, .int 16, .int 8, .int 4, .int 2, .int 1])]
abbrev TX (K : PySem.W.Frag) (mg : Str → Option Value) (base : Heap) : Prop := TxB fa fn pr ex K mg base

abbrev v_SPANS : List V := [.int 65536, .int 32768, .int 16384, .int 8192, .int 4096, .int 2048, .int 1024, .int 512, .int 256, .int 128, .int 64, .int 32, .int 16, .int 8, .int 4, .int 2, .int 1]
theorem kx_SPANS {K : PySem.W.Frag} {mg : Str → Option Value} {base : Heap} (T : TX K mg base) (H : Hp) : SqT K H (He.ga K "SPANS") v_SPANS := He.tupB_ok (x := "SPANS") (vs := [.int 65536, .int 32768, .int 16384, .int 8192, .int 4096, .int 2048, .int 1024, .int 512, .int 256, .int 128, .int 64, .int 32, .int 16, .int 8, .int 4, .int 2, .int 1]) (T.b.ex_ 0) H

section
variable {K : PySem.W.Frag} {mg : Str → Option Value} {base : Heap}

theorem cl_Prefix (T : TX K mg base) : Cls K (He.ga K "Prefix") := T.cls 14

theorem na_Prefix_base (T : TX K mg base) : NoAttr K (He.ga K "Prefix") "base" := T.noat 43

theorem na_Prefix_length (T : TX K mg base) : NoAttr K (He.ga K "Prefix") "length" := T.noat 44

theorem cl_Node (T : TX K mg base) : Cls K (He.ga K "Node") := T.cls 18

theorem na_Node_way (T : TX K mg base) : NoAttr K (He.ga K "Node") "way" := T.noat 45

theorem na_Node_below (T : TX K mg base) : NoAttr K (He.ga K "Node") "below" := T.noat 46

theorem cl_Table (T : TX K mg base) : Cls K (He.ga K "Table") := T.cls 25

theorem na_Table_root (T : TX K mg base) : NoAttr K (He.ga K "Table") "root" := T.noat 47

/-- the attributes of a Prefix, in the order of its __init__ -/
abbrev fPrefix (x0 x1 : V) : List (Str × V) := [("base", x0), ("length", x1)]

theorem lk_Prefix_base {x0 x1 : V} : (fPrefix x0 x1).lookup ("base" : Str) = some x0 := by kernel_rfl

theorem pt_Prefix_base {x0 x1 y : V} : putF "base" y (fPrefix x0 x1) = fPrefix y x1 := by kernel_rfl

theorem pn_Prefix_base { y : V} : putF "base" y ([] : List (Str × V)) = ([("base", y)] : List (Str × V)) := by kernel_rfl

theorem lk_Prefix_length {x0 x1 : V} : (fPrefix x0 x1).lookup ("length" : Str) = some x1 := by kernel_rfl

theorem pt_Prefix_length {x0 x1 y : V} : putF "length" y (fPrefix x0 x1) = fPrefix x0 y := by kernel_rfl

theorem pn_Prefix_length {x0 y : V} : putF "length" y ([("base", x0)] : List (Str × V)) = ([("base", x0), ("length", y)] : List (Str × V)) := by kernel_rfl

theorem ln_Prefix_pair {x0 x1 : V} : (fPrefix x0 x1).lookup ("pair" : Str) = none := by kernel_rfl

/-- the attributes of a Node, in the order of its __init__ -/
abbrev fNode (x0 x1 : V) : List (Str × V) := [("way", x0), ("below", x1)]

theorem lk_Node_way {x0 x1 : V} : (fNode x0 x1).lookup ("way" : Str) = some x0 := by kernel_rfl

theorem pt_Node_way {x0 x1 y : V} : putF "way" y (fNode x0 x1) = fNode y x1 := by kernel_rfl

theorem pn_Node_way { y : V} : putF "way" y ([] : List (Str × V)) = ([("way", y)] : List (Str × V)) := by kernel_rfl

theorem lk_Node_below {x0 x1 : V} : (fNode x0 x1).lookup ("below" : Str) = some x1 := by kernel_rfl

theorem pt_Node_below {x0 x1 y : V} : putF "below" y (fNode x0 x1) = fNode x0 y := by kernel_rfl

theorem pn_Node_below {x0 y : V} : putF "below" y ([("way", x0)] : List (Str × V)) = ([("way", x0), ("below", y)] : List (Str × V)) := by kernel_rfl

theorem ln_Node_is_empty {x0 x1 : V} : (fNode x0 x1).lookup ("is_empty" : Str) = none := by kernel_rfl

theorem ln_Node_fork {x0 x1 : V} : (fNode x0 x1).lookup ("fork" : Str) = none := by kernel_rfl

/-- the attributes of a Table, in the order of its __init__ -/
abbrev fTable (x0 : V) : List (Str × V) := [("root", x0)]

theorem lk_Table_root {x0 : V} : (fTable x0).lookup ("root" : Str) = some x0 := by kernel_rfl

theorem pt_Table_root {x0 y : V} : putF "root" y (fTable x0) = fTable y := by kernel_rfl

theorem pn_Table_root { y : V} : putF "root" y ([] : List (Str × V)) = ([("root", y)] : List (Str × V)) := by kernel_rfl

theorem ln_Table_path {x0 : V} : (fTable x0).lookup ("path" : Str) = none := by kernel_rfl

theorem ln_Table_put {x0 : V} : (fTable x0).lookup ("put" : Str) = none := by kernel_rfl

theorem ln_Table_drop {x0 : V} : (fTable x0).lookup ("drop" : Str) = none := by kernel_rfl

theorem ln_Table_way_of {x0 : V} : (fTable x0).lookup ("way_of" : Str) = none := by kernel_rfl

theorem ln_Table_find {x0 : V} : (fTable x0).lookup ("find" : Str) = none := by kernel_rfl

theorem ln_Table_entries {x0 : V} : (fTable x0).lookup ("entries" : Str) = none := by kernel_rfl

theorem ln_Table_fork {x0 : V} : (fTable x0).lookup ("fork" : Str) = none := by kernel_rfl

end
end K74

namespace K74
open PySem PySem.Spec PyProof.Rows L2 G
abbrev R : PySem.W.OpenRow := PySem.W.OpenLaw.row PySem.Challenge.rw_throughway_k74_tables_find_the_longest_p
abbrev hk : PySem.W.Hook := hookB 5 fa fn pr ex
def ob (s : PySem.W.SharedT) : AlB := obsBG 5 fa fn pr ex (HandSHeadRun.getT s)
theorem ob_eq (s : PySem.W.SharedT) : ob s = hk.obs s.abs := obsBG_eq (HandSHeadRun.getT_eq s)
def names : List PySem.Str := (["_wall", "ThroughwayError", "InvalidPrefix", "span_of", "bit_of", "Prefix", "Node", "prune", "list_below", "Table", "_law_span", "_law_cell", "_law_start", "_law_digit", "_law_prefix", "_law_at", "_law_find", "_law_agrees", "_law_deed", "BITS", "ADDRESSES", "SPANS"] : List PySem.Str)
theorem run (w : World) : HandSHeadRun.RunEq R (PySem.W.view R.prog [26]) hk ob 4000 names w := by
  intro os
  kernel_rfl
end K74

namespace K74
open PySem PySem.Spec PyProof.Rows L2 G
/-! ### prefixes -/
abbrev cP (K : PySem.W.Frag) : Addr := He.ga K "Prefix"
abbrev eP (K : PySem.W.Frag) : Value := .ref (He.ga K "InvalidPrefix")
/-- how many addresses a prefix of this length has -/
def sn (l : Int) : Int := 2 ^ (16 - l.toNat)
abbrev Px : Type := Int × Int
def Ok (x : Px) : Prop := 0 ≤ x.2 ∧ x.2 ≤ 16 ∧ 0 ≤ x.1 ∧ x.1 < 65536 ∧ x.1 % sn x.2 = 0
instance (x : Px) : Decidable (Ok x) := inferInstanceAs (Decidable (_ ∧ _))
theorem sn_lit : ∀ l : Int, 0 ≤ l → l ≤ 16 → (l = 0 ∧ sn l = 65536) ∨ (l = 1 ∧ sn l = 32768) ∨ (l = 2 ∧ sn l = 16384) ∨ (l = 3 ∧ sn l = 8192) ∨ (l = 4 ∧ sn l = 4096) ∨ (l = 5 ∧ sn l = 2048) ∨ (l = 6 ∧ sn l = 1024) ∨ (l = 7 ∧ sn l = 512) ∨ (l = 8 ∧ sn l = 256) ∨
    (l = 9 ∧ sn l = 128) ∨ (l = 10 ∧ sn l = 64) ∨ (l = 11 ∧ sn l = 32) ∨ (l = 12 ∧ sn l = 16) ∨ (l = 13 ∧ sn l = 8) ∨ (l = 14 ∧ sn l = 4) ∨ (l = 15 ∧ sn l = 2) ∨ (l = 16 ∧ sn l = 1) := by
  intro l h0 h1
  have h : l = 0 ∨ l = 1 ∨ l = 2 ∨ l = 3 ∨ l = 4 ∨ l = 5 ∨ l = 6 ∨ l = 7 ∨ l = 8 ∨ l = 9 ∨ l = 10 ∨ l = 11 ∨ l = 12 ∨ l = 13 ∨ l = 14 ∨ l = 15 ∨ l = 16 := by omega
  rcases h with h | h | h | h | h | h | h | h | h | h | h | h | h | h | h | h | h <;> (subst h; decide +kernel)
theorem sn_pos {l : Int} : 0 < sn l := by
  unfold sn
  exact Int.pow_pos (by decide)
theorem sn_small {l : Int} (h0 : 0 ≤ l) (h1 : l ≤ 16) : sn l ≤ 65536 := by
  have := sn_lit l h0 h1
  omega
theorem of_ok {a l : Int} (h0 : 0 ≤ l) (h1 : l ≤ 16) (h2 : 0 ≤ a) (h3 : a < 65536) : Ok (a - a % sn l, l) := by
  have h6 := sn_lit l h0 h1
  unfold Ok
  dsimp only
  generalize sn l = z at *
  rcases h6 with h6 | h6 | h6 | h6 | h6 | h6 | h6 | h6 | h6 | h6 | h6 | h6 | h6 | h6 | h6 | h6 | h6 <;> (obtain ⟨_, rfl⟩ := h6; omega)
def PfP (K : PySem.W.Frag) (p : Addr) (x : Px) : HP := hex fun dx => ro p (.ins (cP K) dx (fPrefix (.int x.1) (.int x.2)))
instance {K : PySem.W.Frag} {p : Addr} {x : Px} : Ro (PfP K p x) := by unfold PfP; infer_instance
theorem tell_pf {K : PySem.W.Frag} {p : Addr} {x : Px} : Tell (PfP K p x) (fun H => ∃ dx, H p = some (.ins (cP K) dx (fPrefix (.int x.1) (.int x.2)))) := fun h ⟨dx, q⟩ H e => ⟨dx, e _ _ _ q⟩
theorem tell_pf_base {K : PySem.W.Frag} {p : Addr} {x : Px} : TFld (PfP K p x) p (cP K) "base" (.int x.1) := fun h z H e => let ⟨dx, w⟩ := tell_pf h z H e; ⟨dx, _, w, lk_Prefix_base⟩
theorem tell_pf_length {K : PySem.W.Frag} {p : Addr} {x : Px} : TFld (PfP K p x) p (cP K) "length" (.int x.2) := fun h z H e => let ⟨dx, w⟩ := tell_pf h z H e; ⟨dx, _, w, lk_Prefix_length⟩
theorem tell_pf_m {K : PySem.W.Frag} {p : Addr} {x : Px} {m : Str} (ln : ∀ {x0 x1 : V}, (fPrefix x0 x1).lookup m = none) : TMt (PfP K p x) p (cP K) m := fun h z H e => let ⟨dx, w⟩ := tell_pf h z H e; ⟨dx, _, w, ln⟩
def sp_span_of (K : PySem.W.Frag) : Sp := fun vs H Q _ => ∃ l : Int, vs = [.int l] ∧ 0 ≤ l ∧ l ≤ 16 ∧ Q (.int (sn l)) H
def sp_law_span (K : PySem.W.Frag) : Sp := fun vs H Q _ => ∃ (l : Int) (R : List HP), vs = [.int l] ∧ 0 ≤ l ∧ l ≤ 16 ∧ Own R H ∧ ∀ H', Own R H' → Q (.int (sn l)) H'
def sp_Prefix_init (K : PySem.W.Frag) : Sp := fun vs H Q E => ∃ (p dx : Addr) (b l : Int) (R : List HP), vs = [.ref p, .int b, .int l] ∧ Own (pt p (.ins (cP K) dx []) :: R) H ∧ (¬ Ok (b, l) → ∀ H', Own R H' → E (eP K) none H') ∧ (Ok (b, l) → ∀ H', Own (PfP K p (b, l) :: R) H' → Q .non H')
def sp_Prefix_pair (K : PySem.W.Frag) : Sp := fun vs H Q _ => ∃ (p : Addr) (x : Px) (R : List HP), vs = [.ref p] ∧ Own (PfP K p x :: R) H ∧ ∀ H' t, Own (ro t (.tup [.int x.1, .int x.2]) :: R) H' → Q (.ref t) H'
section
variable {K : PySem.W.Frag} {L R : List HP} {H : Hp} {Q : VK} {E : XK} {p dx : Addr} {x : Px} {l b : Int}
theorem c_span_of (h0 : 0 ≤ l) (h1 : l ≤ 16) (k : Q (.int (sn l)) H) : sp_span_of K [.int l] H Q E := ⟨l, rfl, h0, h1, k⟩
theorem c_law_span (h0 : 0 ≤ l) (h1 : l ≤ 16) (w : Own R H) (k : ∀ H', Own R H' → Q (.int (sn l)) H') : sp_law_span K [.int l] H Q E := ⟨l, R, rfl, h0, h1, w, k⟩
theorem c_pair (w : Own L H) (pk : Pick L (PfP K p x) R) (k : ∀ H' t, Own (ro t (.tup [.int x.1, .int x.2]) :: R) H' → Q (.ref t) H') : sp_Prefix_pair K [.ref p] H Q E := ⟨p, x, R, rfl, w.pick pk, k⟩
theorem c_pf (o : Ok (b, l)) (w : Own L H) (pk : Pick L (pt p (.ins (cP K) dx [])) R) (k : ∀ H', Own (PfP K p (b, l) :: R) H' → Q .non H') : sp_Prefix_init K [.ref p, .int b, .int l] H Q E := ⟨p, dx, b, l, R, rfl, w.pick pk, fun n => absurd o n, fun _ => k⟩
end
/-! ### tries: the mathematics -/
inductive Tr where
  | nil
  | nd (w : Option Int) (l r : Tr)
def wv : Option Int → V
  | none => .non
  | some i => .int i
def Tr.dep : Tr → Nat
  | .nil => 0
  | .nd _ l r => 1 + max l.dep r.dep
abbrev Tr.kid (l r : Tr) (b : Bool) : Tr := if b then r else l
def rootE (w : Option Int) (b n : Int) : List (Px × Int) := match w with
  | none => []
  | some i => [((b, n), i)]
/-- entries, in order -/
def ents : Tr → Int → Int → List (Px × Int)
  | .nil, _, _ => []
  | .nd w l r, b, n => rootE w b n ++ (ents l b (n + 1) ++ ents r (b + sn (n + 1)) (n + 1))
def findT : Option Int → Tr → List Bool → Option Int
  | g, .nil, _ => g
  | g, .nd w _ _, [] => w.or g
  | g, .nd w l r, b :: bs => findT (w.or g) (Tr.kid l r b) bs
def emptyT : Tr → Bool
  | .nd none .nil .nil => true
  | _ => false
def pruneT (t : Tr) : Tr := if emptyT t = true then .nil else t
def tidyT : Option Int → Tr → Tr
  | _, .nil => .nil
  | g, .nd w l r => let w' := if w = g then none else w
    .nd w' (pruneT (tidyT (w'.or g) l)) (pruneT (tidyT (w'.or g) r))
def tidyN : Option Int → Tr → Nat
  | _, .nil => 0
  | g, .nd w l r => let w' := if w = g then none else w
    (if w ≠ none ∧ w = g then 1 else 0) + tidyN (w'.or g) l + tidyN (w'.or g) r
def putT : List Bool → Int → Tr → Tr
  | [], i, .nil => .nd (some i) .nil .nil
  | [], i, .nd _ l r => .nd (some i) l r
  | b :: bs, i, .nil => .nd none (if b then .nil else putT bs i .nil) (if b then putT bs i .nil else .nil)
  | b :: bs, i, .nd w l r => .nd w (if b then l else putT bs i l) (if b then putT bs i r else r)
/-- the bit of an address -/
def bitA (a : Int) (i : Nat) : Bool := decide (a / sn ((i : Int) + 1) % 2 = 1)
def bitsA (a : Int) (n : Nat) : List Bool := (List.range n).map (bitA a)
/-- where a node hangs: its parent's way, its side, its sibling -/
structure Fr where
  w : Option Int
  b : Bool
  sib : Tr
def plug1 (f : Fr) (t : Tr) : Tr := .nd f.w (if f.b then f.sib else t) (if f.b then t else f.sib)
/-- the frames, the lowest first -/
def plug : List Fr → Tr → Tr
  | [], t => t
  | f :: fs, t => plug fs (plug1 f t)
/-! ### claims -/
section
variable (K : PySem.W.Frag)
abbrev cN : Addr := He.ga K "Node"
abbrev cT : Addr := He.ga K "Table"
def NdP : Tr → V → HP
  | .nil, v => hpu (v = .non)
  | .nd w l r, v => hex fun a : Addr => hex fun dx : Addr => hex fun b : Addr => hex fun vl : V => hex fun vr : V => stars [hpu (v = .ref a), pt a (.ins (cN K) dx (fNode (wv w) (.ref b))), pt b (.lst [vl, vr]), NdP l vl, NdP r vr]
def TbP (p : Addr) (t : Tr) : HP := hex fun dx => hex fun v => stars [pt p (.ins (cT K) dx (fTable v)), NdP K t v]
/-- the frames' nodes; v0 the root, v what hangs at the end -/
def SpP (v0 : V) : List Fr → List Addr → V → HP
  | [], [], v => hpu (v = v0)
  | f :: fs, a :: as, v => hex fun dx : Addr => hex fun b : Addr => hex fun s : V => stars [pt a (.ins (cN K) dx (fNode (wv f.w) (.ref b))), pt b (.lst (if f.b then [s, v] else [v, s])), NdP K f.sib s, SpP v0 fs as (.ref a)]
  | _, _, _ => fun _ => False
def EnP (t : Addr) (x : Px × Int) : HP := hex fun p => stars [ro t (.tup [.ref p, .int x.2]), PfP K p x.1]
end
section
variable {K : PySem.W.Frag} {L : List HP} {H : Hp} {v v0 vl vr s : V} {w : Option Int} {l r t : Tr} {a b dx p : Addr} {f : Fr} {fs : List Fr} {as : List Addr} {x : Px × Int}
instance : Ro (EnP K a x) := by unfold EnP; infer_instance
theorem nil_out (h : Own (NdP K .nil v :: L) H) : v = .non ∧ Own L H := h.pu
theorem nil_in (h : Own L H) : Own (NdP K .nil .non :: L) H := Own.pui rfl h
theorem nd_out (h : Own (NdP K (.nd w l r) v :: L) H) : ∃ a dx b vl vr, v = .ref a ∧ Own (pt a (.ins (cN K) dx (fNode (wv w) (.ref b))) :: pt b (.lst [vl, vr]) :: NdP K l vl :: NdP K r vr :: L) H := by
  obtain ⟨a, h⟩ := Own.ex h
  obtain ⟨dx, h⟩ := h.ex
  obtain ⟨b, h⟩ := h.ex
  obtain ⟨vl, h⟩ := h.ex
  obtain ⟨vr, h⟩ := h.ex
  obtain ⟨e, h⟩ := (Own.flat (L := [_, _, _, _, _]) h).pu
  exact ⟨a, dx, b, vl, vr, e, h⟩
theorem nd_in (h : Own (pt a (.ins (cN K) dx (fNode (wv w) (.ref b))) :: pt b (.lst [vl, vr]) :: NdP K l vl :: NdP K r vr :: L) H) : Own (NdP K (.nd w l r) (.ref a) :: L) H :=
  Own.exi a (Own.exi dx (Own.exi b (Own.exi vl (Own.exi vr (Own.fold (L := [_, _, _, _, _]) (Own.pui rfl h))))))
theorem tb_out (h : Own (TbP K p t :: L) H) : ∃ dx v, Own (pt p (.ins (cT K) dx (fTable v)) :: NdP K t v :: L) H := by
  obtain ⟨dx, h⟩ := h.ex
  obtain ⟨v, h⟩ := h.ex
  exact ⟨dx, v, Own.flat (L := [_, _]) h⟩
theorem tb_in (h : Own (pt p (.ins (cT K) dx (fTable v)) :: NdP K t v :: L) H) : Own (TbP K p t :: L) H := Own.exi dx (Own.exi v (Own.fold (L := [_, _]) h))
theorem sp_out (h : Own (SpP K v0 (f :: fs) (a :: as) v :: L) H) : ∃ dx b s, Own (pt a (.ins (cN K) dx (fNode (wv f.w) (.ref b))) :: pt b (.lst (if f.b then [s, v] else [v, s])) :: NdP K f.sib s :: SpP K v0 fs as (.ref a) :: L) H := by
  obtain ⟨dx, h⟩ := Own.ex h
  obtain ⟨b, h⟩ := h.ex
  obtain ⟨s, h⟩ := h.ex
  exact ⟨dx, b, s, Own.flat (L := [_, _, _, _]) h⟩
theorem sp_in (h : Own (pt a (.ins (cN K) dx (fNode (wv f.w) (.ref b))) :: pt b (.lst (if f.b then [s, v] else [v, s])) :: NdP K f.sib s :: SpP K v0 fs as (.ref a) :: L) H) : Own (SpP K v0 (f :: fs) (a :: as) v :: L) H :=
  Own.exi dx (Own.exi b (Own.exi s (Own.fold (L := [_, _, _, _]) h)))
theorem en_in (h : Own (ro a (.tup [.ref p, .int x.2]) :: PfP K p x.1 :: L) H) : Own (EnP K a x :: L) H := Own.exi p (Own.fold (L := [_, _]) h)
theorem en_out (h : Own (EnP K a x :: L) H) : ∃ p, Own (ro a (.tup [.ref p, .int x.2]) :: PfP K p x.1 :: L) H := by
  obtain ⟨p, h⟩ := h.ex
  exact ⟨p, Own.flat (L := [_, _]) h⟩
/-- one frame is closed -/
theorem sp_up (h : Own (SpP K v0 (f :: fs) (a :: as) v :: NdP K t v :: L) H) : Own (SpP K v0 fs as (.ref a) :: NdP K (plug1 f t) (.ref a) :: L) H := by
  obtain ⟨dx, b, s, h⟩ := sp_out h
  refine Own.swap ?_
  obtain ⟨w, b', sib⟩ := f
  cases b'
  · exact nd_in (h.sel (Sel.cons .here (Sel.cons .here (Sel.cons (.next (.next .here)) (Sel.cons .here Sel.rf)))))
  · exact nd_in (h.sel (Sel.cons .here (Sel.cons .here (Sel.cons .here (Sel.cons (.next .here) Sel.rf)))))
/-- all are closed -/
theorem sp_close : ∀ (fs : List Fr) (as : List Addr) (t : Tr) (v : V) (L : List HP), Own (SpP K v0 fs as v :: NdP K t v :: L) H → Own (NdP K (plug fs t) v0 :: L) H
  | [], [], t, v, L, h => by
    have h' : Own (hpu (v = v0) :: NdP K t v :: L) H := h
    obtain ⟨e, h2⟩ := h'.pu
    subst e
    exact h2
  | f :: fs, a :: as, _, _, _, h => sp_close fs as _ _ _ (sp_up h)
  | [], _ :: _, _, _, _, h => (Own.unFalse (fun _ z => z) h).elim
  | _ :: _, [], _, _, _, h => (Own.unFalse (fun _ z => z) h).elim
/-- down by one -/
theorem sp_down (bt : Bool) (h : Own (SpP K v0 fs as (.ref a) :: pt a (.ins (cN K) dx (fNode (wv w) (.ref b))) :: pt b (.lst [vl, vr]) :: NdP K l vl :: NdP K r vr :: L) H) :
    Own (SpP K v0 (⟨w, bt, Tr.kid r l bt⟩ :: fs) (a :: as) (if bt then vr else vl) :: NdP K (Tr.kid l r bt) (if bt then vr else vl) :: L) H := by
  cases bt
  · exact sp_in (h.sel (Sel.cons (.next .here) (Sel.cons (.next .here) (Sel.cons (.next (.next .here)) (Sel.cons .here Sel.rf)))))
  · exact sp_in (h.sel (Sel.cons (.next .here) (Sel.cons (.next .here) (Sel.cons (.next .here) (Sel.cons .here Sel.rf)))))
end
/-- what the heap says of a trie -/
def NdH (K : PySem.W.Frag) (H : Hp) : Tr → V → Prop
  | .nil, v => v = .non
  | .nd w l r, v => ∃ a dx b vl vr, v = .ref a ∧ H a = some (.ins (cN K) dx (fNode (wv w) (.ref b))) ∧ H b = some (.lst [vl, vr]) ∧ NdH K H l vl ∧ NdH K H r vr
theorem tell_nd {K : PySem.W.Frag} {t : Tr} {v : V} : Tell (NdP K t v) (fun H => NdH K H t v) := by
  induction t generalizing v with
  | nil => exact fun h p H e => p
  | nd w l r h1 h2 =>
    intro h p H e
    have y : Own [NdP K (.nd w l r) v] H := ⟨h, e, h, LHnone, dis_none_r, LSub.rfl', sub_none, p, trivial⟩
    obtain ⟨a, dx, b, vl, vr, e1, z⟩ := nd_out y
    exact ⟨a, dx, b, vl, vr, e1, z.get', z.tail.get', z.tail.tail.ent (.here h1), z.tail.tail.tail.ent (.here h2)⟩
theorem tell_nd_m {K : PySem.W.Frag} {w : Option Int} {l r : Tr} {p : Addr} {m : Str} (ln : ∀ {x0 x1 : V}, (fNode x0 x1).lookup m = none) : TMt (NdP K (.nd w l r) (.ref p)) p (cN K) m := fun h q H e => by
  obtain ⟨a, dx, b, vl, vr, e1, h1, _⟩ := tell_nd h q H e
  cases e1
  exact ⟨dx, _, h1, ln⟩
theorem tell_nd_way {K : PySem.W.Frag} {w : Option Int} {l r : Tr} {p : Addr} : TFld (NdP K (.nd w l r) (.ref p)) p (cN K) "way" (wv w) := fun h q H e => by
  obtain ⟨a, dx, b, vl, vr, e1, h1, _⟩ := tell_nd h q H e
  cases e1
  exact ⟨dx, _, h1, lk_Node_way⟩
theorem tell_tb {K : PySem.W.Frag} {p : Addr} {t : Tr} : Tell (TbP K p t) (fun H => ∃ dx v, H p = some (.ins (cT K) dx (fTable v)) ∧ NdH K H t v) := fun h ⟨dx, v, h1, h2, _, s1, s2, q, h3, h4, _, s3, _, z, _⟩ H e => ⟨dx, v, e _ _ _ (s1 _ _ q), tell_nd _ z H (e.sub (s3.trans s2))⟩
theorem tell_tb_m {K : PySem.W.Frag} {t : Tr} {p : Addr} {m : Str} (ln : ∀ {x0 : V}, (fTable x0).lookup m = none) : TMt (TbP K p t) p (cT K) m := fun h q H e => by
  obtain ⟨dx, v, h1, _⟩ := tell_tb h q H e
  exact ⟨dx, _, h1, ln⟩
/-! ### promises -/
def sp_bit_of (K : PySem.W.Frag) : Sp := fun vs H Q _ => ∃ (a : Int) (i : Nat), vs = [.int a, .int (i : Int)] ∧ i < 16 ∧ 0 ≤ a ∧ Q (.int (if bitA a i then 1 else 0)) H
def sp_Node_init (K : PySem.W.Frag) : Sp := fun vs H Q _ => ∃ (p dx : Addr) (R : List HP), vs = [.ref p] ∧ Own (pt p (.ins (cN K) dx []) :: R) H ∧ ∀ H', Own (NdP K (.nd none .nil .nil) (.ref p) :: R) H' → Q .non H'
def sp_Node_is_empty (K : PySem.W.Frag) : Sp := fun vs H Q _ => ∃ (p : Addr) (w : Option Int) (l r : Tr) (R : List HP), vs = [.ref p] ∧ Own (NdP K (.nd w l r) (.ref p) :: R) H ∧ Q (.bl (emptyT (.nd w l r))) H
def sp_Node_fork (K : PySem.W.Frag) (dd : Nat) : Sp := fun vs H Q _ => ∃ (p : Addr) (t : Tr) (R : List HP), vs = [.ref p] ∧ t.dep ≤ dd ∧ Own (NdP K t (.ref p) :: R) H ∧ ∀ H' v, Own (NdP K t v :: NdP K t (.ref p) :: R) H' → Q v H'
def sp_prune (K : PySem.W.Frag) : Sp := fun vs H Q _ => ∃ (p : Addr) (bt : Bool) (w : Option Int) (l r : Tr) (R : List HP), vs = [.ref p, .int (if bt then 1 else 0)] ∧ Own (NdP K (.nd w l r) (.ref p) :: R) H ∧
  ∀ H', Own (NdP K (.nd w (if bt then l else pruneT l) (if bt then pruneT r else r)) (.ref p) :: R) H' → Q .non H'
def sp_tidy_below (K : PySem.W.Frag) (dd : Nat) : Sp := fun vs H Q _ => ∃ (p : Addr) (t : Tr) (g : Option Int) (R : List HP), vs = [.ref p, wv g] ∧ t.dep ≤ dd ∧ Own (NdP K t (.ref p) :: R) H ∧ ∀ H', Own (NdP K (tidyT g t) (.ref p) :: R) H' → Q (.int (tidyN g t : Nat)) H'
/-- a base that fits, so that all below it do -/
structure Fits (b n : Int) (d : Nat) : Prop where
  n0 : 0 ≤ n
  nd : n + d ≤ 17
  b0 : 0 ≤ b
  m : n ≤ 16 → b % sn n = 0 ∧ b + sn n ≤ 65536
def sp_list_below (K : PySem.W.Frag) (dd : Nat) : Sp := fun vs H Q _ => ∃ (p e : Addr) (t : Tr) (b n : Int) (as : List Addr) (xs : List (Px × Int)) (R : List HP), vs = [.ref p, .int b, .int n, .ref e] ∧ t.dep ≤ dd ∧ Fits b n t.dep ∧ xs.length + (ents t b n).length ≤ 100000 ∧
  Own (NdP K t (.ref p) :: pt e (.lst (as.map V.ref)) :: big (EnP K) as xs :: R) H ∧ ∀ H' as', Own (NdP K t (.ref p) :: pt e (.lst (as'.map V.ref)) :: big (EnP K) as' (xs ++ ents t b n) :: R) H' → Q .non H'
def sp_Table_init (K : PySem.W.Frag) : Sp := fun vs H Q _ => ∃ (p dx : Addr) (R : List HP), vs = [.ref p] ∧ Own (pt p (.ins (cT K) dx []) :: R) H ∧ ∀ H', Own (TbP K p (.nd none .nil .nil) :: R) H' → Q .non H'
def sp_Table_path (K : PySem.W.Frag) : Sp := fun vs H Q _ => ∃ (p pf : Addr) (x : Px) (w : Option Int) (l r : Tr) (R : List HP), vs = [.ref p, .ref pf] ∧ Ok x ∧ Own (TbP K p (.nd w l r) :: PfP K pf x :: R) H ∧
  ∀ H' q dx v0 fs as a w' l' r' rest, bitsA x.1 x.2.toNat = fs.reverse.map (·.b) ++ rest → plug fs (.nd w' l' r') = .nd w l r → (∀ b bs, rest = b :: bs → Tr.kid l' r' b = .nil) → as.length = fs.length →
    Own (pt q (.lst ((as.reverse ++ [a]).map V.ref)) :: SpP K v0 fs as (.ref a) :: NdP K (.nd w' l' r') (.ref a) :: pt p (.ins (cT K) dx (fTable v0)) :: PfP K pf x :: R) H' → Q (.ref q) H'
def sp_Table_put (K : PySem.W.Frag) : Sp := fun vs H Q _ => ∃ (p pf : Addr) (x : Px) (i : Int) (w : Option Int) (l r : Tr) (R : List HP), vs = [.ref p, .ref pf, .int i] ∧ Ok x ∧ Own (TbP K p (.nd w l r) :: PfP K pf x :: R) H ∧ ∀ H', Own (TbP K p (putT (bitsA x.1 x.2.toNat) i (.nd w l r)) :: PfP K pf x :: R) H' → Q .non H'
def sp_Table_find (K : PySem.W.Frag) : Sp := fun vs H Q _ => ∃ (p : Addr) (a : Int) (w : Option Int) (l r : Tr) (R : List HP), vs = [.ref p, .int a] ∧ 0 ≤ a ∧ Own (TbP K p (.nd w l r) :: R) H ∧ Q (wv (findT none (.nd w l r) (bitsA a 16))) H
def sp_Table_entries (K : PySem.W.Frag) : Sp := fun vs H Q _ => ∃ (p : Addr) (w : Option Int) (l r : Tr) (R : List HP), vs = [.ref p] ∧ (Tr.nd w l r).dep ≤ 17 ∧ (ents (.nd w l r) 0 0).length ≤ 100000 ∧ Own (TbP K p (.nd w l r) :: R) H ∧
  ∀ H' e as, Own (pt e (.lst (as.map V.ref)) :: big (EnP K) as (ents (.nd w l r) 0 0) :: TbP K p (.nd w l r) :: R) H' → Q (.ref e) H'
def sp_Table_tidy (K : PySem.W.Frag) : Sp := fun vs H Q _ => ∃ (p : Addr) (w : Option Int) (l r : Tr) (R : List HP), vs = [.ref p] ∧ (Tr.nd w l r).dep ≤ 17 ∧ Own (TbP K p (.nd w l r) :: R) H ∧ ∀ H', Own (TbP K p (tidyT none (.nd w l r)) :: R) H' → Q (.int (tidyN none (.nd w l r) : Nat)) H'
def sp_Table_fork (K : PySem.W.Frag) : Sp := fun vs H Q _ => ∃ (p : Addr) (w : Option Int) (l r : Tr) (R : List HP), vs = [.ref p] ∧ (Tr.nd w l r).dep ≤ 17 ∧ Own (TbP K p (.nd w l r) :: R) H ∧ ∀ H' q, Own (TbP K q (.nd w l r) :: TbP K p (.nd w l r) :: R) H' → Q (.ref q) H'
theorem ix0 {x : V} {xs : List V} : atI (x :: xs) 0 = some x := atI_nat (j := 0) rfl
theorem ix1 {x y : V} {xs : List V} : atI (x :: y :: xs) 1 = some y := atI_nat (j := 1) rfl
abbrev sp_law_cell := gsCell
abbrev sp_law_start := gsStart
abbrev sp_law_digit := gsDigit
/-- a row: the key's tuple and the way -/
def RwP (t : Addr) (x : Px × Int) : HP := hex fun k => stars [ro t (.tup [.ref k, .int x.2]), ro k (.tup [.int x.1.1, .int x.1.2])]
instance {t : Addr} {x : Px × Int} : Ro (RwP t x) := by unfold RwP; infer_instance
/-- a list of rows -/
def RwsP (l : Addr) (xs : List (Px × Int)) : HP := hex fun ts : List Addr => stars [ro l (.lst (ts.map V.ref)), big RwP ts xs]
instance {l : Addr} {xs : List (Px × Int)} : Ro (RwsP l xs) := by unfold RwsP; infer_instance
abbrev KyP (t : Addr) (k : Px) : HP := ro t (.tup [.int k.1, .int k.2])
def atO (xs : List (Px × Int)) (k : Px) : Option Nat := xs.findIdx? fun x => decide (x.1 = k)
def atV : Option Nat → V
  | none => .non
  | some j => .int (j : Int)
def cov (a : Int) (x : Px × Int) : Bool := decide (x.1.1 ≤ a) && decide (a < x.1.1 + sn x.1.2)
def bstep (a : Int) (best : Option (Px × Int)) (o : Px × Int) : Option (Px × Int) := if cov a o = true ∧ (∀ y, best = some y → y.1.2 < o.1.2) then some o else best
def bestR (best : Option (Px × Int)) (xs : List (Px × Int)) (a : Int) : Option (Px × Int) := xs.foldl (bstep a) best
def GvP (o : Option (Px × Int)) (v : V) : List HP → Prop
  | L => match o with | none => v = .non ∧ L = [] | some y => ∃ t, v = .ref t ∧ L = [RwP t y]
/-- the way at a path; the trie with none there -/
def lkT : List Bool → Tr → Option Int
  | _, .nil => none
  | [], .nd w _ _ => w
  | b :: bs, .nd _ l r => lkT bs (Tr.kid l r b)
def rmT : List Bool → Tr → Tr
  | _, .nil => .nil
  | [], .nd _ l r => .nd none l r
  | b :: bs, .nd w l r => .nd w (if b then l else rmT bs l) (if b then rmT bs r else r)
abbrev bitsX (k : Px) : List Bool := bitsA k.1 k.2.toNat
/-- the rows of a trie -/
structure Rel (t : Tr) (xs : List (Px × Int)) : Prop where
  dep : t.dep ≤ 17
  nd : (xs.map (·.1)).Nodup
  mem : ∀ x, x ∈ xs ↔ Ok x.1 ∧ lkT (bitsX x.1) t = some x.2
theorem Rel.ok {t : Tr} {xs : List (Px × Int)} (h : Rel t xs) : ∀ x ∈ xs, Ok x.1 := fun x hx => ((h.mem x).mp hx).1
def sp_Table_drop (K : PySem.W.Frag) : Sp := fun vs H Q _ => ∃ (p pf : Addr) (x : Px) (w : Option Int) (l r : Tr) (R : List HP), vs = [.ref p, .ref pf] ∧ Ok x ∧ Own (TbP K p (.nd w l r) :: PfP K pf x :: R) H ∧
  ∀ H' w' l' r', (Tr.nd w' l' r').dep ≤ (Tr.nd w l r).dep → (∀ bs, lkT bs (.nd w' l' r') = lkT bs (rmT (bitsX x) (.nd w l r))) → Own (TbP K p (.nd w' l' r') :: PfP K pf x :: R) H' → Q (.bl (lkT (bitsX x) (.nd w l r)).isSome) H'
def sp_Table_way_of (K : PySem.W.Frag) : Sp := fun vs H Q _ => ∃ (p pf : Addr) (x : Px) (w : Option Int) (l r : Tr) (R : List HP), vs = [.ref p, .ref pf] ∧ Ok x ∧ Own (TbP K p (.nd w l r) :: PfP K pf x :: R) H ∧
  ∀ H', Own (TbP K p (.nd w l r) :: PfP K pf x :: R) H' → Q (wv (lkT (bitsX x) (.nd w l r))) H'
def sp_law_prefix (K : PySem.W.Frag) : Sp := fun vs H Q _ => ∃ (s : Addr) (R : List HP), vs = [.ref s] ∧ Own (Drw s :: R) H ∧ ∀ H' p x, Ok x → Own (PfP K p x :: Drw s :: R) H' → Q (.ref p) H'
def sp_law_at (K : PySem.W.Frag) : Sp := fun vs H Q _ => ∃ (l kt : Addr) (xs : List (Px × Int)) (k : Px) (R : List HP), vs = [.ref l, .ref kt] ∧ xs.length ≤ 1000 ∧ Own (RwsP l xs :: KyP kt k :: R) H ∧ ∀ H', Own (RwsP l xs :: KyP kt k :: R) H' → Q (atV (atO xs k)) H'
def sp_law_find (K : PySem.W.Frag) : Sp := fun vs H Q _ => ∃ (l : Addr) (a : Int) (xs : List (Px × Int)) (R : List HP), vs = [.ref l, .int a] ∧ xs.length ≤ 1000 ∧ (∀ x ∈ xs, Ok x.1) ∧ Own (RwsP l xs :: R) H ∧ ∀ H', Own (RwsP l xs :: R) H' → Q (wv ((bestR none xs a).map (·.2))) H'
def sp_law_agrees (K : PySem.W.Frag) : Sp := fun vs H Q _ => ∃ (p l s : Addr) (w : Option Int) (lt rt : Tr) (xs : List (Px × Int)) (R : List HP), vs = [.ref p, .ref l, .ref s] ∧ xs.length ≤ 1000 ∧ Rel (.nd w lt rt) xs ∧ Own (TbP K p (.nd w lt rt) :: RwsP l xs :: Drw s :: R) H ∧
  ∀ H', Own (TbP K p (.nd w lt rt) :: RwsP l xs :: Drw s :: R) H' → Q (.bl true) H'
def sp_law_deed (K : PySem.W.Frag) : Sp := fun vs H Q _ => ∃ (p l s : Addr) (w : Option Int) (lt rt : Tr) (xs : List (Px × Int)) (R : List HP), vs = [.ref p, .ref l, .ref s] ∧ xs.length ≤ 900 ∧ Rel (.nd w lt rt) xs ∧ Own (TbP K p (.nd w lt rt) :: RwsP l xs :: Drw s :: R) H ∧
  ∀ H' l' w' lt' rt' ys, ys.length ≤ xs.length + 1 → Rel (.nd w' lt' rt') ys → Own (RwsP l' ys :: TbP K p (.nd w' lt' rt') :: RwsP l xs :: Drw s :: R) H' → Q (.ref l') H'
def sp_law (K : PySem.W.Frag) : Sp := fun vs H Q _ => ∃ (a : Addr) (ns : List Int), vs = [.ref a] ∧ Own [ScP K a (ns.map V.int)] H ∧ ns.length ≤ 63 ∧ ∀ H', Q (.bl true) H'
theorem law_start {K : PySem.W.Frag} {H : Hp} {a : Addr} {ns : List Int} {E : XK} (hl : ns.length ≤ 63) (hb : ∀ z ∈ ns, Builtin.Int.intBits z ≤ 1048576) (hO : Only H) (hS : SqL K H a (ns.map V.int)) :
    sp_law K [.ref a] H (fun v _ => v = .bl true) E := ⟨a, ns, rfl, .ofScr (.of hO hS), hl, fun _ => rfl⟩
end K74

namespace K74
open PySem PySem.Spec PyProof.Rows L2 G

/-- span_of -/
def t_span_of (K : PySem.W.Frag) (E : XK) : TS :=
  (tRet (tOp (rIxT K) (tC (.ref (He.ga K "SPANS"))) (tVar 0)))

/-- bit_of -/
def t_bit_of (K : PySem.W.Frag) (E : XK) : TS :=
  (tRet (tOp gMod (tOp gDiv (tVar 0) (tCallS (sp_span_of K) (WE (wB E)) (tCons (tOp gAdd (tVar 1) (tC (.int 1))) tNil))) (tC (.int 2))))

/-- Prefix.__init__ -/
def t_Prefix_init (K : PySem.W.Frag) (E : XK) : TS :=
  (tSeq (tIfS (tNot (tTest (tChain gLe gLe (tC (.int 0)) (tVar 2) (tC (.int 16)))))
  (tRs (He.ga K "InvalidPrefix") (wB E))
  tNext)
  (tSeq (tIfS (tNot (tTest (tChain gLe gLt (tC (.int 0)) (tVar 1) (tC (.int 65536)))))
  (tRs (He.ga K "InvalidPrefix") (wB E))
  tNext)
  (tSeq (tIfS (tTest (tOp rNe (tOp gMod (tVar 1) (tCallS (sp_span_of K) (WE (wB E)) (tCons (tVar 2) tNil))) (tC (.int 0))))
  (tRs (He.ga K "InvalidPrefix") (wB E))
  tNext)
  (tSeq (sFld K (tVar 0) (tVar 1) "base")
  (sFld K (tVar 0) (tVar 2) "length")))))

/-- Prefix.pair -/
def t_Prefix_pair (K : PySem.W.Frag) (E : XK) : TS :=
  (tRet (tTup (tCons (tFld K (tVar 0) "base") (tCons (tFld K (tVar 0) "length") tNil))))

/-- Node.__init__ -/
def t_Node_init (K : PySem.W.Frag) (E : XK) : TS :=
  (tSeq (sFld K (tVar 0) (tC .non) "way")
  (sFld K (tVar 0) (tLst (tCons (tC .non) (tCons (tC .non) tNil))) "below"))

/-- Node.is_empty -/
def t_Node_is_empty (K : PySem.W.Frag) (E : XK) : TS :=
  (tRet (tAndV (tOp rIsN (tFld K (tVar 0) "way") (tC .non)) (tAndV (tOp rIsN (tOp (rIxL K) (tFld K (tVar 0) "below") (tC (.int 0))) (tC .non)) (tOp rIsN (tOp (rIxL K) (tFld K (tVar 0) "below") (tC (.int 1))) (tC .non)))))

/-- Node.fork -/
def t_Node_fork (K : PySem.W.Frag) (dd : Nat) (E : XK) : TS :=
  (tSeq (tAsg (tMk (He.ga K "Node") (sp_Node_init K) (WE (wB E)) tNil) (gName 1))
  (tSeq (sFld K (tVar 1) (tFld K (tVar 0) "way") "way")
  (tSeq (tFor (iRng1 (tCons (tC (.int 2)) tNil)) (gName 2)
  (tIfS (tTest (tOp rNotN (tOp (rIxL K) (tFld K (tVar 0) "below") (tVar 2)) (tC .non)))
  (tAsg (tMt (He.ga K "Node") "fork" (sp_Node_fork K dd) (WE (wB E)) (tOp (rIxL K) (tFld K (tVar 0) "below") (tVar 2)) tNil) (gSub (tFld K (tVar 1) "below") (tVar 2) rSetL))
  tNext))
  (tRet (tVar 1)))))

/-- prune -/
def t_prune (K : PySem.W.Frag) (E : XK) : TS :=
  (tIfS (tAnd (tTest (tOp rNotN (tOp (rIxL K) (tFld K (tVar 0) "below") (tVar 1)) (tC .non))) (tB (tMt (He.ga K "Node") "is_empty" (sp_Node_is_empty K) (WE (wB E)) (tOp (rIxL K) (tFld K (tVar 0) "below") (tVar 1)) tNil)))
  (tAsg (tC .non) (gSub (tFld K (tVar 0) "below") (tVar 1) rSetL))
  tNext)

/-- list_below -/
def t_list_below (K : PySem.W.Frag) (dd : Nat) (E : XK) : TS :=
  (tSeq (tIfS (tTest (tOp rNotN (tFld K (tVar 0) "way") (tC .non)))
  (tDrop (tBM K "list" rAppend (tVar 3) (tCons (tTup (tCons (tMk (He.ga K "Prefix") (sp_Prefix_init K) (WE (wB E)) (tCons (tVar 1) (tCons (tVar 2) tNil))) (tCons (tFld K (tVar 0) "way") tNil))) tNil)))
  tNext)
  (tFor (iRng1 (tCons (tC (.int 2)) tNil)) (gName 4)
  (tIfS (tTest (tOp rNotN (tOp (rIxL K) (tFld K (tVar 0) "below") (tVar 4)) (tC .non)))
  (tDrop (tCallS (sp_list_below K dd) (WE (wB E)) (tCons (tOp (rIxL K) (tFld K (tVar 0) "below") (tVar 4)) (tCons (tOp gAdd (tVar 1) (tOp gMul (tVar 4) (tCallS (sp_span_of K) (WE (wB E)) (tCons (tOp gAdd (tVar 2) (tC (.int 1))) tNil)))) (tCons (tOp gAdd (tVar 2) (tC (.int 1))) (tCons (tVar 3) tNil))))))
  tNext)))

/-- Table.__init__ -/
def t_Table_init (K : PySem.W.Frag) (E : XK) : TS :=
  (sFld K (tVar 0) (tMk (He.ga K "Node") (sp_Node_init K) (WE (wB E)) tNil) "root")

/-- Table.path -/
def t_Table_path (K : PySem.W.Frag) (E : XK) : TS :=
  (tSeq (tAsg (tLst (tCons (tFld K (tVar 0) "root") tNil)) (gName 2))
  (tSeq (tFor (iRng1 (tCons (tFld K (tVar 1) "length") tNil)) (gName 3)
  (tSeq (tAsg (tOp (rIxL K) (tFld K (tOp (rIxL K) (tVar 2) (tUn gNeg (tC (.int 1)))) "below") (tCallS (sp_bit_of K) (WE (wB E)) (tCons (tFld K (tVar 1) "base") (tCons (tVar 3) tNil)))) (gName 4))
  (tSeq (tIfS (tTest (tOp rIsN (tVar 4) (tC .non)))
  (tRet (tVar 2))
  tNext)
  (tDrop (tBM K "list" rAppend (tVar 2) (tCons (tVar 4) tNil))))))
  (tRet (tVar 2))))

/-- Table.put -/
def t_Table_put (K : PySem.W.Frag) (E : XK) : TS :=
  (tSeq (tAsg (tMt (He.ga K "Table") "path" (sp_Table_path K) (WE (wB E)) (tVar 0) (tCons (tVar 1) tNil)) (gName 3))
  (tSeq (tAsg (tOp (rIxL K) (tVar 3) (tUn gNeg (tC (.int 1)))) (gName 4))
  (tSeq (tFor (iRng2 (tCons (tOp gMinus (tCB (gLen K) (tCons (tVar 3) tNil)) (tC (.int 1))) (tCons (tFld K (tVar 1) "length") tNil))) (gName 5)
  (tSeq (tAsg (tMk (He.ga K "Node") (sp_Node_init K) (WE (wB E)) tNil) (gName 6))
  (tSeq (tAsg (tVar 6) (gSub (tFld K (tVar 4) "below") (tCallS (sp_bit_of K) (WE (wB E)) (tCons (tFld K (tVar 1) "base") (tCons (tVar 5) tNil))) rSetL))
  (tAsg (tVar 6) (gName 4)))))
  (sFld K (tVar 4) (tVar 2) "way"))))

/-- Table.drop -/
def t_Table_drop (K : PySem.W.Frag) (E : XK) : TS :=
  (tSeq (tAsg (tMt (He.ga K "Table") "path" (sp_Table_path K) (WE (wB E)) (tVar 0) (tCons (tVar 1) tNil)) (gName 2))
  (tSeq (tIfS (tOr (tTest (tOp gLe (tCB (gLen K) (tCons (tVar 2) tNil)) (tFld K (tVar 1) "length"))) (tTest (tOp rIsN (tFld K (tOp (rIxL K) (tVar 2) (tUn gNeg (tC (.int 1)))) "way") (tC .non))))
  (tRet (tC (.bl false)))
  tNext)
  (tSeq (sFld K (tOp (rIxL K) (tVar 2) (tUn gNeg (tC (.int 1)))) (tC .non) "way")
  (tSeq (tFor (iRng3 (tCons (tOp gMinus (tFld K (tVar 1) "length") (tC (.int 1))) (tCons (tUn gNeg (tC (.int 1))) (tCons (tUn gNeg (tC (.int 1))) tNil)))) (gName 3)
  (tDrop (tCallS (sp_prune K) (WE (wB E)) (tCons (tOp (rIxL K) (tVar 2) (tVar 3)) (tCons (tCallS (sp_bit_of K) (WE (wB E)) (tCons (tFld K (tVar 1) "base") (tCons (tVar 3) tNil))) tNil)))))
  (tRet (tC (.bl true)))))))

/-- Table.way_of -/
def t_Table_way_of (K : PySem.W.Frag) (E : XK) : TS :=
  (tSeq (tAsg (tMt (He.ga K "Table") "path" (sp_Table_path K) (WE (wB E)) (tVar 0) (tCons (tVar 1) tNil)) (gName 2))
  (tSeq (tIfS (tTest (tOp gLe (tCB (gLen K) (tCons (tVar 2) tNil)) (tFld K (tVar 1) "length")))
  (tRet (tC .non))
  tNext)
  (tRet (tFld K (tOp (rIxL K) (tVar 2) (tUn gNeg (tC (.int 1)))) "way"))))

/-- Table.find -/
def t_Table_find (K : PySem.W.Frag) (E : XK) : TS :=
  (tSeq (tAsg (tFld K (tFld K (tVar 0) "root") "way") (gName 2))
  (tSeq (tAsg (tFld K (tVar 0) "root") (gName 3))
  (tSeq (tFor (iRng1 (tCons (tC (.int 16)) tNil)) (gName 4)
  (tSeq (tAsg (tOp (rIxL K) (tFld K (tVar 3) "below") (tCallS (sp_bit_of K) (WE (wB E)) (tCons (tVar 1) (tCons (tVar 4) tNil)))) (gName 3))
  (tSeq (tIfS (tTest (tOp rIsN (tVar 3) (tC .non)))
  (tRet (tVar 2))
  tNext)
  (tIfS (tTest (tOp rNotN (tFld K (tVar 3) "way") (tC .non)))
  (tAsg (tFld K (tVar 3) "way") (gName 2))
  tNext))))
  (tRet (tVar 2)))))

/-- Table.entries -/
def t_Table_entries (K : PySem.W.Frag) (E : XK) : TS :=
  (tSeq (tAsg (tLst tNil) (gName 1))
  (tSeq (tDrop (tCallS (sp_list_below K 18) (WE (wB E)) (tCons (tFld K (tVar 0) "root") (tCons (tC (.int 0)) (tCons (tC (.int 0)) (tCons (tVar 1) tNil))))))
  (tRet (tVar 1))))

/-- Table.fork -/
def t_Table_fork (K : PySem.W.Frag) (E : XK) : TS :=
  (tSeq (tAsg (tMk (He.ga K "Table") (sp_Table_init K) (WE (wB E)) tNil) (gName 1))
  (tSeq (sFld K (tVar 1) (tMt (He.ga K "Node") "fork" (sp_Node_fork K 18) (WE (wB E)) (tFld K (tVar 0) "root") tNil) "root")
  (tRet (tVar 1))))

/-- _law_span -/
def t_law_span (K : PySem.W.Frag) (E : XK) : TS :=
  (tRet (tOp (rIxT K) (tTup (tCons (tC (.int 65536)) (tCons (tC (.int 32768)) (tCons (tC (.int 16384)) (tCons (tC (.int 8192)) (tCons (tC (.int 4096)) (tCons (tC (.int 2048)) (tCons (tC (.int 1024)) (tCons (tC (.int 512)) (tCons (tC (.int 256)) (tCons (tC (.int 128)) (tCons (tC (.int 64)) (tCons (tC (.int 32)) (tCons (tC (.int 16)) (tCons (tC (.int 8)) (tCons (tC (.int 4)) (tCons (tC (.int 2)) (tCons (tC (.int 1)) tNil)))))))))))))))))) (tVar 0)))

/-- _law_cell -/
def t_law_cell (K : PySem.W.Frag) (E : XK) : TS :=
  (tSeq (tIfS (tTest (tOp gLt (tVar 1) (tCB (gLen K) (tCons (tVar 0) tNil))))
  (tRet (tOp (rIxL K) (tVar 0) (tVar 1)))
  tNext)
  (tRet (tC (.int 0))))

/-- _law_start -/
def t_law_start (K : PySem.W.Frag) (E : XK) : TS :=
  (tSeq (tAsg (tC (.int 618970019642690137449562111)) (gName 2))
  (tSeq (tIfS (tTest (tChain gLt gLt (tUn gNeg (tC (.int 1000000000000000000))) (tVar 0) (tC (.int 1000000000000000000))))
  (tSeq (tAsg (tOp gMod (tCB gInt1 (tCons (tOp gAdd (tOp gMul (tVar 0) (tC (.int 2654435761))) (tOp gMul (tOp gAdd (tVar 1) (tC (.int 1))) (tC (.int 6700417)))) tNil)) (tVar 2)) (gName 3))
  (tSeq (tAsg (tC (.int 0)) (gName 4))
  (tSeq (tFor (iRng1 (tCons (tC (.int 4)) tNil)) (gName 5)
  (tSeq (tAsg (tOp gMod (tCB gInt1 (tCons (tOp gAdd (tOp gAdd (tOp gAdd (tOp gMulW (tVar 3) (tVar 3)) (tOp gMul (tC (.int 7)) (tVar 3))) (tVar 1)) (tVar 5)) tNil)) (tVar 2)) (gName 3))
  (tAsg (tOp gAdd (tOp gMulW (tVar 4) (tVar 2)) (tVar 3)) (gName 4))))
  (tRet (tLst (tCons (tVar 4) tNil))))))
  tNext)
  (tRet (tLst (tCons (tVar 0) tNil)))))

/-- _law_digit -/
def t_law_digit (K : PySem.W.Frag) (E : XK) : TS :=
  (tSeq (tAsg (tOp gMod (tCB gInt1 (tCons (tOp (rIxL K) (tVar 0) (tC (.int 0))) tNil)) (tVar 1)) (gName 2))
  (tSeq (tAsg (tOp gDivW (tOp (rIxL K) (tVar 0) (tC (.int 0))) (tVar 1)) (gSub (tVar 0) (tC (.int 0)) rSetL))
  (tRet (tVar 2))))

/-- _law_prefix -/
def t_law_prefix (K : PySem.W.Frag) (E : XK) : TS :=
  (tSeq (tAsg (tCallS (sp_law_digit K) (WE (wB E)) (tCons (tVar 0) (tCons (tC (.int 17)) tNil))) (gName 1))
  (tSeq (tIfS (tTest (tOp rEq (tCallS (sp_law_digit K) (WE (wB E)) (tCons (tVar 0) (tCons (tC (.int 2)) tNil))) (tC (.int 0))))
  (tAsg (tOp gMod (tVar 1) (tC (.int 5))) (gName 1))
  tNext)
  (tSeq (tAsg (tOp (rIxT K) (tTup (tCons (tC (.int 0)) (tCons (tC (.int 65535)) (tCons (tC (.int 43690)) (tCons (tC (.int 21845)) (tCons (tC (.int 49152)) tNil)))))) (tCallS (sp_law_digit K) (WE (wB E)) (tCons (tVar 0) (tCons (tC (.int 5)) tNil)))) (gName 2))
  (tSeq (tAsg (tOp gMod (tCB gInt1 (tCons (tOp gAdd (tVar 2) (tOp gMul (tCallS (sp_law_digit K) (WE (wB E)) (tCons (tVar 0) (tCons (tC (.int 2)) tNil))) (tCallS (sp_law_digit K) (WE (wB E)) (tCons (tVar 0) (tCons (tC (.int 64)) tNil))))) tNil)) (tC (.int 65536))) (gName 3))
  (tRet (tMk (He.ga K "Prefix") (sp_Prefix_init K) (WE (wB E)) (tCons (tOp gMinus (tVar 3) (tOp gMod (tVar 3) (tCallS (sp_law_span K) (WE (wB E)) (tCons (tVar 1) tNil)))) (tCons (tVar 1) tNil))))))))

/-- _law_at -/
def t_law_at (K : PySem.W.Frag) (E : XK) : TS :=
  (tSeq (tFor (iRng1 (tCons (tCB (gLen K) (tCons (tVar 0) tNil)) tNil)) (gName 2)
  (tIfS (tTest (tOp (rEqD K) (tOp (rIxT K) (tOp (rIxL K) (tVar 0) (tVar 2)) (tC (.int 0))) (tVar 1)))
  (tRet (tVar 2))
  tNext))
  (tRet (tC .non)))

/-- _law_find -/
def t_law_find (K : PySem.W.Frag) (E : XK) : TS :=
  (tSeq (tAsg (tC .non) (gName 2))
  (tSeq (tFor (iList K (tVar 0)) (gName 3)
  (tSeq (tAsg (tChain gLe gLt (tOp (rIxT K) (tOp (rIxT K) (tVar 3) (tC (.int 0))) (tC (.int 0))) (tVar 1) (tOp gAdd (tOp (rIxT K) (tOp (rIxT K) (tVar 3) (tC (.int 0))) (tC (.int 0))) (tCallS (sp_law_span K) (WE (wB E)) (tCons (tOp (rIxT K) (tOp (rIxT K) (tVar 3) (tC (.int 0))) (tC (.int 1))) tNil)))) (gName 4))
  (tIfS (tAnd (tB (tVar 4)) (tOr (tTest (tOp rIsN (tVar 2) (tC .non))) (tTest (tOp gGt (tOp (rIxT K) (tOp (rIxT K) (tVar 3) (tC (.int 0))) (tC (.int 1))) (tOp (rIxT K) (tOp (rIxT K) (tVar 2) (tC (.int 0))) (tC (.int 1)))))))
  (tAsg (tVar 3) (gName 2))
  tNext)))
  (tSeq (tIfS (tTest (tOp rIsN (tVar 2) (tC .non)))
  (tRet (tC .non))
  tNext)
  (tRet (tOp (rIxT K) (tVar 2) (tC (.int 1)))))))

/-- _law_agrees -/
def t_law_agrees (K : PySem.W.Frag) (E : XK) : TS :=
  (tSeq (tAsg (tLc (iList K (tMt (He.ga K "Table") "entries" (sp_Table_entries K) (WE (wB E)) (tVar 0) tNil)) (gTup K 2 (gCons (gName 4) (gCons (gName 5) gNil))) tYes (tTup (tCons (tMt (He.ga K "Prefix") "pair" (sp_Prefix_pair K) (fun _ => E0) (tVar 4) tNil) (tCons (tVar 5) tNil))) [4, 5]) (gName 3))
  (tSeq (tIfS (tTest (tOp (rNeD K) (tVar 3) (tCB (rSortedN K) (tCons (tVar 1) tNil))))
  (tRet (tC (.bl false)))
  tNext)
  (tSeq (tAsg (tLst (tCons (tCallS (sp_law_digit K) (WE (wB E)) (tCons (tVar 2) (tCons (tC (.int 65536)) tNil))) (tCons (tC (.int 0)) (tCons (tC (.int 65535)) tNil)))) (gName 6))
  (tSeq (tFor (iList K (tSl (rSlL K) (tVar 1) tNoPart (tPart (tC (.int 6))))) (gName 7)
  (tSeq (tAsg (tOp (rIxT K) (tOp (rIxT K) (tVar 7) (tC (.int 0))) (tC (.int 0))) (gName 8))
  (tSeq (tAsg (tOp gMinus (tOp gAdd (tVar 8) (tCallS (sp_law_span K) (WE (wB E)) (tCons (tOp (rIxT K) (tOp (rIxT K) (tVar 7) (tC (.int 0))) (tC (.int 1))) tNil))) (tC (.int 1))) (gName 9))
  (tAsg (tOp rCat (tVar 6) (tLst (tCons (tVar 8) (tCons (tVar 9) (tCons (tOp gMod (tCB gInt1 (tCons (tOp gAdd (tVar 9) (tC (.int 1))) tNil)) (tC (.int 65536))) (tCons (tOp gMod (tCB gInt1 (tCons (tOp gAdd (tVar 8) (tC (.int 65535))) tNil)) (tC (.int 65536))) tNil)))))) (gName 6)))))
  (tSeq (tFor (iList K (tVar 6)) (gName 10)
  (tIfS (tTest (tOp rNe (tMt (He.ga K "Table") "find" (sp_Table_find K) (WE (wB E)) (tVar 0) (tCons (tVar 10) tNil)) (tCallS (sp_law_find K) (WE (wB E)) (tCons (tVar 1) (tCons (tVar 10) tNil)))))
  (tRet (tC (.bl false)))
  tNext))
  (tSeq (tAsg (tCallS (sp_law_prefix K) (WE (wB E)) (tCons (tVar 2) tNil)) (gName 4))
  (tSeq (tAsg (tCallS (sp_law_at K) (WE (wB E)) (tCons (tVar 1) (tCons (tMt (He.ga K "Prefix") "pair" (sp_Prefix_pair K) (WE (wB E)) (tVar 4) tNil) tNil))) (gName 11))
  (tSeq (tIfS (tTest (tOp rIsN (tVar 11) (tC .non)))
  (tRet (tOp rIsN (tMt (He.ga K "Table") "way_of" (sp_Table_way_of K) (WE (wB E)) (tVar 0) (tCons (tVar 4) tNil)) (tC .non)))
  tNext)
  (tRet (tOp rEq (tMt (He.ga K "Table") "way_of" (sp_Table_way_of K) (WE (wB E)) (tVar 0) (tCons (tVar 4) tNil)) (tOp (rIxT K) (tOp (rIxL K) (tVar 1) (tVar 11)) (tC (.int 1)))))))))))))

/-- _law_deed -/
def t_law_deed (K : PySem.W.Frag) (E : XK) : TS :=
  (tSeq (tAsg (tCallS (sp_law_prefix K) (WE (wB E)) (tCons (tVar 2) tNil)) (gName 3))
  (tSeq (tIfS (tAnd (tTest (tOp gGt (tCB (gLen K) (tCons (tVar 1) tNil)) (tC (.int 0)))) (tTest (tOp rEq (tCallS (sp_law_digit K) (WE (wB E)) (tCons (tVar 2) (tCons (tC (.int 3)) tNil))) (tC (.int 0)))))
  (tSeq (tAsg (tOp (rIxT K) (tOp (rIxL K) (tVar 1) (tCallS (sp_law_digit K) (WE (wB E)) (tCons (tVar 2) (tCons (tCB (gLen K) (tCons (tVar 1) tNil)) tNil)))) (tC (.int 0))) (gName 4))
  (tAsg (tMk (He.ga K "Prefix") (sp_Prefix_init K) (WE (wB E)) (tCons (tOp (rIxT K) (tVar 4) (tC (.int 0))) (tCons (tOp (rIxT K) (tVar 4) (tC (.int 1))) tNil))) (gName 3)))
  tNext)
  (tSeq (tAsg (tCallS (sp_law_at K) (WE (wB E)) (tCons (tVar 1) (tCons (tMt (He.ga K "Prefix") "pair" (sp_Prefix_pair K) (WE (wB E)) (tVar 3) tNil) tNil))) (gName 5))
  (tSeq (tAsg (tLc (iList K (tVar 1)) (gName 7) (tTest (tOp (rNeD K) (tOp (rIxT K) (tVar 7) (tC (.int 0))) (tMt (He.ga K "Prefix") "pair" (sp_Prefix_pair K) (fun _ => E0) (tVar 3) tNil))) (tVar 7) [7]) (gName 6))
  (tSeq (tIfS (tTest (tOp rEq (tCallS (sp_law_digit K) (WE (wB E)) (tCons (tVar 2) (tCons (tC (.int 3)) tNil))) (tC (.int 0))))
  (tSeq (tIfS (tTest (tOp rNe (tMt (He.ga K "Table") "drop" (sp_Table_drop K) (WE (wB E)) (tVar 0) (tCons (tVar 3) tNil)) (tOp rNotN (tVar 5) (tC .non))))
  (tRet (tC .non))
  tNext)
  (tRet (tVar 6)))
  tNext)
  (tSeq (tAsg (tCallS (sp_law_digit K) (WE (wB E)) (tCons (tVar 2) (tCons (tC (.int 5)) tNil))) (gName 8))
  (tSeq (tIfS (tTest (tOp rNotN (tMt (He.ga K "Table") "put" (sp_Table_put K) (WE (wB E)) (tVar 0) (tCons (tVar 3) (tCons (tVar 8) tNil))) (tC .non)))
  (tRet (tC .non))
  tNext)
  (tRet (tOp rCat (tVar 6) (tLst (tCons (tTup (tCons (tMt (He.ga K "Prefix") "pair" (sp_Prefix_pair K) (WE (wB E)) (tVar 3) tNil) (tCons (tVar 8) tNil))) tNil)))))))))))

/-- law -/
def t_law (K : PySem.W.Frag) (E : XK) : TS :=
  (tSeq (tAsg (tMk (He.ga K "Table") (sp_Table_init K) (WE (wB E)) tNil) (gName 1))
  (tSeq (tAsg (tLst tNil) (gName 2))
  (tSeq (tAsg (tC .non) (gName 3))
  (tSeq (tAsg (tLst tNil) (gName 4))
  (tSeq (tFor (iRng1 (tCons (tCB gMin2 (tCons (tC (.int 60)) (tCons (tOp gAdd (tC (.int 1)) (tCB (gLen K) (tCons (tVar 0) tNil))) tNil))) tNil)) (gName 5)
  (tSeq (tAsg (tCallS (sp_law_start K) (WE (wB E)) (tCons (tCallS (sp_law_cell K) (WE (wB E)) (tCons (tVar 0) (tCons (tVar 5) tNil))) (tCons (tVar 5) tNil))) (gName 6))
  (tSeq (tAsg (tCallS (sp_law_deed K) (WE (wB E)) (tCons (tVar 1) (tCons (tVar 2) (tCons (tVar 6) tNil)))) (gName 2))
  (tSeq (tIfS (tOr (tTest (tOp rIsN (tVar 2) (tC .non))) (tNot (tB (tCallS (sp_law_agrees K) (WE (wB E)) (tCons (tVar 1) (tCons (tVar 2) (tCons (tVar 6) tNil)))))))
  (tRet (tC (.bl false)))
  tNext)
  (tSeq (tIfS (tTest (tOp rEq (tOp gMod (tVar 5) (tC (.int 11))) (tC (.int 5))))
  (tSeq (tAsg (tMt (He.ga K "Table") "fork" (sp_Table_fork K) (WE (wB E)) (tVar 1) tNil) (gName 3))
  (tAsg (tVar 2) (gName 4)))
  (tIfS (tAnd (tTest (tOp rNotN (tVar 3) (tC .non))) (tTest (tOp rEq (tCallS (sp_law_digit K) (WE (wB E)) (tCons (tVar 6) (tCons (tC (.int 2)) tNil))) (tC (.int 0)))))
  (tSeq (tAsg (tCallS (sp_law_deed K) (WE (wB E)) (tCons (tVar 3) (tCons (tVar 4) (tCons (tVar 6) tNil)))) (gName 4))
  (tIfS (tTest (tOp rIsN (tVar 4) (tC .non)))
  (tRet (tC (.bl false)))
  tNext))
  tNext))
  (tIfS (tAnd (tTest (tOp rNotN (tVar 3) (tC .non))) (tNot (tB (tCallS (sp_law_agrees K) (WE (wB E)) (tCons (tVar 3) (tCons (tVar 4) (tCons (tVar 6) tNil)))))))
  (tRet (tC (.bl false)))
  tNext))))))
  (tRet (tC (.bl true))))))))

end K74

namespace K74
open PySem PySem.Spec PyProof.Rows L2 G
section
variable {P : Program} {w : World} {K : PySem.W.Frag} {mg : Str → Option Value} {base : Heap}

theorem d_span_of (T : TX K mg base)  {cdv : Value} {A : Around} {outer : List Env} {s : Shared} {H : Hp} {E : XK} (hr : Room 0 (A.deeper (envOfC "span_of" (defScope s_span_of) s.heap.objs.size (He.ga K "span_of") cdv))) :
    PSs (cxOf (L2.CX P w) P w K mg base N_span_of "span_of" (defScope s_span_of) (He.ga K "span_of") cdv A outer s H E) (defBody s_span_of) (t_span_of K E) := by
  have tk : Takes (cxOf (L2.CX P w) P w K mg base N_span_of "span_of" (defScope s_span_of) (He.ga K "span_of") cdv A outer s H E) (wB E) := takes_of rfl rfl rfl rfl
  exact (pss_one (ps_ret (pe_ix ix_tup (pe_gref rfl (T.glo 0)) (pv 0) (fun _ _ => rfl))))

theorem d_bit_of (T : TX K mg base) (h_span_of : Has P w K mg base 1 "span_of" P_span_of (sp_span_of K)) {cdv : Value} {A : Around} {outer : List Env} {s : Shared} {H : Hp} {E : XK} (hr : Room 1 (A.deeper (envOfC "bit_of" (defScope s_bit_of) s.heap.objs.size (He.ga K "bit_of") cdv))) :
    PSs (cxOf (L2.CX P w) P w K mg base N_bit_of "bit_of" (defScope s_bit_of) (He.ga K "bit_of") cdv A outer s H E) (defBody s_bit_of) (t_bit_of K E) := by
  have tk : Takes (cxOf (L2.CX P w) P w K mg base N_bit_of "bit_of" (defScope s_bit_of) (He.ga K "bit_of") cdv A outer s H E) (wB E) := takes_of rfl rfl rfl rfl
  exact (pss_one (ps_ret (pe_op op_mod (pe_op op_fdiv (pv 0) (pe_h h_span_of (hr.mono (by decide)) rfl (fun σ => passAt tk σ) (pa_cons (pe_op op_add (pv 1) pe_int) pa_nil))) pe_int)))

theorem d_Prefix_init (T : TX K mg base) (h_span_of : Has P w K mg base 1 "span_of" P_span_of (sp_span_of K)) {cdv : Value} {A : Around} {outer : List Env} {s : Shared} {H : Hp} {E : XK} (hr : Room 1 (A.deeper (envOfC "Prefix.__init__" (defScope s_Prefix_init) s.heap.objs.size (He.ma K (He.ga K "Prefix") "__init__") cdv))) :
    PSs (cxOf (L2.CX P w) P w K mg base N_Prefix_init "Prefix.__init__" (defScope s_Prefix_init) (He.ma K (He.ga K "Prefix") "__init__") cdv A outer s H E) (defBody s_Prefix_init) (t_Prefix_init K E) := by
  have tk : Takes (cxOf (L2.CX P w) P w K mg base N_Prefix_init "Prefix.__init__" (defScope s_Prefix_init) (He.ma K (He.ga K "Prefix") "__init__") cdv A outer s H E) (wB E) := takes_of rfl rfl rfl rfl
  exact (pss_cons (ps_if (pt_not (pt_chain op_le op_le pe_int (pv 2) (pe_gint rfl (T.int 1))))
  (pss_one (ps_rs rfl tk (T.exc 2 3) rfl))
  pss_nil)
  (pss_cons (ps_if (pt_not (pt_chain op_le op_lt pe_int (pv 1) (pe_gint rfl (T.int 4))))
  (pss_one (ps_rs rfl tk (T.exc 2 3) rfl))
  pss_nil)
  (pss_cons (ps_if (pt_cmpR op_ne (pe_op op_mod (pv 1) (pe_h h_span_of (hr.mono (by decide)) rfl (fun σ => passAt tk σ) (pa_cons (pv 2) pa_nil))) pe_int (nomark _))
  (pss_one (ps_rs rfl tk (T.exc 2 3) rfl))
  pss_nil)
  (pss_cons (ps_fld (pv 0) (pv 1) rfl)
  (pss_one (ps_fld (pv 0) (pv 2) rfl))))))

theorem d_Prefix_pair (T : TX K mg base)  {cdv : Value} {A : Around} {outer : List Env} {s : Shared} {H : Hp} {E : XK} (hr : Room 0 (A.deeper (envOfC "Prefix.pair" (defScope s_Prefix_pair) s.heap.objs.size (He.ma K (He.ga K "Prefix") "pair") cdv))) :
    PSs (cxOf (L2.CX P w) P w K mg base N_Prefix_pair "Prefix.pair" (defScope s_Prefix_pair) (He.ma K (He.ga K "Prefix") "pair") cdv A outer s H E) (defBody s_Prefix_pair) (t_Prefix_pair K E) := by
  have tk : Takes (cxOf (L2.CX P w) P w K mg base N_Prefix_pair "Prefix.pair" (defScope s_Prefix_pair) (He.ma K (He.ga K "Prefix") "pair") cdv A outer s H E) (wB E) := takes_of rfl rfl rfl rfl
  exact (pss_one (ps_ret (pe_tup (pa_cons (pe_fld (pv 0) rfl) (pa_cons (pe_fld (pv 0) rfl) pa_nil)))))

theorem d_Node_init (T : TX K mg base)  {cdv : Value} {A : Around} {outer : List Env} {s : Shared} {H : Hp} {E : XK} (hr : Room 0 (A.deeper (envOfC "Node.__init__" (defScope s_Node_init) s.heap.objs.size (He.ma K (He.ga K "Node") "__init__") cdv))) :
    PSs (cxOf (L2.CX P w) P w K mg base N_Node_init "Node.__init__" (defScope s_Node_init) (He.ma K (He.ga K "Node") "__init__") cdv A outer s H E) (defBody s_Node_init) (t_Node_init K E) := by
  have tk : Takes (cxOf (L2.CX P w) P w K mg base N_Node_init "Node.__init__" (defScope s_Node_init) (He.ma K (He.ga K "Node") "__init__") cdv A outer s H E) (wB E) := takes_of rfl rfl rfl rfl
  exact (pss_cons (ps_fld (pv 0) pe_non rfl)
  (pss_one (ps_fld (pv 0) (pe_lst (pa_cons pe_non (pa_cons pe_non pa_nil))) rfl)))

theorem d_Node_is_empty (T : TX K mg base)  {cdv : Value} {A : Around} {outer : List Env} {s : Shared} {H : Hp} {E : XK} (hr : Room 0 (A.deeper (envOfC "Node.is_empty" (defScope s_Node_is_empty) s.heap.objs.size (He.ma K (He.ga K "Node") "is_empty") cdv))) :
    PSs (cxOf (L2.CX P w) P w K mg base N_Node_is_empty "Node.is_empty" (defScope s_Node_is_empty) (He.ma K (He.ga K "Node") "is_empty") cdv A outer s H E) (defBody s_Node_is_empty) (t_Node_is_empty K E) := by
  have tk : Takes (cxOf (L2.CX P w) P w K mg base N_Node_is_empty "Node.is_empty" (defScope s_Node_is_empty) (He.ma K (He.ga K "Node") "is_empty") cdv A outer s H E) (wB E) := takes_of rfl rfl rfl rfl
  exact (pss_one (ps_ret (pe_and (pe_cmpR op_isN1 (pe_fld (pv 0) rfl) pe_non (nomark _)) (pe_and (pe_cmpR op_isN1 (pe_ix ix_list (pe_fld (pv 0) rfl) pe_int (fun _ _ => rfl)) pe_non (nomark _)) (pe_one (pe_cmpR op_isN1 (pe_ix ix_list (pe_fld (pv 0) rfl) pe_int (fun _ _ => rfl)) pe_non (nomark _)))))))

theorem d_Node_fork (T : TX K mg base) {dd : Nat} (h_Node_init : HasI P w K mg base 1 "Node" P_Node_init (sp_Node_init K)) (h_Node_fork : HasM P w K mg base (3 + dd) "Node" "fork" P_Node_fork (sp_Node_fork K dd)) {cdv : Value} {A : Around} {outer : List Env} {s : Shared} {H : Hp} {E : XK} (hr : Room (3 + dd) (A.deeper (envOfC "Node.fork" (defScope s_Node_fork) s.heap.objs.size (He.ma K (He.ga K "Node") "fork") cdv))) :
    PSs (cxOf (L2.CX P w) P w K mg base N_Node_fork "Node.fork" (defScope s_Node_fork) (He.ma K (He.ga K "Node") "fork") cdv A outer s H E) (defBody s_Node_fork) (t_Node_fork K dd E) := by
  have tk : Takes (cxOf (L2.CX P w) P w K mg base N_Node_fork "Node.fork" (defScope s_Node_fork) (He.ma K (He.ga K "Node") "fork") cdv A outer s H E) (wB E) := takes_of rfl rfl rfl rfl
  have po : PassesOwn (model P w) (cxOf (L2.CX P w) P w K mg base N_Node_fork "Node.fork" (defScope s_Node_fork) (He.ma K (He.ga K "Node") "fork") cdv A outer s H E).A (cxOf (L2.CX P w) P w K mg base N_Node_fork "Node.fork" (defScope s_Node_fork) (He.ma K (He.ga K "Node") "fork") cdv A outer s H E).env (cxOf (L2.CX P w) P w K mg base N_Node_fork "Node.fork" (defScope s_Node_fork) (He.ma K (He.ga K "Node") "fork") cdv A outer s H E).xe := passes_of rfl
  exact (pss_cons (ps_set (i := 1) sc_Node_fork.nd rfl (Or.inl rfl) (pe_i0 h_Node_init (hr.mono (by omega)) rfl (fun σ => passAt tk σ)))
  (pss_cons (ps_fld (pv 1) (pe_fld (pv 0) rfl) rfl)
  (pss_cons (ps_for po rfl (pi_range1 rfl (T.free 5) (pa_cons pe_int pa_nil)) (pg_name (i := 2) sc_Node_fork.nd rfl (Or.inl rfl))
  (pss_one (ps_if (pt_cmpR op_notN1 (pe_ix ix_list (pe_fld (pv 0) rfl) (pv 2) (fun _ _ => rfl)) pe_non (nomark _))
  (pss_one (ps_asg (pe_m0 (pe_ix ix_list (pe_fld (pv 0) rfl) (pv 2) (fun _ _ => rfl)) h_Node_fork (hr.mono (by omega)) (fun σ => passAt tk σ)) (pg_sub (pe_fld (pv 1) rfl) (pv 2) set_list)))
  pss_nil)))
  (pss_one (ps_ret (pv 1))))))

theorem d_prune (T : TX K mg base) (h_Node_is_empty : HasM P w K mg base 1 "Node" "is_empty" P_Node_is_empty (sp_Node_is_empty K)) {cdv : Value} {A : Around} {outer : List Env} {s : Shared} {H : Hp} {E : XK} (hr : Room 1 (A.deeper (envOfC "prune" (defScope s_prune) s.heap.objs.size (He.ga K "prune") cdv))) :
    PSs (cxOf (L2.CX P w) P w K mg base N_prune "prune" (defScope s_prune) (He.ga K "prune") cdv A outer s H E) (defBody s_prune) (t_prune K E) := by
  have tk : Takes (cxOf (L2.CX P w) P w K mg base N_prune "prune" (defScope s_prune) (He.ga K "prune") cdv A outer s H E) (wB E) := takes_of rfl rfl rfl rfl
  exact (pss_one (ps_if (PW.pt (pw_and (pt_cmpR op_notN1 (pe_ix ix_list (pe_fld (pv 0) rfl) (pv 1) (fun _ _ => rfl)) pe_non (nomark _)) (pw_and1 (pt_val (pe_m0 (pe_ix ix_list (pe_fld (pv 0) rfl) (pv 1) (fun _ _ => rfl)) h_Node_is_empty (hr.mono (by decide)) (fun σ => passAt tk σ))))))
  (pss_one (ps_asg pe_non (pg_sub (pe_fld (pv 0) rfl) (pv 1) set_list)))
  pss_nil))

theorem d_list_below (T : TX K mg base) {dd : Nat} (h_Prefix_init : HasI P w K mg base 2 "Prefix" P_Prefix_init (sp_Prefix_init K)) (h_list_below : Has P w K mg base (4 + dd) "list_below" P_list_below (sp_list_below K dd)) (h_span_of : Has P w K mg base 1 "span_of" P_span_of (sp_span_of K)) {cdv : Value} {A : Around} {outer : List Env} {s : Shared} {H : Hp} {E : XK} (hr : Room (4 + dd) (A.deeper (envOfC "list_below" (defScope s_list_below) s.heap.objs.size (He.ga K "list_below") cdv))) :
    PSs (cxOf (L2.CX P w) P w K mg base N_list_below "list_below" (defScope s_list_below) (He.ga K "list_below") cdv A outer s H E) (defBody s_list_below) (t_list_below K dd E) := by
  have tk : Takes (cxOf (L2.CX P w) P w K mg base N_list_below "list_below" (defScope s_list_below) (He.ga K "list_below") cdv A outer s H E) (wB E) := takes_of rfl rfl rfl rfl
  have po : PassesOwn (model P w) (cxOf (L2.CX P w) P w K mg base N_list_below "list_below" (defScope s_list_below) (He.ga K "list_below") cdv A outer s H E).A (cxOf (L2.CX P w) P w K mg base N_list_below "list_below" (defScope s_list_below) (He.ga K "list_below") cdv A outer s H E).env (cxOf (L2.CX P w) P w K mg base N_list_below "list_below" (defScope s_list_below) (He.ga K "list_below") cdv A outer s H E).xe := passes_of rfl
  exact (pss_cons (ps_if (pt_cmpR op_notN1 (pe_fld (pv 0) rfl) pe_non (nomark _))
  (pss_one (ps_expr (pe_bm PySem.F.plainAttrs_list PySem.F.slot_list_append PySem.F.type_list_append mt_append (pv 3) (pa_cons (pe_tup (pa_cons (pe_i h_Prefix_init (hr.mono (by omega)) rfl (fun σ => passAt tk σ) (pa_cons (pv 1) (pa_cons (pv 2) pa_nil))) (pa_cons (pe_fld (pv 0) rfl) pa_nil))) pa_nil))))
  pss_nil)
  (pss_one (ps_for po rfl (pi_range1 rfl (T.free 5) (pa_cons pe_int pa_nil)) (pg_name (i := 4) sc_list_below.nd rfl (Or.inl rfl))
  (pss_one (ps_if (pt_cmpR op_notN1 (pe_ix ix_list (pe_fld (pv 0) rfl) (pv 4) (fun _ _ => rfl)) pe_non (nomark _))
  (pss_one (ps_expr (pe_h h_list_below (hr.mono (by omega)) rfl (fun σ => passAt tk σ) (pa_cons (pe_ix ix_list (pe_fld (pv 0) rfl) (pv 4) (fun _ _ => rfl)) (pa_cons (pe_op op_add (pv 1) (pe_op op_mul (pv 4) (pe_h h_span_of (hr.mono (by omega)) rfl (fun σ => passAt tk σ) (pa_cons (pe_op op_add (pv 2) pe_int) pa_nil)))) (pa_cons (pe_op op_add (pv 2) pe_int) (pa_cons (pv 3) pa_nil)))))))
  pss_nil)))))

theorem d_Table_init (T : TX K mg base) (h_Node_init : HasI P w K mg base 1 "Node" P_Node_init (sp_Node_init K)) {cdv : Value} {A : Around} {outer : List Env} {s : Shared} {H : Hp} {E : XK} (hr : Room 2 (A.deeper (envOfC "Table.__init__" (defScope s_Table_init) s.heap.objs.size (He.ma K (He.ga K "Table") "__init__") cdv))) :
    PSs (cxOf (L2.CX P w) P w K mg base N_Table_init "Table.__init__" (defScope s_Table_init) (He.ma K (He.ga K "Table") "__init__") cdv A outer s H E) (defBody s_Table_init) (t_Table_init K E) := by
  have tk : Takes (cxOf (L2.CX P w) P w K mg base N_Table_init "Table.__init__" (defScope s_Table_init) (He.ma K (He.ga K "Table") "__init__") cdv A outer s H E) (wB E) := takes_of rfl rfl rfl rfl
  exact (pss_one (ps_fld (pv 0) (pe_i0 h_Node_init (hr.mono (by decide)) rfl (fun σ => passAt tk σ)) rfl))

theorem d_Table_path (T : TX K mg base) (h_bit_of : Has P w K mg base 2 "bit_of" P_bit_of (sp_bit_of K)) {cdv : Value} {A : Around} {outer : List Env} {s : Shared} {H : Hp} {E : XK} (hr : Room 2 (A.deeper (envOfC "Table.path" (defScope s_Table_path) s.heap.objs.size (He.ma K (He.ga K "Table") "path") cdv))) :
    PSs (cxOf (L2.CX P w) P w K mg base N_Table_path "Table.path" (defScope s_Table_path) (He.ma K (He.ga K "Table") "path") cdv A outer s H E) (defBody s_Table_path) (t_Table_path K E) := by
  have tk : Takes (cxOf (L2.CX P w) P w K mg base N_Table_path "Table.path" (defScope s_Table_path) (He.ma K (He.ga K "Table") "path") cdv A outer s H E) (wB E) := takes_of rfl rfl rfl rfl
  have po : PassesOwn (model P w) (cxOf (L2.CX P w) P w K mg base N_Table_path "Table.path" (defScope s_Table_path) (He.ma K (He.ga K "Table") "path") cdv A outer s H E).A (cxOf (L2.CX P w) P w K mg base N_Table_path "Table.path" (defScope s_Table_path) (He.ma K (He.ga K "Table") "path") cdv A outer s H E).env (cxOf (L2.CX P w) P w K mg base N_Table_path "Table.path" (defScope s_Table_path) (He.ma K (He.ga K "Table") "path") cdv A outer s H E).xe := passes_of rfl
  exact (pss_cons (ps_set (i := 2) sc_Table_path.nd rfl (Or.inl rfl) (pe_lst (pa_cons (pe_fld (pv 0) rfl) pa_nil)))
  (pss_cons (ps_for po rfl (pi_range1 rfl (T.free 5) (pa_cons (pe_fld (pv 1) rfl) pa_nil)) (pg_name (i := 3) sc_Table_path.nd rfl (Or.inl rfl))
  (pss_cons (ps_set (i := 4) sc_Table_path.nd rfl (Or.inl rfl) (pe_ix ix_list (pe_fld (pe_ix ix_list (pv 2) (pe_un un_neg pe_int) (fun _ _ => rfl)) rfl) (pe_h h_bit_of (hr.mono (by decide)) rfl (fun σ => passAt tk σ) (pa_cons (pe_fld (pv 1) rfl) (pa_cons (pv 3) pa_nil))) (fun _ _ => rfl)))
  (pss_cons (ps_if (pt_cmpR op_isN1 (pv 4) pe_non (nomark _))
  (pss_one (ps_ret (pv 2)))
  pss_nil)
  (pss_one (ps_expr (pe_bm PySem.F.plainAttrs_list PySem.F.slot_list_append PySem.F.type_list_append mt_append (pv 2) (pa_cons (pv 4) pa_nil)))))))
  (pss_one (ps_ret (pv 2)))))

theorem d_Table_put (T : TX K mg base) (h_Table_path : HasM P w K mg base 3 "Table" "path" P_Table_path (sp_Table_path K)) (h_Node_init : HasI P w K mg base 1 "Node" P_Node_init (sp_Node_init K)) (h_bit_of : Has P w K mg base 2 "bit_of" P_bit_of (sp_bit_of K)) {cdv : Value} {A : Around} {outer : List Env} {s : Shared} {H : Hp} {E : XK} (hr : Room 3 (A.deeper (envOfC "Table.put" (defScope s_Table_put) s.heap.objs.size (He.ma K (He.ga K "Table") "put") cdv))) :
    PSs (cxOf (L2.CX P w) P w K mg base N_Table_put "Table.put" (defScope s_Table_put) (He.ma K (He.ga K "Table") "put") cdv A outer s H E) (defBody s_Table_put) (t_Table_put K E) := by
  have tk : Takes (cxOf (L2.CX P w) P w K mg base N_Table_put "Table.put" (defScope s_Table_put) (He.ma K (He.ga K "Table") "put") cdv A outer s H E) (wB E) := takes_of rfl rfl rfl rfl
  have po : PassesOwn (model P w) (cxOf (L2.CX P w) P w K mg base N_Table_put "Table.put" (defScope s_Table_put) (He.ma K (He.ga K "Table") "put") cdv A outer s H E).A (cxOf (L2.CX P w) P w K mg base N_Table_put "Table.put" (defScope s_Table_put) (He.ma K (He.ga K "Table") "put") cdv A outer s H E).env (cxOf (L2.CX P w) P w K mg base N_Table_put "Table.put" (defScope s_Table_put) (He.ma K (He.ga K "Table") "put") cdv A outer s H E).xe := passes_of rfl
  exact (pss_cons (ps_set (i := 3) sc_Table_put.nd rfl (Or.inl rfl) (pe_m (pv 0) h_Table_path (hr.mono (by decide)) (fun σ => passAt tk σ) (pa_cons (pv 1) pa_nil)))
  (pss_cons (ps_set (i := 4) sc_Table_put.nd rfl (Or.inl rfl) (pe_ix ix_list (pv 3) (pe_un un_neg pe_int) (fun _ _ => rfl)))
  (pss_cons (ps_for po rfl (pi_range2 rfl (T.free 5) (pa_cons (pe_op op_sub (pe_callB call_len (by rfl) (T.free 6) PySem.boot_len (pa_cons (pv 3) pa_nil)) pe_int) (pa_cons (pe_fld (pv 1) rfl) pa_nil))) (pg_name (i := 5) sc_Table_put.nd rfl (Or.inl rfl))
  (pss_cons (ps_set (i := 6) sc_Table_put.nd rfl (Or.inl rfl) (pe_i0 h_Node_init (hr.mono (by decide)) rfl (fun σ => passAt tk σ)))
  (pss_cons (ps_asg (pv 6) (pg_sub (pe_fld (pv 4) rfl) (pe_h h_bit_of (hr.mono (by decide)) rfl (fun σ => passAt tk σ) (pa_cons (pe_fld (pv 1) rfl) (pa_cons (pv 5) pa_nil))) set_list))
  (pss_one (ps_set (i := 4) sc_Table_put.nd rfl (Or.inl rfl) (pv 6))))))
  (pss_one (ps_fld (pv 4) (pv 2) rfl)))))

theorem d_Table_drop (T : TX K mg base) (h_Table_path : HasM P w K mg base 3 "Table" "path" P_Table_path (sp_Table_path K)) (h_prune : Has P w K mg base 2 "prune" P_prune (sp_prune K)) (h_bit_of : Has P w K mg base 2 "bit_of" P_bit_of (sp_bit_of K)) {cdv : Value} {A : Around} {outer : List Env} {s : Shared} {H : Hp} {E : XK} (hr : Room 3 (A.deeper (envOfC "Table.drop" (defScope s_Table_drop) s.heap.objs.size (He.ma K (He.ga K "Table") "drop") cdv))) :
    PSs (cxOf (L2.CX P w) P w K mg base N_Table_drop "Table.drop" (defScope s_Table_drop) (He.ma K (He.ga K "Table") "drop") cdv A outer s H E) (defBody s_Table_drop) (t_Table_drop K E) := by
  have tk : Takes (cxOf (L2.CX P w) P w K mg base N_Table_drop "Table.drop" (defScope s_Table_drop) (He.ma K (He.ga K "Table") "drop") cdv A outer s H E) (wB E) := takes_of rfl rfl rfl rfl
  have po : PassesOwn (model P w) (cxOf (L2.CX P w) P w K mg base N_Table_drop "Table.drop" (defScope s_Table_drop) (He.ma K (He.ga K "Table") "drop") cdv A outer s H E).A (cxOf (L2.CX P w) P w K mg base N_Table_drop "Table.drop" (defScope s_Table_drop) (He.ma K (He.ga K "Table") "drop") cdv A outer s H E).env (cxOf (L2.CX P w) P w K mg base N_Table_drop "Table.drop" (defScope s_Table_drop) (He.ma K (He.ga K "Table") "drop") cdv A outer s H E).xe := passes_of rfl
  exact (pss_cons (ps_set (i := 2) sc_Table_drop.nd rfl (Or.inl rfl) (pe_m (pv 0) h_Table_path (hr.mono (by decide)) (fun σ => passAt tk σ) (pa_cons (pv 1) pa_nil)))
  (pss_cons (ps_if (PW.pt (pw_or (pt_cmpR op_le (pe_callB call_len (by rfl) (T.free 6) PySem.boot_len (pa_cons (pv 2) pa_nil)) (pe_fld (pv 1) rfl) (nomark _)) (pw_or1 (pt_cmpR op_isN1 (pe_fld (pe_ix ix_list (pv 2) (pe_un un_neg pe_int) (fun _ _ => rfl)) rfl) pe_non (nomark _)))))
  (pss_one (ps_ret pe_bl))
  pss_nil)
  (pss_cons (ps_fld (pe_ix ix_list (pv 2) (pe_un un_neg pe_int) (fun _ _ => rfl)) pe_non rfl)
  (pss_cons (ps_for po rfl (pi_range3 rfl (T.free 5) (pa_cons (pe_op op_sub (pe_fld (pv 1) rfl) pe_int) (pa_cons (pe_un un_neg pe_int) (pa_cons (pe_un un_neg pe_int) pa_nil)))) (pg_name (i := 3) sc_Table_drop.nd rfl (Or.inl rfl))
  (pss_one (ps_expr (pe_h h_prune (hr.mono (by decide)) rfl (fun σ => passAt tk σ) (pa_cons (pe_ix ix_list (pv 2) (pv 3) (fun _ _ => rfl)) (pa_cons (pe_h h_bit_of (hr.mono (by decide)) rfl (fun σ => passAt tk σ) (pa_cons (pe_fld (pv 1) rfl) (pa_cons (pv 3) pa_nil))) pa_nil))))))
  (pss_one (ps_ret pe_bl))))))

theorem d_Table_way_of (T : TX K mg base) (h_Table_path : HasM P w K mg base 3 "Table" "path" P_Table_path (sp_Table_path K)) {cdv : Value} {A : Around} {outer : List Env} {s : Shared} {H : Hp} {E : XK} (hr : Room 3 (A.deeper (envOfC "Table.way_of" (defScope s_Table_way_of) s.heap.objs.size (He.ma K (He.ga K "Table") "way_of") cdv))) :
    PSs (cxOf (L2.CX P w) P w K mg base N_Table_way_of "Table.way_of" (defScope s_Table_way_of) (He.ma K (He.ga K "Table") "way_of") cdv A outer s H E) (defBody s_Table_way_of) (t_Table_way_of K E) := by
  have tk : Takes (cxOf (L2.CX P w) P w K mg base N_Table_way_of "Table.way_of" (defScope s_Table_way_of) (He.ma K (He.ga K "Table") "way_of") cdv A outer s H E) (wB E) := takes_of rfl rfl rfl rfl
  exact (pss_cons (ps_set (i := 2) sc_Table_way_of.nd rfl (Or.inl rfl) (pe_m (pv 0) h_Table_path (hr.mono (by decide)) (fun σ => passAt tk σ) (pa_cons (pv 1) pa_nil)))
  (pss_cons (ps_if (pt_cmpR op_le (pe_callB call_len (by rfl) (T.free 6) PySem.boot_len (pa_cons (pv 2) pa_nil)) (pe_fld (pv 1) rfl) (nomark _))
  (pss_one (ps_ret pe_non))
  pss_nil)
  (pss_one (ps_ret (pe_fld (pe_ix ix_list (pv 2) (pe_un un_neg pe_int) (fun _ _ => rfl)) rfl)))))

theorem d_Table_find (T : TX K mg base) (h_bit_of : Has P w K mg base 2 "bit_of" P_bit_of (sp_bit_of K)) {cdv : Value} {A : Around} {outer : List Env} {s : Shared} {H : Hp} {E : XK} (hr : Room 2 (A.deeper (envOfC "Table.find" (defScope s_Table_find) s.heap.objs.size (He.ma K (He.ga K "Table") "find") cdv))) :
    PSs (cxOf (L2.CX P w) P w K mg base N_Table_find "Table.find" (defScope s_Table_find) (He.ma K (He.ga K "Table") "find") cdv A outer s H E) (defBody s_Table_find) (t_Table_find K E) := by
  have tk : Takes (cxOf (L2.CX P w) P w K mg base N_Table_find "Table.find" (defScope s_Table_find) (He.ma K (He.ga K "Table") "find") cdv A outer s H E) (wB E) := takes_of rfl rfl rfl rfl
  have po : PassesOwn (model P w) (cxOf (L2.CX P w) P w K mg base N_Table_find "Table.find" (defScope s_Table_find) (He.ma K (He.ga K "Table") "find") cdv A outer s H E).A (cxOf (L2.CX P w) P w K mg base N_Table_find "Table.find" (defScope s_Table_find) (He.ma K (He.ga K "Table") "find") cdv A outer s H E).env (cxOf (L2.CX P w) P w K mg base N_Table_find "Table.find" (defScope s_Table_find) (He.ma K (He.ga K "Table") "find") cdv A outer s H E).xe := passes_of rfl
  exact (pss_cons (ps_set (i := 2) sc_Table_find.nd rfl (Or.inl rfl) (pe_fld (pe_fld (pv 0) rfl) rfl))
  (pss_cons (ps_set (i := 3) sc_Table_find.nd rfl (Or.inl rfl) (pe_fld (pv 0) rfl))
  (pss_cons (ps_for po rfl (pi_range1 rfl (T.free 5) (pa_cons (pe_gint rfl (T.int 1)) pa_nil)) (pg_name (i := 4) sc_Table_find.nd rfl (Or.inl rfl))
  (pss_cons (ps_set (i := 3) sc_Table_find.nd rfl (Or.inl rfl) (pe_ix ix_list (pe_fld (pv 3) rfl) (pe_h h_bit_of (hr.mono (by decide)) rfl (fun σ => passAt tk σ) (pa_cons (pv 1) (pa_cons (pv 4) pa_nil))) (fun _ _ => rfl)))
  (pss_cons (ps_if (pt_cmpR op_isN1 (pv 3) pe_non (nomark _))
  (pss_one (ps_ret (pv 2)))
  pss_nil)
  (pss_one (ps_if (pt_cmpR op_notN1 (pe_fld (pv 3) rfl) pe_non (nomark _))
  (pss_one (ps_set (i := 2) sc_Table_find.nd rfl (Or.inl rfl) (pe_fld (pv 3) rfl)))
  pss_nil)))))
  (pss_one (ps_ret (pv 2))))))

theorem d_Table_entries (T : TX K mg base) (h_list_below : Has P w K mg base 22 "list_below" P_list_below (sp_list_below K 18)) {cdv : Value} {A : Around} {outer : List Env} {s : Shared} {H : Hp} {E : XK} (hr : Room 22 (A.deeper (envOfC "Table.entries" (defScope s_Table_entries) s.heap.objs.size (He.ma K (He.ga K "Table") "entries") cdv))) :
    PSs (cxOf (L2.CX P w) P w K mg base N_Table_entries "Table.entries" (defScope s_Table_entries) (He.ma K (He.ga K "Table") "entries") cdv A outer s H E) (defBody s_Table_entries) (t_Table_entries K E) := by
  have tk : Takes (cxOf (L2.CX P w) P w K mg base N_Table_entries "Table.entries" (defScope s_Table_entries) (He.ma K (He.ga K "Table") "entries") cdv A outer s H E) (wB E) := takes_of rfl rfl rfl rfl
  exact (pss_cons (ps_set (i := 1) sc_Table_entries.nd rfl (Or.inl rfl) (pe_lst pa_nil))
  (pss_cons (ps_expr (pe_h h_list_below (hr.mono (by decide)) rfl (fun σ => passAt tk σ) (pa_cons (pe_fld (pv 0) rfl) (pa_cons pe_int (pa_cons pe_int (pa_cons (pv 1) pa_nil))))))
  (pss_one (ps_ret (pv 1)))))

theorem d_Table_fork (T : TX K mg base) (h_Table_init : HasI P w K mg base 3 "Table" P_Table_init (sp_Table_init K)) (h_Node_fork : HasM P w K mg base 21 "Node" "fork" P_Node_fork (sp_Node_fork K 18)) {cdv : Value} {A : Around} {outer : List Env} {s : Shared} {H : Hp} {E : XK} (hr : Room 21 (A.deeper (envOfC "Table.fork" (defScope s_Table_fork) s.heap.objs.size (He.ma K (He.ga K "Table") "fork") cdv))) :
    PSs (cxOf (L2.CX P w) P w K mg base N_Table_fork "Table.fork" (defScope s_Table_fork) (He.ma K (He.ga K "Table") "fork") cdv A outer s H E) (defBody s_Table_fork) (t_Table_fork K E) := by
  have tk : Takes (cxOf (L2.CX P w) P w K mg base N_Table_fork "Table.fork" (defScope s_Table_fork) (He.ma K (He.ga K "Table") "fork") cdv A outer s H E) (wB E) := takes_of rfl rfl rfl rfl
  exact (pss_cons (ps_set (i := 1) sc_Table_fork.nd rfl (Or.inl rfl) (pe_i0 h_Table_init (hr.mono (by decide)) rfl (fun σ => passAt tk σ)))
  (pss_cons (ps_fld (pv 1) (pe_m0 (pe_fld (pv 0) rfl) h_Node_fork (hr.mono (by decide)) (fun σ => passAt tk σ)) rfl)
  (pss_one (ps_ret (pv 1)))))

theorem d_law_span (T : TX K mg base)  {cdv : Value} {A : Around} {outer : List Env} {s : Shared} {H : Hp} {E : XK} (hr : Room 0 (A.deeper (envOfC "_law_span" (defScope s_law_span) s.heap.objs.size (He.ga K "_law_span") cdv))) :
    PSs (cxOf (L2.CX P w) P w K mg base N_law_span "_law_span" (defScope s_law_span) (He.ga K "_law_span") cdv A outer s H E) (defBody s_law_span) (t_law_span K E) := by
  have tk : Takes (cxOf (L2.CX P w) P w K mg base N_law_span "_law_span" (defScope s_law_span) (He.ga K "_law_span") cdv A outer s H E) (wB E) := takes_of rfl rfl rfl rfl
  exact (pss_one (ps_ret (pe_ix ix_tup (pe_tup (pa_cons pe_int (pa_cons pe_int (pa_cons pe_int (pa_cons pe_int (pa_cons pe_int (pa_cons pe_int (pa_cons pe_int (pa_cons pe_int (pa_cons pe_int (pa_cons pe_int (pa_cons pe_int (pa_cons pe_int (pa_cons pe_int (pa_cons pe_int (pa_cons pe_int (pa_cons pe_int (pa_cons pe_int pa_nil)))))))))))))))))) (pv 0) (fun _ _ => rfl))))

theorem d_law_cell (T : TX K mg base)  {cdv : Value} {A : Around} {outer : List Env} {s : Shared} {H : Hp} {E : XK} (hr : Room 0 (A.deeper (envOfC "_law_cell" (defScope s_law_cell) s.heap.objs.size (He.ga K "_law_cell") cdv))) :
    PSs (cxOf (L2.CX P w) P w K mg base N_law_cell "_law_cell" (defScope s_law_cell) (He.ga K "_law_cell") cdv A outer s H E) (defBody s_law_cell) (t_law_cell K E) := by
  have tk : Takes (cxOf (L2.CX P w) P w K mg base N_law_cell "_law_cell" (defScope s_law_cell) (He.ga K "_law_cell") cdv A outer s H E) (wB E) := takes_of rfl rfl rfl rfl
  exact (pss_cons (ps_if (pt_cmpR op_lt (pv 1) (pe_callB call_len (by rfl) (T.free 6) PySem.boot_len (pa_cons (pv 0) pa_nil)) (nomark _))
  (pss_one (ps_ret (pe_ix ix_list (pv 0) (pv 1) (fun _ _ => rfl))))
  pss_nil)
  (pss_one (ps_ret pe_int)))

theorem d_law_start (T : TX K mg base)  {cdv : Value} {A : Around} {outer : List Env} {s : Shared} {H : Hp} {E : XK} (hr : Room 0 (A.deeper (envOfC "_law_start" (defScope s_law_start) s.heap.objs.size (He.ga K "_law_start") cdv))) :
    PSs (cxOf (L2.CX P w) P w K mg base N_law_start "_law_start" (defScope s_law_start) (He.ga K "_law_start") cdv A outer s H E) (defBody s_law_start) (t_law_start K E) := by
  have tk : Takes (cxOf (L2.CX P w) P w K mg base N_law_start "_law_start" (defScope s_law_start) (He.ga K "_law_start") cdv A outer s H E) (wB E) := takes_of rfl rfl rfl rfl
  have po : PassesOwn (model P w) (cxOf (L2.CX P w) P w K mg base N_law_start "_law_start" (defScope s_law_start) (He.ga K "_law_start") cdv A outer s H E).A (cxOf (L2.CX P w) P w K mg base N_law_start "_law_start" (defScope s_law_start) (He.ga K "_law_start") cdv A outer s H E).env (cxOf (L2.CX P w) P w K mg base N_law_start "_law_start" (defScope s_law_start) (He.ga K "_law_start") cdv A outer s H E).xe := passes_of rfl
  exact (pss_cons (ps_set (i := 2) sc_law_start.nd rfl (Or.inl rfl) pe_int)
  (pss_cons (ps_if (pt_chain op_lt op_lt (pe_un un_neg pe_int) (pv 0) pe_int)
  (pss_cons (ps_set (i := 3) sc_law_start.nd rfl (Or.inl rfl) (pe_op op_mod (pe_callTy call_int1 (by rfl) (T.free 7) (by decide +kernel) (pa_cons (pe_op op_add (pe_op op_mul (pv 0) pe_int) (pe_op op_mul (pe_op op_add (pv 1) pe_int) pe_int)) pa_nil)) (pv 2)))
  (pss_cons (ps_set (i := 4) sc_law_start.nd rfl (Or.inl rfl) pe_int)
  (pss_cons (ps_for po rfl (pi_range1 rfl (T.free 5) (pa_cons pe_int pa_nil)) (pg_name (i := 5) sc_law_start.nd rfl (Or.inl rfl))
  (pss_cons (ps_set (i := 3) sc_law_start.nd rfl (Or.inl rfl) (pe_op op_mod (pe_callTy call_int1 (by rfl) (T.free 7) (by decide +kernel) (pa_cons (pe_op op_add (pe_op op_add (pe_op op_add (pe_op op_mulW (pv 3) (pv 3)) (pe_op op_mul pe_int (pv 3))) (pv 1)) (pv 5)) pa_nil)) (pv 2)))
  (pss_one (ps_set (i := 4) sc_law_start.nd rfl (Or.inl rfl) (pe_op op_add (pe_op op_mulW (pv 4) (pv 2)) (pv 3))))))
  (pss_one (ps_ret (pe_lst (pa_cons (pv 4) pa_nil)))))))
  pss_nil)
  (pss_one (ps_ret (pe_lst (pa_cons (pv 0) pa_nil))))))

theorem d_law_digit (T : TX K mg base)  {cdv : Value} {A : Around} {outer : List Env} {s : Shared} {H : Hp} {E : XK} (hr : Room 0 (A.deeper (envOfC "_law_digit" (defScope s_law_digit) s.heap.objs.size (He.ga K "_law_digit") cdv))) :
    PSs (cxOf (L2.CX P w) P w K mg base N_law_digit "_law_digit" (defScope s_law_digit) (He.ga K "_law_digit") cdv A outer s H E) (defBody s_law_digit) (t_law_digit K E) := by
  have tk : Takes (cxOf (L2.CX P w) P w K mg base N_law_digit "_law_digit" (defScope s_law_digit) (He.ga K "_law_digit") cdv A outer s H E) (wB E) := takes_of rfl rfl rfl rfl
  exact (pss_cons (ps_set (i := 2) sc_law_digit.nd rfl (Or.inl rfl) (pe_op op_mod (pe_callTy call_int1 (by rfl) (T.free 7) (by decide +kernel) (pa_cons (pe_ix ix_list (pv 0) pe_int (fun _ _ => rfl)) pa_nil)) (pv 1)))
  (pss_cons (ps_asg (pe_op op_fdivW (pe_ix ix_list (pv 0) pe_int (fun _ _ => rfl)) (pv 1)) (pg_sub (pv 0) pe_int set_list))
  (pss_one (ps_ret (pv 2)))))

theorem d_law_prefix (T : TX K mg base) (h_law_digit : Has P w K mg base 1 "_law_digit" P_law_digit (sp_law_digit K)) (h_Prefix_init : HasI P w K mg base 2 "Prefix" P_Prefix_init (sp_Prefix_init K)) (h_law_span : Has P w K mg base 1 "_law_span" P_law_span (sp_law_span K)) {cdv : Value} {A : Around} {outer : List Env} {s : Shared} {H : Hp} {E : XK} (hr : Room 3 (A.deeper (envOfC "_law_prefix" (defScope s_law_prefix) s.heap.objs.size (He.ga K "_law_prefix") cdv))) :
    PSs (cxOf (L2.CX P w) P w K mg base N_law_prefix "_law_prefix" (defScope s_law_prefix) (He.ga K "_law_prefix") cdv A outer s H E) (defBody s_law_prefix) (t_law_prefix K E) := by
  have tk : Takes (cxOf (L2.CX P w) P w K mg base N_law_prefix "_law_prefix" (defScope s_law_prefix) (He.ga K "_law_prefix") cdv A outer s H E) (wB E) := takes_of rfl rfl rfl rfl
  exact (pss_cons (ps_set (i := 1) sc_law_prefix.nd rfl (Or.inl rfl) (pe_h h_law_digit (hr.mono (by decide)) rfl (fun σ => passAt tk σ) (pa_cons (pv 0) (pa_cons pe_int pa_nil))))
  (pss_cons (ps_if (pt_cmpR op_eq (pe_h h_law_digit (hr.mono (by decide)) rfl (fun σ => passAt tk σ) (pa_cons (pv 0) (pa_cons pe_int pa_nil))) pe_int (nomark _))
  (pss_one (ps_set (i := 1) sc_law_prefix.nd rfl (Or.inl rfl) (pe_op op_mod (pv 1) pe_int)))
  pss_nil)
  (pss_cons (ps_set (i := 2) sc_law_prefix.nd rfl (Or.inl rfl) (pe_ix ix_tup (pe_tup (pa_cons pe_int (pa_cons pe_int (pa_cons pe_int (pa_cons pe_int (pa_cons pe_int pa_nil)))))) (pe_h h_law_digit (hr.mono (by decide)) rfl (fun σ => passAt tk σ) (pa_cons (pv 0) (pa_cons pe_int pa_nil))) (fun _ _ => rfl)))
  (pss_cons (ps_set (i := 3) sc_law_prefix.nd rfl (Or.inl rfl) (pe_op op_mod (pe_callTy call_int1 (by rfl) (T.free 7) (by decide +kernel) (pa_cons (pe_op op_add (pv 2) (pe_op op_mul (pe_h h_law_digit (hr.mono (by decide)) rfl (fun σ => passAt tk σ) (pa_cons (pv 0) (pa_cons pe_int pa_nil))) (pe_h h_law_digit (hr.mono (by decide)) rfl (fun σ => passAt tk σ) (pa_cons (pv 0) (pa_cons pe_int pa_nil))))) pa_nil)) pe_int))
  (pss_one (ps_ret (pe_i h_Prefix_init (hr.mono (by decide)) rfl (fun σ => passAt tk σ) (pa_cons (pe_op op_sub (pv 3) (pe_op op_mod (pv 3) (pe_h h_law_span (hr.mono (by decide)) rfl (fun σ => passAt tk σ) (pa_cons (pv 1) pa_nil)))) (pa_cons (pv 1) pa_nil)))))))))

theorem d_law_at (T : TX K mg base)  {cdv : Value} {A : Around} {outer : List Env} {s : Shared} {H : Hp} {E : XK} (hr : Room 0 (A.deeper (envOfC "_law_at" (defScope s_law_at) s.heap.objs.size (He.ga K "_law_at") cdv))) :
    PSs (cxOf (L2.CX P w) P w K mg base N_law_at "_law_at" (defScope s_law_at) (He.ga K "_law_at") cdv A outer s H E) (defBody s_law_at) (t_law_at K E) := by
  have tk : Takes (cxOf (L2.CX P w) P w K mg base N_law_at "_law_at" (defScope s_law_at) (He.ga K "_law_at") cdv A outer s H E) (wB E) := takes_of rfl rfl rfl rfl
  have po : PassesOwn (model P w) (cxOf (L2.CX P w) P w K mg base N_law_at "_law_at" (defScope s_law_at) (He.ga K "_law_at") cdv A outer s H E).A (cxOf (L2.CX P w) P w K mg base N_law_at "_law_at" (defScope s_law_at) (He.ga K "_law_at") cdv A outer s H E).env (cxOf (L2.CX P w) P w K mg base N_law_at "_law_at" (defScope s_law_at) (He.ga K "_law_at") cdv A outer s H E).xe := passes_of rfl
  exact (pss_cons (ps_for po rfl (pi_range1 rfl (T.free 5) (pa_cons (pe_callB call_len (by rfl) (T.free 6) PySem.boot_len (pa_cons (pv 0) pa_nil)) pa_nil)) (pg_name (i := 2) sc_law_at.nd rfl (Or.inl rfl))
  (pss_one (ps_if (pt_cmpR (op_eqD hr.units) (pe_ix ix_tup (pe_ix ix_list (pv 0) (pv 2) (fun _ _ => rfl)) pe_int (fun _ _ => rfl)) (pv 1) (nomark _))
  (pss_one (ps_ret (pv 2)))
  pss_nil)))
  (pss_one (ps_ret pe_non)))

theorem d_law_find (T : TX K mg base) (h_law_span : Has P w K mg base 1 "_law_span" P_law_span (sp_law_span K)) {cdv : Value} {A : Around} {outer : List Env} {s : Shared} {H : Hp} {E : XK} (hr : Room 1 (A.deeper (envOfC "_law_find" (defScope s_law_find) s.heap.objs.size (He.ga K "_law_find") cdv))) :
    PSs (cxOf (L2.CX P w) P w K mg base N_law_find "_law_find" (defScope s_law_find) (He.ga K "_law_find") cdv A outer s H E) (defBody s_law_find) (t_law_find K E) := by
  have tk : Takes (cxOf (L2.CX P w) P w K mg base N_law_find "_law_find" (defScope s_law_find) (He.ga K "_law_find") cdv A outer s H E) (wB E) := takes_of rfl rfl rfl rfl
  have po : PassesOwn (model P w) (cxOf (L2.CX P w) P w K mg base N_law_find "_law_find" (defScope s_law_find) (He.ga K "_law_find") cdv A outer s H E).A (cxOf (L2.CX P w) P w K mg base N_law_find "_law_find" (defScope s_law_find) (He.ga K "_law_find") cdv A outer s H E).env (cxOf (L2.CX P w) P w K mg base N_law_find "_law_find" (defScope s_law_find) (He.ga K "_law_find") cdv A outer s H E).xe := passes_of rfl
  exact (pss_cons (ps_set (i := 2) sc_law_find.nd rfl (Or.inl rfl) pe_non)
  (pss_cons (ps_for po rfl (pi_list (pv 0)) (pg_name (i := 3) sc_law_find.nd rfl (Or.inl rfl))
  (pss_cons (ps_set (i := 4) sc_law_find.nd rfl (Or.inl rfl) (pe_chain op_le op_lt (pe_ix ix_tup (pe_ix ix_tup (pv 3) pe_int (fun _ _ => rfl)) pe_int (fun _ _ => rfl)) (pv 1) (pe_op op_add (pe_ix ix_tup (pe_ix ix_tup (pv 3) pe_int (fun _ _ => rfl)) pe_int (fun _ _ => rfl)) (pe_h h_law_span (hr.mono (by decide)) rfl (fun σ => passAt tk σ) (pa_cons (pe_ix ix_tup (pe_ix ix_tup (pv 3) pe_int (fun _ _ => rfl)) pe_int (fun _ _ => rfl)) pa_nil)))))
  (pss_one (ps_if (PW.pt (pw_and (pt_val (pv 4)) (pw_and1 (PW.pt (pw_or (pt_cmpR op_isN1 (pv 2) pe_non (nomark _)) (pw_or1 (pt_cmpR op_gt (pe_ix ix_tup (pe_ix ix_tup (pv 3) pe_int (fun _ _ => rfl)) pe_int (fun _ _ => rfl)) (pe_ix ix_tup (pe_ix ix_tup (pv 2) pe_int (fun _ _ => rfl)) pe_int (fun _ _ => rfl)) (nomark _))))))))
  (pss_one (ps_set (i := 2) sc_law_find.nd rfl (Or.inl rfl) (pv 3)))
  pss_nil))))
  (pss_cons (ps_if (pt_cmpR op_isN1 (pv 2) pe_non (nomark _))
  (pss_one (ps_ret pe_non))
  pss_nil)
  (pss_one (ps_ret (pe_ix ix_tup (pv 2) pe_int (fun _ _ => rfl)))))))

theorem d_law_agrees (T : TX K mg base) (h_Table_entries : HasM P w K mg base 23 "Table" "entries" P_Table_entries (sp_Table_entries K)) (h_Prefix_pair : HasM P w K mg base 1 "Prefix" "pair" P_Prefix_pair (sp_Prefix_pair K)) (h_law_digit : Has P w K mg base 1 "_law_digit" P_law_digit (sp_law_digit K)) (h_law_span : Has P w K mg base 1 "_law_span" P_law_span (sp_law_span K)) (h_Table_find : HasM P w K mg base 3 "Table" "find" P_Table_find (sp_Table_find K)) (h_law_find : Has P w K mg base 2 "_law_find" P_law_find (sp_law_find K)) (h_law_prefix : Has P w K mg base 4 "_law_prefix" P_law_prefix (sp_law_prefix K)) (h_law_at : Has P w K mg base 1 "_law_at" P_law_at (sp_law_at K)) (h_Table_way_of : HasM P w K mg base 4 "Table" "way_of" P_Table_way_of (sp_Table_way_of K)) {cdv : Value} {A : Around} {outer : List Env} {s : Shared} {H : Hp} {E : XK} (hr : Room 23 (A.deeper (envOfC "_law_agrees" (defScope s_law_agrees) s.heap.objs.size (He.ga K "_law_agrees") cdv))) :
    PSs (cxOf (L2.CX P w) P w K mg base N_law_agrees "_law_agrees" (defScope s_law_agrees) (He.ga K "_law_agrees") cdv A outer s H E) (defBody s_law_agrees) (t_law_agrees K E) := by
  have tk : Takes (cxOf (L2.CX P w) P w K mg base N_law_agrees "_law_agrees" (defScope s_law_agrees) (He.ga K "_law_agrees") cdv A outer s H E) (wB E) := takes_of rfl rfl rfl rfl
  have po : PassesOwn (model P w) (cxOf (L2.CX P w) P w K mg base N_law_agrees "_law_agrees" (defScope s_law_agrees) (He.ga K "_law_agrees") cdv A outer s H E).A (cxOf (L2.CX P w) P w K mg base N_law_agrees "_law_agrees" (defScope s_law_agrees) (He.ga K "_law_agrees") cdv A outer s H E).env (cxOf (L2.CX P w) P w K mg base N_law_agrees "_law_agrees" (defScope s_law_agrees) (He.ga K "_law_agrees") cdv A outer s H E).xe := passes_of rfl
  exact (pss_cons (ps_setLc (i := 3) (own := [("prefix", 4), ("way", 5)]) (g := (gTup K 2 (gCons (gName 4) (gCons (gName 5) gNil)))) (tt := tYes) rfl sc_law_agrees.nd rfl rfl (sw_true rfl rfl rfl (by decide +kernel)) (pi_list (pe_m0 (pv 0) h_Table_entries (hr.mono (by decide)) (fun σ => passAt tk σ))) (blkOk_by (own := [("prefix", 4), ("way", 5)]) (N := N_law_agrees) (sc := defScope s_law_agrees) (by decide +kernel)) (fun _ _ _ _ _ => (pg_tup rfl (pgs_cons (pg_name (i := 4) sc_law_agrees.nd rfl (Or.inl rfl)) (pgs_cons (pg_name (i := 5) sc_law_agrees.nd rfl (Or.inl rfl)) pgs_nil)))) (fun _ _ _ _ _ => pts_nil) (fun _ _ _ _ _ => (pe_tup (pa_cons (pe_m0 (pv 4) h_Prefix_pair (hr.mono (by decide)) (fun σ => passZ σ)) (pa_cons (pv 5) pa_nil)))))
  (pss_cons (ps_if (pt_cmpR (op_neD hr.units) (pv 3) (pe_callB (cr_sortedN (units65 hr)) (by rfl) (T.free 8) (by decide +kernel) (pa_cons (pv 1) pa_nil)) (nomark _))
  (pss_one (ps_ret pe_bl))
  pss_nil)
  (pss_cons (ps_set (i := 6) sc_law_agrees.nd rfl (Or.inl rfl) (pe_lst (pa_cons (pe_h h_law_digit (hr.mono (by decide)) rfl (fun σ => passAt tk σ) (pa_cons (pv 2) (pa_cons pe_int pa_nil))) (pa_cons pe_int (pa_cons pe_int pa_nil)))))
  (pss_cons (ps_for po rfl (pi_list (pe_slice sl_list (pv 1) po_none (po_some pe_int))) (pg_name (i := 7) sc_law_agrees.nd rfl (Or.inl rfl))
  (pss_cons (ps_set (i := 8) sc_law_agrees.nd rfl (Or.inl rfl) (pe_ix ix_tup (pe_ix ix_tup (pv 7) pe_int (fun _ _ => rfl)) pe_int (fun _ _ => rfl)))
  (pss_cons (ps_set (i := 9) sc_law_agrees.nd rfl (Or.inl rfl) (pe_op op_sub (pe_op op_add (pv 8) (pe_h h_law_span (hr.mono (by decide)) rfl (fun σ => passAt tk σ) (pa_cons (pe_ix ix_tup (pe_ix ix_tup (pv 7) pe_int (fun _ _ => rfl)) pe_int (fun _ _ => rfl)) pa_nil))) pe_int))
  (pss_one (ps_set (i := 6) sc_law_agrees.nd rfl (Or.inl rfl) (pe_op op_cat (pv 6) (pe_lst (pa_cons (pv 8) (pa_cons (pv 9) (pa_cons (pe_op op_mod (pe_callTy call_int1 (by rfl) (T.free 7) (by decide +kernel) (pa_cons (pe_op op_add (pv 9) pe_int) pa_nil)) pe_int) (pa_cons (pe_op op_mod (pe_callTy call_int1 (by rfl) (T.free 7) (by decide +kernel) (pa_cons (pe_op op_add (pv 8) pe_int) pa_nil)) pe_int) pa_nil)))))))))))
  (pss_cons (ps_for po rfl (pi_list (pv 6)) (pg_name (i := 10) sc_law_agrees.nd rfl (Or.inl rfl))
  (pss_one (ps_if (pt_cmpR op_ne (pe_m (pv 0) h_Table_find (hr.mono (by decide)) (fun σ => passAt tk σ) (pa_cons (pv 10) pa_nil)) (pe_h h_law_find (hr.mono (by decide)) rfl (fun σ => passAt tk σ) (pa_cons (pv 1) (pa_cons (pv 10) pa_nil))) (nomark _))
  (pss_one (ps_ret pe_bl))
  pss_nil)))
  (pss_cons (ps_set (i := 4) sc_law_agrees.nd rfl (Or.inl rfl) (pe_h h_law_prefix (hr.mono (by decide)) rfl (fun σ => passAt tk σ) (pa_cons (pv 2) pa_nil)))
  (pss_cons (ps_set (i := 11) sc_law_agrees.nd rfl (Or.inl rfl) (pe_h h_law_at (hr.mono (by decide)) rfl (fun σ => passAt tk σ) (pa_cons (pv 1) (pa_cons (pe_m0 (pv 4) h_Prefix_pair (hr.mono (by decide)) (fun σ => passAt tk σ)) pa_nil))))
  (pss_cons (ps_if (pt_cmpR op_isN1 (pv 11) pe_non (nomark _))
  (pss_one (ps_ret (pe_cmpR op_isN1 (pe_m (pv 0) h_Table_way_of (hr.mono (by decide)) (fun σ => passAt tk σ) (pa_cons (pv 4) pa_nil)) pe_non (nomark _))))
  pss_nil)
  (pss_one (ps_ret (pe_cmpR op_eq (pe_m (pv 0) h_Table_way_of (hr.mono (by decide)) (fun σ => passAt tk σ) (pa_cons (pv 4) pa_nil)) (pe_ix ix_tup (pe_ix ix_list (pv 1) (pv 11) (fun _ _ => rfl)) pe_int (fun _ _ => rfl)) (nomark _))))))))))))

theorem d_law_deed (T : TX K mg base) (h_law_prefix : Has P w K mg base 4 "_law_prefix" P_law_prefix (sp_law_prefix K)) (h_law_digit : Has P w K mg base 1 "_law_digit" P_law_digit (sp_law_digit K)) (h_Prefix_init : HasI P w K mg base 2 "Prefix" P_Prefix_init (sp_Prefix_init K)) (h_law_at : Has P w K mg base 1 "_law_at" P_law_at (sp_law_at K)) (h_Prefix_pair : HasM P w K mg base 1 "Prefix" "pair" P_Prefix_pair (sp_Prefix_pair K)) (h_Table_drop : HasM P w K mg base 4 "Table" "drop" P_Table_drop (sp_Table_drop K)) (h_Table_put : HasM P w K mg base 4 "Table" "put" P_Table_put (sp_Table_put K)) {cdv : Value} {A : Around} {outer : List Env} {s : Shared} {H : Hp} {E : XK} (hr : Room 4 (A.deeper (envOfC "_law_deed" (defScope s_law_deed) s.heap.objs.size (He.ga K "_law_deed") cdv))) :
    PSs (cxOf (L2.CX P w) P w K mg base N_law_deed "_law_deed" (defScope s_law_deed) (He.ga K "_law_deed") cdv A outer s H E) (defBody s_law_deed) (t_law_deed K E) := by
  have tk : Takes (cxOf (L2.CX P w) P w K mg base N_law_deed "_law_deed" (defScope s_law_deed) (He.ga K "_law_deed") cdv A outer s H E) (wB E) := takes_of rfl rfl rfl rfl
  exact (pss_cons (ps_set (i := 3) sc_law_deed.nd rfl (Or.inr rfl) (pe_h h_law_prefix (hr.mono (by decide)) rfl (fun σ => passAt tk σ) (pa_cons (pv 2) pa_nil)))
  (pss_cons (ps_if (PW.pt (pw_and (pt_cmpR op_gt (pe_callB call_len (by rfl) (T.free 6) PySem.boot_len (pa_cons (pv 1) pa_nil)) pe_int (nomark _)) (pw_and1 (pt_cmpR op_eq (pe_h h_law_digit (hr.mono (by decide)) rfl (fun σ => passAt tk σ) (pa_cons (pv 2) (pa_cons pe_int pa_nil))) pe_int (nomark _)))))
  (pss_cons (ps_set (i := 4) sc_law_deed.nd rfl (Or.inl rfl) (pe_ix ix_tup (pe_ix ix_list (pv 1) (pe_h h_law_digit (hr.mono (by decide)) rfl (fun σ => passAt tk σ) (pa_cons (pv 2) (pa_cons (pe_callB call_len (by rfl) (T.free 6) PySem.boot_len (pa_cons (pv 1) pa_nil)) pa_nil))) (fun _ _ => rfl)) pe_int (fun _ _ => rfl)))
  (pss_one (ps_set (i := 3) sc_law_deed.nd rfl (Or.inr rfl) (pe_i h_Prefix_init (hr.mono (by decide)) rfl (fun σ => passAt tk σ) (pa_cons (pe_ix ix_tup (pv 4) pe_int (fun _ _ => rfl)) (pa_cons (pe_ix ix_tup (pv 4) pe_int (fun _ _ => rfl)) pa_nil))))))
  pss_nil)
  (pss_cons (ps_set (i := 5) sc_law_deed.nd rfl (Or.inl rfl) (pe_h h_law_at (hr.mono (by decide)) rfl (fun σ => passAt tk σ) (pa_cons (pv 1) (pa_cons (pe_m0 (pv 3) h_Prefix_pair (hr.mono (by decide)) (fun σ => passAt tk σ)) pa_nil))))
  (pss_cons (ps_setLc (i := 6) (own := [("row", 7)]) (g := (gName 7)) (tt := (tTest (tOp (rNeD K) (tOp (rIxT K) (tVar 7) (tC (.int 0))) (tMt (He.ga K "Prefix") "pair" (sp_Prefix_pair K) (fun _ => E0) (tVar 3) tNil)))) rfl sc_law_deed.nd rfl rfl (sw_true rfl rfl rfl (by decide +kernel)) (pi_list (pv 1)) (blkOk_by (own := [("row", 7)]) (N := N_law_deed) (sc := defScope s_law_deed) (by decide +kernel)) (fun _ _ _ _ _ => (pg_name (i := 7) sc_law_deed.nd rfl (Or.inl rfl))) (fun _ _ _ _ _ => (pts_one (pt_cmpR (op_neD hr.units) (pe_ix ix_tup (pv 7) pe_int (fun _ _ => rfl)) (pe_m0 (pv 3) h_Prefix_pair (hr.mono (by decide)) (fun σ => passZ σ)) (nomark _)))) (fun _ _ _ _ _ => (pv 7)))
  (pss_cons (ps_if (pt_cmpR op_eq (pe_h h_law_digit (hr.mono (by decide)) rfl (fun σ => passAt tk σ) (pa_cons (pv 2) (pa_cons pe_int pa_nil))) pe_int (nomark _))
  (pss_cons (ps_if (pt_cmpR op_ne (pe_m (pv 0) h_Table_drop (hr.mono (by decide)) (fun σ => passAt tk σ) (pa_cons (pv 3) pa_nil)) (pe_cmpR op_notN1 (pv 5) pe_non (nomark _)) (nomark _))
  (pss_one (ps_ret pe_non))
  pss_nil)
  (pss_one (ps_ret (pv 6))))
  pss_nil)
  (pss_cons (ps_set (i := 8) sc_law_deed.nd rfl (Or.inl rfl) (pe_h h_law_digit (hr.mono (by decide)) rfl (fun σ => passAt tk σ) (pa_cons (pv 2) (pa_cons pe_int pa_nil))))
  (pss_cons (ps_if (pt_cmpR op_notN1 (pe_m (pv 0) h_Table_put (hr.mono (by decide)) (fun σ => passAt tk σ) (pa_cons (pv 3) (pa_cons (pv 8) pa_nil))) pe_non (nomark _))
  (pss_one (ps_ret pe_non))
  pss_nil)
  (pss_one (ps_ret (pe_op op_cat (pv 6) (pe_lst (pa_cons (pe_tup (pa_cons (pe_m0 (pv 3) h_Prefix_pair (hr.mono (by decide)) (fun σ => passAt tk σ)) (pa_cons (pv 8) pa_nil))) pa_nil))))))))))))

theorem d_law (T : TX K mg base) (h_Table_init : HasI P w K mg base 3 "Table" P_Table_init (sp_Table_init K)) (h_law_start : Has P w K mg base 1 "_law_start" P_law_start (sp_law_start K)) (h_law_cell : Has P w K mg base 1 "_law_cell" P_law_cell (sp_law_cell K)) (h_law_deed : Has P w K mg base 5 "_law_deed" P_law_deed (sp_law_deed K)) (h_law_agrees : Has P w K mg base 24 "_law_agrees" P_law_agrees (sp_law_agrees K)) (h_Table_fork : HasM P w K mg base 22 "Table" "fork" P_Table_fork (sp_Table_fork K)) (h_law_digit : Has P w K mg base 1 "_law_digit" P_law_digit (sp_law_digit K)) {cdv : Value} {A : Around} {outer : List Env} {s : Shared} {H : Hp} {E : XK} (hr : Room 24 (A.deeper (envOfC "law" (defScope s_law) s.heap.objs.size (He.ga K "law") cdv))) :
    PSs (cxOf (L2.CX P w) P w K mg base N_law "law" (defScope s_law) (He.ga K "law") cdv A outer s H E) (defBody s_law) (t_law K E) := by
  have tk : Takes (cxOf (L2.CX P w) P w K mg base N_law "law" (defScope s_law) (He.ga K "law") cdv A outer s H E) (wB E) := takes_of rfl rfl rfl rfl
  have po : PassesOwn (model P w) (cxOf (L2.CX P w) P w K mg base N_law "law" (defScope s_law) (He.ga K "law") cdv A outer s H E).A (cxOf (L2.CX P w) P w K mg base N_law "law" (defScope s_law) (He.ga K "law") cdv A outer s H E).env (cxOf (L2.CX P w) P w K mg base N_law "law" (defScope s_law) (He.ga K "law") cdv A outer s H E).xe := passes_of rfl
  exact (pss_cons (ps_set (i := 1) sc_law.nd rfl (Or.inl rfl) (pe_i0 h_Table_init (hr.mono (by decide)) rfl (fun σ => passAt tk σ)))
  (pss_cons (ps_set (i := 2) sc_law.nd rfl (Or.inl rfl) (pe_lst pa_nil))
  (pss_cons (ps_set (i := 3) sc_law.nd rfl (Or.inl rfl) pe_non)
  (pss_cons (ps_set (i := 4) sc_law.nd rfl (Or.inl rfl) (pe_lst pa_nil))
  (pss_cons (ps_for po rfl (pi_range1 rfl (T.free 5) (pa_cons (pe_callB (call_min2 rfl) (by rfl) (T.free 9) (by decide +kernel) (pa_cons pe_int (pa_cons (pe_op op_add pe_int (pe_callB call_len (by rfl) (T.free 6) PySem.boot_len (pa_cons (pv 0) pa_nil))) pa_nil))) pa_nil)) (pg_name (i := 5) sc_law.nd rfl (Or.inl rfl))
  (pss_cons (ps_set (i := 6) sc_law.nd rfl (Or.inl rfl) (pe_h h_law_start (hr.mono (by decide)) rfl (fun σ => passAt tk σ) (pa_cons (pe_h h_law_cell (hr.mono (by decide)) rfl (fun σ => passAt tk σ) (pa_cons (pv 0) (pa_cons (pv 5) pa_nil))) (pa_cons (pv 5) pa_nil))))
  (pss_cons (ps_set (i := 2) sc_law.nd rfl (Or.inl rfl) (pe_h h_law_deed (hr.mono (by decide)) rfl (fun σ => passAt tk σ) (pa_cons (pv 1) (pa_cons (pv 2) (pa_cons (pv 6) pa_nil)))))
  (pss_cons (ps_if (PW.pt (pw_or (pt_cmpR op_isN1 (pv 2) pe_non (nomark _)) (pw_or1 (pt_not (pt_val (pe_h h_law_agrees (hr.mono (by decide)) rfl (fun σ => passAt tk σ) (pa_cons (pv 1) (pa_cons (pv 2) (pa_cons (pv 6) pa_nil)))))))))
  (pss_one (ps_ret pe_bl))
  pss_nil)
  (pss_cons (ps_if (pt_cmpR op_eq (pe_op op_mod (pv 5) pe_int) pe_int (nomark _))
  (pss_cons (ps_set (i := 3) sc_law.nd rfl (Or.inl rfl) (pe_m0 (pv 1) h_Table_fork (hr.mono (by decide)) (fun σ => passAt tk σ)))
  (pss_one (ps_set (i := 4) sc_law.nd rfl (Or.inl rfl) (pv 2))))
  (pss_one (ps_if (PW.pt (pw_and (pt_cmpR op_notN1 (pv 3) pe_non (nomark _)) (pw_and1 (pt_cmpR op_eq (pe_h h_law_digit (hr.mono (by decide)) rfl (fun σ => passAt tk σ) (pa_cons (pv 6) (pa_cons pe_int pa_nil))) pe_int (nomark _)))))
  (pss_cons (ps_set (i := 4) sc_law.nd rfl (Or.inl rfl) (pe_h h_law_deed (hr.mono (by decide)) rfl (fun σ => passAt tk σ) (pa_cons (pv 3) (pa_cons (pv 4) (pa_cons (pv 6) pa_nil)))))
  (pss_one (ps_if (pt_cmpR op_isN1 (pv 4) pe_non (nomark _))
  (pss_one (ps_ret pe_bl))
  pss_nil)))
  pss_nil)))
  (pss_one (ps_if (PW.pt (pw_and (pt_cmpR op_notN1 (pv 3) pe_non (nomark _)) (pw_and1 (pt_not (pt_val (pe_h h_law_agrees (hr.mono (by decide)) rfl (fun σ => passAt tk σ) (pa_cons (pv 3) (pa_cons (pv 4) (pa_cons (pv 6) pa_nil)))))))))
  (pss_one (ps_ret pe_bl))
  pss_nil)))))))
  (pss_one (ps_ret pe_bl)))))))

end
end K74

namespace K74
open PySem PySem.Spec PyProof.Rows L2 G
local macro_rules | `(tactic| wtm_at "g_get") => `(tactic| first
  | ((with_reducible show kGet _ "base" _ _ _); (with_reducible refine' w_fld ?k1 (cl_Prefix (by assumption)) (na_Prefix_base (by assumption)) lk_Prefix_base ?_); (case k1 => wtm_at "g_hp"))
  | ((with_reducible show kGet _ "length" _ _ _); (with_reducible refine' w_fld ?k1 (cl_Prefix (by assumption)) (na_Prefix_length (by assumption)) lk_Prefix_length ?_); (case k1 => wtm_at "g_hp"))
  | ((with_reducible show kGet _ "way" _ _ _); (with_reducible refine' w_fld ?k1 (cl_Node (by assumption)) (na_Node_way (by assumption)) lk_Node_way ?_); (case k1 => wtm_at "g_hp"))
  | ((with_reducible show kGet _ "below" _ _ _); (with_reducible refine' w_fld ?k1 (cl_Node (by assumption)) (na_Node_below (by assumption)) lk_Node_below ?_); (case k1 => wtm_at "g_hp"))
  | ((with_reducible show kGet _ "root" _ _ _); (with_reducible refine' w_fld ?k1 (cl_Table (by assumption)) (na_Table_root (by assumption)) lk_Table_root ?_); (case k1 => wtm_at "g_hp"))
  | fail)
local macro_rules | `(tactic| wtm_at "g_get2") => `(tactic| first
  | ((with_reducible refine' w_fld ?k1 (cl_Prefix (by assumption)) (na_Prefix_base (by assumption)) lk_Prefix_base ?_); (case k1 => wtm_at "g_hp"))
  | ((with_reducible refine' w_fld ?k1 (cl_Prefix (by assumption)) (na_Prefix_length (by assumption)) lk_Prefix_length ?_); (case k1 => wtm_at "g_hp"))
  | ((with_reducible refine' w_fld ?k1 (cl_Node (by assumption)) (na_Node_way (by assumption)) lk_Node_way ?_); (case k1 => wtm_at "g_hp"))
  | ((with_reducible refine' w_fld ?k1 (cl_Node (by assumption)) (na_Node_below (by assumption)) lk_Node_below ?_); (case k1 => wtm_at "g_hp"))
  | ((with_reducible refine' w_fld ?k1 (cl_Table (by assumption)) (na_Table_root (by assumption)) lk_Table_root ?_); (case k1 => wtm_at "g_hp"))
  | fail)
local macro_rules | `(tactic| wtm_at "g_set") => `(tactic| first
  | ((with_reducible show kFld _ "base" _ _ _ _ _); (with_reducible refine' k_fld ?k1 ?k2 (cl_Prefix (by assumption)) (na_Prefix_base (by assumption)) pt_Prefix_base rfl ?_); (case k1 => wtm_at "g_own"); (case k2 => wtm_at "g_put"); intro HH ww)
  | ((with_reducible show kFld _ "base" _ _ _ _ _); (with_reducible refine' k_fld ?k1 ?k2 (cl_Prefix (by assumption)) (na_Prefix_base (by assumption)) pn_Prefix_base rfl ?_); (case k1 => wtm_at "g_own"); (case k2 => wtm_at "g_put"); intro HH ww)
  | ((with_reducible show kFld _ "length" _ _ _ _ _); (with_reducible refine' k_fld ?k1 ?k2 (cl_Prefix (by assumption)) (na_Prefix_length (by assumption)) pt_Prefix_length rfl ?_); (case k1 => wtm_at "g_own"); (case k2 => wtm_at "g_put"); intro HH ww)
  | ((with_reducible show kFld _ "length" _ _ _ _ _); (with_reducible refine' k_fld ?k1 ?k2 (cl_Prefix (by assumption)) (na_Prefix_length (by assumption)) pn_Prefix_length rfl ?_); (case k1 => wtm_at "g_own"); (case k2 => wtm_at "g_put"); intro HH ww)
  | ((with_reducible show kFld _ "way" _ _ _ _ _); (with_reducible refine' k_fld ?k1 ?k2 (cl_Node (by assumption)) (na_Node_way (by assumption)) pt_Node_way rfl ?_); (case k1 => wtm_at "g_own"); (case k2 => wtm_at "g_put"); intro HH ww)
  | ((with_reducible show kFld _ "way" _ _ _ _ _); (with_reducible refine' k_fld ?k1 ?k2 (cl_Node (by assumption)) (na_Node_way (by assumption)) pn_Node_way rfl ?_); (case k1 => wtm_at "g_own"); (case k2 => wtm_at "g_put"); intro HH ww)
  | ((with_reducible show kFld _ "below" _ _ _ _ _); (with_reducible refine' k_fld ?k1 ?k2 (cl_Node (by assumption)) (na_Node_below (by assumption)) pt_Node_below rfl ?_); (case k1 => wtm_at "g_own"); (case k2 => wtm_at "g_put"); intro HH ww)
  | ((with_reducible show kFld _ "below" _ _ _ _ _); (with_reducible refine' k_fld ?k1 ?k2 (cl_Node (by assumption)) (na_Node_below (by assumption)) pn_Node_below rfl ?_); (case k1 => wtm_at "g_own"); (case k2 => wtm_at "g_put"); intro HH ww)
  | ((with_reducible show kFld _ "root" _ _ _ _ _); (with_reducible refine' k_fld ?k1 ?k2 (cl_Table (by assumption)) (na_Table_root (by assumption)) pt_Table_root rfl ?_); (case k1 => wtm_at "g_own"); (case k2 => wtm_at "g_put"); intro HH ww)
  | ((with_reducible show kFld _ "root" _ _ _ _ _); (with_reducible refine' k_fld ?k1 ?k2 (cl_Table (by assumption)) (na_Table_root (by assumption)) pn_Table_root rfl ?_); (case k1 => wtm_at "g_own"); (case k2 => wtm_at "g_put"); intro HH ww)
  | fail)
local macro_rules | `(tactic| wtm_at "g_set2") => `(tactic| first
  | ((with_reducible show kFA _ _ "base" _ _ _ _); (with_reducible refine' k_fa ?k1 ?k2 pt_Prefix_base rfl ?_); (case k1 => wtm_at "g_own"); (case k2 => wtm_at "g_put"); intro HH ww)
  | ((with_reducible show kFA _ _ "length" _ _ _ _); (with_reducible refine' k_fa ?k1 ?k2 pt_Prefix_length rfl ?_); (case k1 => wtm_at "g_own"); (case k2 => wtm_at "g_put"); intro HH ww)
  | ((with_reducible show kFA _ _ "way" _ _ _ _); (with_reducible refine' k_fa ?k1 ?k2 pt_Node_way rfl ?_); (case k1 => wtm_at "g_own"); (case k2 => wtm_at "g_put"); intro HH ww)
  | ((with_reducible show kFA _ _ "below" _ _ _ _); (with_reducible refine' k_fa ?k1 ?k2 pt_Node_below rfl ?_); (case k1 => wtm_at "g_own"); (case k2 => wtm_at "g_put"); intro HH ww)
  | ((with_reducible show kFA _ _ "root" _ _ _ _); (with_reducible refine' k_fa ?k1 ?k2 pt_Table_root rfl ?_); (case k1 => wtm_at "g_own"); (case k2 => wtm_at "g_put"); intro HH ww)
  | fail)
local macro_rules | `(tactic| wtm_at "g_mt") => `(tactic| first
  | ((with_reducible show kMt _ "pair" _ _ _); (with_reducible refine' w_mt1 ?k1 ln_Prefix_pair ?_); (case k1 => wtm_at "g_hp"))
  | ((with_reducible show kMt _ "is_empty" _ _ _); (with_reducible refine' w_mt1 ?k1 ln_Node_is_empty ?_); (case k1 => wtm_at "g_hp"))
  | ((with_reducible show kMt _ "fork" _ _ _); (with_reducible refine' w_mt1 ?k1 ln_Node_fork ?_); (case k1 => wtm_at "g_hp"))
  | ((with_reducible show kMt _ "path" _ _ _); (with_reducible refine' w_mt1 ?k1 ln_Table_path ?_); (case k1 => wtm_at "g_hp"))
  | ((with_reducible show kMt _ "put" _ _ _); (with_reducible refine' w_mt1 ?k1 ln_Table_put ?_); (case k1 => wtm_at "g_hp"))
  | ((with_reducible show kMt _ "drop" _ _ _); (with_reducible refine' w_mt1 ?k1 ln_Table_drop ?_); (case k1 => wtm_at "g_hp"))
  | ((with_reducible show kMt _ "way_of" _ _ _); (with_reducible refine' w_mt1 ?k1 ln_Table_way_of ?_); (case k1 => wtm_at "g_hp"))
  | ((with_reducible show kMt _ "find" _ _ _); (with_reducible refine' w_mt1 ?k1 ln_Table_find ?_); (case k1 => wtm_at "g_hp"))
  | ((with_reducible show kMt _ "entries" _ _ _); (with_reducible refine' w_mt1 ?k1 ln_Table_entries ?_); (case k1 => wtm_at "g_hp"))
  | ((with_reducible show kMt _ "fork" _ _ _); (with_reducible refine' w_mt1 ?k1 ln_Table_fork ?_); (case k1 => wtm_at "g_hp"))
  | fail)
local macro_rules | `(tactic| wtm_at "g_mkk") => `(tactic| first
  | fail
  | fail)
local macro_rules | `(tactic| wtm_at "g_callpf") => `(tactic| first
  | ((with_reducible refine' c_span_of ?k1 ?k2 ?_); (case k1 => omega); (case k2 => omega))
  | ((with_reducible refine' c_law_span ?k1 ?k2 ?k3 ?_); (case k1 => omega); (case k2 => omega); (case k3 => wtm_at "g_own"); intro HH ww)
  | ((with_reducible refine' w_fldT tell_pf_base ?k1 ?k2 (cl_Prefix (by assumption)) (na_Prefix_base (by assumption)) ?_); (case k1 => wtm_at "g_own"); (case k2 => wtm_at "g_pk"); intro dz fz; (try clear fz dz))
  | ((with_reducible refine' w_fldT tell_pf_length ?k1 ?k2 (cl_Prefix (by assumption)) (na_Prefix_length (by assumption)) ?_); (case k1 => wtm_at "g_own"); (case k2 => wtm_at "g_pk"); intro dz fz; (try clear fz dz))
  | ((with_reducible refine' w_mtT (tell_pf_m ln_Prefix_pair) ?k1 ?k2 ?_); (case k1 => wtm_at "g_own"); (case k2 => wtm_at "g_pk"))
  | ((with_reducible refine' c_pair ?k1 ?k2 ?_); (case k1 => wtm_at "g_own"); (case k2 => wtm_at "g_pk"); intro HH tt ww)
  | ((with_reducible refine' c_pf ?k0 ?k1 ?k2 ?_); (case k0 => with_reducible assumption); (case k1 => wtm_at "g_own"); (case k2 => wtm_at "g_pk"); intro HH ww)
  | fail)
local macro_rules | `(tactic| wtm_at "g_calltb") => `(tactic| first
  | ((with_reducible refine' w_mtT (tell_tb_m ln_Table_find) ?k1 ?k2 ?_); (case k1 => wtm_at "g_own"); (case k2 => wtm_at "g_pk"))
  | ((with_reducible refine' w_mtT (tell_tb_m ln_Table_put) ?k1 ?k2 ?_); (case k1 => wtm_at "g_own"); (case k2 => wtm_at "g_pk"))
  | ((with_reducible refine' w_mtT (tell_tb_m ln_Table_path) ?k1 ?k2 ?_); (case k1 => wtm_at "g_own"); (case k2 => wtm_at "g_pk"))
  | ((with_reducible refine' w_mtT (tell_tb_m ln_Table_entries) ?k1 ?k2 ?_); (case k1 => wtm_at "g_own"); (case k2 => wtm_at "g_pk"))
  | ((with_reducible refine' w_mtT (tell_tb_m ln_Table_fork) ?k1 ?k2 ?_); (case k1 => wtm_at "g_own"); (case k2 => wtm_at "g_pk"))
  | ((with_reducible refine' w_fldT tell_nd_way ?k1 ?k2 (cl_Node (by assumption)) (na_Node_way (by assumption)) ?_); (case k1 => wtm_at "g_own"); (case k2 => wtm_at "g_pk"); intro dz fz; (try clear fz dz))
  | fail)
local macro_rules | `(tactic| wtm_at "g_call") => `(tactic| first
  | wtm_at "g_callpf"
  | wtm_at "g_calltb"
  | ((with_reducible refine' w_mtT (tell_tb_m ln_Table_drop) ?k1 ?k2 ?_); (case k1 => wtm_at "g_own"); (case k2 => wtm_at "g_pk"))
  | ((with_reducible refine' w_mtT (tell_tb_m ln_Table_way_of) ?k1 ?k2 ?_); (case k1 => wtm_at "g_own"); (case k2 => wtm_at "g_pk"))
  | fail)
local macro_rules | `(tactic| wtm_at "g_more") => `(tactic| first
  | ((with_reducible refine' w_ixL ?k1 ix0 ?_); (case k1 => wtm_at "g_sq"))
  | ((with_reducible refine' w_ixL ?k1 ix1 ?_); (case k1 => wtm_at "g_sq"))
  | fail)
local macro_rules | `(tactic| wtm_at "g_own") => `(tactic| first
  | (with_reducible assumption)
  | ((with_reducible refine' Own.newT ?k1 ?k2); (case k1 => with_reducible assumption); (case k2 => wtm_at "g_own"))
  | ((with_reducible refine' Own.new ?k1 ?k2); (case k1 => with_reducible assumption); (case k2 => wtm_at "g_own"))
  | ((with_reducible refine' Own.put ?k1 ?k2); (case k1 => wtm_at "g_own"); (case k2 => wtm_at "g_put"))
  | ((with_reducible refine' Own.sel ?k1 ?k2); (case k1 => with_reducible assumption); (case k2 => wtm_at "g_sel"))
  | fail)
local macro_rules | `(tactic| wtm_at "g_sel") => `(tactic| first
  | (with_reducible exact Sel.rf) | (with_reducible exact Sel.nil)
  | ((first
      | ((with_reducible refine' Sel.cons ?k1 ?_); (case k1 => wtm_at "g_pk"))
      | (with_reducible refine' Sel.drop ?_)
      | fail); wtm_at "g_sel")
  | fail)
local macro_rules | `(tactic| wtm_at "g_got") => `(tactic| first
  | (with_reducible assumption) | (with_reducible exact Got.here)
  | ((with_reducible refine' Got.next ?k1); (case k1 => wtm_at "g_got"))
  | fail)
local macro_rules | `(tactic| wtm_at "g_gl") => `(tactic| first
  | (with_reducible assumption) | (with_reducible exact GotL.here) | (with_reducible exact GotL.hereS)
  | ((with_reducible refine' GotL.next ?k1); (case k1 => wtm_at "g_gl"))
  | fail)
local macro_rules | `(tactic| wtm_at "g_put") => `(tactic| first
  | (with_reducible assumption) | (with_reducible exact Put.here)
  | ((with_reducible refine' Put.next ?k1); (case k1 => wtm_at "g_put"))
  | fail)
local macro_rules | `(tactic| wtm_at "g_pk") => `(tactic| first
  | (with_reducible assumption) | (with_reducible exact Pick.keep) | (with_reducible exact Pick.here)
  | ((with_reducible refine' Pick.next ?k1); (case k1 => wtm_at "g_pk"))
  | fail)
local macro_rules | `(tactic| wtm_at "g_hp") => `(tactic| first
  | (with_reducible assumption) | (with_reducible exact upd_same)
  | ((with_reducible refine' Own.get ?k1 ?k2); (case k1 => wtm_at "g_own"); (case k2 => wtm_at "g_got"))
  | fail)
local macro_rules | `(tactic| wtm_at "g_sq") => `(tactic| first
  | (with_reducible assumption)
  | ((with_reducible refine' Own.sql ?k1 ?k2); (case k1 => wtm_at "g_own"); (case k2 => wtm_at "g_gl"))
  | ((with_reducible refine' SqL.of ?k1); (case k1 => wtm_at "g_hp"))
  | fail)
local macro_rules | `(tactic| wtm_at "g_sqt") => `(tactic| first
  | (with_reducible assumption) | ((with_reducible refine' SqT.of' ?k1); (case k1 => wtm_at "g_hp"))
  | fail)
local macro_rules | `(tactic| wtm_at "g_sz") => `(tactic| first
  | (with_reducible assumption) | (exact small_le rfl)
  | ((with_reducible refine' small16 ?k1); (case k1 => (try simp only [List.length_append, List.length_map, List.length_cons, List.length_nil, List.length_take, List.length_drop, List.length_set, List.length_range]); omega))
  | ((with_reducible refine' small16l ?k1); (case k1 => (try simp only [List.length_append, List.length_map, List.length_cons, List.length_nil, List.length_take, List.length_drop, List.length_set, List.length_range]); omega))
  | fail)
local macro_rules | `(tactic| wtm_at "g_gd") => `(tactic| first
  | (with_reducible assumption) | (with_reducible exact GotD.here) | (with_reducible exact GotD.hereR) | (with_reducible exact GotD.ints)
  | ((with_reducible refine' GotD.next ?k1); (case k1 => wtm_at "g_gd"))
  | fail)
local macro_rules | `(tactic| wtm_at "g_dp") => `(tactic| first
  | (with_reducible assumption)
  | ((with_reducible refine' Own.dpG ?k1 ?k2); (case k1 => wtm_at "g_own"); (case k2 => wtm_at "g_gd"))
  | fail)
local macro_rules | `(tactic| wtm_at "g_ar") => `(tactic| first
  | decide | (exact ⟨by decide, by decide⟩) | (exact Or.inr ⟨by decide, by decide⟩) | (exact Or.inl ⟨by decide, by decide⟩) | omega | (exact Or.inr ⟨by omega, by omega⟩) | (exact Or.inl ⟨by omega, by omega⟩) | (exact ⟨by omega, by omega⟩)
  | fail)
local macro_rules | `(tactic| wtm_at "g_ow") => `(tactic| first
  | wtm_at "g_own"
  | ((simp only [List.map_cons, List.map_nil]); wtm_at "g_own")
  | fail)
local macro_rules | `(tactic| wtm_at "g_callc") => `(tactic| first
  | ((with_reducible refine' o_digit ?k1 ?k2 ?k3 ?k4 ?_); (case k1 => wtm_at "g_own"); (case k2 => wtm_at "g_pk"); (case k3 => omega); (case k4 => omega); intro d HH d0 d1 ww)
  | ((with_reducible refine' o_start ?k1 ?_); (case k1 => wtm_at "g_own"); intro p HH ww)
  | ((with_reducible refine' c_cell ?k1 ?k2 ?_); (case k1 => wtm_at "g_sq"); (case k2 => omega); intro n)
  | ((with_reducible refine' c_isint ?_))
  | fail)
local macro_rules | `(tactic| wtm_at "g_st") => `(tactic| first
  | (with_reducible first | refine Stp.go ?_ | refine w_var rfl ?_ | refine w_small rfl ?_ | refine w_aug rfl ?_)
  | ((with_reducible show kTup _ _ _); first
      | ((with_reducible refine' k_tup rfl ?k1 ?_); (case k1 => wtm_at "g_own"); intro p HH ww)
      | fail)
  | ((with_reducible show kLst _ _ _); first
      | ((with_reducible refine' k_lst1R ?k1 ?_); (case k1 => wtm_at "g_own"); intro p HH ww)
      | ((with_reducible refine' k_lst1I ?k1 ?_); (case k1 => wtm_at "g_own"); intro p HH ww)
      | ((with_reducible refine' k_lst rfl ?k1 ?_); (case k1 => wtm_at "g_own"); intro p HH ww)
      | fail)
  | ((with_reducible show kMk _ _ _ _ _ _ _); first
      | ((with_reducible refine' k_mk ?k1 ?_); (case k1 => wtm_at "g_own"); intro p dx HH ww)
      | fail)
  | ((with_reducible show kMkK _ _ _ _ _ _ _ _ _ _ _); first
      | wtm_at "g_mkk"
      | fail)
  | ((with_reducible show gListOf _ _ _ _); first
      | ((with_reducible refine' k_listL ?k1 ?k2 ?_); (case k1 => wtm_at "g_own"); (case k2 => wtm_at "g_sq"); intro p HH ww)
      | ((with_reducible refine' k_listT ?k1 ?k2 ?_); (case k1 => wtm_at "g_own"); (case k2 => wtm_at "g_sqt"); intro p HH ww)
      | fail)
  | ((with_reducible show gTupOf _ _ _ _); first
      | ((with_reducible refine' k_tupL ?k1 ?k2 ?_); (case k1 => wtm_at "g_own"); (case k2 => wtm_at "g_sq"); intro p HH ww)
      | fail)
  | ((with_reducible show rSlL _ _ _ _ _ _); first
      | ((with_reducible refine' k_slfromRs ?k1 ?k2 ?_); (case k1 => wtm_at "g_own"); (case k2 => wtm_at "g_sq"); intro p HH ww)
      | ((with_reducible refine' k_slfromR1 ?k1 ?k2 ?_); (case k1 => wtm_at "g_own"); (case k2 => wtm_at "g_sq"); intro p HH ww)
      | ((with_reducible refine' k_slfromRn ?k1 ?k2 ?_); (case k1 => wtm_at "g_own"); (case k2 => wtm_at "g_sq"); intro p HH ww)
      | ((with_reducible refine' k_sltoR1 ?k1 ?k2 ?_); (case k1 => wtm_at "g_own"); (case k2 => wtm_at "g_sq"); intro p HH ww)
      | ((with_reducible refine' k_sltoRn ?k1 ?k2 ?_); (case k1 => wtm_at "g_own"); (case k2 => wtm_at "g_sq"); intro p HH ww)
      | ((with_reducible refine' k_slfromIs ?k1 ?k2 ?_); (case k1 => wtm_at "g_own"); (case k2 => wtm_at "g_sq"); intro p HH ww)
      | ((with_reducible refine' k_slfromI1 ?k1 ?k2 ?_); (case k1 => wtm_at "g_own"); (case k2 => wtm_at "g_sq"); intro p HH ww)
      | ((with_reducible refine' k_slfromIn ?k1 ?k2 ?_); (case k1 => wtm_at "g_own"); (case k2 => wtm_at "g_sq"); intro p HH ww)
      | ((with_reducible refine' k_sltoI1 ?k1 ?k2 ?_); (case k1 => wtm_at "g_own"); (case k2 => wtm_at "g_sq"); intro p HH ww)
      | ((with_reducible refine' k_sltoIn ?k1 ?k2 ?_); (case k1 => wtm_at "g_own"); (case k2 => wtm_at "g_sq"); intro p HH ww)
      | ((with_reducible refine' k_slfromI ?k1 ?k2 ?k3 ?_); (case k1 => wtm_at "g_own"); (case k2 => wtm_at "g_sq"); (case k3 => omega); intro p HH ww)
      | ((with_reducible refine' k_sltoI ?k1 ?k2 ?k3 ?_); (case k1 => wtm_at "g_own"); (case k2 => wtm_at "g_sq"); (case k3 => omega); intro p HH ww)
      | ((with_reducible refine' k_slmidI ?k1 ?k2 ?k3 ?k4 ?_); (case k1 => wtm_at "g_own"); (case k2 => wtm_at "g_sq"); (case k3 => omega); (case k4 => omega); intro p HH ww)
      | ((with_reducible refine' k_slfromR ?k1 ?k2 ?k3 ?_); (case k1 => wtm_at "g_own"); (case k2 => wtm_at "g_sq"); (case k3 => omega); intro p HH ww)
      | ((with_reducible refine' k_sltoR ?k1 ?k2 ?k3 ?_); (case k1 => wtm_at "g_own"); (case k2 => wtm_at "g_sq"); (case k3 => omega); intro p HH ww)
      | ((with_reducible refine' k_slfrom ?k1 ?k2 ?k3 ?_); (case k1 => wtm_at "g_own"); (case k2 => wtm_at "g_sq"); (case k3 => omega); intro p HH ww)
      | ((with_reducible refine' k_slto ?k1 ?k2 ?k3 ?_); (case k1 => wtm_at "g_own"); (case k2 => wtm_at "g_sq"); (case k3 => omega); intro p HH ww)
      | ((with_reducible refine' k_slmid ?k1 ?k2 ?k3 ?k4 ?_); (case k1 => wtm_at "g_own"); (case k2 => wtm_at "g_sq"); (case k3 => omega); (case k4 => omega); intro p HH ww)
      | ((with_reducible refine' k_slinitR ?k1 ?k2 ?_); (case k1 => wtm_at "g_own"); (case k2 => wtm_at "g_sq"); intro p HH ww)
      | fail)
  | ((with_reducible show rCat _ _ _ _); first
      | ((with_reducible refine' k_catI ?k1 ?k2 ?k3 ?k4 ?_); (case k1 => wtm_at "g_own"); (case k2 => wtm_at "g_got"); (case k3 => wtm_at "g_got"); (case k4 => wtm_at "g_sz"); intro p HH ww)
      | ((with_reducible refine' k_catR ?k1 ?k2 ?k3 ?k4 ?_); (case k1 => wtm_at "g_own"); (case k2 => wtm_at "g_got"); (case k3 => wtm_at "g_got"); (case k4 => wtm_at "g_sz"); intro p HH ww)
      | ((with_reducible refine' k_cat ?k1 ?k2 ?k3 ?k4 ?_); (case k1 => wtm_at "g_own"); (case k2 => wtm_at "g_got"); (case k3 => wtm_at "g_got"); (case k4 => wtm_at "g_sz"); intro p HH ww)
      | fail)
  | ((with_reducible show rAppend _ _ _ _); first
      | ((with_reducible refine' k_appI ?k1 ?k2 ?k3 ?_); (case k1 => wtm_at "g_own"); (case k2 => wtm_at "g_put"); (case k3 => wtm_at "g_sz"); intro HH ww)
      | ((with_reducible refine' k_appR ?k1 ?k2 ?k3 ?_); (case k1 => wtm_at "g_own"); (case k2 => wtm_at "g_put"); (case k3 => wtm_at "g_sz"); intro HH ww)
      | ((with_reducible refine' k_app ?k1 ?k2 ?k3 ?_); (case k1 => wtm_at "g_own"); (case k2 => wtm_at "g_put"); (case k3 => wtm_at "g_sz"); intro HH ww)
      | fail)
  | ((with_reducible show rExtend _ _ _ _); first
      | ((with_reducible refine' k_extendI ?k1 ?k2 ?k3 ?k4 ?_); (case k1 => wtm_at "g_own"); (case k2 => wtm_at "g_put"); (case k3 => wtm_at "g_got"); (case k4 => wtm_at "g_sz"); intro HH ww)
      | fail)
  | ((with_reducible refine' ty_list ?k1 ?_); (case k1 => wtm_at "g_hp"))
  | ((with_reducible refine' k_truR ?k1 ?_); (case k1 => wtm_at "g_sq"))
  | ((with_reducible refine' k_truI ?k1 ?_); (case k1 => wtm_at "g_sq"))
  | ((with_reducible refine' k_truL ?k1 ?_); (case k1 => wtm_at "g_sq"))
  | ((with_reducible show gLen _ _ _ _); first
      | ((with_reducible refine' w_lenLI ?k1 ?_); (case k1 => wtm_at "g_sq"))
      | ((with_reducible refine' w_lenLR ?k1 ?_); (case k1 => wtm_at "g_sq"))
      | ((with_reducible refine' w_lenL ?k1 ?_); (case k1 => wtm_at "g_sq"))
      | ((with_reducible refine' w_lenT ?k1 ?_); (case k1 => wtm_at "g_sqt"))
      | fail)
  | ((with_reducible show rIxT _ _ _ _ _); first
      | ((with_reducible refine' w_ixT ?k1 ?k2 ?_); (case k1 => wtm_at "g_sqt"); (case k2 => first | rfl | fail))
      | fail)
  | ((with_reducible show rIxL _ _ _ _ _); first
      | ((with_reducible refine' w_ixRc ?k1 ?_); (case k1 => wtm_at "g_sq"))
      | ((with_reducible refine' w_ixR0 ?k1 ?k2 ?_); (case k1 => wtm_at "g_sq"); (case k2 => with_reducible assumption))
      | ((with_reducible refine' w_ixR ?k1 ?k2 ?_); (case k1 => wtm_at "g_sq"); (case k2 => with_reducible assumption))
      | ((with_reducible refine' w_ixLastR ?k1 ?k2 ?_); (case k1 => wtm_at "g_sq"); (case k2 => with_reducible assumption))
      | ((with_reducible refine' w_ixI ?k1 ?k2 ?k3 ?_); (case k1 => wtm_at "g_sq"); (case k2 => omega); (case k3 => omega))
      | fail)
  | ((with_reducible show gTup _ _ _ _ _ _ _); first
      | ((with_reducible refine' w_gTup ?k1 ?k2 ?_); (case k1 => wtm_at "g_sqt"); (case k2 => rfl))
      | fail)
  | (with_reducible refine w_gCons ?_)
  | (with_reducible refine w_gNil ?_)
  | ((with_reducible show rI _ _ _ _ _ _); first
      | ((with_reducible refine' w_I ?k1 ?_); (case k1 => wtm_at "g_ar"))
      | fail)
  | ((with_reducible show rReverse _ _ _ _); first
      | ((with_reducible refine' k_reverse ?k1 ?k2 ?_); (case k1 => wtm_at "g_own"); (case k2 => wtm_at "g_put"); intro HH ww)
      | fail)
  | ((with_reducible show rIsi _ _ _ _); first
      | ((with_reducible refine' w_isi_ll ?k1 ?_); (case k1 => wtm_at "g_hp"))
      | ((with_reducible refine' w_isi_tt ?k1 ?_); (case k1 => wtm_at "g_hp"))
      | ((with_reducible refine' w_isi_lt ?k1 ?_); (case k1 => wtm_at "g_hp"))
      | ((with_reducible refine' w_isi_tl ?k1 ?_); (case k1 => wtm_at "g_hp"))
      | fail)
  | ((with_reducible refine' w_ll ?k1 ?k2 ?_); (case k1 => rfl); (case k2 => rfl))
  | wtm_at "g_get"
  | wtm_at "g_mt"
  | ((with_reducible show kFld _ _ _ _ _ _ _); first
      | wtm_at "g_set"
      | fail)
  | ((with_reducible show kFA _ _ _ _ _ _ _); first
      | wtm_at "g_set2"
      | fail)
  | wtm_at "g_call"
  | wtm_at "g_more"
  | wtm_at "g_callc"
  | wtm_at "g_get2"
  | fail)
local macro_rules | `(tactic| wtm_at "g_go") => `(tactic| repeat wtm_at "g_st")
local macro_rules | `(tactic| wtm_at "g_ifo") => `(tactic| first
  | (refine if_nno rfl ?_) | (refine if_yes rfl ?_)
  | (refine if_no (by omega) ?_)
  | (refine if_yes (by omega) ?_)
  | (refine if_nno (by omega) ?_)
  | (refine if_nyes (by omega) ?_)
  | (refine if_nno (decide_eq_false (by omega)).symm ?_)
  | (refine if_nno (decide_eq_true (by omega)).symm ?_)
  | fail)
local macro_rules | `(tactic| wtm_at "g_goo") => `(tactic| repeat (first | wtm_at "g_st" | wtm_at "g_ifo"))
section
variable {K : PySem.W.Frag} {mg : Str → Option Value} {base : Heap}
theorem pure_law_cell (T : TX K mg base) (vs : List V) (H : Hp) (Q : VK) (E : XK) (h : sp_law_cell K vs H Q E) : t_law_cell K E { nx := fun _ H' => Q .non H', rt := Q } (start N_law_cell vs) H := g_law_cell vs H Q E h
theorem pure_law_digit (T : TX K mg base) (vs : List V) (H : Hp) (Q : VK) (E : XK) (h : sp_law_digit K vs H Q E) : t_law_digit K E { nx := fun _ H' => Q .non H', rt := Q } (start N_law_digit vs) H := g_law_digit vs H Q E h
theorem pure_law_start (T : TX K mg base) (vs : List V) (H : Hp) (Q : VK) (E : XK) (h : sp_law_start K vs H Q E) : t_law_start K E { nx := fun _ H' => Q .non H', rt := Q } (start N_law_start vs) H := g_law_start vs H Q E h
end
section
variable {K : PySem.W.Frag} {mg : Str → Option Value} {base : Heap}
theorem spans_at {l : Int} (h0 : 0 ≤ l) (h1 : l ≤ 16) : atI v_SPANS l = some (V.int (sn l)) := by
  have h : l = 0 ∨ l = 1 ∨ l = 2 ∨ l = 3 ∨ l = 4 ∨ l = 5 ∨ l = 6 ∨ l = 7 ∨ l = 8 ∨ l = 9 ∨ l = 10 ∨ l = 11 ∨ l = 12 ∨ l = 13 ∨ l = 14 ∨ l = 15 ∨ l = 16 := by omega
  rcases h with h | h | h | h | h | h | h | h | h | h | h | h | h | h | h | h | h <;> (subst h; rfl)
theorem pure_span_of (T : TX K mg base) (vs : List V) (H : Hp) (Q : VK) (E : XK) (h : sp_span_of K vs H Q E) : t_span_of K E { nx := fun _ H' => Q .non H', rt := Q } (start N_span_of vs) H := by
  obtain ⟨l, rfl, h0, h1, q⟩ := h
  unfold t_span_of
  wtm_at "g_go"
  exact w_ixT (kx_SPANS T H) (spans_at h0 h1) q
theorem pure_law_span (T : TX K mg base) (vs : List V) (H : Hp) (Q : VK) (E : XK) (h : sp_law_span K vs H Q E) : t_law_span K E { nx := fun _ H' => Q .non H', rt := Q } (start N_law_span vs) H := by
  obtain ⟨l, R, rfl, h0, h1, w, q⟩ := h
  unfold t_law_span
  wtm_at "g_go"
  rename_i t H1 w1
  exact w_ixT (xs := v_SPANS) (SqT.of' w1.get') (spans_at h0 h1) (q _ w1.tail)
theorem pure_Prefix_init (T : TX K mg base) (vs : List V) (H : Hp) (Q : VK) (E : XK) (h : sp_Prefix_init K vs H Q E) : t_Prefix_init K E { nx := fun _ H' => Q .non H', rt := Q } (start N_Prefix_init vs) H := by
  obtain ⟨p, dx, b, l, R, rfl, w, q1, q2⟩ := h
  have q1 := fun n => q1 n H w.tail
  unfold t_Prefix_init
  wtm_at "g_go"
  by_cases h0 : 0 ≤ l
  case neg =>
    wtm_at "g_goo"
    exact q1 fun o => h0 o.1
  by_cases h1 : l ≤ 16
  case neg =>
    wtm_at "g_goo"
    exact q1 fun o => h1 o.2.1
  wtm_at "g_goo"
  by_cases h2 : 0 ≤ b
  case neg =>
    wtm_at "g_goo"
    exact q1 fun o => h2 o.2.2.1
  by_cases h3 : b < 65536
  case neg =>
    wtm_at "g_goo"
    exact q1 fun o => h3 o.2.2.2.1
  wtm_at "g_goo"
  refine w_I sn_pos ?_
  wtm_at "g_go"
  refine if_nd (fun h4 => ?_) (fun h4 => ?_)
  · wtm_at "g_go"
    exact q1 fun o => h4 o.2.2.2.2
  · wtm_at "g_go"
    refine q2 ⟨h0, h1, h2, h3, h4⟩ _ (Own.exi dx (Own.toRo ?_))
    wtm_at "g_own"
theorem pure_Prefix_pair (T : TX K mg base) (vs : List V) (H : Hp) (Q : VK) (E : XK) (h : sp_Prefix_pair K vs H Q E) : t_Prefix_pair K E { nx := fun _ H' => Q .non H', rt := Q } (start N_Prefix_pair vs) H := by
  obtain ⟨p, x, R, rfl, w, q⟩ := h
  unfold t_Prefix_pair
  wtm_at "g_go"
  exact q _ _ (by wtm_at "g_own")
end
section
variable {K : PySem.W.Frag} {mg : Str → Option Value} {base : Heap}
theorem pure_bit_of (T : TX K mg base) (vs : List V) (H : Hp) (Q : VK) (E : XK) (h : sp_bit_of K vs H Q E) : t_bit_of K E { nx := fun _ H' => Q .non H', rt := Q } (start N_bit_of vs) H := by
  obtain ⟨a, i, rfl, hi, h0, q⟩ := h
  unfold t_bit_of
  wtm_at "g_go"
  have sp : 0 < sn ((i : Int) + 1) := sn_pos
  have ss := sn_small (l := (i : Int) + 1) (by omega) (by omega)
  refine w_I (by refine ⟨?_, ?_⟩ <;> omega) ?_
  wtm_at "g_go"
  have e : a / sn ((i : Int) + 1) % 2 = if bitA a i then 1 else 0 := by
    unfold bitA
    have : a / sn ((i : Int) + 1) % 2 = 0 ∨ a / sn ((i : Int) + 1) % 2 = 1 := by omega
    rcases this with h | h <;> simp [h]
  rw [e]
  exact q
theorem pure_Node_init (T : TX K mg base) (vs : List V) (H : Hp) (Q : VK) (E : XK) (h : sp_Node_init K vs H Q E) : t_Node_init K E { nx := fun _ H' => Q .non H', rt := Q } (start N_Node_init vs) H := by
  obtain ⟨p, dx, R, rfl, w, q⟩ := h
  unfold t_Node_init
  wtm_at "g_go"
  rename_i H1 w1 b H2 w2 H3 w3
  have w4 : Own (pt p (.ins (cN K) dx (fNode (wv none) (.ref b))) :: pt b (.lst [.non, .non]) :: R) H3 := by
    show Own (pt p (.ins (cN K) dx (fNode .non (.ref b))) :: _) H3
    wtm_at "g_own"
  exact q _ (nd_in (w4.sel (Sel.cons .here (Sel.cons .here Sel.rf)) |>.perm (.refl _) |> fun z => (nil_in (nil_in z)).sel (Sel.cons (.next (.next .here)) (Sel.cons (.next (.next .here)) Sel.rf))))
theorem wv_non {w : Option Int} : (decide (wv w = .non)) = w.isNone := by cases w <;> rfl
theorem pure_Node_is_empty (T : TX K mg base) (vs : List V) (H : Hp) (Q : VK) (E : XK) (h : sp_Node_is_empty K vs H Q E) : t_Node_is_empty K E { nx := fun _ H' => Q .non H', rt := Q } (start N_Node_is_empty vs) H := by
  obtain ⟨p, w, l, r, R, rfl, o, q⟩ := h
  obtain ⟨a, dx, b, vl, vr, e, g1, g2, g3, g4⟩ := o.ent (.here tell_nd)
  cases e
  unfold t_Node_is_empty
  cases w with
  | some i =>
    unfold wv at g1
    wtm_at "g_go"
    exact q
  | none =>
    unfold wv at g1
    cases l with
    | nd w1 l1 r1 =>
      obtain ⟨a1, _, _, _, _, rfl, _⟩ := g3
      wtm_at "g_go"
      exact q
    | nil =>
      obtain rfl : vl = .non := g3
      cases r with
      | nd w1 l1 r1 =>
        obtain ⟨a1, _, _, _, _, rfl, _⟩ := g4
        wtm_at "g_go"
        exact q
      | nil =>
        obtain rfl : vr = .non := g4
        wtm_at "g_go"
        exact q
end
section
variable {K : PySem.W.Frag} {mg : Str → Option Value} {base : Heap}
theorem ixN0 {n : Nat} : ixN (n + 1) 0 = some 0 := by
  unfold ixN
  rw [if_pos (by omega), if_pos (by omega)]
  rfl
theorem ixN1 {n : Nat} : ixN (n + 2) 1 = some 1 := by
  unfold ixN
  rw [if_pos (by omega), if_pos (by omega)]
  rfl
theorem prune_no {t : Tr} (h : emptyT t = false) : pruneT t = t := if_neg (by rw [h]; exact Bool.false_ne_true)
theorem prune_yes {t : Tr} (h : emptyT t = true) : pruneT t = .nil := if_pos h
theorem pure_prune (T : TX K mg base) (vs : List V) (H : Hp) (Q : VK) (E : XK) (h : sp_prune K vs H Q E) : t_prune K E { nx := fun _ H' => Q .non H', rt := Q } (start N_prune vs) H := by
  obtain ⟨p, bt, w, l, r, R, rfl, o, q⟩ := h
  obtain ⟨a, dx, b, vl, vr, e, o⟩ := nd_out o
  cases e
  unfold t_prune
  cases bt with
  | false =>
    simp only [Bool.false_eq_true, if_false] at q
    simp only [Bool.false_eq_true, if_false]
    cases l with
    | nil =>
      obtain ⟨rfl, o2⟩ := nil_out (o.sel (Sel.cons (.next (.next .here)) Sel.rf))
      wtm_at "g_go"
      exact q _ (nd_in o)
    | nd w1 l1 r1 =>
      obtain ⟨a1, _, _, _, _, rfl, _⟩ := o.tail.tail.ent (.here tell_nd)
      wtm_at "g_go"
      refine w_mtT (tell_nd_m ln_Node_is_empty) (o.pick (.next (.next .here))) .here ?_
      wtm_at "g_go"
      refine ⟨a1, w1, l1, r1, _, rfl, o.pick (.next (.next .here)), ?_⟩
      wtm_at "g_go"
      refine if_b (fun he => ?_) (fun he => ?_)
      · wtm_at "g_go"
        refine k_setL o (.next .here) ixN0 fun H1 o1 => ?_
        rw [prune_yes he] at q
        refine q _ (nd_in (dx := dx) (b := b) (vl := .non) (vr := vr) ?_)
        exact (nil_in (o1.sel (Sel.cons .here (Sel.cons .here (Sel.drop Sel.rf))))).sel (Sel.cons (.next .here) (Sel.cons (.next .here) Sel.rf))
      · wtm_at "g_go"
        rw [prune_no he] at q
        exact q _ (nd_in o)
  | true =>
    simp only [if_true] at q
    simp only [if_true]
    cases r with
    | nil =>
      obtain ⟨rfl, o2⟩ := nil_out (o.sel (Sel.cons (.next (.next (.next .here))) Sel.rf))
      wtm_at "g_go"
      exact q _ (nd_in o)
    | nd w1 l1 r1 =>
      obtain ⟨a1, _, _, _, _, rfl, _⟩ := o.tail.tail.tail.ent (.here tell_nd)
      wtm_at "g_go"
      refine w_mtT (tell_nd_m ln_Node_is_empty) (o.pick (.next (.next (.next .here)))) .here ?_
      wtm_at "g_go"
      refine ⟨a1, w1, l1, r1, _, rfl, o.pick (.next (.next (.next .here))), ?_⟩
      wtm_at "g_go"
      refine if_b (fun he => ?_) (fun he => ?_)
      · wtm_at "g_go"
        refine k_setL o (.next .here) ixN1 fun H1 o1 => ?_
        rw [prune_yes he] at q
        refine q _ (nd_in (dx := dx) (b := b) (vl := vl) (vr := .non) ?_)
        exact (nil_in (o1.sel (Sel.cons .here (Sel.cons .here (Sel.cons .here (Sel.drop Sel.rf)))))).sel (Sel.cons (.next .here) (Sel.cons (.next .here) (Sel.cons (.next .here) Sel.rf)))
      · wtm_at "g_go"
        rw [prune_no he] at q
        exact q _ (nd_in o)
end
section
variable {K : PySem.W.Frag} {mg : Str → Option Value} {base : Heap}
theorem no_Node_fork {vs : List V} {H : Hp} {Q : VK} {E : XK} (h : sp_Node_fork K 0 vs H Q E) : False := by
  obtain ⟨p, t, R, rfl, hd, o, q⟩ := h
  cases t with
  | nil => exact nomatch (nil_out o).1
  | nd w l r => simp only [Tr.dep] at hd; omega
theorem pure_Node_fork (T : TX K mg base) (dd : Nat) (vs : List V) (H : Hp) (Q : VK) (E : XK) (h : sp_Node_fork K (dd + 1) vs H Q E) : t_Node_fork K dd E { nx := fun _ H' => Q .non H', rt := Q } (start N_Node_fork vs) H := by
  obtain ⟨p, t, R, rfl, hd, o, q⟩ := h
  cases t with
  | nil => exact nomatch (nil_out o).1
  | nd w l r =>
    obtain ⟨a, sx, sb, vl, vr, e, g1, g2, g3, g4⟩ := o.ent (.here tell_nd)
    cases e
    unfold t_Node_fork
    wtm_at "g_go"
    rename_i d dx0 H1 o1
    refine ⟨d, dx0, _, rfl, o1, fun H2 o2 => ?_⟩
    obtain ⟨d', dx, lb, x0, x1, e, o3⟩ := nd_out o2
    cases e
    obtain ⟨a, sx', sb', vl', vr', e, g1', g2', _⟩ := (o3.pick (P := NdP K (.nd w l r) (.ref p)) (by wtm_at "g_pk")).ent (.here tell_nd)
    cases e
    clear o2 o1 g1 g2 g3 g4
    unfold wv at o3
    wtm_at "g_go"
    rename_i H3 o4
    clear g1' g2'
    refine loop1O (n := 2) (fun j σ L => ∃ v2 d dx lb x0 x1, σ = [some (.ref p), some (.ref d), v2] ∧ L = pt d (.ins (cN K) dx (fNode (wv w) (.ref lb))) :: pt lb (.lst [x0, x1]) :: NdP K (if 1 ≤ j then l else .nil) x0 :: NdP K (if 2 ≤ j then r else .nil) x1 :: NdP K (.nd w l r) (.ref p) :: R)
      (show Own (pt d (.ins (cN K) dx (fNode (wv w) (.ref lb))) :: pt lb (.lst [x0, x1]) :: NdP K .nil x0 :: NdP K .nil x1 :: NdP K (.nd w l r) (.ref p) :: R) H3 by wtm_at "g_own") rfl (by omega) ⟨_, d, dx, lb, x0, x1, rfl, rfl⟩ ?_ ?_
    · rintro j σ L H4 hj ⟨v2, d, dx, lb, x0, x1, rfl, rfl⟩ o1
      rcases (show j = 0 ∨ j = 1 by omega) with hj0 | hj1
      · obtain rfl : j = 0 := by omega
        have o1 : Own (pt d (.ins (cN K) dx (fNode (wv w) (.ref lb))) :: pt lb (.lst [x0, x1]) :: NdP K .nil x0 :: NdP K .nil x1 :: NdP K (.nd w l r) (.ref p) :: R) H4 := o1
        obtain ⟨a, sx, sb, vl, vr, e, o2⟩ := nd_out (o1.pick (.next (.next (.next (.next .here)))))
        cases e
        cases l with
        | nil =>
          obtain ⟨rfl, _⟩ := nil_out (o2.sel (Sel.cons (.next (.next .here)) Sel.rf))
          wtm_at "g_go"
          exact ⟨_, ⟨_, d, dx, lb, x0, x1, rfl, rfl⟩, o1⟩
        | nd w1 l1 r1 =>
          obtain ⟨a1, _, _, _, _, rfl, _⟩ := (o2.sel (Sel.cons (.next (.next .here)) Sel.rf)).ent (.here tell_nd)
          wtm_at "g_go"
          refine w_mtT (tell_nd_m ln_Node_fork) (o2.pick (.next (.next .here))) .here ?_
          wtm_at "g_go"
          refine ⟨a1, .nd w1 l1 r1, _, rfl, by simp only [Tr.dep] at hd ⊢; omega, o2.pick (.next (.next .here)), fun H2 v o3 => ?_⟩
          wtm_at "g_go"
          have o4 : Own (pt d (.ins (cN K) dx (fNode (wv w) (.ref lb))) :: pt lb (.lst [x0, x1]) :: NdP K .nil x1 :: NdP K (.nd w1 l1 r1) v :: pt p (.ins (cN K) sx (fNode (wv w) (.ref sb))) :: pt sb (.lst [.ref a1, vr]) :: NdP K (.nd w1 l1 r1) (.ref a1) :: NdP K r vr :: R) H2 := by wtm_at "g_own"
          clear o3 o2 o1
          wtm_at "g_go"
          refine k_setL o4 (.next .here) ixN0 fun H3 o5 => ?_
          refine ⟨_, ⟨_, d, dx, lb, v, x1, rfl, rfl⟩, ?_⟩
          have o6 : Own (pt p (.ins (cN K) sx (fNode (wv w) (.ref sb))) :: pt sb (.lst [.ref a1, vr]) :: NdP K (.nd w1 l1 r1) (.ref a1) :: NdP K r vr :: pt d (.ins (cN K) dx (fNode (wv w) (.ref lb))) :: pt lb (.lst [v, x1]) :: NdP K (.nd w1 l1 r1) v :: NdP K .nil x1 :: R) H3 := o5.sel (Sel.cons (.next (.next (.next (.next .here)))) (Sel.cons (.next (.next (.next (.next .here)))) (Sel.cons (.next (.next (.next (.next .here)))) (Sel.cons (.next (.next (.next (.next .here)))) (Sel.cons .here (Sel.cons .here (Sel.cons (.next .here) Sel.rf)))))))
          exact (nd_in o6).sel (Sel.cons (.next .here) (Sel.cons (.next .here) (Sel.cons (.next .here) (Sel.cons (.next .here) Sel.rf))))
      · obtain rfl : j = 1 := by omega
        have o1 : Own (pt d (.ins (cN K) dx (fNode (wv w) (.ref lb))) :: pt lb (.lst [x0, x1]) :: NdP K l x0 :: NdP K .nil x1 :: NdP K (.nd w l r) (.ref p) :: R) H4 := o1
        obtain ⟨a, sx, sb, vl, vr, e, o2⟩ := nd_out (o1.pick (.next (.next (.next (.next .here)))))
        cases e
        cases r with
        | nil =>
          obtain ⟨rfl, _⟩ := nil_out (o2.sel (Sel.cons (.next (.next (.next .here))) Sel.rf))
          wtm_at "g_go"
          exact ⟨_, ⟨_, d, dx, lb, x0, x1, rfl, rfl⟩, o1⟩
        | nd w1 l1 r1 =>
          obtain ⟨a1, _, _, _, _, rfl, _⟩ := (o2.sel (Sel.cons (.next (.next (.next .here))) Sel.rf)).ent (.here tell_nd)
          wtm_at "g_go"
          refine w_mtT (tell_nd_m ln_Node_fork) (o2.pick (.next (.next (.next .here)))) .here ?_
          wtm_at "g_go"
          refine ⟨a1, .nd w1 l1 r1, _, rfl, by simp only [Tr.dep] at hd ⊢; omega, o2.pick (.next (.next (.next .here))), fun H2 v o3 => ?_⟩
          wtm_at "g_go"
          have o4 : Own (pt d (.ins (cN K) dx (fNode (wv w) (.ref lb))) :: pt lb (.lst [x0, x1]) :: NdP K l x0 :: NdP K (.nd w1 l1 r1) v :: pt p (.ins (cN K) sx (fNode (wv w) (.ref sb))) :: pt sb (.lst [vl, .ref a1]) :: NdP K l vl :: NdP K (.nd w1 l1 r1) (.ref a1) :: R) H2 := by wtm_at "g_own"
          clear o3 o2 o1
          wtm_at "g_go"
          refine k_setL o4 (.next .here) ixN1 fun H3 o5 => ?_
          refine ⟨_, ⟨_, d, dx, lb, x0, v, rfl, rfl⟩, ?_⟩
          have o6 : Own (pt p (.ins (cN K) sx (fNode (wv w) (.ref sb))) :: pt sb (.lst [vl, .ref a1]) :: NdP K l vl :: NdP K (.nd w1 l1 r1) (.ref a1) :: pt d (.ins (cN K) dx (fNode (wv w) (.ref lb))) :: pt lb (.lst [x0, v]) :: NdP K l x0 :: NdP K (.nd w1 l1 r1) v :: R) H3 := o5.sel (Sel.cons (.next (.next (.next (.next .here)))) (Sel.cons (.next (.next (.next (.next .here)))) (Sel.cons (.next (.next (.next (.next .here)))) (Sel.cons (.next (.next (.next (.next .here)))) Sel.rf))))
          exact (nd_in o6).sel (Sel.cons (.next .here) (Sel.cons (.next .here) (Sel.cons (.next .here) (Sel.cons (.next .here) Sel.rf))))
    · rintro σ L H4 ⟨v2, d, dx, lb, x0, x1, rfl, rfl⟩ o1
      wtm_at "g_go"
      exact q _ _ (nd_in o1)
end
section
variable {K : PySem.W.Frag} {mg : Str → Option Value} {base : Heap}
theorem no_list_below {vs : List V} {H : Hp} {Q : VK} {E : XK} (h : sp_list_below K 0 vs H Q E) : False := by
  obtain ⟨p, e, t, b, n, as, xs, R, rfl, hd, _, _, o, q⟩ := h
  cases t with
  | nil => exact nomatch (nil_out o).1
  | nd w l r => simp only [Tr.dep] at hd; omega
theorem sn_half {n : Int} (h0 : 0 ≤ n) (h1 : n + 1 ≤ 16) : sn n = 2 * sn (n + 1) := by
  have := sn_lit n h0 (by omega)
  have := sn_lit (n + 1) (by omega) h1
  omega
theorem Fits.kid {b n : Int} {d d' : Nat} (f : Fits b n d) (bt : Bool) (h : d' + 1 ≤ d) : Fits (b + (if bt then 1 else 0) * sn (n + 1)) (n + 1) d' := by
  have h1 := f.n0
  have h2 := f.nd
  have h3 := f.b0
  have sp : 0 < sn (n + 1) := sn_pos
  refine ⟨by omega, by omega, ?_, fun h16 => ?_⟩
  · cases bt
    · simpa using h3
    · simp only [if_true]; omega
  · obtain ⟨m1, m2⟩ := f.m (by omega)
    have e := sn_half h1 h16
    rw [e] at m1 m2
    have m3 : b % sn (n + 1) = 0 := by
      have := Int.emod_emod_of_dvd b (Int.dvd_mul_left 2 (sn (n + 1)))
      rw [m1] at this
      simpa using this.symm
    cases bt
    · simp only [Bool.false_eq_true, if_false, Int.zero_mul, Int.add_zero]
      exact ⟨m3, by omega⟩
    · simp only [if_true, Int.one_mul]
      refine ⟨?_, by omega⟩
      rw [Int.add_emod_right]
      exact m3
theorem Fits.ok {b n : Int} {d : Nat} (f : Fits b n d) (h : 1 ≤ d) : Ok (b, n) := by
  have h1 := f.n0
  have h2 := f.nd
  have h3 := f.b0
  obtain ⟨m1, m2⟩ := f.m (by omega)
  have sp : 0 < sn n := sn_pos
  exact ⟨h1, by show n ≤ 16; omega, h3, by show b < 65536; omega, m1⟩
theorem pure_list_below (T : TX K mg base) (dd : Nat) (vs : List V) (H : Hp) (Q : VK) (E : XK) (h : sp_list_below K (dd + 1) vs H Q E) : t_list_below K dd E { nx := fun _ H' => Q .non H', rt := Q } (start N_list_below vs) H := by
  obtain ⟨p, e, t, b, n, as, xs, R, rfl, hd, hf, hn, o, q⟩ := h
  cases t with
  | nil => exact nomatch (nil_out o).1
  | nd w l r =>
    unfold t_list_below
    obtain ⟨ys, hys, key⟩ : ∃ ys, xs ++ ents (.nd w l r) b n = ys ++ (ents l b (n + 1) ++ ents r (b + sn (n + 1)) (n + 1)) ∧ ∀ H0 as0, Own (NdP K (.nd w l r) (.ref p) :: pt e (.lst (as0.map V.ref)) :: big (EnP K) as0 ys :: R) H0 →
        (tFor (iRng1 (tCons (tC (.int 2)) tNil)) (gName 4)
  (tIfS (tTest (tOp rNotN (tOp (rIxL K) (tFld K (tVar 0) "below") (tVar 4)) (tC .non)))
  (tDrop (tCallS (sp_list_below K dd) (WE (wB E)) (tCons (tOp (rIxL K) (tFld K (tVar 0) "below") (tVar 4)) (tCons (tOp gAdd (tVar 1) (tOp gMul (tVar 4) (tCallS (sp_span_of K) (WE (wB E)) (tCons (tOp gAdd (tVar 2) (tC (.int 1))) tNil)))) (tCons (tOp gAdd (tVar 2) (tC (.int 1))) (tCons (tVar 3) tNil))))))
  tNext)) { nx := fun _ H' => Q .non H', rt := Q } [some (.ref p), some (.int b), some (.int n), some (.ref e), none] H0 := by
      refine ⟨xs ++ rootE w b n, by simp only [ents, List.append_assoc], ?_⟩
      generalize hy : xs ++ rootE w b n = ys
      have hys : xs ++ ents (.nd w l r) b n = ys ++ (ents l b (n + 1) ++ ents r (b + sn (n + 1)) (n + 1)) := by rw [← hy]; simp only [ents, List.append_assoc]
      have hn : (ys ++ (ents l b (n + 1) ++ ents r (b + sn (n + 1)) (n + 1))).length ≤ 100000 := by rw [← hys, List.length_append]; exact hn
      rw [hys] at q
      clear hys hy o
      intro H0 as0 o
      wtm_at "g_go"
      refine loop1O (n := 2) (fun j σ L => ∃ v4 as, σ = [some (.ref p), some (.int b), some (.int n), some (.ref e), v4] ∧ L = NdP K (.nd w l r) (.ref p) :: pt e (.lst (as.map V.ref)) :: big (EnP K) as (ys ++ ((if 1 ≤ j then ents l b (n + 1) else []) ++ (if 2 ≤ j then ents r (b + sn (n + 1)) (n + 1) else []))) :: R)
        (show Own (NdP K (.nd w l r) (.ref p) :: pt e (.lst (as0.map V.ref)) :: big (EnP K) as0 (ys ++ ([] ++ [])) :: R) H0 by rw [List.append_nil, List.append_nil]; exact o) rfl (by omega) ⟨_, as0, rfl, rfl⟩ ?_ ?_
      · rintro j σ L H4 hj ⟨v4, as, rfl, rfl⟩ o1
        rcases (show j = 0 ∨ j = 1 by omega) with hj0 | hj1
        · obtain rfl : j = 0 := by omega
          have o1 : Own (NdP K (.nd w l r) (.ref p) :: pt e (.lst (as.map V.ref)) :: big (EnP K) as (ys ++ []) :: R) H4 := by simpa using o1
          obtain ⟨a, sx, sb, vl, vr, e1, o2⟩ := nd_out o1
          cases e1
          cases l with
          | nil =>
            obtain ⟨rfl, _⟩ := nil_out (o2.sel (Sel.cons (.next (.next .here)) Sel.rf))
            wtm_at "g_go"
            refine ⟨_, ⟨_, as, rfl, rfl⟩, ?_⟩
            simpa [ents] using o1
          | nd w1 l1 r1 =>
            obtain ⟨a1, _, _, _, _, rfl, _⟩ := (o2.sel (Sel.cons (.next (.next .here)) Sel.rf)).ent (.here tell_nd)
            have fk := hf.kid false (by simp only [Tr.dep]; omega : (Tr.nd w1 l1 r1).dep + 1 ≤ _)
            have n15 : n + 1 ≤ 16 := by
              have := hf.nd
              simp only [Tr.dep] at this
              omega
            have n0 := hf.n0
            wtm_at "g_go"
            refine ⟨a1, e, .nd w1 l1 r1, b + 0 * sn (n + 1), n + 1, as, ys ++ [], _, rfl, by simp only [Tr.dep] at hd ⊢; omega, fk, ?_, o2.sel (Sel.cons (.next (.next .here)) (Sel.cons (.next (.next (.next .here))) (Sel.cons (.next (.next (.next .here))) Sel.rf))), fun H5 as' o3 => ?_⟩
            · have e2 : b + 0 * sn (n + 1) = b := by omega
              rw [e2]
              rw [List.length_append] at hn
              simp only [List.append_nil, List.length_append] at hn ⊢
              omega
            wtm_at "g_go"
            refine ⟨_, ⟨_, as', rfl, rfl⟩, ?_⟩
            have e2 : b + 0 * sn (n + 1) = b := by omega
            rw [e2] at o3
            have o4 : Own (pt p (.ins (cN K) sx (fNode (wv w) (.ref sb))) :: pt sb (.lst [.ref a1, vr]) :: NdP K (.nd w1 l1 r1) (.ref a1) :: NdP K r vr :: pt e (.lst (as'.map V.ref)) :: big (EnP K) as' ((ys ++ []) ++ ents (.nd w1 l1 r1) (b) (n + 1)) :: R) H5 := by wtm_at "g_own"
            have o5 := nd_in o4
            simpa using o5
        · obtain rfl : j = 1 := by omega
          have o1 : Own (NdP K (.nd w l r) (.ref p) :: pt e (.lst (as.map V.ref)) :: big (EnP K) as (ys ++ ents l b (n + 1)) :: R) H4 := by simpa using o1
          obtain ⟨a, sx, sb, vl, vr, e1, o2⟩ := nd_out o1
          cases e1
          cases r with
          | nil =>
            obtain ⟨rfl, _⟩ := nil_out (o2.sel (Sel.cons (.next (.next (.next .here))) Sel.rf))
            wtm_at "g_go"
            refine ⟨_, ⟨_, as, rfl, rfl⟩, ?_⟩
            simpa [ents] using o1
          | nd w1 l1 r1 =>
            obtain ⟨a1, _, _, _, _, rfl, _⟩ := (o2.sel (Sel.cons (.next (.next (.next .here))) Sel.rf)).ent (.here tell_nd)
            have fk := hf.kid true (by simp only [Tr.dep]; omega : (Tr.nd w1 l1 r1).dep + 1 ≤ _)
            have n15 : n + 1 ≤ 16 := by
              have := hf.nd
              simp only [Tr.dep] at this
              omega
            have n0 := hf.n0
            wtm_at "g_go"
            refine ⟨a1, e, .nd w1 l1 r1, b + 1 * sn (n + 1), n + 1, as, ys ++ ents l b (n + 1), _, rfl, by simp only [Tr.dep] at hd ⊢; omega, fk, ?_, o2.sel (Sel.cons (.next (.next (.next .here))) (Sel.cons (.next (.next (.next .here))) (Sel.cons (.next (.next (.next .here))) Sel.rf))), fun H5 as' o3 => ?_⟩
            · have e2 : b + 1 * sn (n + 1) = b + sn (n + 1) := by omega
              rw [e2]
              rw [List.length_append] at hn
              simp only [List.length_append] at hn ⊢
              omega
            wtm_at "g_go"
            refine ⟨_, ⟨_, as', rfl, rfl⟩, ?_⟩
            have e2 : b + 1 * sn (n + 1) = b + sn (n + 1) := by omega
            rw [e2] at o3
            have o4 : Own (pt p (.ins (cN K) sx (fNode (wv w) (.ref sb))) :: pt sb (.lst [vl, .ref a1]) :: NdP K l vl :: NdP K (.nd w1 l1 r1) (.ref a1) :: pt e (.lst (as'.map V.ref)) :: big (EnP K) as' ((ys ++ ents l b (n + 1)) ++ ents (.nd w1 l1 r1) (b + sn (n + 1)) (n + 1)) :: R) H5 := by wtm_at "g_own"
            have o5 := nd_in o4
            simpa using o5
      · rintro σ L H4 ⟨v4, as, rfl, rfl⟩ o1
        exact q _ as o1
    cases w with
    | none =>
      obtain ⟨a, sx, sb, vl, vr, e1, g1, g2, _⟩ := o.ent (.here tell_nd)
      cases e1
      unfold wv at g1
      have hy : xs = ys := by
        have h1 : ents (.nd none l r) b n = ents l b (n + 1) ++ ents r (b + sn (n + 1)) (n + 1) := by simp only [ents, rootE, List.nil_append]
        rw [h1] at hys
        exact List.append_cancel_right hys
      subst hy
      wtm_at "g_go"
      exact key _ as o
    | some i =>
      obtain ⟨a, sx, sb, vl, vr, e1, g1, g2, _⟩ := o.ent (.here tell_nd)
      cases e1
      unfold wv at g1
      have hy : xs ++ [((b, n), i)] = ys := by
        have h1 : ents (.nd (some i) l r) b n = [((b, n), i)] ++ (ents l b (n + 1) ++ ents r (b + sn (n + 1)) (n + 1)) := by simp only [ents, rootE]
        rw [h1, ← List.append_assoc] at hys
        exact List.append_cancel_right hys
      have hok : Ok (b, n) := hf.ok (by simp only [Tr.dep]; omega)
      have alen := (o.pick (.next (.next .here))).bigLen
      wtm_at "g_go"
      rename_i pf dxp H1 o1 H2 o2 t H3 o3 H4 o4
      refine key _ (as ++ [t]) ?_
      rw [← hy]
      have o5 : Own (big (EnP K) as xs :: EnP K t ((b, n), i) :: NdP K (.nd (some i) l r) (.ref p) :: pt e (.lst ((as ++ [t]).map V.ref)) :: R) H4 := by
        have o6 : Own (ro t (.tup [.ref pf, .int i]) :: PfP K pf (b, n) :: big (EnP K) as xs :: NdP K (.nd (some i) l r) (.ref p) :: pt e (.lst ((as ++ [t]).map V.ref)) :: R) H4 := by
          change Own (ro t (.tup [.ref pf, .int i]) :: _) H4 at o4
          wtm_at "g_own"
        exact (en_in (x := ((b, n), i)) o6).swap
      have o7 := o5.bigSnoc
      wtm_at "g_own"
end
section
variable {K : PySem.W.Frag} {mg : Str → Option Value} {base : Heap}
theorem pure_Table_init (T : TX K mg base) (vs : List V) (H : Hp) (Q : VK) (E : XK) (h : sp_Table_init K vs H Q E) : t_Table_init K E { nx := fun _ H' => Q .non H', rt := Q } (start N_Table_init vs) H := by
  obtain ⟨p, dx, R, rfl, w, q⟩ := h
  unfold t_Table_init
  wtm_at "g_go"
  rename_i n dn H1 w1
  refine ⟨n, dn, _, rfl, w1, fun H2 w2 => ?_⟩
  wtm_at "g_go"
  rename_i H3 w3
  exact q _ (tb_in (by wtm_at "g_own"))
theorem bitsA_at {a : Int} {n i : Nat} (h : i < n) : (bitsA a n).drop i = bitA a i :: (bitsA a n).drop (i + 1) := by
  unfold bitsA
  rw [List.drop_eq_getElem_cons (by simpa using h)]
  simp
theorem bitsA_take {a : Int} {n i : Nat} (h : i < n) : (bitsA a n).take (i + 1) = (bitsA a n).take i ++ [bitA a i] := by
  unfold bitsA
  rw [List.take_add_one, List.getElem?_eq_getElem (by simpa using h)]
  simp
theorem at_bit {bt : Bool} {x y : V} : atI [x, y] (if bt then 1 else 0) = some (if bt then y else x) := by
  cases bt
  · exact ix0
  · exact ix1
theorem bitsA_len {a : Int} {n : Nat} : (bitsA a n).length = n := by unfold bitsA; rw [List.length_map, List.length_range]
theorem plug_down {fs : List Fr} {w : Option Int} {l r : Tr} (b : Bool) : plug (⟨w, b, Tr.kid r l b⟩ :: fs) (Tr.kid l r b) = plug fs (.nd w l r) := by
  cases b <;> rfl
theorem pure_Table_path (T : TX K mg base) (vs : List V) (H : Hp) (Q : VK) (E : XK) (h : sp_Table_path K vs H Q E) : t_Table_path K E { nx := fun _ H' => Q .non H', rt := Q } (start N_Table_path vs) H := by
  obtain ⟨p, pf, x, w, l, r, R, rfl, ok, o, q⟩ := h
  obtain ⟨dx, v0, o⟩ := tb_out o
  obtain ⟨a0, _, _, _, _, rfl, _⟩ := o.tail.ent (.here tell_nd)
  obtain ⟨k0, k1, k2, k3, _⟩ := ok
  unfold t_Table_path
  wtm_at "g_go"
  rename_i q0 H1 o1
  have o2 : Own (pt q0 (.lst (([] ++ [a0] : List Addr).map V.ref)) :: SpP K (.ref a0) [] [] (.ref a0) :: NdP K (.nd w l r) (.ref a0) :: pt p (.ins (cT K) dx (fTable (.ref a0))) :: PfP K pf x :: R) H1 := by
    refine Own.swap (Own.pui rfl ?_)
    show Own (pt q0 (.lst ([a0].map V.ref)) :: _) H1
    wtm_at "g_own"
  refine loop1O (n := x.2.toNat) (fun i σ L => ∃ fs as a w' l' r' v3 v4, σ = [some (.ref p), some (.ref pf), some (.ref q0), v3, v4] ∧ fs.length = i ∧ as.length = i ∧ (bitsA x.1 x.2.toNat).take i = fs.reverse.map (·.b) ∧ plug fs (.nd w' l' r') = .nd w l r ∧
    L = pt q0 (.lst ((as.reverse ++ [a]).map V.ref)) :: SpP K (.ref a0) fs as (.ref a) :: NdP K (.nd w' l' r') (.ref a) :: pt p (.ins (cT K) dx (fTable (.ref a0))) :: PfP K pf x :: R) o2 (by omega) (by omega) ⟨[], [], a0, w, l, r, _, _, rfl, rfl, rfl, rfl, rfl, rfl⟩ ?_ ?_
  · rintro i σ L H2 hi ⟨fs, as, a, w', l', r', v3, v4, rfl, hf, ha, ht, hp, rfl⟩ o3
    obtain ⟨a', dn, b, vl, vr, e, o4⟩ := nd_out (o3.pick (.next (.next .here)))
    cases e
    have o5 : Own (pt q0 (.lst ((as.reverse ++ [a]).map V.ref)) :: SpP K (.ref a0) fs as (.ref a) :: pt a (.ins (cN K) dn (fNode (wv w') (.ref b))) :: pt b (.lst [vl, vr]) :: NdP K l' vl :: NdP K r' vr :: pt p (.ins (cT K) dx (fTable (.ref a0))) :: PfP K pf x :: R) H2 := by wtm_at "g_own"
    clear o4 o3
    wtm_at "g_go"
    refine w_ixLastR (r := a) (by wtm_at "g_sq") (by rw [List.getLast?_append]; rfl) ?_
    wtm_at "g_go"
    refine ⟨x.1, i, rfl, by omega, k2, ?_⟩
    wtm_at "g_go"
    have hsq : SqL K H2 b [vl, vr] := by wtm_at "g_sq"
    refine w_ixL hsq at_bit ?_
    wtm_at "g_go"
    have o6 : Own (SpP K (.ref a0) fs as (.ref a) :: pt a (.ins (cN K) dn (fNode (wv w') (.ref b))) :: pt b (.lst [vl, vr]) :: NdP K l' vl :: NdP K r' vr :: pt q0 (.lst ((as.reverse ++ [a]).map V.ref)) :: pt p (.ins (cT K) dx (fTable (.ref a0))) :: PfP K pf x :: R) H2 := by wtm_at "g_own"
    cases hk : Tr.kid l' r' (bitA x.1 i) with
    | nil =>
      have hv : (if bitA x.1 i then vr else vl) = .non := by
        have := (sp_down (bitA x.1 i) o6).tail
        rw [hk] at this
        exact (nil_out this).1
      rw [hv]
      refine if_yes rfl ?_
      wtm_at "g_go"
      refine q _ q0 dx (.ref a0) fs as a w' l' r' ((bitsA x.1 x.2.toNat).drop i) ?_ hp ?_ (by omega) ?_
      · rw [← ht, List.take_append_drop]
      · rw [bitsA_at hi]
        rintro b' bs e
        cases e
        exact hk
      · exact (nd_in (o6.sel (Sel.cons (.next .here) (Sel.cons (.next .here) (Sel.cons (.next .here) (Sel.cons (.next .here) Sel.rf)))))).sel (Sel.cons (.next (.next .here)) (Sel.cons (.next .here) Sel.rf))
    | nd w2 l2 r2 =>
      have o7 := sp_down (bitA x.1 i) o6
      rw [hk] at o7
      obtain ⟨a2, _, _, _, _, hv, _⟩ := o7.tail.ent (.here tell_nd)
      rw [hv] at o7 ⊢
      refine if_no (fun e => nomatch e) ?_
      wtm_at "g_go"
      refine k_appR o7 (.next (.next .here)) (small16l (by rw [List.length_append, List.length_reverse, ha]; simp only [List.length_cons, List.length_nil]; omega)) fun H3 o8 => ?_
      wtm_at "g_go"
      refine ⟨_, ⟨⟨w', bitA x.1 i, Tr.kid r' l' (bitA x.1 i)⟩ :: fs, a :: as, a2, w2, l2, r2, _, _, rfl, by rw [List.length_cons, hf], by rw [List.length_cons, ha], ?_, ?_, rfl⟩, ?_⟩
      · rw [bitsA_take hi, ht, List.reverse_cons, List.map_append]
        rfl
      · rw [← hk, plug_down]
        exact hp
      · rw [List.reverse_cons]
        wtm_at "g_own"
  · rintro σ L H2 ⟨fs, as, a, w', l', r', v3, v4, rfl, hf, ha, ht, hp, rfl⟩ o3
    wtm_at "g_go"
    refine q _ q0 dx (.ref a0) fs as a w' l' r' [] ?_ hp (fun b bs e => nomatch e) (by omega) o3
    rw [List.append_nil, ← ht, List.take_of_length_le (by rw [bitsA_len]; exact Nat.le_refl _)]
end
section
variable {K : PySem.W.Frag} {mg : Str → Option Value} {base : Heap}
theorem put_nil {bs : List Bool} {i : Int} : putT bs i .nil = putT bs i (.nd none .nil .nil) := by
  cases bs with
  | nil => rfl
  | cons b bs => cases b <;> rfl
theorem plug_put {i : Int} : ∀ {fs : List Fr} {rest : List Bool} {t : Tr}, plug fs (putT rest i t) = putT (fs.reverse.map (·.b) ++ rest) i (plug fs t)
  | [], _, _ => rfl
  | f :: fs, rest, t => by
    have e : plug1 f (putT rest i t) = putT (f.b :: rest) i (plug1 f t) := by
      obtain ⟨w, b, s⟩ := f
      cases b <;> rfl
    show plug fs (plug1 f (putT rest i t)) = putT _ i (plug fs (plug1 f t))
    rw [e, plug_put, List.reverse_cons, List.map_append, List.append_assoc]
    rfl
theorem put_kid {fs : List Fr} {w : Option Int} {l r : Tr} {b : Bool} {bs : List Bool} {i : Int} (h : Tr.kid l r b = .nil) : plug (⟨w, b, Tr.kid r l b⟩ :: fs) (putT bs i (.nd none .nil .nil)) = plug fs (putT (b :: bs) i (.nd w l r)) := by
  show plug fs (plug1 _ _) = _
  congr 1
  rw [← put_nil]
  cases b
  · obtain rfl : l = .nil := h
    rfl
  · obtain rfl : r = .nil := h
    rfl
theorem pure_Table_put (T : TX K mg base) (vs : List V) (H : Hp) (Q : VK) (E : XK) (h : sp_Table_put K vs H Q E) : t_Table_put K E { nx := fun _ H' => Q .non H', rt := Q } (start N_Table_put vs) H := by
  obtain ⟨p, pf, x, way, w, l, r, R, rfl, ok, o, q⟩ := h
  obtain ⟨k0, k1, k2, k3, _⟩ := id ok
  unfold t_Table_put
  wtm_at "g_go"
  refine ⟨p, pf, x, w, l, r, _, rfl, ok, o, fun H1 q0 dx v0 fs as a w' l' r' rest hb hp hk ha o1 => ?_⟩
  wtm_at "g_go"
  refine w_ixLastR (r := a) (by wtm_at "g_sq") (by rw [List.getLast?_append]; rfl) ?_
  wtm_at "g_go"
  have hl : x.2.toNat = fs.length + rest.length := by
    have := congrArg List.length hb
    rw [bitsA_len, List.length_append, List.length_map, List.length_reverse] at this
    exact this
  have hG : plug fs (putT rest way (.nd w' l' r')) = putT (bitsA x.1 x.2.toNat) way (.nd w l r) := by rw [plug_put, hb, hp]
  have hr : rest = (bitsA x.1 x.2.toNat).drop fs.length := by
    rw [hb, List.drop_left' (by rw [List.length_map, List.length_reverse])]
  have e1 : (((as.reverse ++ [a]).length : Nat) : Int) - 1 = (fs.length : Int) := by
    rw [List.length_append, List.length_reverse, ha]
    simp
  try rw [List.length_map]
  rw [e1]
  generalize hn0 : fs.length = n0 at hl hr e1 ⊢
  clear e1
  refine loop2 (fun i σ H' => ∃ fs as a w' l' r' v5 v6, σ = [some (.ref p), some (.ref pf), some (.int way), some (.ref q0), some (.ref a), v5, v6] ∧ plug fs (putT ((bitsA x.1 x.2.toNat).drop (n0 + i)) way (.nd w' l' r')) = putT (bitsA x.1 x.2.toNat) way (.nd w l r) ∧
    (∀ b bs, (bitsA x.1 x.2.toNat).drop (n0 + i) = b :: bs → Tr.kid l' r' b = .nil) ∧ Own (SpP K v0 fs as (.ref a) :: NdP K (.nd w' l' r') (.ref a) :: pt p (.ins (cT K) dx (fTable v0)) :: PfP K pf x :: R) H') (by omega) ⟨fs, as, a, w', l', r', _, _, rfl, by rw [Nat.add_zero, ← hr]; exact hG, by rw [Nat.add_zero, ← hr]; exact hk, o1.tail⟩ ?_ ?_
  · rintro i σ H2 hi ⟨fs, as, a, w', l', r', v5, v6, rfl, hG, hk, o2⟩
    have e2 : (n0 : Int) + (i : Int) = ((n0 + i : Nat) : Int) := by omega
    rw [e2]
    have hlt : n0 + i < x.2.toNat := by omega
    rw [bitsA_at hlt] at hG hk
    have hk := hk _ _ rfl
    wtm_at "g_go"
    rename_i fr dfr H3 o3
    refine ⟨fr, dfr, _, rfl, o3, fun H4 o4 => ?_⟩
    wtm_at "g_go"
    obtain ⟨a', dn, b, vl, vr, e, o5⟩ := nd_out (o4.pick (P := NdP K (.nd w' l' r') (.ref a)) (by wtm_at "g_pk"))
    cases e
    have o6 : Own (pt a (.ins (cN K) dn (fNode (wv w') (.ref b))) :: pt b (.lst [vl, vr]) :: NdP K l' vl :: NdP K r' vr :: NdP K (.nd none .nil .nil) (.ref fr) :: SpP K v0 fs as (.ref a) :: pt p (.ins (cT K) dx (fTable v0)) :: PfP K pf x :: R) H4 := by wtm_at "g_own"
    clear o5 o4 o3 o2
    wtm_at "g_go"
    refine ⟨x.1, n0 + i, rfl, by omega, k2, ?_⟩
    show rSetL (.ref b) (.int (if bitA x.1 (n0 + i) then 1 else 0)) (.ref fr) H4 _
    generalize hbt : bitA x.1 (n0 + i) = bt at hk hG ⊢
    have fin : ∀ H5, Own (pt a (.ins (cN K) dn (fNode (wv w') (.ref b))) :: pt b (.lst (if bt then [vl, .ref fr] else [.ref fr, vr])) :: NdP K l' vl :: NdP K r' vr :: NdP K (.nd none .nil .nil) (.ref fr) :: SpP K v0 fs as (.ref a) :: pt p (.ins (cT K) dx (fTable v0)) :: PfP K pf x :: R) H5 →
        Own (SpP K v0 (⟨w', bt, Tr.kid r' l' bt⟩ :: fs) (a :: as) (.ref fr) :: NdP K (.nd none .nil .nil) (.ref fr) :: pt p (.ins (cT K) dx (fTable v0)) :: PfP K pf x :: R) H5 := by
      intro H5 o7
      cases bt with
      | false => exact sp_in (o7.sel (Sel.cons .here (Sel.cons .here (Sel.cons (.next .here) (Sel.cons (.next (.next .here)) (Sel.drop Sel.rf))))))
      | true => exact sp_in (o7.sel (Sel.cons .here (Sel.cons .here (Sel.cons .here (Sel.cons (.next (.next .here)) (Sel.drop Sel.rf))))))
    cases bt with
    | false =>
      refine k_setL (z := 0) o6 (.next .here) ixN0 fun H5 o7 => ?_
      wtm_at "g_go"
      exact ⟨⟨w', false, Tr.kid r' l' false⟩ :: fs, a :: as, fr, none, .nil, .nil, _, _, rfl, (put_kid hk).trans hG, fun b bs _ => by cases b <;> rfl, fin _ o7⟩
    | true =>
      refine k_setL (z := 1) o6 (.next .here) ixN1 fun H5 o7 => ?_
      wtm_at "g_go"
      exact ⟨⟨w', true, Tr.kid r' l' true⟩ :: fs, a :: as, fr, none, .nil, .nil, _, _, rfl, (put_kid hk).trans hG, fun b bs _ => by cases b <;> rfl, fin _ o7⟩
  · rintro σ H2 ⟨fs, as, a, w', l', r', v5, v6, rfl, hG, hk, o2⟩
    have e3 : n0 + ((x.2 : Int) - (n0 : Int)).toNat = x.2.toNat := by omega
    rw [e3, List.drop_of_length_le (by rw [bitsA_len]; exact Nat.le_refl _)] at hG
    obtain ⟨a', dn, b, vl, vr, e, o3⟩ := nd_out (o2.pick (.next .here))
    cases e
    clear o2
    wtm_at "g_go"
    rename_i H3 o4
    refine q _ ?_
    rw [← hG]
    have o5 : Own (pt a (.ins (cN K) dn (fNode (wv (some way)) (.ref b))) :: pt b (.lst [vl, vr]) :: NdP K l' vl :: NdP K r' vr :: SpP K v0 fs as (.ref a) :: pt p (.ins (cT K) dx (fTable v0)) :: PfP K pf x :: R) H3 := o4
    have o6 := sp_close fs as _ _ _ (nd_in o5).swap
    exact tb_in o6.swap
theorem pure_Table_find (T : TX K mg base) (vs : List V) (H : Hp) (Q : VK) (E : XK) (h : sp_Table_find K vs H Q E) : t_Table_find K E { nx := fun _ H' => Q .non H', rt := Q } (start N_Table_find vs) H := by
  obtain ⟨p, ad, w, l, r, R, rfl, h0, o, q⟩ := h
  obtain ⟨dx, v0, g1, g2⟩ := o.ent (.here tell_tb)
  obtain ⟨a, dn, b, vl, vr, rfl, g3, g4, g5, g6⟩ := id g2
  unfold t_Table_find
  wtm_at "g_go"
  clear g3 g4 g5 g6
  refine loop1 (n := 16) (fun i σ H' => H' = H ∧ ∃ g w' l' r' a v4, σ = [some (.ref p), some (.int ad), some (wv g), some (.ref a), v4] ∧ NdH K H (.nd w' l' r') (.ref a) ∧ findT g (.nd w' l' r') ((bitsA ad 16).drop i) = findT none (.nd w l r) (bitsA ad 16) ∧ w'.or g = g) rfl (by omega) ⟨rfl, w, w, l, r, a, _, rfl, g2, ?_, by cases w <;> rfl⟩ ?_ ?_
  · rw [List.drop_zero]
    have : (bitsA ad 16) = bitA ad 0 :: (bitsA ad 16).drop 1 := by
      have := bitsA_at (a := ad) (n := 16) (i := 0) (by omega)
      rwa [List.drop_zero] at this
    rw [this]
    simp only [findT]
    cases w <;> rfl
  · rintro i σ H' hi ⟨rfl, g, w', l', r', a, v4, rfl, g2, hf, hw⟩
    obtain ⟨a', dn, b, vl, vr, e, g3, g4, g5, g6⟩ := g2
    cases e
    rw [bitsA_at hi] at hf
    simp only [findT] at hf
    rw [hw] at hf
    have hkid : NdH K H' (Tr.kid l' r' (bitA ad i)) (if bitA ad i then vr else vl) := by
      cases bitA ad i
      · exact g5
      · exact g6
    wtm_at "g_go"
    refine ⟨ad, i, rfl, hi, h0, ?_⟩
    refine w_ixL (.of g4) at_bit ?_
    wtm_at "g_go"
    generalize Tr.kid l' r' (bitA ad i) = kd at hkid hf
    cases kd with
    | nil =>
      have ek : (if bitA ad i then vr else vl) = .non := hkid
      rw [ek]
      refine if_yes rfl ?_
      wtm_at "g_go"
      simp only [findT] at hf
      rw [← hf] at q
      exact q
    | nd w2 l2 r2 =>
      obtain ⟨a2, dn2, b2, vl2, vr2, e, j3, j4, j5, j6⟩ := id hkid
      rw [e] at hkid ⊢
      refine if_no (fun e => nomatch e) ?_
      wtm_at "g_go"
      cases w2 with
      | none =>
        refine if_nno rfl ?_
        wtm_at "g_go"
        exact ⟨rfl, g, none, l2, r2, a2, _, rfl, hkid, hf, rfl⟩
      | some j =>
        refine if_nyes (fun e => nomatch e) ?_
        wtm_at "g_go"
        refine ⟨rfl, some j, some j, l2, r2, a2, _, rfl, hkid, ?_, rfl⟩
        rw [← hf]
        cases (bitsA ad 16).drop (i + 1) <;> rfl
  · rintro σ H' ⟨rfl, g, w', l', r', a, v4, rfl, g2, hf, hw⟩
    wtm_at "g_go"
    rw [List.drop_of_length_le (by rw [bitsA_len]; exact Nat.le_refl _)] at hf
    simp only [findT] at hf
    rw [hw] at hf
    rw [← hf] at q
    exact q
theorem pure_Table_entries (T : TX K mg base) (vs : List V) (H : Hp) (Q : VK) (E : XK) (h : sp_Table_entries K vs H Q E) : t_Table_entries K E { nx := fun _ H' => Q .non H', rt := Q } (start N_Table_entries vs) H := by
  obtain ⟨p, w, l, r, R, rfl, hd, hn, o, q⟩ := h
  obtain ⟨dx, v0, o⟩ := tb_out o
  obtain ⟨a, _, _, _, _, rfl, _⟩ := o.tail.ent (.here tell_nd)
  unfold t_Table_entries
  wtm_at "g_go"
  rename_i e H1 o1
  have o2 : Own (NdP K (.nd w l r) (.ref a) :: pt e (.lst (([] : List Addr).map V.ref)) :: big (EnP K) [] [] :: pt p (.ins (cT K) dx (fTable (.ref a))) :: R) H1 := by
    refine ((Own.bigNil (f := EnP K) ?_)).sel (Sel.cons (.next .here) (Sel.cons (.next .here) Sel.rf))
    show Own (NdP K (.nd w l r) (.ref a) :: pt e (.lst []) :: pt p (.ins (cT K) dx (fTable (.ref a))) :: R) H1
    wtm_at "g_own"
  refine ⟨a, e, .nd w l r, 0, 0, [], [], _, rfl, by omega, ⟨by omega, by omega, by omega, fun _ => ⟨by simp, by decide +kernel⟩⟩, by simpa using hn, o2, fun H2 as o3 => ?_⟩
  wtm_at "g_go"
  refine q _ e as ?_
  rw [List.nil_append] at o3
  have o4 : Own (pt p (.ins (cT K) dx (fTable (.ref a))) :: NdP K (.nd w l r) (.ref a) :: pt e (.lst (as.map V.ref)) :: big (EnP K) as (ents (.nd w l r) 0 0) :: R) H2 := by wtm_at "g_own"
  exact (tb_in o4).sel (Sel.cons (.next .here) (Sel.cons (.next .here) Sel.rf))
theorem pure_Table_fork (T : TX K mg base) (vs : List V) (H : Hp) (Q : VK) (E : XK) (h : sp_Table_fork K vs H Q E) : t_Table_fork K E { nx := fun _ H' => Q .non H', rt := Q } (start N_Table_fork vs) H := by
  obtain ⟨p, w, l, r, R, rfl, hd, o, q⟩ := h
  obtain ⟨dx, v0, o⟩ := tb_out o
  obtain ⟨a, _, _, _, _, rfl, _⟩ := o.tail.ent (.here tell_nd)
  unfold t_Table_fork
  wtm_at "g_go"
  rename_i d dd0 H1 o1
  refine ⟨d, dd0, _, rfl, o1, fun H2 o2 => ?_⟩
  obtain ⟨dd1, v1, o3⟩ := tb_out o2
  clear o2
  wtm_at "g_go"
  refine w_mtT (tell_nd_m ln_Node_fork) (o3.pick (P := NdP K (.nd w l r) (.ref a)) (by wtm_at "g_pk")) .here ?_
  wtm_at "g_go"
  refine ⟨a, .nd w l r, _, rfl, by omega, o3.pick (P := NdP K (.nd w l r) (.ref a)) (by wtm_at "g_pk"), fun H3 v o4 => ?_⟩
  clear o3
  wtm_at "g_go"
  rename_i H4 o5
  refine q _ d (tb_in (dx := dd1) (v := v) ?_)
  have o6 : Own (pt p (.ins (cT K) dx (fTable (.ref a))) :: NdP K (.nd w l r) (.ref a) :: pt d (.ins (cT K) dd1 (fTable v)) :: NdP K (.nd w l r) v :: R) H4 := by wtm_at "g_own"
  exact (tb_in o6).sel (Sel.cons (.next .here) (Sel.cons (.next .here) Sel.rf))
end
section
variable {K : PySem.W.Frag} {mg : Str → Option Value} {base : Heap}
/-! ### ways at paths -/
theorem lk_nil {bs : List Bool} : lkT bs .nil = none := by cases bs <;> rfl
theorem rm_nil {bs : List Bool} : rmT bs .nil = .nil := by cases bs <;> rfl
theorem lk_plug1 {f : Fr} {t t' : Tr} (h : ∀ bs, lkT bs t = lkT bs t') : ∀ bs, lkT bs (plug1 f t) = lkT bs (plug1 f t')
  | [] => rfl
  | b :: bs => by
    obtain ⟨w, c, s⟩ := f
    cases b <;> cases c <;> first | rfl | exact h bs
theorem lk_plug : ∀ {fs : List Fr} {t t' : Tr}, (∀ bs, lkT bs t = lkT bs t') → ∀ bs, lkT bs (plug fs t) = lkT bs (plug fs t')
  | [], _, _, h => h
  | f :: fs, _, _, h => lk_plug (fs := fs) (lk_plug1 h)
theorem lk_at : ∀ {fs : List Fr} {rest : List Bool} {t : Tr}, lkT (fs.reverse.map (·.b) ++ rest) (plug fs t) = lkT rest t
  | [], _, _ => rfl
  | f :: fs, rest, t => by
    rw [List.reverse_cons, List.map_append, List.append_assoc]
    show lkT _ (plug fs (plug1 f t)) = _
    rw [lk_at]
    obtain ⟨w, b, s⟩ := f
    cases b <;> rfl
theorem plug_rm : ∀ {fs : List Fr} {rest : List Bool} {t : Tr}, plug fs (rmT rest t) = rmT (fs.reverse.map (·.b) ++ rest) (plug fs t)
  | [], _, _ => rfl
  | f :: fs, rest, t => by
    have e : plug1 f (rmT rest t) = rmT (f.b :: rest) (plug1 f t) := by
      obtain ⟨w, b, s⟩ := f
      cases b <;> rfl
    show plug fs (plug1 f (rmT rest t)) = rmT _ (plug fs (plug1 f t))
    rw [e, plug_rm, List.reverse_cons, List.map_append, List.append_assoc]
    rfl
theorem rm_no : ∀ {bs : List Bool} {t : Tr}, lkT bs t = none → rmT bs t = t
  | _, .nil, _ => rm_nil
  | [], .nd w l r, h => by
    obtain rfl : w = none := h
    rfl
  | b :: bs, .nd w l r, h => by
    cases b
    · have h' : lkT bs l = none := h
      show Tr.nd w (rmT bs l) r = _
      rw [rm_no h']
    · have h' : lkT bs r = none := h
      show Tr.nd w l (rmT bs r) = _
      rw [rm_no h']
theorem lk_prune {t : Tr} {bs : List Bool} : lkT bs (pruneT t) = lkT bs t := by
  cases h : emptyT t with
  | false => rw [prune_no h]
  | true =>
    rw [prune_yes h]
    match t, h with
    | .nd none .nil .nil, _ =>
      cases bs with
      | nil => rfl
      | cons b bs => cases b <;> exact lk_nil.trans lk_nil.symm
theorem dep_prune {t : Tr} : (pruneT t).dep ≤ t.dep := by
  cases h : emptyT t with
  | false => rw [prune_no h]; exact Nat.le_refl _
  | true => rw [prune_yes h]; exact Nat.zero_le _
theorem dep_plug : ∀ {fs : List Fr} {t t' : Tr}, t.dep ≤ t'.dep → (plug fs t).dep ≤ (plug fs t').dep
  | [], _, _, h => h
  | f :: fs, t, t', h => dep_plug (fs := fs) (by
    obtain ⟨w, b, s⟩ := f
    cases b <;> simp only [plug1, Tr.dep, Bool.false_eq_true, if_false, if_true] <;> omega)
theorem plug_snoc_nd : ∀ (fs : List Fr) {w : Option Int} {l r : Tr}, ∃ w' l' r', plug fs (.nd w l r) = .nd w' l' r'
  | [], w, l, r => ⟨w, l, r, rfl⟩
  | f :: fs, _, _, _ => plug_snoc_nd fs
/-- a node whose kid on a side is looked at -/
def prn (b : Bool) : Tr → Tr
  | .nil => .nil
  | .nd w l r => .nd w (if b then l else pruneT l) (if b then pruneT r else r)
theorem lk_prn {b : Bool} {t : Tr} : ∀ bs, lkT bs (prn b t) = lkT bs t := by
  intro bs
  cases t with
  | nil => rfl
  | nd w l r =>
    cases bs with
    | nil => rfl
    | cons c bs => cases b <;> cases c <;> first | rfl | exact lk_prune
theorem dep_prn {b : Bool} {t : Tr} : (prn b t).dep ≤ t.dep := by
  cases t with
  | nil => exact Nat.le_refl _
  | nd w l r =>
    have h1 := dep_prune (t := l)
    have h2 := dep_prune (t := r)
    cases b <;> simp only [prn, Tr.dep, Bool.false_eq_true, if_false, if_true] <;> omega
/-! ### for x in range(n - 1, -1, -1) -/
theorem loopDown {g : TG} {tb : TS} {D : Ends} {σ : L2.St} {H : Hp} {z : Int} {n : Nat} (Pv : Nat → L2.St → Hp → Prop) (hz : z = (n : Int) - 1) (h1 : n < 10000000) (hb : Pv 0 σ H)
    (hs : ∀ (i : Nat) σ H, i < n → Pv i σ H → g (.int ((n - 1 - i : Nat) : Int)) σ H fun σ2 H2 => tb { D with nx := Pv (i + 1), ct := Pv (i + 1), bk := D.nx } σ2 H2) (hd : ∀ σ H, Pv n σ H → D.nx σ H) : rLoop3 g tb D σ [.int z, .int (-1), .int (-1)] H := by
  subst hz
  have e : ((n : Int) - 1 - (-1)).toNat = n := by omega
  have hr := RgC.neg (i := (n : Int) - 1) (j := -1) (by omega) (by omega) (by omega) (by omega)
  rw [e] at hr
  refine ⟨(n : Int) - 1, -1, -1, n, rfl, hr, for_rangeC (lo := (n : Int) - 1) (c := -1) (n := n) Pv hb (fun i σ H hi p => ?_) hd⟩
  have e2 : (n : Int) - 1 + (i : Nat) * (-1 : Int) = ((n - 1 - i : Nat) : Int) := by omega
  rw [e2]
  exact hs i σ H hi p
theorem pure_Table_way_of (T : TX K mg base) (vs : List V) (H : Hp) (Q : VK) (E : XK) (h : sp_Table_way_of K vs H Q E) : t_Table_way_of K E { nx := fun _ H' => Q .non H', rt := Q } (start N_Table_way_of vs) H := by
  obtain ⟨p, pf, x, w, l, r, R, rfl, ok, o, q⟩ := h
  obtain ⟨k0, k1, k2, k3, _⟩ := id ok
  unfold t_Table_way_of
  wtm_at "g_go"
  refine ⟨p, pf, x, w, l, r, _, rfl, ok, o, fun H1 q0 dx v0 fs as a w' l' r' rest hb hp hk ha o1 => ?_⟩
  have hl : x.2.toNat = fs.length + rest.length := by
    have := congrArg List.length hb
    rw [bitsA_len, List.length_append, List.length_map, List.length_reverse] at this
    exact this
  have hG : lkT (bitsX x) (.nd w l r) = lkT rest (.nd w' l' r') := by
    show lkT (bitsA x.1 x.2.toNat) _ = _
    rw [hb, ← hp, lk_at]
  rw [hG] at q
  wtm_at "g_go"
  refine if_d (fun hc => ?_) (fun hc => ?_)
  · rw [List.length_append, List.length_reverse, ha] at hc
    simp only [List.length_cons, List.length_nil] at hc
    cases rest with
    | nil => simp only [List.length_nil] at hl; omega
    | cons b bs =>
      have e : lkT (b :: bs) (.nd w' l' r') = none := by
        show lkT bs (Tr.kid l' r' b) = none
        rw [hk b bs rfl]
        exact lk_nil
      rw [e] at q
      wtm_at "g_go"
      have o2 := sp_close fs as _ _ _ o1.tail
      rw [hp] at o2
      exact q _ (tb_in o2.swap)
  · rw [List.length_append, List.length_reverse, ha] at hc
    simp only [List.length_cons, List.length_nil] at hc
    have : rest = [] := List.eq_nil_of_length_eq_zero (by omega)
    subst this
    wtm_at "g_go"
    refine w_ixLastR (r := a) (by wtm_at "g_sq") (by rw [List.getLast?_append]; rfl) ?_
    obtain ⟨a', dn, b, vl, vr, e, o3⟩ := nd_out (o1.pick (P := NdP K (.nd w' l' r') (.ref a)) (by wtm_at "g_pk"))
    cases e
    wtm_at "g_go"
    have o2 := sp_close fs as _ _ _ o1.tail
    rw [hp] at o2
    exact q _ (tb_in o2.swap)
theorem bitsA_get {a : Int} {n i : Nat} (h : i < n) : (bitsA a n)[i]? = some (bitA a i) := by
  unfold bitsA
  rw [List.getElem?_map, List.getElem?_range h]
  rfl
theorem frame_bit {fs : List Fr} {a : Int} {n k : Nat} {f : Fr} (hb : bitsA a n = fs.reverse.map (·.b)) (hk : fs[k]? = some f) : bitA a (n - 1 - k) = f.b := by
  have hl := congrArg List.length hb
  rw [bitsA_len, List.length_map, List.length_reverse] at hl
  have hk' := (List.getElem?_eq_some_iff.mp hk).1
  have h1 := bitsA_get (a := a) (n := n) (i := n - 1 - k) (by omega)
  rw [hb, List.getElem?_map, List.getElem?_reverse (by omega)] at h1
  have e : fs.length - 1 - (n - 1 - k) = k := by omega
  rw [e, hk] at h1
  simpa using h1.symm
theorem pure_Table_drop (T : TX K mg base) (vs : List V) (H : Hp) (Q : VK) (E : XK) (h : sp_Table_drop K vs H Q E) : t_Table_drop K E { nx := fun _ H' => Q .non H', rt := Q } (start N_Table_drop vs) H := by
  obtain ⟨p, pf, x, w, l, r, R, rfl, ok, o, q⟩ := h
  obtain ⟨k0, k1, k2, k3, _⟩ := id ok
  unfold t_Table_drop
  wtm_at "g_go"
  refine ⟨p, pf, x, w, l, r, _, rfl, ok, o, fun H1 q0 dx v0 fs as a w' l' r' rest hb hp hk ha o1 => ?_⟩
  have hl : x.2.toNat = fs.length + rest.length := by
    have := congrArg List.length hb
    rw [bitsA_len, List.length_append, List.length_map, List.length_reverse] at this
    exact this
  have hG : lkT (bitsX x) (.nd w l r) = lkT rest (.nd w' l' r') := by
    show lkT (bitsA x.1 x.2.toNat) _ = _
    rw [hb, ← hp, lk_at]
  have no : lkT (bitsX x) (.nd w l r) = none → Q (.bl false) H1 := fun hn => by
    have o2 := sp_close fs as _ _ _ o1.tail
    rw [hp] at o2
    have := q H1 w l r (Nat.le_refl _) (fun bs => by rw [rm_no hn]) (tb_in o2.swap)
    rw [hn] at this
    exact this
  wtm_at "g_go"
  refine if_d (fun hc => ?_) (fun hc => ?_)
  · rw [List.length_append, List.length_reverse, ha] at hc
    simp only [List.length_cons, List.length_nil] at hc
    cases rest with
    | nil => simp only [List.length_nil] at hl; omega
    | cons b bs =>
      have e : lkT (b :: bs) (.nd w' l' r') = none := by
        show lkT bs (Tr.kid l' r' b) = none
        rw [hk b bs rfl]
        exact lk_nil
      wtm_at "g_go"
      exact no (hG.trans e)
  rw [List.length_append, List.length_reverse, ha] at hc
  simp only [List.length_cons, List.length_nil] at hc
  have : rest = [] := List.eq_nil_of_length_eq_zero (by omega)
  subst this
  rw [List.append_nil] at hb
  wtm_at "g_go"
  refine w_ixLastR (r := a) (by wtm_at "g_sq") (by rw [List.getLast?_append]; rfl) ?_
  obtain ⟨a', dn, b, vl, vr, e, o3⟩ := nd_out (o1.pick (P := NdP K (.nd w' l' r') (.ref a)) (by wtm_at "g_pk"))
  cases e
  wtm_at "g_go"
  cases w' with
  | none =>
    refine if_yes rfl ?_
    wtm_at "g_go"
    exact no hG
  | some i =>
  refine if_no (fun e => nomatch e) ?_
  wtm_at "g_go"
  refine w_ixLastR (r := a) (by wtm_at "g_sq") (by rw [List.getLast?_append]; rfl) ?_
  wtm_at "g_go"
  rename_i H2 o4
  have o5 : Own (pt a (.ins (cN K) dn (fNode (wv none) (.ref b))) :: pt b (.lst [vl, vr]) :: NdP K l' vl :: NdP K r' vr :: pt q0 (.lst ((as.reverse ++ [a]).map V.ref)) :: SpP K v0 fs as (.ref a) :: pt p (.ins (cT K) dx (fTable v0)) :: PfP K pf x :: R) H2 := o4
  have o6 : Own (SpP K v0 fs as (.ref a) :: NdP K (.nd none l' r') (.ref a) :: pt q0 (.lst ((as.reverse ++ [a]).map V.ref)) :: pt p (.ins (cT K) dx (fTable v0)) :: PfP K pf x :: R) H2 := (nd_in o5).sel (Sel.cons (.next (.next .here)) (Sel.cons .here Sel.rf))
  clear o5 o4 o3 o1 no
  have hp2 : plug fs (.nd none l' r') = rmT (bitsX x) (.nd w l r) := by
    have := plug_rm (fs := fs) (rest := []) (t := .nd (some i) l' r')
    rw [List.append_nil, ← hb, hp] at this
    exact this
  have hd2 : (plug fs (.nd none l' r')).dep ≤ (Tr.nd w l r).dep := by
    rw [← hp]
    exact dep_plug (by simp only [Tr.dep]; omega)
  rw [hG] at q
  refine loopDown (n := x.2.toNat) (fun k σ H' => ∃ c w1 l1 r1 v3, σ = [some (.ref p), some (.ref pf), some (.ref q0), v3] ∧ (∀ bs, lkT bs (plug (fs.drop k) (.nd w1 l1 r1)) = lkT bs (rmT (bitsX x) (.nd w l r))) ∧ (plug (fs.drop k) (.nd w1 l1 r1)).dep ≤ (Tr.nd w l r).dep ∧
    Own (SpP K v0 (fs.drop k) (as.drop k) (.ref c) :: NdP K (.nd w1 l1 r1) (.ref c) :: pt q0 (.lst ((as.reverse ++ [a]).map V.ref)) :: pt p (.ins (cT K) dx (fTable v0)) :: PfP K pf x :: R) H') (by omega) (by omega) ⟨a, none, l', r', _, rfl, fun bs => by rw [List.drop_zero, hp2], hd2, o6⟩ ?_ ?_
  · rintro k σ H3 hk2 ⟨c, w1, l1, r1, v3, rfl, hlk, hdp, o7⟩
    obtain ⟨f, hf⟩ : ∃ f, fs[k]? = some f := ⟨_, List.getElem?_eq_getElem (by simp only [List.length_nil] at hl; omega)⟩
    obtain ⟨a1, ha1⟩ : ∃ a1, as[k]? = some a1 := ⟨_, List.getElem?_eq_getElem (by simp only [List.length_nil] at hl; omega)⟩
    have ef : fs.drop k = f :: fs.drop (k + 1) := by
      obtain ⟨h1, h2⟩ := List.getElem?_eq_some_iff.mp hf
      rw [List.drop_eq_getElem_cons h1, h2]
    have ea : as.drop k = a1 :: as.drop (k + 1) := by
      obtain ⟨h1, h2⟩ := List.getElem?_eq_some_iff.mp ha1
      rw [List.drop_eq_getElem_cons h1, h2]
    rw [ef] at hlk hdp
    rw [ef, ea] at o7
    have o8 := sp_up o7
    have hat : ((as.reverse ++ [a]).map V.ref)[x.2.toNat - 1 - k]? = some (.ref a1) := by
      simp only [List.length_nil] at hl
      rw [List.getElem?_map, List.getElem?_append_left (by rw [List.length_reverse]; omega), List.getElem?_reverse (by omega)]
      have e : as.length - 1 - (x.2.toNat - 1 - k) = k := by omega
      rw [e, ha1]
      rfl
    have hbit := frame_bit hb hf
    have hlk' : ∀ bs, lkT bs (plug (fs.drop (k + 1)) (plug1 f (.nd w1 l1 r1))) = lkT bs (rmT (bitsX x) (.nd w l r)) := hlk
    have hdp' : (plug (fs.drop (k + 1)) (plug1 f (.nd w1 l1 r1))).dep ≤ (Tr.nd w l r).dep := hdp
    obtain ⟨w2, l2, r2, e2⟩ : ∃ w2 l2 r2, plug1 f (.nd w1 l1 r1) = .nd w2 l2 r2 := ⟨_, _, _, rfl⟩
    rw [e2] at o8 hlk' hdp'
    wtm_at "g_go"
    refine w_ixL (by wtm_at "g_sq") (atI_nat hat) ?_
    wtm_at "g_go"
    refine ⟨x.1, x.2.toNat - 1 - k, rfl, by omega, k2, ?_⟩
    rw [hbit]
    refine ⟨a1, f.b, w2, l2, r2, _, rfl, o8.swap, fun H4 o9 => ?_⟩
    wtm_at "g_go"
    refine ⟨a1, w2, if f.b then l2 else pruneT l2, if f.b then pruneT r2 else r2, _, rfl, fun bs => ?_, ?_, o9.swap⟩
    · rw [← hlk' bs]
      exact lk_plug (fun bs => lk_prn (b := f.b) (t := .nd w2 l2 r2) bs) bs
    · exact Nat.le_trans (dep_plug (dep_prn (b := f.b) (t := .nd w2 l2 r2))) hdp'
  · rintro σ H3 ⟨c, w1, l1, r1, v3, rfl, hlk, hdp, o7⟩
    simp only [List.length_nil] at hl
    rw [List.drop_of_length_le (by omega)] at hlk hdp
    rw [List.drop_of_length_le (by omega), List.drop_of_length_le (by omega)] at o7
    wtm_at "g_go"
    have o8 := sp_close [] [] _ _ _ o7
    refine q H3 w1 l1 r1 hdp hlk (tb_in (dx := dx) (v := v0) ?_)
    exact o8.sel (Sel.cons (.next (.next .here)) (Sel.cons .here (Sel.drop Sel.rf)))
end
section
variable {K : PySem.W.Frag} {mg : Str → Option Value} {base : Heap}
theorem rw_in {t k : Addr} {x : Px × Int} {L : List HP} {H : Hp} (h : Own (ro t (.tup [.ref k, .int x.2]) :: ro k (.tup [.int x.1.1, .int x.1.2]) :: L) H) : Own (RwP t x :: L) H := Own.exi k (Own.fold (L := [_, _]) h)
theorem tell_rw {t : Addr} {x : Px × Int} : Tell (RwP t x) (fun H => ∃ k, H t = some (.tup [.ref k, .int x.2]) ∧ H k = some (.tup [.int x.1.1, .int x.1.2])) := fun h ⟨k, h1, h2, _, s1, s2, p, h3, h4, _, s3, _, q, _⟩ H e => ⟨k, e _ _ _ (s1 _ _ p), e _ _ _ (s2 _ _ (s3 _ _ q))⟩
theorem rws_out {l : Addr} {xs : List (Px × Int)} {L : List HP} {H : Hp} (h : Own (RwsP l xs :: L) H) : ∃ ts : List Addr, Own (ro l (.lst (ts.map V.ref)) :: big RwP ts xs :: L) H := by
  obtain ⟨ts, h⟩ := h.ex
  exact ⟨ts, Own.flat (L := [_, _]) h⟩
theorem rws_in {l : Addr} {ts : List Addr} {xs : List (Px × Int)} {L : List HP} {H : Hp} (h : Own (ro l (.lst (ts.map V.ref)) :: big RwP ts xs :: L) H) : Own (RwsP l xs :: L) H := Own.exi ts (Own.fold (L := [_, _]) h)
theorem pure_law_prefix (T : TX K mg base) (vs : List V) (H : Hp) (Q : VK) (E : XK) (h : sp_law_prefix K vs H Q E) : t_law_prefix K E { nx := fun _ H' => Q .non H', rt := Q } (start N_law_prefix vs) H := by
  obtain ⟨s, R, rfl, o, q⟩ := h
  unfold t_law_prefix
  wtm_at "g_go"
  rename_i n H1 n0 n1 o1 c H2 c0 c1 o2
  have key : ∀ n : Int, 0 ≤ n → n < 17 → ∀ H2, Own (Drw s :: R) H2 → (tSeq (tAsg (tOp (rIxT K) (tTup (tCons (tC (.int 0)) (tCons (tC (.int 65535)) (tCons (tC (.int 43690)) (tCons (tC (.int 21845)) (tCons (tC (.int 49152)) tNil)))))) (tCallS (sp_law_digit K) (WE (wB E)) (tCons (tVar 0) (tCons (tC (.int 5)) tNil)))) (gName 2))
  (tSeq (tAsg (tOp gMod (tCB gInt1 (tCons (tOp gAdd (tVar 2) (tOp gMul (tCallS (sp_law_digit K) (WE (wB E)) (tCons (tVar 0) (tCons (tC (.int 2)) tNil))) (tCallS (sp_law_digit K) (WE (wB E)) (tCons (tVar 0) (tCons (tC (.int 64)) tNil))))) tNil)) (tC (.int 65536))) (gName 3))
  (tRet (tMk (He.ga K "Prefix") (sp_Prefix_init K) (WE (wB E)) (tCons (tOp gMinus (tVar 3) (tOp gMod (tVar 3) (tCallS (sp_law_span K) (WE (wB E)) (tCons (tVar 1) tNil)))) (tCons (tVar 1) tNil)))))) { nx := fun _ H' => Q .non H', rt := Q } [some (.ref s), some (.int n), none, none] H2 := by
    intro n n0 n1 H2 o2
    wtm_at "g_go"
    rename_i t H3 o3 d H4 d0 d1 o4
    obtain ⟨m, hm⟩ : ∃ m : Int, atI [V.int 0, V.int 65535, V.int 43690, V.int 21845, V.int 49152] d = some (.int m) := by
      have : d = 0 ∨ d = 1 ∨ d = 2 ∨ d = 3 ∨ d = 4 := by omega
      rcases this with rfl | rfl | rfl | rfl | rfl
      · exact ⟨_, atI_nat (j := 0) rfl⟩
      · exact ⟨_, atI_nat (j := 1) rfl⟩
      · exact ⟨_, atI_nat (j := 2) rfl⟩
      · exact ⟨_, atI_nat (j := 3) rfl⟩
      · exact ⟨_, atI_nat (j := 4) rfl⟩
    refine w_ixT (by wtm_at "g_sqt") hm ?_
    wtm_at "g_go"
    rename_i e H5 e0 e1 o5 f H6 f0 f1 o6 H6' o6'
    generalize e * f = ef
    refine w_I sn_pos ?_
    wtm_at "g_go"
    rename_i p dxp H7 o7
    have hok : Ok ((m + ef) % 65536 - (m + ef) % 65536 % sn n, n) := of_ok n0 (by omega) (Int.emod_nonneg _ (by decide)) (Int.emod_lt_of_pos _ (by decide))
    refine c_pf hok o7 .here fun H8 o8 => ?_
    wtm_at "g_go"
    exact q _ p _ hok (by wtm_at "g_own")
  refine if_d (fun hc => ?_) (fun hc => ?_)
  · iterate 6 wtm_at "g_st"
    exact key (n % 5) (by omega) (by omega) _ o2
  · exact key n n0 n1 _ o2
theorem eqv_ky {a b c d : Int} : PyData.eqv (.tuple [.int a, .int b]) (.tuple [.int c, .int d]) = decide ((a, b) = (c, d)) := by
  simp only [PyData.eqv, PyData.eqvAll, Prod.mk.injEq]
  by_cases h1 : a = c <;> by_cases h2 : b = d <;> simp [h1, h2]
theorem shaped_ky {a b : Int} : SeqAt.shaped (.tuple [.int a, .int b]) = true := shaped_of (by simp [PyData.canLay0, PyData.canLayAll0]) (by simp [PyData.depth, PyData.depthAll])
theorem dp_ky {K : PySem.W.Frag} {H : Hp} {t : Addr} {a b : Int} (h : SqT K H t [.int a, .int b]) : Dp K H (.ref t) (.tuple [.int a, .int b]) := .tup h (.cons (.int _) (.cons (.int _) .nil))
theorem pure_law_at (T : TX K mg base) (vs : List V) (H : Hp) (Q : VK) (E : XK) (h : sp_law_at K vs H Q E) : t_law_at K E { nx := fun _ H' => Q .non H', rt := Q } (start N_law_at vs) H := by
  obtain ⟨l, kt, xs, k, R, rfl, h1000, o, q⟩ := h
  obtain ⟨ts, o⟩ := rws_out o
  have tlen := o.tail.bigLen
  unfold t_law_at
  wtm_at "g_go"
  refine loop1O (n := xs.length) (fun i σ L => ∃ v2, σ = [some (.ref l), some (.ref kt), v2] ∧ (∀ x ∈ xs.take i, x.1 ≠ k) ∧ L = ro l (.lst (ts.map V.ref)) :: big RwP ts xs :: KyP kt k :: R) o (by omega) (by omega) ⟨_, rfl, by simp, rfl⟩ ?_ ?_
  · rintro i σ L H1 hi ⟨v2, rfl, hn, rfl⟩ o1
    obtain ⟨t, ht⟩ : ∃ t, ts[i]? = some t := ⟨_, List.getElem?_eq_getElem (by omega)⟩
    obtain ⟨y, hy⟩ := aol ht tlen
    obtain ⟨kk, g1, g2⟩ := o1.tail.bigTell ht hy tell_rw
    have g3 := o1.tail.tail.get'
    wtm_at "g_go"
    refine w_eqD (dp_ky (SqT.of' g2)) (dp_ky (SqT.of' g3)) shaped_ky shaped_ky ?_
    rw [eqv_ky]
    by_cases e : y.1 = k
    · have : decide ((y.1.1, y.1.2) = (k.1, k.2)) = true := decide_eq_true e
      rw [this]
      wtm_at "g_go"
      have hf : atO xs k = some i := by
        unfold atO
        rw [List.findIdx?_eq_some_iff_getElem]
        obtain ⟨h1, h2⟩ := List.getElem?_eq_some_iff.mp hy
        refine ⟨h1, by rw [h2]; exact decide_eq_true e, fun j hj => ?_⟩
        have := hn (xs[j]) (by rw [List.mem_take_iff_getElem]; exact ⟨j, by omega, rfl⟩)
        simpa using this
      rw [hf] at q
      exact q _ (rws_in o1)
    · have : decide ((y.1.1, y.1.2) = (k.1, k.2)) = false := decide_eq_false e
      rw [this]
      wtm_at "g_go"
      refine ⟨_, ⟨_, rfl, fun x hx => ?_, rfl⟩, o1⟩
      rw [List.take_add_one, hy] at hx
      rcases List.mem_append.mp hx with hx | hx
      · exact hn x hx
      · rw [show x = y by simpa using hx]
        exact e
  · rintro σ L H1 ⟨v2, rfl, hn, rfl⟩ o1
    rw [List.take_length] at hn
    have hf : atO xs k = none := by
      unfold atO
      rw [List.findIdx?_eq_none_iff]
      intro x hx
      exact decide_eq_false (hn x hx)
    rw [hf] at q
    wtm_at "g_go"
    exact q _ (rws_in o1)
theorem pure_law_find (T : TX K mg base) (vs : List V) (H : Hp) (Q : VK) (E : XK) (h : sp_law_find K vs H Q E) : t_law_find K E { nx := fun _ H' => Q .non H', rt := Q } (start N_law_find vs) H := by
  obtain ⟨l, a, xs, R0, rfl, h1000, hok, o, q⟩ := h
  obtain ⟨ts, o⟩ := rws_out o
  have tlen := o.tail.bigLen
  have q : ∀ H', Own (ro l (.lst (ts.map V.ref)) :: big RwP ts xs :: R0) H' → Q (wv ((bestR none xs a).map (·.2))) H' := fun H' w => q H' (rws_in w)
  generalize hR : ro l (.lst (ts.map V.ref)) :: big RwP ts xs :: R0 = R at o q
  have gl : GotL K R l (ts.map V.ref) := by subst hR; exact .here
  have pk : Pick R (big RwP ts xs) R := by subst hR; exact .next .keep
  unfold t_law_find
  wtm_at "g_go"
  refine loopLO (xs := ts.map V.ref) (fun i σ L => ∃ v L' v3 v4, σ = [some (.ref l), some (.int a), some v, v3, v4] ∧ GvP (bestR none (xs.take i) a) v L' ∧ L = L' ++ R) o ⟨.non, [], _, _, rfl, ⟨rfl, rfl⟩, rfl⟩ ?_ ?_ ?_
  · rintro i σ L ⟨v, L', v3, v4, rfl, hg, rfl⟩
    generalize bestR none (xs.take i) a = b at hg
    cases b with
    | none => obtain ⟨_, rfl⟩ := hg; exact gl
    | some y => obtain ⟨t, _, rfl⟩ := hg; exact gl.next
  · rintro i z σ L H1 hz ⟨v, L', v3, v4, rfl, hg, rfl⟩ o1
    obtain ⟨t, ht, rfl⟩ := mra hz
    obtain ⟨y, hy⟩ := aol ht tlen
    have hs : bestR none (xs.take (i + 1)) a = bstep a (bestR none (xs.take i) a) y := by
      unfold bestR
      rw [List.take_add_one, hy, List.foldl_append]
      rfl
    have oy := hok y (List.mem_of_getElem? hy)
    obtain ⟨y0, y1, _⟩ := oy
    have yes : cov a y = true → (∀ b, bestR none (xs.take i) a = some b → b.1.2 < y.1.2) → bestR none (xs.take (i + 1)) a = some y := fun h1 h2 => by
      rw [hs]
      exact if_pos ⟨h1, h2⟩
    have no : (cov a y = false ∨ ∃ b, bestR none (xs.take i) a = some b ∧ ¬ b.1.2 < y.1.2) → bestR none (xs.take (i + 1)) a = bestR none (xs.take i) a := fun h => by
      rw [hs]
      refine if_neg fun ⟨h1, h2⟩ => ?_
      rcases h with h | ⟨b, hb, h⟩
      · rw [h] at h1; cases h1
      · exact h (h2 b hb)
    have cd : cov a y = (decide (y.1.1 ≤ a) && decide (a < y.1.1 + sn y.1.2)) := rfl
    cases hb : bestR none (xs.take i) a with
    | none =>
      rw [hb] at hg no
      obtain ⟨rfl, rfl⟩ := hg
      have o1 : Own R H1 := o1
      obtain ⟨k, g1, g2⟩ := (o1.pick pk).bigTell ht hy tell_rw
      wtm_at "g_go"
      have nogo : ∀ c : Bool, bestR none (xs.take (i + 1)) a = none → ∃ v L' v3 v4, [some (V.ref l), some (.int a), some .non, some (.ref t), some (.bl c)] = [some (V.ref l), some (.int a), some v, v3, v4] ∧ GvP (bestR none (xs.take (i + 1)) a) v L' ∧ R = L' ++ R := fun c e =>
        ⟨_, [], _, _, rfl, by rw [e]; exact ⟨rfl, rfl⟩, rfl⟩
      refine if_d (fun h1 => ?_) (fun h1 => ?_)
      · wtm_at "g_go"
        rename_i H2 o2
        clear g1 g2
        obtain ⟨k, g1, g2⟩ := (o2.pick pk).bigTell ht hy tell_rw
        wtm_at "g_go"
        refine if_d (fun h2 => ?_) (fun h2 => ?_)
        · wtm_at "g_go"
          have o3 : Own ([RwP t y] ++ R) H2 := ((o2.pick pk).bigAt ht hy).restS (Sel.drop Sel.rf)
          refine ⟨_, ⟨_, [RwP t y], _, _, rfl, ?_, rfl⟩, o3⟩
          rw [yes (by rw [cd, decide_eq_true h1, decide_eq_true h2]; rfl) (fun b' hb' => by rw [hb] at hb'; cases hb')]
          exact ⟨t, rfl, rfl⟩
        · wtm_at "g_go"
          exact ⟨_, nogo _ (no (.inl (by rw [cd, decide_eq_false h2, Bool.and_false]))), o2⟩
      · wtm_at "g_go"
        exact ⟨_, nogo false (no (.inl (by rw [cd, decide_eq_false h1, Bool.false_and]))), o1⟩
    | some b =>
      rw [hb] at hg no
      obtain ⟨tb, rfl, rfl⟩ := hg
      have o1 : Own (RwP tb b :: R) H1 := o1
      obtain ⟨k, g1, g2⟩ := (o1.tail.pick pk).bigTell ht hy tell_rw
      obtain ⟨kb, g5, g6⟩ := o1.ent (.here tell_rw)
      wtm_at "g_go"
      have nogo : ∀ c : Bool, bestR none (xs.take (i + 1)) a = some b → ∃ v L' v3 v4, [some (V.ref l), some (.int a), some (.ref tb), some (.ref t), some (.bl c)] = [some (V.ref l), some (.int a), some v, v3, v4] ∧ GvP (bestR none (xs.take (i + 1)) a) v L' ∧ RwP tb b :: R = L' ++ R := fun c e =>
        ⟨_, [RwP tb b], _, _, rfl, by rw [e]; exact ⟨tb, rfl, rfl⟩, rfl⟩
      refine if_d (fun h1 => ?_) (fun h1 => ?_)
      · wtm_at "g_go"
        rename_i H2 o2
        clear g1 g2 g5 g6
        obtain ⟨k, g1, g2⟩ := (o2.tail.pick pk).bigTell ht hy tell_rw
        obtain ⟨kb, g5, g6⟩ := o2.ent (.here tell_rw)
        wtm_at "g_go"
        refine if_d (fun h2 => ?_) (fun h2 => ?_)
        · wtm_at "g_go"
          refine if_d (fun h3 => ?_) (fun h3 => ?_)
          · wtm_at "g_go"
            have o3 : Own ([RwP t y] ++ R) H2 := ((o2.tail.pick pk).bigAt ht hy).restS (Sel.drop Sel.rf)
            refine ⟨_, ⟨_, [RwP t y], _, _, rfl, ?_, rfl⟩, o3⟩
            rw [yes (by rw [cd, decide_eq_true h1, decide_eq_true h2]; rfl) (fun b' hb' => by rw [hb] at hb'; cases hb'; exact h3)]
            exact ⟨t, rfl, rfl⟩
          · wtm_at "g_go"
            exact ⟨_, nogo _ (no (.inr ⟨b, rfl, h3⟩)), o2⟩
        · wtm_at "g_go"
          exact ⟨_, nogo _ (no (.inl (by rw [cd, decide_eq_false h2, Bool.and_false]))), o2⟩
      · wtm_at "g_go"
        exact ⟨_, nogo false (no (.inl (by rw [cd, decide_eq_false h1, Bool.false_and]))), o1⟩
  · rintro σ L H1 ⟨v, L', v3, v4, rfl, hg, rfl⟩ o1
    rw [List.length_map, tlen, List.take_length] at hg
    cases hb : bestR none xs a with
    | none =>
      rw [hb] at hg q
      obtain ⟨rfl, rfl⟩ := hg
      wtm_at "g_go"
      exact q _ o1
    | some b =>
      rw [hb] at hg q
      obtain ⟨tb, rfl, rfl⟩ := hg
      have o1 : Own (RwP tb b :: R) H1 := o1
      obtain ⟨kb, g5, g6⟩ := o1.ent (.here tell_rw)
      wtm_at "g_go"
      exact q _ o1.tail
end
section
/-! ### the mathematics of tries -/
theorem lk_put_nil {i : Int} : ∀ {bs cs : List Bool}, lkT bs (putT cs i .nil) = if bs = cs then some i else none
  | [], [] => rfl
  | [], c :: cs => rfl
  | b :: bs, [] => by
    show lkT bs (Tr.kid .nil .nil b) = _
    cases b <;> simp [lk_nil]
  | b :: bs, c :: cs => by
    have ih := lk_put_nil (i := i) (bs := bs) (cs := cs)
    cases b <;> cases c <;> simp [putT, lkT, Tr.kid, ih, lk_nil]
theorem lk_put {i : Int} : ∀ {bs cs : List Bool} {t : Tr}, lkT bs (putT cs i t) = if bs = cs then some i else lkT bs t
  | bs, cs, .nil => by rw [lk_put_nil, lk_nil]
  | [], [], .nd w l r => rfl
  | [], c :: cs, .nd w l r => rfl
  | b :: bs, [], .nd w l r => rfl
  | b :: bs, c :: cs, .nd w l r => by
    have h1 := lk_put (i := i) (bs := bs) (cs := cs) (t := l)
    have h2 := lk_put (i := i) (bs := bs) (cs := cs) (t := r)
    cases b <;> cases c <;> simp [putT, lkT, Tr.kid, h1, h2]
theorem lk_rm : ∀ {bs cs : List Bool} {t : Tr}, lkT bs (rmT cs t) = if bs = cs then none else lkT bs t
  | bs, cs, .nil => by rw [rm_nil, lk_nil]; split <;> rfl
  | [], [], .nd w l r => rfl
  | [], c :: cs, .nd w l r => rfl
  | b :: bs, [], .nd w l r => rfl
  | b :: bs, c :: cs, .nd w l r => by
    have h1 := lk_rm (bs := bs) (cs := cs) (t := l)
    have h2 := lk_rm (bs := bs) (cs := cs) (t := r)
    cases b <;> cases c <;> simp [rmT, lkT, Tr.kid, h1, h2]
theorem dep_put {i : Int} : ∀ {bs : List Bool} {t : Tr}, (putT bs i t).dep ≤ max t.dep (bs.length + 1)
  | [], .nil => by simp [putT, Tr.dep]
  | [], .nd w l r => by simp only [putT, Tr.dep]; omega
  | b :: bs, .nil => by
    have := dep_put (i := i) (bs := bs) (t := .nil)
    simp only [Tr.dep] at this
    cases b <;> simp only [putT, Tr.dep, List.length_cons, Bool.false_eq_true, if_false, if_true] <;> omega
  | b :: bs, .nd w l r => by
    have h1 := dep_put (i := i) (bs := bs) (t := l)
    have h2 := dep_put (i := i) (bs := bs) (t := r)
    cases b <;> simp only [putT, Tr.dep, List.length_cons, Bool.false_eq_true, if_false, if_true] <;> omega
theorem put_nd {bs : List Bool} {i : Int} {w : Option Int} {l r : Tr} : ∃ w' l' r', putT bs i (.nd w l r) = .nd w' l' r' := by
  cases bs <;> exact ⟨_, _, _, rfl⟩
theorem sn_half' {n : Int} (h0 : 0 ≤ n) (h1 : n + 1 ≤ 16) : sn n = 2 * sn (n + 1) := sn_half h0 h1
/-! bits tell keys apart -/
theorem edd {a s : Int} (h : 0 < s) : a / (s * 2) = a / s / 2 := by
  rw [Int.ediv_ediv, if_neg (by omega), Int.sub_zero]
theorem div_bits {a c : Int} (ha : 0 ≤ a) (ha' : a < 65536) (hc : 0 ≤ c) (hc' : c < 65536) : ∀ {n : Nat}, n ≤ 16 → (∀ i, i < n → bitA a i = bitA c i) → a / sn n = c / sn n
  | 0, _, _ => by
    have e : sn ((0 : Nat) : Int) = 65536 := by decide +kernel
    rw [e]
    omega
  | n + 1, hn, h => by
    have ih := div_bits ha ha' hc hc' (n := n) (by omega) fun i hi => h i (by omega)
    have hb := h n (by omega)
    have e : sn ((n : Nat) : Int) = sn (((n + 1 : Nat) : Int)) * 2 := by
      have := sn_half' (n := (n : Int)) (by omega) (by omega)
      have e2 : ((n + 1 : Nat) : Int) = (n : Int) + 1 := by omega
      rw [e2, this]
      omega
    have sp : 0 < sn ((n + 1 : Nat) : Int) := sn_pos
    rw [e, edd sp, edd sp] at ih
    unfold bitA at hb
    have e2 : (n : Int) + 1 = ((n + 1 : Nat) : Int) := by omega
    rw [e2] at hb
    have hb2 := decide_eq_decide.mp hb
    omega
theorem bits_inj {k k' : Px} (h : Ok k) (h' : Ok k') (e : bitsX k = bitsX k') : k = k' := by
  obtain ⟨h0, h1, h2, h3, h4⟩ := h
  obtain ⟨g0, g1, g2, g3, g4⟩ := h'
  have el : k.2 = k'.2 := by
    have := congrArg List.length e
    rw [bitsA_len, bitsA_len] at this
    omega
  have hb : ∀ i, i < k.2.toNat → bitA k.1 i = bitA k'.1 i := fun i hi => by
    have a1 := bitsA_get (a := k.1) hi
    have a2 := bitsA_get (a := k'.1) (n := k'.2.toNat) (i := i) (by omega)
    have e' : bitsA k.1 k.2.toNat = bitsA k'.1 k'.2.toNat := e
    rw [e', a2] at a1
    simpa using a1.symm
  have hd := div_bits h2 h3 g2 g3 (n := k.2.toNat) (by omega) hb
  have e2 : ((k.2.toNat : Nat) : Int) = k.2 := by omega
  rw [e2] at hd
  rw [← el] at g4
  have m1 := Int.emod_add_mul_ediv k.1 (sn k.2)
  have m2 := Int.emod_add_mul_ediv k'.1 (sn k.2)
  rw [h4] at m1
  rw [g4] at m2
  rw [hd] at m1
  exact Prod.ext (by omega) el
/-! where entries lie -/
structure InR (b n : Int) (x : Px) : Prop where
  n1 : n ≤ x.2
  n2 : x.2 ≤ 16
  b1 : b ≤ x.1
  b2 : x.1 + sn x.2 ≤ b + sn n
  m : x.1 % sn x.2 = 0
theorem Fits.kidL {b n : Int} {d d' : Nat} (f : Fits b n d) (h : d' + 1 ≤ d) : Fits b (n + 1) d' := by
  have := f.kid false h
  simpa using this
theorem Fits.kidR {b n : Int} {d d' : Nat} (f : Fits b n d) (h : d' + 1 ≤ d) : Fits (b + sn (n + 1)) (n + 1) d' := by
  have := f.kid true h
  simpa using this
theorem rootE_mem {w : Option Int} {b n : Int} {x : Px × Int} (h : x ∈ rootE w b n) : ∃ i, w = some i ∧ x = ((b, n), i) := by
  cases w with
  | none => exact nomatch h
  | some i => exact ⟨i, rfl, List.mem_singleton.mp h⟩
theorem ents_in : ∀ {t : Tr} {b n : Int}, Fits b n t.dep → ∀ x ∈ ents t b n, InR b n x.1
  | .nil, _, _, _, _, h => nomatch h
  | .nd w l r, b, n, f, x, h => by
    have f0 := f.n0
    have f1 := f.nd
    simp only [Tr.dep] at f1
    obtain ⟨m1, m2⟩ := f.m (by omega)
    simp only [ents, List.mem_append] at h
    rcases h with h | h | h
    · obtain ⟨i, rfl, rfl⟩ := rootE_mem h
      exact ⟨Int.le_refl _, by show n ≤ 16; omega, Int.le_refl _, Int.le_refl _, m1⟩
    · have y := ents_in (f.kidL (by simp only [Tr.dep]; omega)) x h
      have y1 := y.n1
      have y2 := y.n2
      have e := sn_half' f0 (by omega)
      have sp : 0 < sn (n + 1) := sn_pos
      exact ⟨by omega, y.n2, y.b1, by have := y.b2; omega, y.m⟩
    · have y := ents_in (f.kidR (by simp only [Tr.dep]; omega)) x h
      have y1 := y.n1
      have y2 := y.n2
      have e := sn_half' f0 (by omega)
      have sp : 0 < sn (n + 1) := sn_pos
      exact ⟨by omega, y.n2, by have := y.b1; omega, by have := y.b2; omega, y.m⟩
theorem mod_in {a b s : Int} (h0 : b % s = 0) (h1 : b ≤ a) (h2 : a < b + s) : a % s = a - b := by
  have hs : 0 < s := by omega
  have e : a = b + (a - b) := by omega
  rw [e, Int.add_emod, h0, Int.zero_add, Int.emod_emod, Int.emod_eq_of_lt (by omega) (by omega)]
  omega
theorem sn_dvd {m k : Int} (h : m ≤ k) (h2 : k ≤ 16) : sn k ∣ sn m := ⟨2 ^ (k.toNat - m.toNat), by
  unfold sn
  rw [← Int.pow_add]
  congr 1
  omega⟩
/-- the bit of an address in a node's span says the side -/
theorem bit_side {a b n : Int} (h0 : 0 ≤ n) (h1 : n + 1 ≤ 16) (hm : b % sn n = 0) (hb : b ≤ a) (ha : a < b + sn n) : bitA a n.toNat = decide (b + sn (n + 1) ≤ a) := by
  have e := sn_half' h0 h1
  have sp : 0 < sn (n + 1) := sn_pos
  have en : ((n.toNat : Nat) : Int) + 1 = n + 1 := by omega
  unfold bitA
  rw [en]
  rw [e] at hm ha
  obtain ⟨q, hq⟩ := Int.dvd_of_emod_eq_zero hm
  generalize sn (n + 1) = s at *
  have hq' : b = s * (2 * q) := by rw [hq, Int.mul_comm 2 s, Int.mul_assoc]
  have ea : a = (a - b) + s * (2 * q) := by omega
  have ed : a / s = (a - b) / s + 2 * q := by
    have := Int.add_mul_ediv_left (a - b) (2 * q) (show s ≠ 0 by omega)
    rw [← ea] at this
    exact this
  rw [ed]
  by_cases hc : b + s ≤ a
  · have : (a - b) / s = 1 := by
      have h1 : a - b = (a - b - s) + s * 1 := by omega
      rw [h1, Int.add_mul_ediv_left _ _ (by omega), Int.ediv_eq_zero_of_lt (by omega) (by omega)]
      rfl
    rw [this, decide_eq_true (show (1 + 2 * q) % 2 = 1 by omega), decide_eq_true hc]
  · have : (a - b) / s = 0 := Int.ediv_eq_zero_of_lt (by omega) (by omega)
    rw [this, decide_eq_false (show ¬ (0 + 2 * q) % 2 = 1 by omega), decide_eq_false hc]
theorem mem_ents : ∀ {t : Tr} {b n : Int}, Fits b n t.dep → ∀ {k : Px} {i : Int}, InR b n k → ((k, i) ∈ ents t b n ↔ lkT ((bitsX k).drop n.toNat) t = some i)
  | .nil, b, n, f, k, i, h => by rw [lk_nil]; exact ⟨fun z => (nomatch z), fun z => (nomatch z)⟩
  | .nd w l r, b, n, f, k, i, h => by
    have f0 := f.n0
    have f1 := f.nd
    simp only [Tr.dep] at f1
    obtain ⟨m1, m2⟩ := f.m (by omega)
    obtain ⟨n1, n2, b1, b2, m⟩ := h
    have fl := f.kidL (d' := l.dep) (by simp only [Tr.dep]; omega)
    have fr := f.kidR (d' := r.dep) (by simp only [Tr.dep]; omega)
    have il := ents_in fl
    have ir := ents_in fr
    have sk : 0 < sn k.2 := sn_pos
    simp only [ents, List.mem_append]
    by_cases hn : k.2 = n
    · have hb : k.1 = b := by rw [hn] at b2; omega
      have ek : k = (b, n) := Prod.ext hb hn
      have e0 : (bitsX k).drop n.toNat = [] := List.drop_of_length_le (by rw [bitsA_len, hn]; exact Nat.le_refl _)
      rw [e0]
      show _ ↔ w = some i
      constructor
      · rintro (h | h | h)
        · obtain ⟨j, rfl, e⟩ := rootE_mem h
          cases e
          rfl
        · have := (il _ h).n1
          have : n + 1 ≤ k.2 := this
          omega
        · have := (ir _ h).n1
          have : n + 1 ≤ k.2 := this
          omega
      · rintro rfl
        rw [ek]
        exact .inl (List.mem_singleton.mpr rfl)
    · have hr : (k, i) ∉ rootE w b n := fun h => by
        obtain ⟨j, _, e⟩ := rootE_mem h
        cases e
        exact hn rfl
      have hlt : n < k.2 := by omega
      have sp : 0 < sn (n + 1) := sn_pos
      have e := sn_half' f0 (by omega)
      have hbit := bit_side f0 (by omega) m1 b1 (by omega)
      have ed : (bitsX k).drop n.toNat = bitA k.1 n.toNat :: (bitsX k).drop (n + 1).toNat := by
        have e3 : (n + 1).toNat = n.toNat + 1 := by omega
        rw [e3]
        exact bitsA_at (by omega)
      rw [ed]
      show _ ↔ lkT _ (Tr.kid l r (bitA k.1 n.toNat)) = _
      rw [hbit]
      by_cases hs : b + sn (n + 1) ≤ k.1
      · rw [decide_eq_true hs]
        have ik : InR (b + sn (n + 1)) (n + 1) k := ⟨by omega, n2, hs, by omega, m⟩
        have ih := mem_ents fr ik (i := i)
        constructor
        · rintro (h | h | h)
          · exact absurd h hr
          · have := (il _ h).b2
            have : k.1 + sn k.2 ≤ b + sn (n + 1) := this
            omega
          · exact ih.mp h
        · exact fun h => .inr (.inr (ih.mpr h))
      · rw [decide_eq_false hs]
        have hs2 : k.1 + sn k.2 ≤ b + sn (n + 1) := by
          have d1 : (b + sn (n + 1)) % sn k.2 = 0 := by
            have hd : sn k.2 ∣ sn (n + 1) := sn_dvd (by omega) n2
            have hd2 : sn k.2 ∣ b := Int.dvd_trans (sn_dvd (by omega) n2) (Int.dvd_of_emod_eq_zero m1)
            exact Int.emod_eq_zero_of_dvd (Int.dvd_add hd2 hd)
          have d2 := Int.dvd_of_emod_eq_zero d1
          have d3 := Int.dvd_of_emod_eq_zero m
          obtain ⟨u, hu⟩ := Int.dvd_sub d2 d3
          have hp : 0 < sn k.2 * u := by omega
          have hu1 : 1 ≤ u := by
            by_cases h : 0 < u
            · omega
            · have := Int.mul_le_mul_of_nonneg_left (show u ≤ 0 by omega) (show 0 ≤ sn k.2 by omega)
              rw [Int.mul_zero] at this
              omega
          have := Int.mul_le_mul_of_nonneg_left hu1 (show 0 ≤ sn k.2 by omega)
          omega
        have ik : InR b (n + 1) k := ⟨by omega, n2, b1, hs2, m⟩
        have ih := mem_ents fl ik (i := i)
        constructor
        · rintro (h | h | h)
          · exact absurd h hr
          · exact ih.mp h
          · have := (ir _ h).b1
            have : b + sn (n + 1) ≤ k.1 := this
            omega
        · exact fun h => .inr (.inl (ih.mpr h))
end
section
/-! ### the rows of a trie -/
theorem f00 {t : Tr} (h : t.dep ≤ 17) : Fits 0 0 t.dep := ⟨by omega, by omega, by omega, fun _ => ⟨by simp, by decide +kernel⟩⟩
theorem sn_zero : sn 0 = 65536 := by decide +kernel
theorem Ok.inr {k : Px} (h : Ok k) : InR 0 0 k := by
  obtain ⟨h0, h1, h2, h3, h4⟩ := h
  refine ⟨h0, h1, h2, ?_, h4⟩
  rw [sn_zero]
  have hl := sn_lit k.2 h0 h1
  generalize sn k.2 = s at *
  rcases hl with hl | hl | hl | hl | hl | hl | hl | hl | hl | hl | hl | hl | hl | hl | hl | hl | hl <;> (obtain ⟨_, rfl⟩ := hl; omega)
theorem InR.ok {k : Px} (h : InR 0 0 k) : Ok k := by
  obtain ⟨n1, n2, b1, b2, m⟩ := h
  rw [sn_zero] at b2
  have sp : 0 < sn k.2 := sn_pos
  exact ⟨n1, n2, b1, by omega, m⟩
theorem mem_all {t : Tr} (h : t.dep ≤ 17) (x : Px × Int) : x ∈ ents t 0 0 ↔ Ok x.1 ∧ lkT (bitsX x.1) t = some x.2 := by
  constructor
  · intro hx
    have hi := ents_in (f00 h) x hx
    exact ⟨hi.ok, (mem_ents (f00 h) hi (i := x.2)).mp hx⟩
  · rintro ⟨ho, hl⟩
    exact (mem_ents (f00 h) ho.inr (i := x.2)).mpr hl
theorem Rel.emem {t : Tr} {xs : List (Px × Int)} (h : Rel t xs) : ∀ x, x ∈ xs ↔ x ∈ ents t 0 0 := fun x => (h.mem x).trans (mem_all h.dep x).symm
def ltK (x y : Px × Int) : Prop := x.1.1 < y.1.1 ∨ (x.1.1 = y.1.1 ∧ x.1.2 < y.1.2)
instance {x y : Px × Int} : Decidable (ltK x y) := inferInstanceAs (Decidable (_ ∨ _))
theorem ents_asc : ∀ {t : Tr} {b n : Int}, Fits b n t.dep → (ents t b n).Pairwise ltK
  | .nil, _, _, _ => .nil
  | .nd w l r, b, n, f => by
    have f0 := f.n0
    have f1 := f.nd
    simp only [Tr.dep] at f1
    have fl := f.kidL (d' := l.dep) (by simp only [Tr.dep]; omega)
    have fr := f.kidR (d' := r.dep) (by simp only [Tr.dep]; omega)
    have il := ents_in fl
    have ir := ents_in fr
    simp only [ents]
    rw [List.pairwise_append, List.pairwise_append]
    refine ⟨by cases w <;> simp [rootE], ⟨ents_asc fl, ents_asc fr, fun x hx y hy => ?_⟩, fun x hx y hy => ?_⟩
    · have h1 := (il x hx).b2
      have h2 := (ir y hy).b1
      have sp : 0 < sn x.1.2 := sn_pos
      exact .inl (by omega)
    · obtain ⟨i, _, rfl⟩ := rootE_mem hx
      rcases List.mem_append.mp hy with hy | hy
      · have h1 := (il y hy).b1
        have h2 := (il y hy).n1
        show b < y.1.1 ∨ (b = y.1.1 ∧ n < y.1.2)
        omega
      · have h1 := (ir y hy).b1
        have sp : 0 < sn (n + 1) := sn_pos
        show b < y.1.1 ∨ (b = y.1.1 ∧ n < y.1.2)
        omega
def rdat (x : Px × Int) : PyData := .tuple [.tuple [.int x.1.1, .int x.1.2], .int x.2]
theorem rdat_alike (x y : Px × Int) : PySem.W.alike (rdat x) (rdat y) = true := by simp [rdat, PySem.W.alike, PySem.W.alikeAll]
theorem rdat_lt {x y : Px × Int} (h : x.1 ≠ y.1) : PySem.W.dataLt (rdat x) (rdat y) = decide (ltK x y) := by
  unfold rdat
  rw [PySem.W.dataLt_pair (by simp [PySem.W.alike, PySem.W.alikeAll]) (by simp [PySem.W.alike]), eqv_ky, if_neg, PySem.W.dataLt_ii]
  · rfl
  · rw [decide_eq_true_eq]
    exact h
theorem sorted_rows {t : Tr} {xs : List (Px × Int)} (h : Rel t xs) : xs.mergeSort (PySem.W.dataLe false rdat) = ents t 0 0 := by
  have hp := List.mergeSort_perm xs (PySem.W.dataLe false rdat)
  have hs : (xs.mergeSort (PySem.W.dataLe false rdat)).Pairwise (fun a b => PySem.W.dataLe false rdat a b = true) := List.pairwise_mergeSort (le := PySem.W.dataLe false rdat) (fun a b c h1 h2 => (PySem.W.sortLe_total _ _ _).trans a b c h1 h2) (fun a b => (Bool.or_eq_true _ _).mpr ((PySem.W.sortLe_total _ _ _).total a b)) xs
  have hn : ((xs.mergeSort (PySem.W.dataLe false rdat)).map (·.1)).Nodup := (hp.map (·.1)).nodup_iff.mpr h.nd
  generalize xs.mergeSort (PySem.W.dataLe false rdat) = ys at hp hs hn
  refine asc_ext (lt := ltK) (fun a z => ?_) (fun a b c z1 z2 => ?_) ?_ (ents_asc (f00 h.dep)) (fun x => ?_)
  · unfold ltK at z
    omega
  · unfold ltK at *
    omega
  · have hn2 : ys.Pairwise (fun a b => a.1 ≠ b.1) := List.pairwise_map.mp hn
    refine (hs.and hn2).imp fun {a b} ⟨h1, h2⟩ => ?_
    have h3 : (!PySem.W.dataLt (rdat b) (rdat a)) = true := h1
    rw [rdat_lt (fun e => h2 e.symm)] at h3
    have h4 : ¬ ltK b a := by simpa using h3
    have h5 : ¬ (a.1.1 = b.1.1 ∧ a.1.2 = b.1.2) := fun ⟨e1, e2⟩ => h2 (Prod.ext e1 e2)
    unfold ltK at *
    omega
  · rw [hp.mem_iff]
    exact h.emem x
/-! the longest covering row -/
theorem cov_iff {a : Int} {x : Px × Int} : cov a x = true ↔ x.1.1 ≤ a ∧ a < x.1.1 + sn x.1.2 := by
  unfold cov
  rw [Bool.and_eq_true, decide_eq_true_eq, decide_eq_true_eq]
theorem dep0 {t : Tr} (h : t.dep = 0) : t = .nil := by
  cases t with
  | nil => rfl
  | nd w l r => simp only [Tr.dep] at h; omega
theorem find_ents : ∀ {t : Tr} {b n a : Int} {g : Option Int}, Fits b n t.dep → n ≤ 16 → b ≤ a → a < b + sn n →
    ∃ o : Option (Px × Int), findT g t ((bitsA a 16).drop n.toNat) = (o.map (·.2)).or g ∧ (∀ x, o = some x → x ∈ ents t b n ∧ cov a x = true) ∧ ∀ y ∈ ents t b n, cov a y = true → ∃ x, o = some x ∧ y.1.2 ≤ x.1.2
  | .nil, b, n, a, g, f, hn, h1, h2 => ⟨none, by simp [findT], fun x e => (nomatch e), fun y hy => (nomatch hy)⟩
  | .nd w l r, b, n, a, g, f, hn, h1, h2 => by
    have f0 := f.n0
    have f1 := f.nd
    simp only [Tr.dep] at f1
    obtain ⟨m1, m2⟩ := f.m (by omega)
    have fl := f.kidL (d' := l.dep) (by simp only [Tr.dep]; omega)
    have fr := f.kidR (d' := r.dep) (by simp only [Tr.dep]; omega)
    have il := ents_in fl
    have ir := ents_in fr
    have hroot : ∀ i, w = some i → cov a ((b, n), i) = true := fun i _ => cov_iff.mpr ⟨h1, h2⟩
    by_cases h16 : n = 16
    · have el : l = .nil := dep0 (by omega)
      have er : r = .nil := dep0 (by omega)
      subst el er
      have e0 : (bitsA a 16).drop n.toNat = [] := List.drop_of_length_le (by rw [bitsA_len, h16]; exact Nat.le_refl _)
      rw [e0]
      refine ⟨w.map fun i => ((b, n), i), by cases w <;> rfl, fun x e => ?_, fun y hy hc => ?_⟩
      · cases w with
        | none => cases e
        | some i => cases e; exact ⟨by simp [ents, rootE], hroot i rfl⟩
      · simp only [ents, List.append_nil] at hy
        obtain ⟨i, rfl, rfl⟩ := rootE_mem hy
        exact ⟨_, rfl, Int.le_refl _⟩
    · have sp : 0 < sn (n + 1) := sn_pos
      have e := sn_half' f0 (by omega)
      have hbit := bit_side f0 (by omega) m1 h1 h2
      have ed : (bitsA a 16).drop n.toNat = bitA a n.toNat :: (bitsA a 16).drop (n + 1).toNat := by
        have e3 : (n + 1).toNat = n.toNat + 1 := by omega
        rw [e3]
        exact bitsA_at (by omega)
      rw [ed]
      show ∃ o : Option (Px × Int), findT (w.or g) (Tr.kid l r (bitA a n.toNat)) _ = _ ∧ _
      rw [hbit]
      have fin : ∀ (kd : List (Px × Int)) (fo : Option Int), (∀ y ∈ kd, n + 1 ≤ y.1.2) → (∀ y ∈ kd, y ∈ ents (.nd w l r) b n) → (∀ y ∈ ents (.nd w l r) b n, cov a y = true → y ∈ rootE w b n ∨ y ∈ kd) →
          (∃ o : Option (Px × Int), fo = (o.map (·.2)).or (w.or g) ∧ (∀ x, o = some x → x ∈ kd ∧ cov a x = true) ∧ ∀ y ∈ kd, cov a y = true → ∃ x, o = some x ∧ y.1.2 ≤ x.1.2) →
          ∃ o : Option (Px × Int), fo = (o.map (·.2)).or g ∧ (∀ x, o = some x → x ∈ ents (.nd w l r) b n ∧ cov a x = true) ∧ ∀ y ∈ ents (.nd w l r) b n, cov a y = true → ∃ x, o = some x ∧ y.1.2 ≤ x.1.2 := by
        rintro kd fo hk1 hk2 hk3 ⟨o, e1, e2, e3⟩
        cases o with
        | some x =>
          refine ⟨some x, e1, fun z hz => ?_, fun y hy hc => ⟨x, rfl, ?_⟩⟩
          · cases hz
            exact ⟨hk2 x (e2 x rfl).1, (e2 x rfl).2⟩
          · rcases hk3 y hy hc with h | h
            · obtain ⟨i, _, rfl⟩ := rootE_mem h
              have := hk1 x (e2 x rfl).1
              show n ≤ _
              omega
            · obtain ⟨x', ex, h⟩ := e3 y h hc
              cases ex
              exact h
        | none =>
          refine ⟨w.map fun i => ((b, n), i), by rw [e1]; cases w <;> rfl, fun z hz => ?_, fun y hy hc => ?_⟩
          · cases w with
            | none => cases hz
            | some i => cases hz; exact ⟨by simp [ents, rootE], hroot i rfl⟩
          · rcases hk3 y hy hc with h | h
            · obtain ⟨i, rfl, rfl⟩ := rootE_mem h
              exact ⟨_, rfl, Int.le_refl _⟩
            · obtain ⟨x', ex, h⟩ := e3 y h hc
              cases ex
      by_cases hs : b + sn (n + 1) ≤ a
      · rw [decide_eq_true hs]
        refine fin (ents r (b + sn (n + 1)) (n + 1)) _ (fun y hy => (ir y hy).n1) (fun y hy => by simp only [ents, List.mem_append]; exact .inr (.inr hy)) (fun y hy hc => ?_) (find_ents fr (by omega) hs (by omega))
        simp only [ents, List.mem_append] at hy
        rcases hy with hy | hy | hy
        · exact .inl hy
        · have := (il y hy).b2
          have := (cov_iff.mp hc).2
          omega
        · exact .inr hy
      · rw [decide_eq_false hs]
        refine fin (ents l b (n + 1)) _ (fun y hy => (il y hy).n1) (fun y hy => by simp only [ents, List.mem_append]; exact .inr (.inl hy)) (fun y hy hc => ?_) (find_ents fl (by omega) h1 (by omega))
        simp only [ents, List.mem_append] at hy
        rcases hy with hy | hy | hy
        · exact .inl hy
        · exact .inr hy
        · have := (ir y hy).b1
          have := (cov_iff.mp hc).1
          omega
theorem best_spec {a : Int} : ∀ {xs : List (Px × Int)} {best : Option (Px × Int)}, (∀ x, bestR best xs a = some x → (x ∈ xs ∧ cov a x = true) ∨ best = some x) ∧ (∀ y ∈ xs, cov a y = true → ∃ x, bestR best xs a = some x ∧ y.1.2 ≤ x.1.2) ∧ ∀ y, best = some y → ∃ x, bestR best xs a = some x ∧ y.1.2 ≤ x.1.2
  | [], best => ⟨fun x h => .inr h, fun y hy => (nomatch hy), fun y h => ⟨y, h, Int.le_refl _⟩⟩
  | o :: xs, best => by
    obtain ⟨i1, i2, i3⟩ := best_spec (a := a) (xs := xs) (best := bstep a best o)
    have e : bestR best (o :: xs) a = bestR (bstep a best o) xs a := rfl
    rw [e]
    have hs : (bstep a best o = some o ∧ cov a o = true ∧ ∀ y, best = some y → y.1.2 < o.1.2) ∨ (bstep a best o = best ∧ (cov a o = true → ∃ y, best = some y ∧ o.1.2 ≤ y.1.2)) := by
      unfold bstep
      by_cases hc : cov a o = true ∧ ∀ y, best = some y → y.1.2 < o.1.2
      · rw [if_pos hc]
        exact .inl ⟨rfl, hc⟩
      · rw [if_neg hc]
        refine .inr ⟨rfl, fun h => ?_⟩
        cases best with
        | none => exact absurd ⟨h, fun y hy => (nomatch hy)⟩ hc
        | some y =>
          refine ⟨y, rfl, ?_⟩
          rcases Int.lt_or_le y.1.2 o.1.2 with h2 | h2
          · exact absurd ⟨h, fun z hz => by cases hz; exact h2⟩ hc
          · exact h2
    rcases hs with ⟨e1, e2, e3⟩ | ⟨e1, e2⟩
    · refine ⟨fun x h => ?_, fun y hy hc => ?_, fun y hy => ?_⟩
      · rcases i1 x h with h | h
        · exact .inl ⟨List.mem_cons_of_mem _ h.1, h.2⟩
        · rw [e1] at h; cases h; exact .inl ⟨List.mem_cons_self, e2⟩
      · rcases List.mem_cons.mp hy with rfl | hy
        · exact i3 _ e1
        · exact i2 y hy hc
      · obtain ⟨x, h1, h2⟩ := i3 _ e1
        exact ⟨x, h1, by have := e3 y hy; omega⟩
    · rw [e1] at i1 i2 i3 ⊢
      refine ⟨fun x h => ?_, fun y hy hc => ?_, i3⟩
      · rcases i1 x h with h | h
        · exact .inl ⟨List.mem_cons_of_mem _ h.1, h.2⟩
        · exact .inr h
      · rcases List.mem_cons.mp hy with rfl | hy
        · obtain ⟨z, hz, hle⟩ := e2 hc
          obtain ⟨x, h1, h2⟩ := i3 z hz
          exact ⟨x, h1, by omega⟩
        · exact i2 y hy hc
theorem find_best {t : Tr} {xs : List (Px × Int)} {a : Int} (h : Rel t xs) (h0 : 0 ≤ a) (h1 : a < 65536) : findT none t (bitsA a 16) = (bestR none xs a).map (·.2) := by
  obtain ⟨o, e1, e2, e3⟩ := find_ents (g := none) (f00 h.dep) (by omega) h0 (by rw [sn_zero]; omega)
  obtain ⟨i1, i2, _⟩ := best_spec (a := a) (xs := xs) (best := none)
  have e1' : findT none t (bitsA a 16) = (o.map (·.2)).or none := e1
  rw [e1', Option.or_none]
  cases o with
  | none =>
    cases hb : bestR none xs a with
    | none => rfl
    | some x =>
      rcases i1 x hb with ⟨hx, hc⟩ | hx
      · obtain ⟨z, hz, _⟩ := e3 x ((h.emem x).mp hx) hc
        cases hz
      · cases hx
  | some x =>
    obtain ⟨hx, hc⟩ := e2 x rfl
    obtain ⟨y, hy, hle⟩ := i2 x ((h.emem x).mpr hx) hc
    rw [hy]
    rcases i1 y hy with ⟨my, cy⟩ | hz
    · obtain ⟨z, hz, hle2⟩ := e3 y ((h.emem y).mp my) cy
      cases hz
      obtain ⟨ox, lx⟩ := (mem_all h.dep x).mp hx
      obtain ⟨oy, ly⟩ := (h.mem y).mp my
      have el : x.1.2 = y.1.2 := by omega
      have c1 := cov_iff.mp hc
      have c2 := cov_iff.mp cy
      have d1 := mod_in ox.2.2.2.2 c1.1 c1.2
      have d2 := mod_in oy.2.2.2.2 c2.1 c2.2
      rw [el] at d1
      have ek : x.1 = y.1 := Prod.ext (by omega) el
      rw [ek] at lx
      rw [lx] at ly
      exact congrArg some (by simpa using ly)
    · cases hz
/-! where a key lies -/
theorem at_none {t : Tr} {xs : List (Px × Int)} {k : Px} (h : Rel t xs) (ok : Ok k) (e : atO xs k = none) : lkT (bitsX k) t = none := by
  unfold atO at e
  rw [List.findIdx?_eq_none_iff] at e
  cases hl : lkT (bitsX k) t with
  | none => rfl
  | some i =>
    have := e (k, i) ((h.mem (k, i)).mpr ⟨ok, hl⟩)
    simp at this
theorem at_some {t : Tr} {xs : List (Px × Int)} {k : Px} {j : Nat} (h : Rel t xs) (e : atO xs k = some j) : ∃ y, xs[j]? = some y ∧ lkT (bitsX k) t = some y.2 := by
  unfold atO at e
  rw [List.findIdx?_eq_some_iff_getElem] at e
  obtain ⟨h1, h2, _⟩ := e
  have ek : xs[j].1 = k := by simpa using h2
  refine ⟨xs[j], List.getElem?_eq_getElem h1, ?_⟩
  rw [← ek]
  exact ((h.mem xs[j]).mp (List.getElem_mem h1)).2
theorem bits16 {k : Px} (ok : Ok k) : (bitsX k).length ≤ 16 := by
  rw [bitsA_len]
  have := ok.1
  have := ok.2.1
  omega
theorem rel_put {t : Tr} {xs : List (Px × Int)} {k : Px} {i : Int} (h : Rel t xs) (ok : Ok k) : Rel (putT (bitsX k) i t) ((xs.filter fun x => !decide (x.1 = k)) ++ [(k, i)]) := by
  refine ⟨?_, ?_, fun x => ?_⟩
  · have h1 := dep_put (i := i) (bs := bitsX k) (t := t)
    have h2 := bits16 ok
    have h3 := h.dep
    omega
  · rw [List.map_append, List.nodup_append]
    refine ⟨(List.filter_sublist.map _).nodup h.nd, by simp, fun a ha b hb => ?_⟩
    obtain ⟨x, hx, rfl⟩ := List.mem_map.mp ha
    have : b = k := by simpa using hb
    subst this
    simpa using (List.mem_filter.mp hx).2
  · rw [List.mem_append, List.mem_filter, h.mem, lk_put]
    constructor
    · rintro (⟨⟨h1, h2⟩, h3⟩ | h1)
      · have h4 : ¬ x.1 = k := by simpa using h3
        exact ⟨h1, by rw [if_neg fun e => h4 (bits_inj h1 ok e)]; exact h2⟩
      · have : x = (k, i) := by simpa using h1
        subst this
        exact ⟨ok, if_pos rfl⟩
    · rintro ⟨h1, h2⟩
      by_cases e : bitsX x.1 = bitsX k
      · rw [if_pos e] at h2
        have ek := bits_inj h1 ok e
        exact .inr (List.mem_singleton.mpr (Prod.ext ek (by simpa using h2.symm)))
      · rw [if_neg e] at h2
        exact .inl ⟨⟨h1, h2⟩, by simpa using fun z : x.1 = k => e (by rw [z])⟩
theorem rel_rm {t t' : Tr} {xs : List (Px × Int)} {k : Px} (h : Rel t xs) (ok : Ok k) (hd : t'.dep ≤ t.dep) (hl : ∀ bs, lkT bs t' = lkT bs (rmT (bitsX k) t)) : Rel t' (xs.filter fun x => !decide (x.1 = k)) := by
  refine ⟨Nat.le_trans hd h.dep, (List.filter_sublist.map _).nodup h.nd, fun x => ?_⟩
  rw [List.mem_filter, h.mem, hl, lk_rm]
  constructor
  · rintro ⟨⟨h1, h2⟩, h3⟩
    have h4 : ¬ x.1 = k := by simpa using h3
    exact ⟨h1, by rw [if_neg fun e => h4 (bits_inj h1 ok e)]; exact h2⟩
  · rintro ⟨h1, h2⟩
    by_cases e : bitsX x.1 = bitsX k
    · rw [if_pos e] at h2
      cases h2
    · rw [if_neg e] at h2
      exact ⟨⟨h1, h2⟩, by simpa using fun z : x.1 = k => e (by rw [z])⟩
theorem rel_nil : Rel (.nd none .nil .nil) [] := ⟨by decide, by simp, fun x => by
  have : lkT (bitsX x.1) (.nd none .nil .nil) = none := by
    cases bitsX x.1 with
    | nil => rfl
    | cons b bs => cases b <;> exact lk_nil
  rw [this]
  simp⟩
theorem Rel.len {t : Tr} {xs : List (Px × Int)} (h : Rel t xs) : (ents t 0 0).length = xs.length := by
  have h2 := ents_asc (f00 h.dep)
  have h3 : (ents t 0 0).Nodup := List.Pairwise.imp (fun {a b} (hab : ltK a b) (e : a = b) => by subst e; unfold ltK at hab; omega) h2
  have h4 : xs.Nodup := (List.pairwise_map.mp h.nd).imp fun {a b} hab e => hab (by rw [e])
  exact ((List.perm_ext_iff_of_nodup h3 h4).mpr fun x => (h.emem x).symm).length_eq
end
section
variable {K : PySem.W.Frag} {mg : Str → Option Value} {base : Heap}
theorem rw_out {t : Addr} {x : Px × Int} {L : List HP} {H : Hp} (h : Own (RwP t x :: L) H) : ∃ k, Own (ro t (.tup [.ref k, .int x.2]) :: ro k (.tup [.int x.1.1, .int x.1.2]) :: L) H := by
  obtain ⟨k, h⟩ := h.ex
  exact ⟨k, Own.flat (L := [_, _]) h⟩
theorem pure_law_deed (T : TX K mg base) (vs : List V) (H : Hp) (Q : VK) (E : XK) (h : sp_law_deed K vs H Q E) : t_law_deed K E { nx := fun _ H' => Q .non H', rt := Q } (start N_law_deed vs) H := by
  obtain ⟨p, l, s, w, lt, rt, xs, R, rfl, h900, hr, o, q⟩ := h
  unfold t_law_deed
  have key : ∀ (pf : Addr) (x : Px) (v4 : Option V) (H1 : Hp), Ok x → Own (PfP K pf x :: TbP K p (.nd w lt rt) :: RwsP l xs :: Drw s :: R) H1 → (tSeq (tAsg (tCallS (sp_law_at K) (WE (wB E)) (tCons (tVar 1) (tCons (tMt (He.ga K "Prefix") "pair" (sp_Prefix_pair K) (WE (wB E)) (tVar 3) tNil) tNil))) (gName 5))   (tSeq (tAsg (tLc (iList K (tVar 1)) (gName 7) (tTest (tOp (rNeD K) (tOp (rIxT K) (tVar 7) (tC (.int 0))) (tMt (He.ga K "Prefix") "pair" (sp_Prefix_pair K) (fun _ => E0) (tVar 3) tNil))) (tVar 7) [7]) (gName 6))   (tSeq (tIfS (tTest (tOp rEq (tCallS (sp_law_digit K) (WE (wB E)) (tCons (tVar 2) (tCons (tC (.int 3)) tNil))) (tC (.int 0))))   (tSeq (tIfS (tTest (tOp rNe (tMt (He.ga K "Table") "drop" (sp_Table_drop K) (WE (wB E)) (tVar 0) (tCons (tVar 3) tNil)) (tOp rNotN (tVar 5) (tC .non))))   (tRet (tC .non))   tNext)   (tRet (tVar 6)))   tNext)   (tSeq (tAsg (tCallS (sp_law_digit K) (WE (wB E)) (tCons (tVar 2) (tCons (tC (.int 5)) tNil))) (gName 8))   (tSeq (tIfS (tTest (tOp rNotN (tMt (He.ga K "Table") "put" (sp_Table_put K) (WE (wB E)) (tVar 0) (tCons (tVar 3) (tCons (tVar 8) tNil))) (tC .non)))   (tRet (tC .non))   tNext)   (tRet (tOp rCat (tVar 6) (tLst (tCons (tTup (tCons (tMt (He.ga K "Prefix") "pair" (sp_Prefix_pair K) (WE (wB E)) (tVar 3) tNil) (tCons (tVar 8) tNil))) tNil))))))))) { nx := fun _ H' => Q .non H', rt := Q } [some (.ref p), some (.ref l), some (.ref s), some (.ref pf), v4, none, none, none, none] H1 := by
    intro pf x v4 H1 ok o1
    wtm_at "g_go"
    rename_i H2 kt o2
    refine ⟨l, kt, xs, x, _, rfl, by omega, by wtm_at "g_own", fun H3 o3 => ?_⟩
    have o3' : Own (RwsP l xs :: PfP K pf x :: TbP K p (.nd w lt rt) :: Drw s :: R) H3 := by wtm_at "g_own"
    clear o3 o2
    obtain ⟨ts, o4⟩ := rws_out o3'
    clear o3'
    have tlen := o4.tail.bigLen
    wtm_at "g_go"
    refine lcFil (F := RwP) (fun y => !decide (y.1 = x)) (by omega) o4 (c := true) (l := l) (ps := ts) (xs := xs) .here .keep (fun i b y H8 X B0 B1 hb hx o8 h0 h1 => ?_) fun lq us H8 ul o8 => ?_
    · obtain ⟨kk, o8'⟩ := rw_out ((o8.pick (P := big RwP ts xs) (by wtm_at "g_pk")).bigAt hb hx)
      have o8k : Own (ro b (.tup [.ref kk, .int y.2]) :: ro kk (.tup [.int y.1.1, .int y.1.2]) :: X :: cell true l (.lst (ts.map V.ref)) :: big RwP ts xs :: PfP K pf x :: TbP K p (.nd w lt rt) :: Drw s :: R) H8 := by
        wtm_at "g_own"
      clear o8' o8
      wtm_at "g_go"
      refine ⟨rfl, ?_⟩
      wtm_at "g_go"
      rename_i H9 kt o9
      have g1 : H9 kk = some (.tup [.int y.1.1, .int y.1.2]) := Own.get' (o9.pick (P := ro kk (.tup [.int y.1.1, .int y.1.2])) (by wtm_at "g_pk"))
      have g2 : H9 kt = some (.tup [.int x.1, .int x.2]) := Own.get' o9
      refine w_neD (dp_ky (SqT.of' g1)) (dp_ky (SqT.of' g2)) shaped_ky shaped_ky ?_
      rw [eqv_ky]
      have o10 : Own (X :: cell true l (.lst (ts.map V.ref)) :: big RwP ts xs :: big RwP ts xs :: PfP K pf x :: TbP K p (.nd w lt rt) :: Drw s :: R) H9 := by wtm_at "g_own"
      have e : decide ((y.1.1, y.1.2) = (x.1, x.2)) = decide (y.1 = x) := rfl
      rw [e]
      refine ⟨_, rfl, ?_⟩
      refine if_b (fun hb1 => ?_) (fun hb1 => ?_)
      · wtm_at "g_go"
        exact h1 hb1 _ o10
      · exact h0 hb1 _ o10
    have hno : lkT (bitsX x) (.nd w lt rt) = none ↔ atO xs x = none := by
      constructor
      · intro h1
        cases h2 : atO xs x with
        | none => rfl
        | some j =>
          obtain ⟨y, _, h3⟩ := at_some hr h2
          rw [h1] at h3
          cases h3
      · exact at_none hr ok
    have hfl : (xs.filter fun y => !decide (y.1 = x)).length ≤ xs.length := List.length_filter_le _ _
    generalize hys : (xs.filter fun y => !decide (y.1 = x)) = ys at o8 ul hfl
    wtm_at "g_go"
    rename_i d H9 d0 d1 o9
    refine if_d (fun h2 => ?_) (fun h2 => ?_)
    · wtm_at "g_go"
      refine ⟨p, pf, x, w, lt, rt, _, rfl, ok, o9.take2 (by wtm_at "g_pk") (by wtm_at "g_pk"), fun H10 w' l' r' hd hl o10 => ?_⟩
      have hrm := rel_rm hr ok hd hl
      rw [hys] at hrm
      have fin : Q (.ref lq) H10 := q H10 lq w' l' r' ys (by omega) hrm (rws_in (by
        have := Own.toRo (o10.pick (P := pt lq (.lst (us.map V.ref))) (by wtm_at "g_pk"))
        have := rws_in (ts := ts) (xs := xs) (l := l) (this.sel (Sel.cons (by wtm_at "g_pk") (Sel.cons (by wtm_at "g_pk") Sel.rf)))
        wtm_at "g_own"))
      cases hat : atO xs x with
      | none =>
        rw [hno.mpr hat]
        wtm_at "g_go"
        rw [if_neg (by simp [atV])]
        wtm_at "g_go"
        exact fin
      | some j =>
        obtain ⟨y, _, hy⟩ := at_some hr hat
        rw [hy]
        wtm_at "g_go"
        rw [if_neg (by simp [atV])]
        wtm_at "g_go"
        exact fin
    · wtm_at "g_go"
      rename_i i H10 i0 i1 o10
      refine ⟨p, pf, x, i, w, lt, rt, _, rfl, ok, o10.take2 (by wtm_at "g_pk") (by wtm_at "g_pk"), fun H11 o11 => ?_⟩
      have hrp := rel_put (i := i) hr ok
      obtain ⟨w', l', r', e⟩ := put_nd (bs := bitsX x) (i := i) (w := w) (l := lt) (r := rt)
      have e' : putT (bitsA x.1 x.2.toNat) i (.nd w lt rt) = .nd w' l' r' := e
      rw [hys, e] at hrp
      rw [e'] at o11
      wtm_at "g_go"
      rename_i t H13 o13 q1 H14 o14 q2 H15 o15
      refine q H15 q2 w' l' r' (ys ++ [(x, i)]) (by rw [List.length_append]; simp only [List.length_cons, List.length_nil]; omega) hrp (rws_in (ts := us ++ [t]) (Own.toRo ?_))
      have a1 := rw_in (x := (x, i)) (o15.pick (P := ro t _) (by wtm_at "g_pk") |>.sel (Sel.cons .here (Sel.cons (P := ro _ (.tup [.int x.1, .int x.2])) (by wtm_at "g_pk") Sel.rf)))
      have a2 := rws_in (ts := ts) (xs := xs) (l := l) (a1.sel (Sel.cons (by wtm_at "g_pk") (Sel.cons (by wtm_at "g_pk") Sel.rf)))
      have a3 := Own.bigSnoc (f := RwP) (as := us) (bs := ys) (a2.sel (Sel.cons (by wtm_at "g_pk") (Sel.cons (P := RwP t (x, i)) (by wtm_at "g_pk") Sel.rf)))
      wtm_at "g_own"
  wtm_at "g_go"
  refine ⟨s, _, rfl, o.pick (P := Drw s) (by wtm_at "g_pk"), fun H1 pf x ok o1 => ?_⟩
  obtain ⟨ts, o2⟩ := rws_out (o1.pick (P := RwsP l xs) (by wtm_at "g_pk"))
  have tlen := o2.tail.bigLen
  have old : ∀ {H2}, Own (ro l (.lst (ts.map V.ref)) :: big RwP ts xs :: PfP K pf x :: Drw s :: TbP K p (.nd w lt rt) :: RwsP l xs :: R) H2 → Own (PfP K pf x :: TbP K p (.nd w lt rt) :: RwsP l xs :: Drw s :: R) H2 := fun o => by wtm_at "g_own"
  wtm_at "g_go"
  refine if_d (fun h1 => ?_) (fun h1 => ?_)
  · wtm_at "g_go"
    rename_i d H2 d0 d1 o3
    refine if_d (fun h2 => ?_) (fun h2 => ?_)
    · wtm_at "g_go"
      rename_i d3 H3 d4 d5 o4
      obtain ⟨j, rfl⟩ : ∃ j : Nat, d3 = j := ⟨d3.toNat, by omega⟩
      obtain ⟨t, ht⟩ : ∃ t, ts[j]? = some t := ⟨_, List.getElem?_eq_getElem (by omega)⟩
      obtain ⟨y, hy⟩ := aol ht tlen
      have hsq : SqL K H3 l (ts.map V.ref) := by wtm_at "g_sq"
      obtain ⟨kk, g1, g2⟩ := o4.tail.tail.bigTell ht hy tell_rw
      refine w_ixL (v := .ref t) hsq (atI_nat (by rw [List.getElem?_map, ht]; rfl)) ?_
      wtm_at "g_go"
      rename_i p2 dx2 H4 o5
      have oky := hr.ok y (List.mem_of_getElem? hy)
      refine c_pf oky o5 .here fun H5 o6 => ?_
      wtm_at "g_st"
      exact key p2 y.1 (some (.ref kk)) H5 oky (by wtm_at "g_own")
    · exact key pf x _ _ ok (old (by wtm_at "g_own"))
  · exact key pf x _ _ ok (old o2)
end
section
variable {K : PySem.W.Frag} {mg : Str → Option Value} {base : Heap}
theorem rw_dp : ∀ t x, Tell (RwP t x) fun H => Dp K H (.ref t) (rdat x) := fun t x h w H e => by
  obtain ⟨k, g1, g2⟩ := tell_rw h w H e
  exact .tup (SqT.of' g1) (.cons (.tup (SqT.of' g2) (.cons (.int _) (.cons (.int _) .nil))) (.cons (.int _) .nil))
theorem shaped_rs {xs : List (Px × Int)} : SeqAt.shaped (.list (xs.map rdat)) = true := shaped_lm (fun x _ => by simp [rdat, PyData.canLay0, PyData.canLayAll0]) (fun x _ => by simp [rdat, PyData.depth, PyData.depthAll])
theorem ok_span {k : Px} (h : Ok k) : k.1 + sn k.2 ≤ 65536 := by
  have := h.inr.b2
  rw [sn_zero] at this
  omega
theorem pure_law_agrees (T : TX K mg base) (vs : List V) (H : Hp) (Q : VK) (E : XK) (h : sp_law_agrees K vs H Q E) : t_law_agrees K E { nx := fun _ H' => Q .non H', rt := Q } (start N_law_agrees vs) H := by
  obtain ⟨p, l, s, w, lt, rt, xs, R, rfl, h1000, hr, o, q⟩ := h
  have hd := hr.dep
  have hlen := hr.len
  unfold t_law_agrees
  wtm_at "g_go"
  refine ⟨p, w, lt, rt, _, rfl, hd, by omega, o, fun H1 e as o1 => ?_⟩
  wtm_at "g_go"
  refine lcBig (F := EnP K) (fun _ => true) id RwP (by omega) o1 .here .here (fun i a x H2 X Y B0 B1 ha hx o2 h0 h1 => ?_) fun D ts H2 o2 => ?_
  · obtain ⟨pf, o3⟩ := en_out ((o2.pick (.next (.next (.next .here)))).bigAt ha hx)
    wtm_at "g_go"
    refine ⟨rfl, ?_⟩
    wtm_at "g_go"
    rename_i H3 kt o4 t H4 o5
    have o6 := rw_in (x := x) o5
    refine h1 rfl H4 t ?_
    show Own (RwP t x :: _) H4
    wtm_at "g_own"
  rw [filter_tt, List.map_id] at o2
  have o3 : Own (TbP K p (.nd w lt rt) :: pt D (.lst (ts.map V.ref)) :: big RwP ts (ents (.nd w lt rt) 0 0) :: RwsP l xs :: Drw s :: R) H2 := by wtm_at "g_own"
  obtain ⟨us, o4⟩ := rws_out (o3.pick (P := RwsP l xs) (by wtm_at "g_pk"))
  wtm_at "g_go"
  refine k_sortN (F := RwP) (dv := rdat) rw_dp rdat_alike (fun x => ⟨_, _, rfl⟩) (fun x => by simp [rdat, PyData.depth, PyData.depthAll]) o4 (c := true) (l := l) .here .keep fun D2 ts2 H3 o5 => ?_
  rw [sorted_rows hr] at o5
  have d1 : DpAll K H3 (ts.map V.ref) ((ents (.nd w lt rt) 0 0).map rdat) := dp_rows (f := RwP) (dv := rdat) rw_dp (o5.pick (P := big RwP ts (ents (.nd w lt rt) 0 0)) (by wtm_at "g_pk"))
  have d2 : DpAll K H3 (ts2.map V.ref) ((ents (.nd w lt rt) 0 0).map rdat) := dp_rows (f := RwP) (dv := rdat) rw_dp (o5.pick (P := big RwP ts2 (ents (.nd w lt rt) 0 0)) (by wtm_at "g_pk"))
  refine w_neS' (.lst (by wtm_at "g_sq") d1) (.lst (by wtm_at "g_sq") d2) shaped_rs ?_
  have o6 : Own (ro l (.lst (us.map V.ref)) :: big RwP us xs :: TbP K p (.nd w lt rt) :: RwsP l xs :: Drw s :: R) H3 := by wtm_at "g_own"
  clear d1 d2 o5 o4 o3 o2 o1 o
  have ulen := o6.tail.bigLen
  wtm_at "g_go"
  rename_i d H4 d0 d1 o7 q0 H5 o8 q1 H6 o9
  have o10 : Own (pt q0 (.lst [V.int d, .int 0, .int 65535]) :: pt q1 (.lst ((us.take 6).map V.ref)) :: big RwP us xs :: TbP K p (.nd w lt rt) :: RwsP l xs :: Drw s :: R) H6 := by
    have : Own (pt q1 (.lst ((us.take 6).map V.ref)) :: _) H6 := o9
    wtm_at "g_own"
  clear o9 o8 o7 o6
  refine loopLO (xs := (us.take 6).map V.ref) (fun i σ L => ∃ (q2 : Addr) (ns : List Int) (v7 v8 v9 : Option V), σ = [some (.ref p), some (.ref l), some (.ref s), some (.ref D), none, none, some (.ref q2), v7, v8, v9, none, none] ∧ (∀ n ∈ ns, 0 ≤ n ∧ n < 65536) ∧ ns.length = 3 + 4 * i ∧
    L = pt q2 (.lst (ns.map V.int)) :: pt q1 (.lst ((us.take 6).map V.ref)) :: big RwP us xs :: TbP K p (.nd w lt rt) :: RwsP l xs :: Drw s :: R) o10 ⟨q0, [d, 0, 65535], _, _, _, rfl, ?_, rfl, rfl⟩ (fun i σ L h => by obtain ⟨_, _, _, _, _, _, _, _, rfl⟩ := h; exact .next .here) ?_ ?_
  · intro n hn
    simp only [List.mem_cons, List.not_mem_nil, or_false] at hn
    omega
  · rintro i z σ L H7 hz ⟨q2, ns, v7, v8, v9, rfl, hn, hl, rfl⟩ o11
    obtain ⟨t, ht', rfl⟩ := mra hz
    have ht : us[i]? = some t := by
      rw [List.getElem?_take] at ht'
      split at ht'
      · exact ht'
      · cases ht'
    obtain ⟨y, hy⟩ := aol ht ulen
    have hil := (List.getElem?_eq_some_iff.mp ht').1
    rw [List.length_take] at hil
    have oky := hr.ok y (List.mem_of_getElem? hy)
    have hsp := ok_span oky
    obtain ⟨y0, y1, y2, y3, _⟩ := oky
    obtain ⟨k, g1, g2⟩ := (o11.pick (P := big RwP us xs) (by wtm_at "g_pk")).bigTell ht hy tell_rw
    wtm_at "g_go"
    rename_i q3 H8 o12
    have sp : 0 < sn y.1.2 := sn_pos
    refine ⟨_, ⟨q3, ns ++ [y.1.1, y.1.1 + sn y.1.2 - 1, (y.1.1 + sn y.1.2 - 1 + 1) % 65536, (y.1.1 + 65535) % 65536], _, _, _, rfl, fun n hn' => ?_, by rw [List.length_append, hl]; simp only [List.length_cons, List.length_nil]; omega, rfl⟩, ?_⟩
    · rcases List.mem_append.mp hn' with h | h
      · exact hn n h
      · simp only [List.mem_cons, List.not_mem_nil, or_false] at h
        omega
    · rw [List.map_append]
      have : Own (pt q3 (.lst (ns.map V.int ++ [y.1.1, y.1.1 + sn y.1.2 - 1, (y.1.1 + sn y.1.2 - 1 + 1) % 65536, (y.1.1 + 65535) % 65536].map V.int)) :: _) H8 := o12
      wtm_at "g_own"
  · rintro σ L H7 ⟨q2, ns, v7, v8, v9, rfl, hn, hl, rfl⟩ o11
    rw [List.length_map, List.length_take] at hl
    have o12 : Own (pt q2 (.lst (ns.map V.int)) :: TbP K p (.nd w lt rt) :: RwsP l xs :: Drw s :: R) H7 := by wtm_at "g_own"
    clear o11 o10
    wtm_at "g_go"
    refine loopLO (xs := ns.map V.int) (fun i σ L => ∃ v10, σ = [some (.ref p), some (.ref l), some (.ref s), some (.ref D), none, none, some (.ref q2), v7, v8, v9, v10, none] ∧ L = pt q2 (.lst (ns.map V.int)) :: TbP K p (.nd w lt rt) :: RwsP l xs :: Drw s :: R) o12 ⟨_, rfl, rfl⟩ (fun i σ L h => by obtain ⟨_, _, rfl⟩ := h; exact .here) ?_ ?_
    · rintro i z σ L H8 hz ⟨v10, rfl, rfl⟩ o13
      rw [List.getElem?_map] at hz
      cases ha : ns[i]? with
      | none => rw [ha] at hz; cases hz
      | some a =>
        rw [ha] at hz
        cases hz
        obtain ⟨a0, a1⟩ := hn a (List.mem_of_getElem? ha)
        wtm_at "g_go"
        refine ⟨p, a, w, lt, rt, _, rfl, a0, o13.pick (P := TbP K p (.nd w lt rt)) (by wtm_at "g_pk"), ?_⟩
        wtm_at "g_go"
        refine ⟨l, a, xs, _, rfl, h1000, hr.ok, o13.pick (P := RwsP l xs) (by wtm_at "g_pk"), fun H9 o14 => ?_⟩
        rw [find_best hr a0 a1]
        have o15 : Own (pt q2 (.lst (ns.map V.int)) :: TbP K p (.nd w lt rt) :: RwsP l xs :: Drw s :: R) H9 := by wtm_at "g_own"
        clear o14
        generalize (bestR none xs a).map (·.2) = z
        cases z with
        | none =>
          rw [show wv none = V.non from rfl]
          refine ⟨rfl, ?_⟩
          refine ⟨_, rfl, ?_⟩
          rw [if_neg (by simp)]
          exact ⟨_, ⟨_, rfl, rfl⟩, o15⟩
        | some z =>
          rw [show wv (some z) = V.int z from rfl]
          wtm_at "g_go"
          refine if_nno rfl ?_
          wtm_at "g_go"
          exact ⟨_, ⟨_, rfl, rfl⟩, o15⟩
    · rintro σ L H8 ⟨v10, rfl, rfl⟩ o13
      wtm_at "g_go"
      refine ⟨s, _, rfl, o13.pick (P := Drw s) (by wtm_at "g_pk"), fun H9 pf x ok o14 => ?_⟩
      wtm_at "g_go"
      rename_i H10 kt o15
      have o16 : Own (RwsP l xs :: KyP kt x :: TbP K p (.nd w lt rt) :: PfP K pf x :: Drw s :: R) H10 := by wtm_at "g_own"
      clear o15 o14 o13 o12
      refine ⟨l, kt, xs, x, _, rfl, h1000, o16, fun H11 o17 => ?_⟩
      have o18 : Own (TbP K p (.nd w lt rt) :: PfP K pf x :: RwsP l xs :: Drw s :: R) H11 := by wtm_at "g_own"
      clear o17 o16
      cases hat : atO xs x with
      | none =>
        have hl := at_none hr ok hat
        wtm_at "g_go"
        refine if_yes rfl ?_
        wtm_at "g_go"
        refine ⟨p, pf, x, w, lt, rt, _, rfl, ok, o18, fun H12 o19 => ?_⟩
        rw [hl]
        wtm_at "g_go"
        exact q _ (by wtm_at "g_own")
      | some j =>
        obtain ⟨y, hy, hl⟩ := at_some hr hat
        wtm_at "g_go"
        refine if_no (fun e => nomatch e) ?_
        wtm_at "g_go"
        refine ⟨p, pf, x, w, lt, rt, _, rfl, ok, o18, fun H12 o19 => ?_⟩
        rw [hl, show wv (some y.2) = V.int y.2 from rfl]
        have o20 : Own (RwsP l xs :: TbP K p (.nd w lt rt) :: RwsP l xs :: Drw s :: R) H12 := by wtm_at "g_own"
        clear o19 o18
        obtain ⟨us, o21⟩ := rws_out o20
        obtain ⟨t, ht⟩ : ∃ t, us[j]? = some t := ⟨_, List.getElem?_eq_getElem (by rw [o21.tail.bigLen]; exact (List.getElem?_eq_some_iff.mp hy).1)⟩
        obtain ⟨k, g1, g2⟩ := o21.tail.bigTell ht hy tell_rw
        have hsq : SqL K H12 l (us.map V.ref) := by wtm_at "g_sq"
        wtm_at "g_go"
        rw [show atV (some j) = V.int (j : Int) from rfl]
        refine w_ixL (v := .ref t) hsq (atI_nat (by rw [List.getElem?_map, ht]; rfl)) ?_
        wtm_at "g_go"
        rw [decide_eq_true (rfl : y.2 = y.2)]
        exact q _ (by wtm_at "g_own")
end
section
variable {K : PySem.W.Frag} {mg : Str → Option Value} {base : Heap}
/-- the table beside: none, or a table -/
def BsP (K : PySem.W.Frag) : Option (Addr × Tr) → HP
  | none => hpu True
  | some (q, t) => TbP K q t
def bsV : Option (Addr × Tr) → V
  | none => .non
  | some (q, _) => .ref q
theorem pure_law (T : TX K mg base) (vs : List V) (H : Hp) (Q : VK) (E : XK) (h : sp_law K vs H Q E) : t_law K E { nx := fun _ H' => Q .non H', rt := Q } (start N_law vs) H := by
  obtain ⟨a, ns, rfl, w, hl, q⟩ := h
  unfold t_law
  wtm_at "g_go"
  rename_i p dp H1 o1
  refine ⟨p, dp, _, rfl, o1, fun H2 o2 => ?_⟩
  wtm_at "g_go"
  rename_i l H3 o3 m H4 o4
  have o5 : Own (BsP K none :: TbP K p (.nd none .nil .nil) :: RwsP l [] :: RwsP m [] :: ScP K a (ns.map V.int) :: []) H4 := by
    have e1 := rws_in (ts := []) (xs := []) (l := m) ((Own.bigNil (f := RwP) (Own.toRo o4)).sel (Sel.cons (.next .here) (Sel.cons .here Sel.rf)))
    have e2 := rws_in (ts := []) (xs := []) (l := l) ((Own.bigNil (f := RwP) (Own.toRo (e1.pick (P := pt l (.lst [])) (by wtm_at "g_pk")))).sel (Sel.cons (.next .here) (Sel.cons .here Sel.rf)))
    have e3 : Own (hpu True :: RwsP l [] :: _) H4 := Own.pui trivial e2
    have e4 : Own (BsP K none :: RwsP l [] :: _) H4 := e3
    wtm_at "g_own"
  clear o4 o3 o2 o1
  refine loop1O (n := min 60 (1 + ns.length)) (fun k σ L => ∃ l m xs ys w lt rt bo v5 v6, σ = [some (.ref a), some (.ref p), some (.ref l), some (bsV bo), some (.ref m), v5, v6] ∧ xs.length ≤ k ∧ ys.length ≤ k ∧ Rel (.nd w lt rt) xs ∧ (∀ q t, bo = some (q, t) → Rel t ys ∧ ∃ w l r, t = .nd w l r) ∧
    L = BsP K bo :: TbP K p (.nd w lt rt) :: RwsP l xs :: RwsP m ys :: ScP K a (ns.map V.int) :: []) o5 ?_ (by omega) ⟨l, m, [], [], none, .nil, .nil, none, _, _, rfl, Nat.le_refl _, Nat.le_refl _, rel_nil, fun q t e => (nomatch e), rfl⟩ ?_ ?_
  · try rw [List.length_map]
    split <;> omega
  · rintro k σ L H5 hk ⟨l, m, xs, ys, w, lt, rt, bo, v5, v6, rfl, hx, hy, hr, hB, rfl⟩ o6
    wtm_at "g_go"
    rename_i _ st H6 o7
    have o8 : Own (TbP K p (.nd w lt rt) :: RwsP l xs :: Drw st :: BsP K bo :: RwsP m ys :: ScP K a (ns.map V.int) :: []) H6 := by wtm_at "g_own"
    clear o7 o6
    refine ⟨p, l, st, w, lt, rt, xs, _, rfl, by omega, hr, o8, fun H7 l2 w2 lt2 rt2 xs2 hx2 hr2 o9 => ?_⟩
    wtm_at "g_go"
    have o10 : Own (TbP K p (.nd w2 lt2 rt2) :: RwsP l2 xs2 :: Drw st :: BsP K bo :: RwsP m ys :: ScP K a (ns.map V.int) :: []) H7 := by wtm_at "g_own"
    clear o9 o8
    refine ⟨p, l2, st, w2, lt2, rt2, xs2, _, rfl, by omega, hr2, o10, fun H8 o11 => ?_⟩
    clear o10
    wtm_at "g_go"
    refine if_d (fun hc => ?_) (fun hc => ?_)
    · wtm_at "g_go"
      refine ⟨p, w2, lt2, rt2, _, rfl, hr2.dep, o11, fun H9 q o12 => ?_⟩
      wtm_at "g_go"
      have o13 : Own (TbP K q (.nd w2 lt2 rt2) :: RwsP l2 xs2 :: Drw st :: TbP K p (.nd w2 lt2 rt2) :: ScP K a (ns.map V.int) :: []) H9 := by wtm_at "g_own"
      clear o12 o11
      refine ⟨q, l2, st, w2, lt2, rt2, xs2, _, rfl, by omega, hr2, o13, fun H10 o14 => ?_⟩
      wtm_at "g_go"
      refine ⟨_, ⟨l2, l2, xs2, xs2, w2, lt2, rt2, some (q, .nd w2 lt2 rt2), _, _, rfl, by omega, by omega, hr2, fun q' t e => by cases e; exact ⟨hr2, _, _, _, rfl⟩, rfl⟩, ?_⟩
      show Own (TbP K q (.nd w2 lt2 rt2) :: _) H10
      wtm_at "g_own"
    · cases bo with
      | none =>
        rw [show bsV none = V.non from rfl]
        wtm_at "g_go"
        exact ⟨_, ⟨l2, m, xs2, ys, w2, lt2, rt2, none, _, _, rfl, by omega, by omega, hr2, hB, rfl⟩, by wtm_at "g_own"⟩
      | some qt =>
        obtain ⟨q, t⟩ := qt
        obtain ⟨hb, w3, l3, r3, rfl⟩ := hB q t rfl
        rw [show bsV (some (q, .nd w3 l3 r3)) = V.ref q from rfl]
        have o12 : Own (TbP K p (.nd w2 lt2 rt2) :: RwsP l2 xs2 :: Drw st :: TbP K q (.nd w3 l3 r3) :: RwsP m ys :: ScP K a (ns.map V.int) :: []) H8 := o11
        clear o11
        wtm_at "g_go"
        rename_i d H9 d0 d1 o13
        have o14 : Own (TbP K q (.nd w3 l3 r3) :: RwsP m ys :: Drw st :: TbP K p (.nd w2 lt2 rt2) :: RwsP l2 xs2 :: ScP K a (ns.map V.int) :: []) H9 := by wtm_at "g_own"
        clear o13 o12
        refine if_d (fun h2 => ?_) (fun h2 => ?_)
        · wtm_at "g_go"
          refine ⟨q, m, st, w3, l3, r3, ys, _, rfl, by omega, hb, o14, fun H10 m4 w4 l4 r4 ys4 hy4 hb4 o15 => ?_⟩
          wtm_at "g_go"
          have o16 : Own (TbP K q (.nd w4 l4 r4) :: RwsP m4 ys4 :: Drw st :: TbP K p (.nd w2 lt2 rt2) :: RwsP l2 xs2 :: ScP K a (ns.map V.int) :: []) H10 := by wtm_at "g_own"
          clear o15 o14
          refine ⟨q, m4, st, w4, l4, r4, ys4, _, rfl, by omega, hb4, o16, fun H11 o17 => ?_⟩
          wtm_at "g_go"
          refine ⟨_, ⟨l2, m4, xs2, ys4, w2, lt2, rt2, some (q, .nd w4 l4 r4), _, _, rfl, by omega, by omega, hr2, fun q' t e => by cases e; exact ⟨hb4, _, _, _, rfl⟩, rfl⟩, ?_⟩
          show Own (TbP K q (.nd w4 l4 r4) :: _) H11
          wtm_at "g_own"
        · wtm_at "g_go"
          refine ⟨q, m, st, w3, l3, r3, ys, _, rfl, by omega, hb, o14, fun H11 o17 => ?_⟩
          wtm_at "g_go"
          refine ⟨_, ⟨l2, m, xs2, ys, w2, lt2, rt2, some (q, .nd w3 l3 r3), _, _, rfl, by omega, by omega, hr2, hB, rfl⟩, ?_⟩
          show Own (TbP K q (.nd w3 l3 r3) :: _) H11
          wtm_at "g_own"
  · rintro σ L H5 ⟨l, m, xs, ys, w, lt, rt, bo, v5, v6, rfl, hx, hy, hr, hB, rfl⟩ o6
    wtm_at "g_go"
    exact q _
end
end K74

namespace K74
open PySem PySem.Spec PyProof.Rows L2 G
section
variable {P : Program} {w : World} {K : PySem.W.Frag} {mg : Str → Option Value} {base : Heap}

theorem len_span_of {K : PySem.W.Frag} : ∀ vs H Q E, sp_span_of K vs H Q E → vs.length = (P_span_of : List Str).length := by
  intro vs H Q E h
  repeat first | (obtain ⟨rfl, _⟩ := h; rfl) | obtain ⟨_, h⟩ := h
theorem has_span_of (T : TX K mg base) : Has P w K mg base 1 "span_of" P_span_of (sp_span_of K) :=
  mk_has (T.glo 10) (T.says.def_ 0) sc_span_of (fun _ _ _ _ _ _ us hl => match us, hl with | [_], _ => rfl) len_span_of
    fun cdv A outer s H vs Q E hr h => ⟨t_span_of K E, d_span_of T  hr, pure_span_of T vs H Q E h⟩

theorem len_bit_of {K : PySem.W.Frag} : ∀ vs H Q E, sp_bit_of K vs H Q E → vs.length = (P_bit_of : List Str).length := by
  intro vs H Q E h
  repeat first | (obtain ⟨rfl, _⟩ := h; rfl) | obtain ⟨_, h⟩ := h
theorem has_bit_of (T : TX K mg base) : Has P w K mg base 2 "bit_of" P_bit_of (sp_bit_of K) :=
  mk_has (T.glo 11) (T.says.def_ 1) sc_bit_of (fun _ _ _ _ _ _ us hl => match us, hl with | [_, _], _ => rfl) len_bit_of
    fun cdv A outer s H vs Q E hr h => ⟨t_bit_of K E, d_bit_of T (has_span_of T) hr, pure_bit_of T vs H Q E h⟩

theorem len_Prefix_init {K : PySem.W.Frag} : ∀ vs H Q E, sp_Prefix_init K vs H Q E → vs.length = (P_Prefix_init : List Str).length := by
  intro vs H Q E h
  repeat first | (obtain ⟨rfl, _⟩ := h; rfl) | obtain ⟨_, h⟩ := h
theorem has_Prefix_init (T : TX K mg base) : HasI P w K mg base 2 "Prefix" P_Prefix_init (sp_Prefix_init K) :=
  mk_hasI (T.glo 12) (T.mkr 13) (T.says.def_ 2) sc_Prefix_init (fun _ _ _ _ _ _ us hl => match us, hl with | [_, _, _], _ => rfl) len_Prefix_init
    fun cdv A outer s H vs Q E hr h => ⟨t_Prefix_init K E, d_Prefix_init T (has_span_of T) hr, pure_Prefix_init T vs H Q E h⟩

theorem len_Prefix_pair {K : PySem.W.Frag} : ∀ vs H Q E, sp_Prefix_pair K vs H Q E → vs.length = (P_Prefix_pair : List Str).length := by
  intro vs H Q E h
  repeat first | (obtain ⟨rfl, _⟩ := h; rfl) | obtain ⟨_, h⟩ := h
theorem has_Prefix_pair (T : TX K mg base) : HasM P w K mg base 1 "Prefix" "pair" P_Prefix_pair (sp_Prefix_pair K) :=
  mk_hasM (T.cls 14) (T.meth 15) (T.says.def_ 3) sc_Prefix_pair (fun _ _ _ _ _ _ us hl => match us, hl with | [_], _ => rfl) len_Prefix_pair
    fun cdv A outer s H vs Q E hr h => ⟨t_Prefix_pair K E, d_Prefix_pair T  hr, pure_Prefix_pair T vs H Q E h⟩

theorem len_Node_init {K : PySem.W.Frag} : ∀ vs H Q E, sp_Node_init K vs H Q E → vs.length = (P_Node_init : List Str).length := by
  intro vs H Q E h
  repeat first | (obtain ⟨rfl, _⟩ := h; rfl) | obtain ⟨_, h⟩ := h
theorem has_Node_init (T : TX K mg base) : HasI P w K mg base 1 "Node" P_Node_init (sp_Node_init K) :=
  mk_hasI (T.glo 16) (T.mkr 17) (T.says.def_ 4) sc_Node_init (fun _ _ _ _ _ _ us hl => match us, hl with | [_], _ => rfl) len_Node_init
    fun cdv A outer s H vs Q E hr h => ⟨t_Node_init K E, d_Node_init T  hr, pure_Node_init T vs H Q E h⟩

theorem len_Node_is_empty {K : PySem.W.Frag} : ∀ vs H Q E, sp_Node_is_empty K vs H Q E → vs.length = (P_Node_is_empty : List Str).length := by
  intro vs H Q E h
  repeat first | (obtain ⟨rfl, _⟩ := h; rfl) | obtain ⟨_, h⟩ := h
theorem has_Node_is_empty (T : TX K mg base) : HasM P w K mg base 1 "Node" "is_empty" P_Node_is_empty (sp_Node_is_empty K) :=
  mk_hasM (T.cls 18) (T.meth 19) (T.says.def_ 5) sc_Node_is_empty (fun _ _ _ _ _ _ us hl => match us, hl with | [_], _ => rfl) len_Node_is_empty
    fun cdv A outer s H vs Q E hr h => ⟨t_Node_is_empty K E, d_Node_is_empty T  hr, pure_Node_is_empty T vs H Q E h⟩

theorem len_Node_fork {K : PySem.W.Frag} {dd : Nat} : ∀ vs H Q E, sp_Node_fork K dd vs H Q E → vs.length = (P_Node_fork : List Str).length := by
  intro vs H Q E h
  repeat first | (obtain ⟨rfl, _⟩ := h; rfl) | obtain ⟨_, h⟩ := h
theorem has_Node_fork (T : TX K mg base) : ∀ dd, HasM P w K mg base (3 + dd) "Node" "fork" P_Node_fork (sp_Node_fork K dd)
  | 0 => mk_hasM (T.cls 18) (T.meth 20) (T.says.def_ 6) sc_Node_fork (fun _ _ _ _ _ _ us hl => match us, hl with | [_], _ => rfl) len_Node_fork fun cdv A outer s H vs Q E hr h => (no_Node_fork h).elim
  | dd + 1 => mk_hasM (T.cls 18) (T.meth 20) (T.says.def_ 6) sc_Node_fork (fun _ _ _ _ _ _ us hl => match us, hl with | [_], _ => rfl) len_Node_fork fun cdv A outer s H vs Q E hr h => ⟨t_Node_fork K dd E, d_Node_fork T (has_Node_init T) (has_Node_fork T dd) hr, pure_Node_fork T dd vs H Q E h⟩

theorem len_prune {K : PySem.W.Frag} : ∀ vs H Q E, sp_prune K vs H Q E → vs.length = (P_prune : List Str).length := by
  intro vs H Q E h
  repeat first | (obtain ⟨rfl, _⟩ := h; rfl) | obtain ⟨_, h⟩ := h
theorem has_prune (T : TX K mg base) : Has P w K mg base 2 "prune" P_prune (sp_prune K) :=
  mk_has (T.glo 21) (T.says.def_ 7) sc_prune (fun _ _ _ _ _ _ us hl => match us, hl with | [_, _], _ => rfl) len_prune
    fun cdv A outer s H vs Q E hr h => ⟨t_prune K E, d_prune T (has_Node_is_empty T) hr, pure_prune T vs H Q E h⟩

theorem len_list_below {K : PySem.W.Frag} {dd : Nat} : ∀ vs H Q E, sp_list_below K dd vs H Q E → vs.length = (P_list_below : List Str).length := by
  intro vs H Q E h
  repeat first | (obtain ⟨rfl, _⟩ := h; rfl) | obtain ⟨_, h⟩ := h
theorem has_list_below (T : TX K mg base) : ∀ dd, Has P w K mg base (4 + dd) "list_below" P_list_below (sp_list_below K dd)
  | 0 => mk_has (T.glo 22) (T.says.def_ 8) sc_list_below (fun _ _ _ _ _ _ us hl => match us, hl with | [_, _, _, _], _ => rfl) len_list_below fun cdv A outer s H vs Q E hr h => (no_list_below h).elim
  | dd + 1 => mk_has (T.glo 22) (T.says.def_ 8) sc_list_below (fun _ _ _ _ _ _ us hl => match us, hl with | [_, _, _, _], _ => rfl) len_list_below fun cdv A outer s H vs Q E hr h => ⟨t_list_below K dd E, d_list_below T (has_Prefix_init T) (has_list_below T dd) (has_span_of T) hr, pure_list_below T dd vs H Q E h⟩

theorem len_Table_init {K : PySem.W.Frag} : ∀ vs H Q E, sp_Table_init K vs H Q E → vs.length = (P_Table_init : List Str).length := by
  intro vs H Q E h
  repeat first | (obtain ⟨rfl, _⟩ := h; rfl) | obtain ⟨_, h⟩ := h
theorem has_Table_init (T : TX K mg base) : HasI P w K mg base 3 "Table" P_Table_init (sp_Table_init K) :=
  mk_hasI (T.glo 23) (T.mkr 24) (T.says.def_ 9) sc_Table_init (fun _ _ _ _ _ _ us hl => match us, hl with | [_], _ => rfl) len_Table_init
    fun cdv A outer s H vs Q E hr h => ⟨t_Table_init K E, d_Table_init T (has_Node_init T) hr, pure_Table_init T vs H Q E h⟩

theorem len_Table_path {K : PySem.W.Frag} : ∀ vs H Q E, sp_Table_path K vs H Q E → vs.length = (P_Table_path : List Str).length := by
  intro vs H Q E h
  repeat first | (obtain ⟨rfl, _⟩ := h; rfl) | obtain ⟨_, h⟩ := h
theorem has_Table_path (T : TX K mg base) : HasM P w K mg base 3 "Table" "path" P_Table_path (sp_Table_path K) :=
  mk_hasM (T.cls 25) (T.meth 26) (T.says.def_ 10) sc_Table_path (fun _ _ _ _ _ _ us hl => match us, hl with | [_, _], _ => rfl) len_Table_path
    fun cdv A outer s H vs Q E hr h => ⟨t_Table_path K E, d_Table_path T (has_bit_of T) hr, pure_Table_path T vs H Q E h⟩

theorem len_Table_put {K : PySem.W.Frag} : ∀ vs H Q E, sp_Table_put K vs H Q E → vs.length = (P_Table_put : List Str).length := by
  intro vs H Q E h
  repeat first | (obtain ⟨rfl, _⟩ := h; rfl) | obtain ⟨_, h⟩ := h
theorem has_Table_put (T : TX K mg base) : HasM P w K mg base 4 "Table" "put" P_Table_put (sp_Table_put K) :=
  mk_hasM (T.cls 25) (T.meth 27) (T.says.def_ 11) sc_Table_put (fun _ _ _ _ _ _ us hl => match us, hl with | [_, _, _], _ => rfl) len_Table_put
    fun cdv A outer s H vs Q E hr h => ⟨t_Table_put K E, d_Table_put T (has_Table_path T) (has_Node_init T) (has_bit_of T) hr, pure_Table_put T vs H Q E h⟩

theorem len_Table_drop {K : PySem.W.Frag} : ∀ vs H Q E, sp_Table_drop K vs H Q E → vs.length = (P_Table_drop : List Str).length := by
  intro vs H Q E h
  repeat first | (obtain ⟨rfl, _⟩ := h; rfl) | obtain ⟨_, h⟩ := h
theorem has_Table_drop (T : TX K mg base) : HasM P w K mg base 4 "Table" "drop" P_Table_drop (sp_Table_drop K) :=
  mk_hasM (T.cls 25) (T.meth 28) (T.says.def_ 12) sc_Table_drop (fun _ _ _ _ _ _ us hl => match us, hl with | [_, _], _ => rfl) len_Table_drop
    fun cdv A outer s H vs Q E hr h => ⟨t_Table_drop K E, d_Table_drop T (has_Table_path T) (has_prune T) (has_bit_of T) hr, pure_Table_drop T vs H Q E h⟩

theorem len_Table_way_of {K : PySem.W.Frag} : ∀ vs H Q E, sp_Table_way_of K vs H Q E → vs.length = (P_Table_way_of : List Str).length := by
  intro vs H Q E h
  repeat first | (obtain ⟨rfl, _⟩ := h; rfl) | obtain ⟨_, h⟩ := h
theorem has_Table_way_of (T : TX K mg base) : HasM P w K mg base 4 "Table" "way_of" P_Table_way_of (sp_Table_way_of K) :=
  mk_hasM (T.cls 25) (T.meth 29) (T.says.def_ 13) sc_Table_way_of (fun _ _ _ _ _ _ us hl => match us, hl with | [_, _], _ => rfl) len_Table_way_of
    fun cdv A outer s H vs Q E hr h => ⟨t_Table_way_of K E, d_Table_way_of T (has_Table_path T) hr, pure_Table_way_of T vs H Q E h⟩

theorem len_Table_find {K : PySem.W.Frag} : ∀ vs H Q E, sp_Table_find K vs H Q E → vs.length = (P_Table_find : List Str).length := by
  intro vs H Q E h
  repeat first | (obtain ⟨rfl, _⟩ := h; rfl) | obtain ⟨_, h⟩ := h
theorem has_Table_find (T : TX K mg base) : HasM P w K mg base 3 "Table" "find" P_Table_find (sp_Table_find K) :=
  mk_hasM (T.cls 25) (T.meth 30) (T.says.def_ 14) sc_Table_find (fun _ _ _ _ _ _ us hl => match us, hl with | [_, _], _ => rfl) len_Table_find
    fun cdv A outer s H vs Q E hr h => ⟨t_Table_find K E, d_Table_find T (has_bit_of T) hr, pure_Table_find T vs H Q E h⟩

theorem len_Table_entries {K : PySem.W.Frag} : ∀ vs H Q E, sp_Table_entries K vs H Q E → vs.length = (P_Table_entries : List Str).length := by
  intro vs H Q E h
  repeat first | (obtain ⟨rfl, _⟩ := h; rfl) | obtain ⟨_, h⟩ := h
theorem has_Table_entries (T : TX K mg base) : HasM P w K mg base 23 "Table" "entries" P_Table_entries (sp_Table_entries K) :=
  mk_hasM (T.cls 25) (T.meth 31) (T.says.def_ 15) sc_Table_entries (fun _ _ _ _ _ _ us hl => match us, hl with | [_], _ => rfl) len_Table_entries
    fun cdv A outer s H vs Q E hr h => ⟨t_Table_entries K E, d_Table_entries T (has_list_below T 18) hr, pure_Table_entries T vs H Q E h⟩

theorem len_Table_fork {K : PySem.W.Frag} : ∀ vs H Q E, sp_Table_fork K vs H Q E → vs.length = (P_Table_fork : List Str).length := by
  intro vs H Q E h
  repeat first | (obtain ⟨rfl, _⟩ := h; rfl) | obtain ⟨_, h⟩ := h
theorem has_Table_fork (T : TX K mg base) : HasM P w K mg base 22 "Table" "fork" P_Table_fork (sp_Table_fork K) :=
  mk_hasM (T.cls 25) (T.meth 32) (T.says.def_ 16) sc_Table_fork (fun _ _ _ _ _ _ us hl => match us, hl with | [_], _ => rfl) len_Table_fork
    fun cdv A outer s H vs Q E hr h => ⟨t_Table_fork K E, d_Table_fork T (has_Table_init T) (has_Node_fork T 18) hr, pure_Table_fork T vs H Q E h⟩

theorem len_law_span {K : PySem.W.Frag} : ∀ vs H Q E, sp_law_span K vs H Q E → vs.length = (P_law_span : List Str).length := by
  intro vs H Q E h
  repeat first | (obtain ⟨rfl, _⟩ := h; rfl) | obtain ⟨_, h⟩ := h
theorem has_law_span (T : TX K mg base) : Has P w K mg base 1 "_law_span" P_law_span (sp_law_span K) :=
  mk_has (T.glo 33) (T.says.def_ 17) sc_law_span (fun _ _ _ _ _ _ us hl => match us, hl with | [_], _ => rfl) len_law_span
    fun cdv A outer s H vs Q E hr h => ⟨t_law_span K E, d_law_span T  hr, pure_law_span T vs H Q E h⟩

theorem len_law_cell {K : PySem.W.Frag} : ∀ vs H Q E, sp_law_cell K vs H Q E → vs.length = (P_law_cell : List Str).length := by
  intro vs H Q E h
  repeat first | (obtain ⟨rfl, _⟩ := h; rfl) | obtain ⟨_, h⟩ := h
theorem has_law_cell (T : TX K mg base) : Has P w K mg base 1 "_law_cell" P_law_cell (sp_law_cell K) :=
  mk_has (T.glo 34) (T.says.def_ 18) sc_law_cell (fun _ _ _ _ _ _ us hl => match us, hl with | [_, _], _ => rfl) len_law_cell
    fun cdv A outer s H vs Q E hr h => ⟨t_law_cell K E, d_law_cell T  hr, pure_law_cell T vs H Q E h⟩

theorem len_law_start {K : PySem.W.Frag} : ∀ vs H Q E, sp_law_start K vs H Q E → vs.length = (P_law_start : List Str).length := by
  intro vs H Q E h
  repeat first | (obtain ⟨rfl, _⟩ := h; rfl) | obtain ⟨_, h⟩ := h
theorem has_law_start (T : TX K mg base) : Has P w K mg base 1 "_law_start" P_law_start (sp_law_start K) :=
  mk_has (T.glo 35) (T.says.def_ 19) sc_law_start (fun _ _ _ _ _ _ us hl => match us, hl with | [_, _], _ => rfl) len_law_start
    fun cdv A outer s H vs Q E hr h => ⟨t_law_start K E, d_law_start T  hr, pure_law_start T vs H Q E h⟩

theorem len_law_digit {K : PySem.W.Frag} : ∀ vs H Q E, sp_law_digit K vs H Q E → vs.length = (P_law_digit : List Str).length := by
  intro vs H Q E h
  repeat first | (obtain ⟨rfl, _⟩ := h; rfl) | obtain ⟨_, h⟩ := h
theorem has_law_digit (T : TX K mg base) : Has P w K mg base 1 "_law_digit" P_law_digit (sp_law_digit K) :=
  mk_has (T.glo 36) (T.says.def_ 20) sc_law_digit (fun _ _ _ _ _ _ us hl => match us, hl with | [_, _], _ => rfl) len_law_digit
    fun cdv A outer s H vs Q E hr h => ⟨t_law_digit K E, d_law_digit T  hr, pure_law_digit T vs H Q E h⟩

theorem len_law_prefix {K : PySem.W.Frag} : ∀ vs H Q E, sp_law_prefix K vs H Q E → vs.length = (P_law_prefix : List Str).length := by
  intro vs H Q E h
  repeat first | (obtain ⟨rfl, _⟩ := h; rfl) | obtain ⟨_, h⟩ := h
theorem has_law_prefix (T : TX K mg base) : Has P w K mg base 4 "_law_prefix" P_law_prefix (sp_law_prefix K) :=
  mk_has (T.glo 37) (T.says.def_ 21) sc_law_prefix (fun _ _ _ _ _ _ us hl => match us, hl with | [_], _ => rfl) len_law_prefix
    fun cdv A outer s H vs Q E hr h => ⟨t_law_prefix K E, d_law_prefix T (has_law_digit T) (has_Prefix_init T) (has_law_span T) hr, pure_law_prefix T vs H Q E h⟩

theorem len_law_at {K : PySem.W.Frag} : ∀ vs H Q E, sp_law_at K vs H Q E → vs.length = (P_law_at : List Str).length := by
  intro vs H Q E h
  repeat first | (obtain ⟨rfl, _⟩ := h; rfl) | obtain ⟨_, h⟩ := h
theorem has_law_at (T : TX K mg base) : Has P w K mg base 1 "_law_at" P_law_at (sp_law_at K) :=
  mk_has (T.glo 38) (T.says.def_ 22) sc_law_at (fun _ _ _ _ _ _ us hl => match us, hl with | [_, _], _ => rfl) len_law_at
    fun cdv A outer s H vs Q E hr h => ⟨t_law_at K E, d_law_at T  hr, pure_law_at T vs H Q E h⟩

theorem len_law_find {K : PySem.W.Frag} : ∀ vs H Q E, sp_law_find K vs H Q E → vs.length = (P_law_find : List Str).length := by
  intro vs H Q E h
  repeat first | (obtain ⟨rfl, _⟩ := h; rfl) | obtain ⟨_, h⟩ := h
theorem has_law_find (T : TX K mg base) : Has P w K mg base 2 "_law_find" P_law_find (sp_law_find K) :=
  mk_has (T.glo 39) (T.says.def_ 23) sc_law_find (fun _ _ _ _ _ _ us hl => match us, hl with | [_, _], _ => rfl) len_law_find
    fun cdv A outer s H vs Q E hr h => ⟨t_law_find K E, d_law_find T (has_law_span T) hr, pure_law_find T vs H Q E h⟩

theorem len_law_agrees {K : PySem.W.Frag} : ∀ vs H Q E, sp_law_agrees K vs H Q E → vs.length = (P_law_agrees : List Str).length := by
  intro vs H Q E h
  repeat first | (obtain ⟨rfl, _⟩ := h; rfl) | obtain ⟨_, h⟩ := h
theorem has_law_agrees (T : TX K mg base) : Has P w K mg base 24 "_law_agrees" P_law_agrees (sp_law_agrees K) :=
  mk_has (T.glo 40) (T.says.def_ 24) sc_law_agrees (fun _ _ _ _ _ _ us hl => match us, hl with | [_, _, _], _ => rfl) len_law_agrees
    fun cdv A outer s H vs Q E hr h => ⟨t_law_agrees K E, d_law_agrees T (has_Table_entries T) (has_Prefix_pair T) (has_law_digit T) (has_law_span T) (has_Table_find T) (has_law_find T) (has_law_prefix T) (has_law_at T) (has_Table_way_of T) hr, pure_law_agrees T vs H Q E h⟩

theorem len_law_deed {K : PySem.W.Frag} : ∀ vs H Q E, sp_law_deed K vs H Q E → vs.length = (P_law_deed : List Str).length := by
  intro vs H Q E h
  repeat first | (obtain ⟨rfl, _⟩ := h; rfl) | obtain ⟨_, h⟩ := h
theorem has_law_deed (T : TX K mg base) : Has P w K mg base 5 "_law_deed" P_law_deed (sp_law_deed K) :=
  mk_has (T.glo 41) (T.says.def_ 25) sc_law_deed (fun _ _ _ _ _ _ us hl => match us, hl with | [_, _, _], _ => rfl) len_law_deed
    fun cdv A outer s H vs Q E hr h => ⟨t_law_deed K E, d_law_deed T (has_law_prefix T) (has_law_digit T) (has_Prefix_init T) (has_law_at T) (has_Prefix_pair T) (has_Table_drop T) (has_Table_put T) hr, pure_law_deed T vs H Q E h⟩

theorem len_law {K : PySem.W.Frag} : ∀ vs H Q E, sp_law K vs H Q E → vs.length = (P_law : List Str).length := by
  intro vs H Q E h
  repeat first | (obtain ⟨rfl, _⟩ := h; rfl) | obtain ⟨_, h⟩ := h
theorem has_law (T : TX K mg base) : Has P w K mg base 25 "law" P_law (sp_law K) :=
  mk_has (T.glo 42) (T.says.def_ 26) sc_law (fun _ _ _ _ _ _ us hl => match us, hl with | [_], _ => rfl) len_law
    fun cdv A outer s H vs Q E hr h => ⟨t_law K E, d_law T (has_Table_init T) (has_law_start T) (has_law_cell T) (has_law_deed T) (has_law_agrees T) (has_Table_fork T) (has_law_digit T) hr, pure_law T vs H Q E h⟩

theorem ok_law (T : TX K mg base) {fd : FuncData} (F : FunD K "law" "law" (defArgs s_law) (defBody s_law) (defScope s_law) [] [] (He.ga K "law") fd) : FnOk P w K mg base (L2.CX P w) 25 (He.ga K "law") fd P_law (sp_law K) :=
  FunD.ok (CX := L2.CX P w) F sc_law len_law fun cdv A outer s H vs Q E hr h => ⟨t_law K E, d_law T (has_Table_init T) (has_law_start T) (has_law_cell T) (has_law_deed T) (has_law_agrees T) (has_Table_fork T) (has_law_digit T) hr, pure_law T vs H Q E h⟩

end

end K74

open PySem PySem.W PySem.Calls PyProof.Rows
theorem PySem.Challenge.cw_throughway_k74_tables_find_the_longest_p_holds : PySem.Challenge.rw_throughway_k74_tables_find_the_longest_p.Holds := by
  w_on; o_law
  refine HandSHeadRun.head_any (r := OpenLaw.row PySem.Challenge.rw_throughway_k74_tables_find_the_longest_p) (q := view (OpenLaw.row PySem.Challenge.rw_throughway_k74_tables_find_the_longest_p).prog [26]) (H := K74.hk) (ob := K74.ob) (M := 4000) (loose := K74.names) (d := HandSHeadRun.topDef (OpenLaw.row PySem.Challenge.rw_throughway_k74_tables_find_the_longest_p).prog 26) (kwd := []) K74.ob_eq
    (by kernel_rfl) (fun s => by kernel_rfl) K74.run (by kernel_rfl) (by kernel_rfl) (by kernel_rfl) (by rfl) (by first | assumption | decide +kernel) (by decide +kernel) ⟨rfl, rfl, rfl, rfl, rfl, by decide +kernel⟩ ?hw ?hc
  case hw => w_witness2
  case hc =>
    refine G.walk_ofEB (l := PySem.Challenge.rw_throughway_k74_tables_find_the_longest_p) (n := 63) (k := 25) (x := "script") (CX := fun w => L2.CX (PySem.Challenge.rw_throughway_k74_tables_find_the_longest_p).prog w) rfl (by decide) (by kernel_rfl) ⟨rfl, by decide, by decide⟩ ?F ?X
    case X =>
      intro w H s e s' z
      obtain ⟨_, _, _, _, _, _, _, _, _, _, _, _, z⟩ := z
      exact z.elim
    case F =>
      intro w mg fa h Y G hmg0
      obtain ⟨K, KX, c⟩ := Y
      have hmg : mg ("law" : PySem.Str) = some (.ref fa) := by
        have e : (HandSHeadRun.topDef (OpenLaw.row PySem.Challenge.rw_throughway_k74_tables_find_the_longest_p).prog 26).name = ("law" : PySem.Str) := by kernel_rfl
        rw [← e]
        exact hmg0
      obtain ⟨fd, FD⟩ := He.SaysD.def_ c.d 26 (d := K74.D_law) rfl
      have b := L2.FunD.bindsA (ps := ["script"]) FD fun _ _ _ _ _ _ us hl => match us, hl with | [_], _ => rfl
      have eg : fa = He.ga K "law" := by
        have e := hmg.symm.trans (He.glo_ok KX G (He.SaysD.fact c.d 42 (f := .glo "law") rfl))
        cases e
        rfl
      subst eg
      exact ⟨K, fd, K74.sp_law K, KX, fun s v => b s [v] rfl, fun H a ns hl hb hO hS => K74.law_start hl hb hO hS, fun base kin hns => K74.ok_law ⟨⟨kin, hns, c.d⟩, c⟩ FD⟩
