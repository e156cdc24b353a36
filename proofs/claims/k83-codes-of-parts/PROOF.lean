import PyProof.Rows.All
import Wide.All
import OpenK.AllK
import Wide.FinOn
import HandS.ForMost
import HandS.Exc
import HandS.ExcOwn
import HandS.ExcCtx
import HandS.ExcInit
import HandS.Hot
import HandS.HotCalls
import HandS.Wide
import HandS.Evl
import HandS.FStr
import HandS.IsInst
import HandS.Defaults
import HandS.Star
import HandS.TryOnly
import HandS.WordsExc
import HandS.RaiseMore
import HandS.HeadHook2
import HandS.HeadHook4
import HandS.Head2
import HandS.HeadEnd
import KE.KExcIs
import KE.KIsAll
import HandS.Walk
import HandS.Text
import HandS.SortInts
import HandS.Conv
import PySem.Challenge.RW_overstamps_k83_codes_of_parts

section
set_option Elab.async false
set_option linter.all false
set_option maxRecDepth 100000
set_option maxHeartbeats 2000000
namespace Ov
open PySem PySem.Spec PyProof.Rows L2
abbrev St := L2.St

/-- a def's promise in a place where nothing is being shown: the guards are known to be none -/
structure FnG (P : Program) (w : World) (K : PySem.W.Frag) (mg : Str → Option Value) (bh : Heap) (C : CXT) (k : Nat) (f : Addr) (fd : FuncData) (ps : List Str) (sp : Sp) : Prop where
  num : ∀ vs H Q E, sp vs H Q E → vs.length = ps.length
  go : ∀ (A : Around) (out : List Env) (s : Shared) (H : Hp) (ar : Args) (us : List Value) (vs : List V) (Q : VK) (E : XK), A.guards = some [] → Room k A →
    Env0 P w K mg bh A out s H → BindsTo s fd ar (ps.zip us) → Vals vs us → sp vs H Q E → codeAny (model P w) A (.call (.ref f) ar) (CR C out P w H s Q E) s

section
variable {P : Program} {w : World} {K : PySem.W.Frag} {mg : Str → Option Value} {bh : Heap} {C : CXT} {k : Nat} {f : Addr} {fd : FuncData} {ps : List Str} {sp : Sp}
theorem FnG.ofOk (F : FnOk P w K mg bh C k f fd ps sp) : FnG P w K mg bh C k f fd ps sp :=
  ⟨F.len, fun A out s H ar us vs Q E _ => F.run A out s H ar us vs Q E⟩
theorem FnG.up {j : Nat} (F : FnG P w K mg bh C j f fd ps sp) (h : j ≤ k) : FnG P w K mg bh C k f fd ps sp :=
  ⟨F.num, fun A out s H ar us vs Q E g r => F.go A out s H ar us vs Q E g (r.mono h)⟩

/-- the rule for such a def -/
theorem FnG.of {name qual : Str} {params : Arguments} {body : List Stmt} {sc : Scope} {dV kV dc pm cdv ct oc : Value} {an od : Option Addr} {osl : Array (Option Value)} {N : List Str}
    (lk : K.lookup f = some ⟨oc, od, .func (PySem.W.fnOf name qual params body sc dV kV dc pm an cdv ct), osl⟩) (hcd : PySem.W.codeIn K cdv qual = true) (S : FnScope N ps sc)
    (num : ∀ vs H Q E, sp vs H Q E → vs.length = ps.length)
    (hb : ∀ (A : Around) (out : List Env) (s : Shared) (H : Hp) (vs : List V) (Q : VK) (E : XK), A.guards = some [] → Room k (A.deeper (envOfC qual sc s.heap.objs.size f cdv)) → sp vs H Q E →
      ∃ t, PSs (cxOf C P w K mg bh N qual sc f cdv A out s H E) body t ∧ t { nx := fun _ H' => Q .non H', rt := Q } (start N vs) H) :
    FnG P w K mg bh C (k + 1) f (PySem.W.fnOf name qual params body sc dV kV dc pm an cdv ct) ps sp := by
  refine ⟨num, fun A out s H ar us vs Q E hgu hr e0 hbd rv hsp => ?_⟩
  have hlen := num _ _ _ _ hsp
  have KX : K.In s.heap := e0.mod.kin.keeps fun b o z => (e0.bs b o z).1
  have nl : s.heap.NoLimit := e0.mod.nolimit.keeps fun b o z => (e0.bs b o z).1
  have kinds : ∀ y ∈ ps.zip us, sc.names.lookup y.1 = some .local ∨ (sc.names.lookup y.1 = some .cell ∧ ((cellsFrom (s.heap.objs.size + 1) sc.names []).lookup y.1).isSome = true) := by
    rintro ⟨n, v⟩ hy
    exact (S.par n (List.of_mem_zip hy).1).imp id fun z => ⟨z, PySem.W.cellsFrom_some _ _ _ (.inl z)⟩
  refine codeAny_call_function hr.depth (KX _ _ lk) rfl S.co S.gen rfl (PySem.W.codeRec_of KX hcd) (hbd _ _ _ _ ?_)
  refine wpAny_newFunctionEnv_cells S.kind kinds fun ev hev s1 ic => ?_
  subst hev
  refine ⟨nl.keeps ic.toInCall.keep, codeAny_func ?_⟩
  obtain ⟨t, dt, rt⟩ := hb A out s H vs Q E hgu (hr.deeper _) hsp
  have I0 : Inv (cxOf C P w K mg bh N qual sc f cdv A out s H E) [] (start N vs) H s1 := inv_start S hr.hd e0 hlen rv ic
  refine wpAny_mono (dt.run [] s1 (start N vs) H _ I0 rt) (fun fl s2 z => ?_) fun _ _ z => z
  cases fl with
  | next =>
    obtain ⟨_, H2, J, q⟩ := z
    exact ⟨.non, H2, J.os, J.bare, J.base, J.hok, rfl, q⟩
  | ret u =>
    obtain ⟨v, _, H2, J, r2, q⟩ := z
    exact ⟨v, H2, J.os, J.bare, J.base, J.hok, r2, q⟩
  | brk => exact z.elim fun _ z => z.elim fun _ z => False.elim z.2
  | cont => exact z.elim fun _ z => z.elim fun _ z => False.elim z.2
end

section
variable {X : Cx} {C : CXT} {k : Nat} {f : Addr} {fd : FuncData} {ps : List Str} {sp : Sp} {E : XK} {x : Str} {p pos : Pos} {e : Expr} {es : List Expr} {t : TA}
theorem FnG.call {pins : List (Addr × Obj)} {σ : St} {H : Hp} {s : Shared} {Q : VK} {us : List Value} {vs : List V} (F : FnG X.prog X.w X.K X.mg X.base C k f fd ps sp) (hgu : X.A.guards = some []) (hr : Room k X.A)
    (hb : Binds X.K fd ps []) (hx : PassesAt C X σ E) (I : Inv X pins σ H s) (rv : Vals vs us) (h : sp vs H Q E) : wpAny (model X.prog X.w) X.A (call (.ref f) us) (EP X pins σ Q) X.xe s := by
  have hl : us.length = ps.length := by rw [← rv.length]; exact F.num _ _ _ _ h
  have hb2 := hb s us I.kIn (by rw [List.append_nil]; exact hl)
  rw [List.append_nil] at hb2
  refine wpAny_call (codeAny_mono (F.go X.A X.stack s H ⟨us, []⟩ us vs Q E hgu hr I.env0 hb2 rv h) fun res s2 z => ?_)
  match res, z with
  | .error er, z => exact hx pins H s er s2 I z
  | .ok (.ret u), z => exact I.after z
  | .ok .next, z => exact False.elim z
  | .ok .brk, z => exact False.elim z
  | .ok .cont, z => exact False.elim z
/-- f(e, ..) of such a def -/
theorem pe_g (F : FnG X.prog X.w X.K X.mg X.base C k f fd ps sp) (hgu : X.A.guards = some []) (hr : Room k X.A) (hm : X.mg x = some (.ref f)) (hk : PySem.W.keepIn X.K (.ref f) = true) (hb : Binds X.K fd ps [])
    (hx : ∀ σ, PassesAt C X σ E) (ha : PA X (e :: es) t) (hg : Gl X x := by rfl) (hdb : (x == ("__debug__" : Str)) = false := by decide)
    (he : starEach (e :: es) X.env = (false, eval e X.env) :: starEach es X.env := by rfl) (hpl : (backTo pos (starEach es X.env)).any (·.1) = false := by rfl) :
    PE X (.Call (.Name x p) (e :: es) [] pos) (tCall sp [] E t) := by
  refine ⟨fun pins s σ H Q I h => wpAny_Call_Name_kw (ld_glob I hg hm ?_ hdb)⟩
  refine PySem.W.callWith_K (h₀ := X.base) I.ok.mod.kin hk (thn (ha.run pos pins s σ H _ I h) fun us s1 z => ?_) he hpl
  obtain ⟨vs, H1, I1, rv, q⟩ := z
  rw [List.append_nil] at q
  exact ⟨I1.kIn, F.call hgu hr hb (hx σ) I1 rv q⟩
end

/-! ### the module's defs by their names -/
/-- the module's name x is the def st of the text -/
structure Wr (K : PySem.W.Frag) (mg : Str → Option Value) (x : Str) (st : Stmt) : Prop where
  ex : ∃ f fd, mg x = some (.ref f) ∧ Fun K x x st f fd
/-- the module's def x keeps the promise sp -/
structure Dn (P : Program) (w : World) (K : PySem.W.Frag) (mg : Str → Option Value) (bh : Heap) (C : CXT) (k : Nat) (x : Str) (ps : List Str) (sp : Sp) : Prop where
  ex : ∃ f fd, mg x = some (.ref f) ∧ PySem.W.keepIn K (.ref f) = true ∧ Binds K fd ps [] ∧ FnOk P w K mg bh C k f fd ps sp
structure DnG (P : Program) (w : World) (K : PySem.W.Frag) (mg : Str → Option Value) (bh : Heap) (C : CXT) (k : Nat) (x : Str) (ps : List Str) (sp : Sp) : Prop where
  ex : ∃ f fd, mg x = some (.ref f) ∧ PySem.W.keepIn K (.ref f) = true ∧ Binds K fd ps [] ∧ FnG P w K mg bh C k f fd ps sp
section
variable {P : Program} {w : World} {K : PySem.W.Frag} {mg : Str → Option Value} {bh : Heap} {C : CXT} {k : Nat} {x : Str} {st : Stmt} {ps : List Str} {sp : Sp}
abbrev BindsTxt (x : Str) (st : Stmt) (ps : List Str) : Prop := ∀ (kV dc pm : Value) (an : Option Addr) (cdv ct : Value) (us : List Value), us.length = ps.length →
  bindArgs (PySem.W.fnOf x x (defArgs st) (defBody st) (defScope st) .none kV dc pm an cdv ct) ⟨us, []⟩ = pure (ps.zip us)
theorem Dn.mk' (W : Wr K mg x st) (hb : BindsTxt x st ps) (h : ∀ f fd, Fun K x x st f fd → FnOk P w K mg bh C k f fd ps sp) : Dn P w K mg bh C k x ps sp := by
  obtain ⟨f, fd, g, F⟩ := W.ex
  exact ⟨f, fd, g, F.kp, F.binds hb, h f fd F⟩
theorem DnG.mk' (W : Wr K mg x st) (hb : BindsTxt x st ps) (h : ∀ f fd, Fun K x x st f fd → FnG P w K mg bh C k f fd ps sp) : DnG P w K mg bh C k x ps sp := by
  obtain ⟨f, fd, g, F⟩ := W.ex
  exact ⟨f, fd, g, F.kp, F.binds hb, h f fd F⟩
theorem FnG.fun_ {qual : Str} {f : Addr} {fd : FuncData} {N : List Str} (F : Fun K x qual st f fd) (S : FnScope N ps (defScope st)) (num : ∀ vs H Q E, sp vs H Q E → vs.length = ps.length)
    (hb : ∀ (cdv : Value) (A : Around) (out : List Env) (s : Shared) (H : Hp) (vs : List V) (Q : VK) (E : XK), A.guards = some [] → Room k (A.deeper (envOfC qual (defScope st) s.heap.objs.size f cdv)) → sp vs H Q E →
      ∃ t, PSs (cxOf C P w K mg bh N qual (defScope st) f cdv A out s H E) (defBody st) t ∧ t { nx := fun _ H' => Q .non H', rt := Q } (start N vs) H) : FnG P w K mg bh C (k + 1) f fd ps sp := by
  obtain ⟨oc, od, kV, dc, pm, an, cdv, ct, osl, rfl, lk, hcd⟩ := F.ex
  exact FnG.of lk hcd S num fun A out s H vs Q E hg hr hsp => hb cdv A out s H vs Q E hg hr hsp
end
section
variable {X : Cx} {C : CXT} {k : Nat} {ps : List Str} {sp : Sp} {E : XK} {x : Str} {p pos : Pos} {e : Expr} {es : List Expr} {t : TA}
/-- f(e, ..) of a def of the module -/
theorem pe_d (D : Dn X.prog X.w X.K X.mg X.base C k x ps sp) (hr : Room k X.A) (hx : Passes C X E) (ha : PA X (e :: es) t) (hg : Gl X x := by rfl) (hdb : (x == ("__debug__" : Str)) = false := by decide)
    (he : starEach (e :: es) X.env = (false, eval e X.env) :: starEach es X.env := by rfl) (hpl : (backTo pos (starEach es X.env)).any (·.1) = false := by rfl) :
    PE X (.Call (.Name x p) (e :: es) [] pos) (tCall sp [] E t) := by
  obtain ⟨f, fd, hm, hk, hb, F⟩ := D.ex
  exact pe_call F hr hg hm hk hb .nil hx ha hdb he hpl
theorem pe_d0 (D : Dn X.prog X.w X.K X.mg X.base C k x ps sp) (hr : Room k X.A) (hx : Passes C X E) (hg : Gl X x := by rfl) (hdb : (x == ("__debug__" : Str)) = false := by decide) :
    PE X (.Call (.Name x p) [] [] pos) (tCall sp [] E tNil) := by
  obtain ⟨f, fd, hm, hk, hb, F⟩ := D.ex
  exact pe_call0 F hr hg hm hk hb .nil hx hdb
theorem pe_dg (D : DnG X.prog X.w X.K X.mg X.base C k x ps sp) (hgu : X.A.guards = some []) (hr : Room k X.A) (hx : ∀ σ, PassesAt C X σ E) (ha : PA X (e :: es) t) (hg : Gl X x := by rfl) (hdb : (x == ("__debug__" : Str)) = false := by decide)
    (he : starEach (e :: es) X.env = (false, eval e X.env) :: starEach es X.env := by rfl) (hpl : (backTo pos (starEach es X.env)).any (·.1) = false := by rfl) :
    PE X (.Call (.Name x p) (e :: es) [] pos) (tCall sp [] E t) := by
  obtain ⟨f, fd, hm, hk, hb, F⟩ := D.ex
  exact pe_g F hgu hr hm hk hb hx ha hg hdb he hpl
end
end Ov
end

section
set_option Elab.async false
set_option linter.all false
set_option maxRecDepth 100000
set_option maxHeartbeats 2000000
namespace Ov
open PySem PySem.Spec PyProof.Rows L2

/-! ### powers and products of large ints -/
def CPowB (i j : Int) : Prop := 0 ≤ j ∧ (Builtin.Int.intBits i : Int) * j ≤ 2 ^ 27
theorem op_powB {X : Cx} : OpR X (binaryOp .Pow) (rI CPowB fun i j => .int (i ^ j.toNat)) := opI fun _ _ _ _ _ _ _ hc q => pow_int hc.1 hc.2 q

/-! ### what repr gives of data -/
/-- repr(x), x a list, a tuple or an int; its text is told by the data -/
def rRepr (K : PySem.W.Frag) : List V → Hp → VK → Prop := fun xs H Q => ∃ x d, xs = [x] ∧ Dp K H x d ∧ d.showable = true ∧ d.canLay0 = true ∧ d.depth ≤ 60 ∧ d.shown.length ≤ sizeLine ∧ (∃ a, x = .ref a) ∧ Q (.str d.shown) H
theorem call_reprD {X : Cx} (hgu : X.A.guards = some []) (hu : X.A.units + 64 < cLine) : CallR X (.builtin "repr") (rRepr X.K) := by
  intro pins s σ H xs us Q I rv h
  obtain ⟨x, d, rfl, hd, hs, hc, hdep, hl, ⟨a, rfl⟩, q⟩ := h
  cases rv with
  | cons r rr =>
    cases rr
    obtain ⟨as, rd⟩ := Dp.reads I d _ _ hd r
    obtain rfl := r
    refine repr_of_reads' rd hs (PyData.noDict_hsm (PyData.hasDict_of_canLay d hc)) hgu (by omega) (fun _ _ z => z) (fun h' u tk k => ?_) hl
    exact ⟨.str d.shown, H, I.kept k, ⟨_, rfl⟩, q⟩
end Ov
end

section
set_option Elab.async false
set_option linter.all false
set_option maxRecDepth 100000
set_option maxHeartbeats 2000000
namespace Ov
open PySem PySem.Spec PyProof.Rows L2

/-! ### an own error whose base is an own class over ValueError -/
/-- what the written part says of a class that is named as a base in an __init__ -/
structure BaseI (K : PySem.W.Frag) (mg : Str → Option Value) (x : Str) : Prop where
  ex : ∃ CS mc, mg x = some (.ref CS) ∧ PySem.W.specialIn K (.ref CS) "__getattribute__" = some (some (.builtin "type.__getattribute__")) ∧ PySem.W.readsIn K CS mc = true ∧
    PySem.W.findCls K (.ref CS) mc "__init__" = some (.val (.builtin "ValueError.__init__"))
section
variable {X : Cx} {e : Expr} {es : List Expr} {ta : TA} {p1 p2 pos : Pos} {x : Str}
/-- S.__init__(self, ..), S such a class -/
theorem pe_binit {pl : Sem Bool} (B : BaseI X.K X.mg x) (ha : PA X (e :: es) ta) (hg : Gl X x := by rfl) (hdb : (x == ("__debug__" : Str)) = false := by decide)
    (hc : eval (.Call (.Attribute (.Name x p1) "__init__" p2) (e :: es) [] pos) X.env = (do
      let ov ← eval (.Name x p1) X.env
      standAt p2.atName
      let (f, first) ← holding [ov] (getMethod ov "__init__" pl)
      callWith pos f first (backTo pos (starEach (e :: es) X.env)) (backToKw pos (keywordEach [] X.env))) := by rfl)
    (he : starEach (e :: es) X.env = (false, eval e X.env) :: starEach es X.env := by rfl) (hpl : (backTo pos (starEach es X.env)).any (·.1) = false := by rfl) :
    PE X (.Call (.Attribute (.Name x p1) "__init__" p2) (e :: es) [] pos) (tVeI X.K ta) := by
  obtain ⟨CS, mc, hm, hsp, hrd, hf⟩ := B.ex
  refine ⟨fun pins s σ H Q I h => ?_⟩
  refine PySem.W.methodCall_KW (ld_glob I hg hm ?_ hdb) hc
  refine PySem.W.method_cls I.kIn hsp (PySem.W.cls_value I.kIn hrd hf (by decide +kernel) ?_)
  show wpAny _ _ (callWith pos (Value.builtin "ValueError.__init__") [] (backTo pos (starEach (e :: es) X.env)) []) _ _ _
  refine PyProof.Rows.callWith_method1 (thn (ha.run pos pins _ σ H _ (I.tok _) h) fun us s1 z => ?_) he hpl
  obtain ⟨vs, H1, I1, r1, a, C, ws, rfl, hl, T, ea, q⟩ := z
  cases r1 with
  | cons ra rw' =>
    rename_i u0 ur
    obtain rfl : u0 = Value.ref a := ra
    exact oinit_ok T I1 ea (by rw [← Paired.length rw', sizeLine_eq]; omega) fun s' J => ⟨.non, H1, J, rfl, q⟩
end

/-! ### such an error made where nothing is handled; its context is None -/
section
variable {X : Cx} {e : Expr} {es : List Expr} {ta : TA} {p pos : Pos} {x : Str}
/-- what the module says of the error class x and of its __init__ -/
structure ErrI (K : PySem.W.Frag) (x : Str) (Cx0 fI : Addr) : Prop where
  o : OexC K Cx0
  iC : PySem.W.findIn K (.ref Cx0) "__init__" = some (some (.ref fI))
  tI : PySem.W.typeIn K (.ref fI) = some (.type "function")
theorem pmk_err {C : CXT} {Ca fI : Addr} {k : Nat} {fd : FuncData} {ps : List Str} {sp : Sp} (T : ErrI X.K x Ca fI) (F1 : FnOk X.prog X.w X.K X.mg X.base C k fI fd ps sp) (hr : Room (k + 1) X.A) (hb : Binds X.K fd ps [])
    (hx : Passes C X (fun _ _ _ => False)) (hm : X.mg x = some (.ref Ca)) (ha : PA X (e :: es) ta) (hg : Gl X x := by rfl) (hdb : (x == ("__debug__" : Str)) = false := by decide)
    (he : starEach (e :: es) X.env = (false, eval e X.env) :: starEach es X.env := by rfl) (hpl : (backTo pos (starEach es X.env)).any (·.1) = false := by rfl) :
    L2N.PMk X (.Call (.Name x p) (e :: es) [] pos) (tMkO Ca sp [] ta) := by
  intro pins s σ H Q I h
  have TC := T.o
  obtain ⟨nm, q, N, bs, bm, sn, sub, ab, col, dd, k0, k1, k2, k3, k5, hC, hbm⟩ := TC.cls
  refine wpAny_Call_Name_kw (ld_glob I hg hm ?_ hdb)
  refine PySem.W.callWith_K (h₀ := X.base) I.ok.mod.kin TC.kC (thn (ha.run pos pins s σ H _ I h) fun us s1 z => ?_) he hpl
  obtain ⟨vs, H1, I1, rv, hz, q1⟩ := z
  refine ⟨I1.kIn, ?_⟩
  show wpAny _ _ (call (.ref Ca) us) _ _ _
  obtain ⟨hp, gs, dr, tk, os⟩ := s1
  have above : hp.objs.size ≤ hp.objs.size + 1 := Nat.le_succ _
  have free1 : H1 (hp.objs.size + 1) = none := I1.hok.fresh above
  have hq := q1 (hp.objs.size + 1) free1
  rw [List.append_nil] at hq
  have keep2 : ∀ b o, hp.get? b = some o → ((hp.push (PySem.W.kdv_tup us)).push (PySem.HandSPX.excO Ca hp.objs.size)).get? b = some o := fun b o z => Heap.get?_push_of_some _ (Heap.get?_push_of_some _ z)
  have at2 : ((hp.push (PySem.W.kdv_tup us)).push (PySem.HandSPX.excO Ca hp.objs.size)).get? (hp.objs.size + 1) = some (PySem.HandSPX.excO Ca hp.objs.size) := by heap_get
  have I2 : Inv X pins σ (upd H1 (hp.objs.size + 1) (exo (hp.objs.size + 1) Ca none)) ⟨(hp.push (PySem.W.kdv_tup us)).push (PySem.HandSPX.excO Ca hp.objs.size), gs, dr, tk, os⟩ :=
    I1.laid (t' := tk) keep2 above (exo_ok at2)
  have rv2 : Vals (V.ref (hp.objs.size + 1) :: vs) (Value.ref (hp.objs.size + 1) :: us) := .cons rfl rv
  have hl : (Value.ref (hp.objs.size + 1) :: us).length = ps.length := by rw [← rv2.length]; exact F1.len _ _ _ _ hq
  have hb2 := hb ⟨(hp.push (PySem.W.kdv_tup us)).push (PySem.HandSPX.excO Ca hp.objs.size), gs, dr, tk, os⟩ (Value.ref (hp.objs.size + 1) :: us) I2.kIn (by rw [List.append_nil]; exact hl)
  rw [List.append_nil] at hb2
  have hus : us.length ≤ sizeLine := by
    rw [← Paired.length rv, sizeLine_eq]
    omega
  refine wpAny_call (PySem.HandSPX.call_own F.excBase_ValueError (fun Y => PySem.HandSPX.refsVE_contains Y bm hbm) (I1.kIn _ _ hC) (PySem.W.looks_findIn I1.kIn T.iC) (fun self => PySem.W.bind_fn I1.kIn self T.tI) hus
    (codeAny_mono (F1.run _ X.stack _ _ ⟨Value.ref (hp.objs.size + 1) :: us, []⟩ (Value.ref (hp.objs.size + 1) :: us) _ _ (fun _ _ _ => False) (hr.make Ca us []) (I2.env0.make Ca us []) hb2 rv2 hq) fun res s' z => ?_))
  match res, z with
  | .error er, z => exact hx pins σ _ _ er s' I2 z
  | .ok (.ret u), z =>
    obtain ⟨v, H2, os2, bare2, un2, hok2, r3, ev, d, fs, ea, ed, hd1, q2⟩ := z
    subst ev
    obtain ⟨h2, g2, d2, t2, os'⟩ := s'
    obtain ⟨t0, G, J, kG, gn, hoe, na⟩ := mk_end0 (d2 := d2) (t2 := t2) I1 above keep2 un2 hok2 os2 bare2 ea ed hd1
    exact ⟨r3, hp.objs.size + 1, _, _, ⟨G, g2, d2, t2, os'⟩, _, .ref Ca, some d, rfl, J, kG, gn, hoe, ⟨rfl, rfl, fun vs z => by cases z; rfl⟩, rfl, rfl, na, rfl, bare2, raises_own TC.exC TC.tyC, q2⟩
  | .ok .next, z => exact False.elim z
  | .ok .brk, z => exact False.elim z
  | .ok .cont, z => exact False.elim z
end

/-! ### the exception that is handled: as an argument, its class, its field -/
/-- what the class of such an exception must say -/
structure ExK (K : PySem.W.Frag) (D : Addr) : Prop where
  cl : (PySem.W.clsIn K D).isSome = true
  ga : PySem.W.findIn K (.ref D) "__getattribute__" = some (some (.builtin "BaseException.__getattribute__"))
  gg : PySem.W.findIn K (.ref D) "__getattr__" = some none
  be : PySem.W.subIn K (.ref D) (.type "BaseException") = some true
  hd : PySem.W.hasDictIn K D = true
  ca : PySem.W.findIn K (.ref D) "__class__" = some (some (.builtin "object.__class__"))
  cg : PySem.W.specialIn K (.builtin "object.__class__") "__get__" = some (some (.builtin "getset_descriptor.__get__"))
  ct : PySem.W.takesIn K (.builtin "object.__class__") = some true
  mo : PySem.W.mroIn K D (.type "object") = some true
/-- its dict, if it has one, is tracked -/
def XdAt (H : Hp) : Option Addr → Prop
  | none => True
  | some dd => ∃ fs, H dd = some (.xd fs)
section
variable {X : Cx} {a D : Addr} {oe : Obj} {d : Option Addr} {pins : List (Addr × Obj)} {σ : St} {H : Hp} {s : Shared}
theorem inst_pin (hp : (a, oe) ∈ X.pn) (hz : Zc (.ref D) d oe) (hf : ∃ vs, oe.data = .fields vs) (I : Inv X pins σ H s) (hx : XdAt H d) : ∃ od, PySem.W.InstAt s.heap a oe D od := by
  obtain ⟨hget, _⟩ := I.pin (a, oe) (List.mem_append_left _ hp)
  obtain ⟨fv, hv⟩ := hf
  have hno : PySem.W.notCls oe = true := by unfold PySem.W.notCls; rw [hv] <;> rfl
  cases d with
  | none => exact ⟨none, hget, hz.1, hno, by rw [hz.2]; trivial⟩
  | some dd =>
    obtain ⟨fs, hfs⟩ := hx
    obtain ⟨mA, hns, _⟩ := (show ObjOk X.prog X.w H s.heap dd (.xd fs) from I.hok dd _ hfs)
    obtain ⟨od, ho, _⟩ := lookIn_ns hns
    exact ⟨some od, hget, hz.1, hno, by rw [hz.2]; exact ho⟩
theorem kit_pin {od : Option Obj} (T : ExK X.K D) : PySem.W.KitX X.K (.ref a) (.ref D) (fun h => PySem.W.InstAt h a oe D od) :=
  PySem.W.kitx_exc T.cl T.ga T.gg T.be T.ca T.cg T.ct T.mo
/-- isinstance(e, c) -/
def rIsP (K : PySem.W.Frag) (D a : Addr) (d : Option Addr) : List V → Hp → VK → Prop := fun xs H Q => ∃ (c : V) (cv : Value) (b : Bool), xs = [.ref a, c] ∧ ClsV c cv ∧ XdAt H d ∧ PySem.W.kitOne K (.ref D) cv = some b ∧ Q (.bl b) H
/-- isinstance(e, (c1, c2, ..)) -/
def rIsPT (K : PySem.W.Frag) (D a : Addr) (d : Option Addr) : List V → Hp → VK → Prop := fun xs H Q => ∃ (tp : Addr) (cs : List V) (us : List Value) (b : Bool), xs = [.ref a, .ref tp] ∧ H tp = some (.tup cs) ∧ Paired ClsV cs us ∧ XdAt H d ∧
  PySem.W.kitAny K (.ref D) us = some b ∧ Q (.bl b) H
theorem call_isP (T : ExK X.K D) (hp : (a, oe) ∈ X.pn) (hz : Zc (.ref D) d oe) (hf : ∃ vs, oe.data = .fields vs) : CallR X (.builtin "isinstance") (rIsP X.K D a d) := by
  intro pins s σ H xs us Q I r h
  obtain ⟨c, cv, b, rfl, kc, hx, e, q⟩ := h
  obtain ⟨u1, u2, rfl, r1, r2⟩ := vals2 r
  obtain rfl : u1 = Value.ref a := r1
  obtain rfl := kc.eq r2
  obtain ⟨od, J⟩ := inst_pin hp hz hf I hx
  exact PySem.W.kia_one (kit_pin T) I.kIn J e (fun z => nomatch z) fun tk => ⟨.bl b, H, I.tok tk, rfl, q⟩
theorem call_isPT (T : ExK X.K D) (hp : (a, oe) ∈ X.pn) (hz : Zc (.ref D) d oe) (hf : ∃ vs, oe.data = .fields vs) : CallR X (.builtin "isinstance") (rIsPT X.K D a d) := by
  intro pins s σ H xs us Q I r h
  obtain ⟨tp, cs, ws, b, rfl, hT, kc, hx, e, q⟩ := h
  obtain ⟨u1, u2, rfl, r1, r2⟩ := vals2 r
  obtain rfl : u1 = Value.ref a := r1
  obtain rfl : u2 = Value.ref tp := r2
  obtain ⟨od, J⟩ := inst_pin hp hz hf I hx
  obtain ⟨_, its, rv, o, h1, h2, n, h3⟩ := (show ObjOk X.prog X.w H s.heap tp (.tup cs) from I.hok tp _ hT)
  obtain rfl := ClsV.all kc rv
  obtain ⟨oc, odd, dt, sl⟩ := o
  simp only at h2 h3
  subst h2 h3
  exact PySem.W.kia_tup (kit_pin T) I.kIn J h1 e (fun z => nomatch z) fun tk => ⟨.bl b, H, I.tok tk, rfl, q⟩
/-- e.f -/
def tXp (a : Addr) (d : Option Addr) (f : Str) (te : TE) : TE := fun σ H Q => te σ H fun x H1 => x = .ref a ∧ ∃ (dd : Addr) (fs : List (Str × V)) (v : V), d = some dd ∧ H1 dd = some (.xd fs) ∧ fs.lookup f = some v ∧ Q v H1
theorem pe_xp {e : Expr} {te : TE} {pos : Pos} {n : Str} (T : ExK X.K D) (hno : PySem.W.findIn X.K (.ref D) n = some none) (hp : (a, oe) ∈ X.pn) (hz : Zc (.ref D) d oe) (hf : ∃ vs, oe.data = .fields vs) (he : PE X e te)
    (hb : attributeBase e n X.env (eval e X.env) = eval e X.env := by rfl) : PE X (.Attribute e n pos) (tXp a d n te) := by
  refine ⟨fun pins s σ H Q I h => attr_of hb (thn (he.run pins s σ H _ I h) fun u s1 z => ?_)⟩
  obtain ⟨x, H1, I1, rx, ex, dd, fs, v, ed, ea, l, q⟩ := z
  subst ex ed
  obtain rfl : u = Value.ref a := rx
  obtain ⟨hget, _⟩ := I1.pin (a, oe) (List.mem_append_left _ hp)
  obtain ⟨fv, hv⟩ := hf
  obtain ⟨mA, hns, hrel⟩ := (show ObjOk X.prog X.w H1 s1.heap dd (.xd fs) from I1.hok dd _ ea)
  obtain ⟨od, ho, hlk⟩ := lookIn_ns hns
  obtain ⟨u, hu, ru⟩ := RelO.some_of (v := v) (o := mA n) (by rw [← l]; exact hrel n)
  have J : PySem.W.InstAt s1.heap a oe D (some od) := ⟨hget, hz.1, by unfold PySem.W.notCls; rw [hv] <;> rfl, by rw [hz.2]; exact ho⟩
  exact HandSPX.exc_get I1.kIn J T.ga T.gg T.be (PySem.W.findObj_own T.hd hno rfl (by rw [hlk, hu])) (handed_of ru) ⟨v, H1, I1.tok _, ru, q⟩
end

/-! ### a def that is called with the exception that is handled -/
abbrev SpE := Addr → Value → Option Addr → Sp
structure FnE (P : Program) (w : World) (K : PySem.W.Frag) (mg : Str → Option Value) (bh : Heap) (C : CXT) (k : Nat) (f : Addr) (fd : FuncData) (ps : List Str) (sp : SpE) : Prop where
  num : ∀ a cls d vs H Q E, sp a cls d vs H Q E → vs.length = ps.length
  go : ∀ (A : Around) (out : List Env) (s : Shared) (H : Hp) (ar : Args) (us : List Value) (vs : List V) (Q : VK) (E : XK) (p : Addr × Obj) (cls : Value) (d : Option Addr), L2H.RoomH k A → L2H.Hot1 A p → L2H.PinOk out H s p → Zc cls d p.2 →
    Env0 P w K mg bh A out s H → BindsTo s fd ar (ps.zip us) → Vals vs us → sp p.1 cls d vs H Q E → codeAny (model P w) A (.call (.ref f) ar) (CR C out P w H s Q E) s
section
variable {P : Program} {w : World} {K : PySem.W.Frag} {mg : Str → Option Value} {bh : Heap} {C : CXT} {k : Nat} {f : Addr} {fd : FuncData} {ps : List Str} {sp : SpE}
theorem FnE.of {name qual : Str} {params : Arguments} {body : List Stmt} {sc : Scope} {dV kV dc pm cdv ct oc : Value} {an od : Option Addr} {osl : Array (Option Value)} {N : List Str}
    (lk : K.lookup f = some ⟨oc, od, .func (PySem.W.fnOf name qual params body sc dV kV dc pm an cdv ct), osl⟩) (hcd : PySem.W.codeIn K cdv qual = true) (S : FnScope N ps sc)
    (num : ∀ a cls d vs H Q E, sp a cls d vs H Q E → vs.length = ps.length)
    (hb : ∀ (A : Around) (out : List Env) (s : Shared) (H : Hp) (vs : List V) (Q : VK) (E : XK) (p : Addr × Obj) (cls : Value) (d : Option Addr), L2H.Hot1 A p → Zc cls d p.2 → L2H.RoomH k (A.deeper (envOfC qual sc s.heap.objs.size f cdv)) → sp p.1 cls d vs H Q E →
      ∃ t, PSs (L2H.cxH C P w K mg bh N qual sc f cdv A out s H E p) body t ∧ t { nx := fun _ H' => Q .non H', rt := Q } (start N vs) H) :
    FnE P w K mg bh C (k + 1) f (PySem.W.fnOf name qual params body sc dV kV dc pm an cdv ct) ps sp := by
  refine ⟨num, fun A out s H ar us vs Q E p cls d hr hot hpin hz e0 hbd rv hsp => ?_⟩
  have hlen := num _ _ _ _ _ _ _ hsp
  have KX : K.In s.heap := e0.mod.kin.keeps fun b o z => (e0.bs b o z).1
  have nl : s.heap.NoLimit := e0.mod.nolimit.keeps fun b o z => (e0.bs b o z).1
  have kinds : ∀ y ∈ ps.zip us, sc.names.lookup y.1 = some .local ∨ (sc.names.lookup y.1 = some .cell ∧ ((cellsFrom (s.heap.objs.size + 1) sc.names []).lookup y.1).isSome = true) := by
    rintro ⟨n, v⟩ hy
    exact (S.par n (List.of_mem_zip hy).1).imp id fun z => ⟨z, PySem.W.cellsFrom_some _ _ _ (.inl z)⟩
  refine codeAny_call_function hr.depth (KX _ _ lk) rfl S.co S.gen rfl (PySem.W.codeRec_of KX hcd) (hbd _ _ _ _ ?_)
  refine wpAny_newFunctionEnv_cells S.kind kinds fun ev hev s1 ic => ?_
  subst hev
  refine ⟨nl.keeps ic.toInCall.keep, codeAny_func ?_⟩
  obtain ⟨t, dt, rt⟩ := hb A out s H vs Q E p cls d hot hz (hr.deeper _) hsp
  have I0 : Inv (L2H.cxH C P w K mg bh N qual sc f cdv A out s H E p) [] (start N vs) H s1 := L2H.inv_startH S hpin e0 hlen rv ic
  refine wpAny_mono (dt.run [] s1 (start N vs) H _ I0 rt) (fun fl s2 z => ?_) fun _ _ z => z
  cases fl with
  | next =>
    obtain ⟨_, H2, J, q⟩ := z
    exact ⟨.non, H2, J.os, J.bare, J.base, J.hok, rfl, q⟩
  | ret u =>
    obtain ⟨v, _, H2, J, r2, q⟩ := z
    exact ⟨v, H2, J.os, J.bare, J.base, J.hok, r2, q⟩
  | brk => exact z.elim fun _ z => z.elim fun _ z => False.elim z.2
  | cont => exact z.elim fun _ z => z.elim fun _ z => False.elim z.2
end
structure DnE (P : Program) (w : World) (K : PySem.W.Frag) (mg : Str → Option Value) (bh : Heap) (C : CXT) (k : Nat) (x : Str) (ps : List Str) (sp : SpE) : Prop where
  ex : ∃ f fd, mg x = some (.ref f) ∧ PySem.W.keepIn K (.ref f) = true ∧ Binds K fd ps [] ∧ FnE P w K mg bh C k f fd ps sp
section
variable {P : Program} {w : World} {K : PySem.W.Frag} {mg : Str → Option Value} {bh : Heap} {C : CXT} {k : Nat} {x : Str} {st : Stmt} {ps : List Str} {sp : SpE}
theorem DnE.mk' (W : Wr K mg x st) (hb : BindsTxt x st ps) (h : ∀ f fd, Fun K x x st f fd → FnE P w K mg bh C k f fd ps sp) : DnE P w K mg bh C k x ps sp := by
  obtain ⟨f, fd, g, F⟩ := W.ex
  exact ⟨f, fd, g, F.kp, F.binds hb, h f fd F⟩
theorem FnE.fun_ {qual : Str} {f : Addr} {fd : FuncData} {N : List Str} (F : Fun K x qual st f fd) (S : FnScope N ps (defScope st)) (num : ∀ a cls d vs H Q E, sp a cls d vs H Q E → vs.length = ps.length)
    (hb : ∀ (cdv : Value) (A : Around) (out : List Env) (s : Shared) (H : Hp) (vs : List V) (Q : VK) (E : XK) (p : Addr × Obj) (cls : Value) (d : Option Addr), L2H.Hot1 A p → Zc cls d p.2 → L2H.RoomH k (A.deeper (envOfC qual (defScope st) s.heap.objs.size f cdv)) → sp p.1 cls d vs H Q E →
      ∃ t, PSs (L2H.cxH C P w K mg bh N qual (defScope st) f cdv A out s H E p) (defBody st) t ∧ t { nx := fun _ H' => Q .non H', rt := Q } (start N vs) H) : FnE P w K mg bh C (k + 1) f fd ps sp := by
  obtain ⟨oc, od, kV, dc, pm, an, cdv, ct, osl, rfl, lk, hcd⟩ := F.ex
  exact FnE.of lk hcd S num fun A out s H vs Q E p cls d hot hz hr hsp => hb cdv A out s H vs Q E p cls d hot hz hr hsp
end
section
variable {X : Cx} {C : CXT} {k : Nat} {ps : List Str} {sp : SpE} {E : XK} {x : Str} {p pos : Pos} {e : Expr} {es : List Expr} {t : TA} {a : Addr} {oe : Obj} {cls : Value} {d : Option Addr}
/-- f(e, ..) in the suite that holds (a, oe) -/
theorem pe_e (D : DnE X.prog X.w X.K X.mg X.base C k x ps sp) (hr : L2H.RoomH k X.A) (hot : L2H.Hot1 X.A (a, oe)) (hp : (a, oe) ∈ X.pn) (hz : Zc cls d oe) (hx : ∀ σ, PassesAt C X σ E) (ha : PA X (e :: es) t) (hg : Gl X x := by rfl)
    (hdb : (x == ("__debug__" : Str)) = false := by decide) (he : starEach (e :: es) X.env = (false, eval e X.env) :: starEach es X.env := by rfl) (hpl : (backTo pos (starEach es X.env)).any (·.1) = false := by rfl) :
    PE X (.Call (.Name x p) (e :: es) [] pos) (tCall (sp a cls d) [] E t) := by
  obtain ⟨f, fd, hm, hk, hb, F⟩ := D.ex
  refine ⟨fun pins s σ H Q I h => wpAny_Call_Name_kw (ld_glob I hg hm ?_ hdb)⟩
  refine PySem.W.callWith_K (h₀ := X.base) I.ok.mod.kin hk (thn (ha.run pos pins s σ H _ I h) fun us s1 z => ?_) he hpl
  obtain ⟨vs, H1, I1, rv, q⟩ := z
  rw [List.append_nil] at q
  refine ⟨I1.kIn, ?_⟩
  have hl : us.length = ps.length := by rw [← rv.length]; exact F.num _ _ _ _ _ _ _ q
  have hb2 := hb s1 us I1.kIn (by rw [List.append_nil]; exact hl)
  rw [List.append_nil] at hb2
  have P1 := I1.pin (a, oe) (List.mem_append_left _ hp)
  have hpin : L2H.PinOk X.stack H1 s1 (a, oe) := ⟨P1.1, P1.2.1, fun hm => (List.mem_cons.mp (I1.stkSub a hm)).elim P1.2.2.1 P1.2.2.2.1, P1.2.2.2.2⟩
  refine wpAny_call (codeAny_mono (F.go X.A X.stack s1 H1 ⟨us, []⟩ us vs Q E (a, oe) cls d hr hot hpin hz I1.env0 hb2 rv q) fun res s2 z => ?_)
  match res, z with
  | .error er, z => exact hx σ pins H1 s1 er s2 I1 z
  | .ok (.ret u), z => exact I1.after z
  | .ok .next, z => exact False.elim z
  | .ok .brk, z => exact False.elim z
  | .ok .cont, z => exact False.elim z
end

/-! ### calls whose exception is wished for at the caller's slots -/
section
variable {X : Cx} {C : CXT} {k : Nat} {ps ks : List Str} {sp : Sp} {E : St → XK} {x : Str} {p pos : Pos} {e : Expr} {es : List Expr} {kws : List Keyword} {t tk : TA}
theorem pe_dS (D : Dn X.prog X.w X.K X.mg X.base C k x ps sp) (hr : Room k X.A) (hx : ∀ σ, PassesAt C X σ (E σ)) (ha : PA X (e :: es) t) (hg : Gl X x := by rfl) (hdb : (x == ("__debug__" : Str)) = false := by decide)
    (he : starEach (e :: es) X.env = (false, eval e X.env) :: starEach es X.env := by rfl) (hpl : (backTo pos (starEach es X.env)).any (·.1) = false := by rfl) :
    PE X (.Call (.Name x p) (e :: es) [] pos) (tCallS sp E t) := by
  obtain ⟨f, fd, hm, hk, hb, F⟩ := D.ex
  exact pe_callS F hr hg hm hk hb hx ha hdb he hpl
end
end Ov
end

section
set_option Elab.async false
set_option linter.all false
set_option maxRecDepth 100000
set_option maxHeartbeats 2000000
namespace Ov
open PySem PySem.Spec PyProof.Rows L2

/-! ### calls by keywords -/
/-- the positional values, then the keywords' values, in the order js -/
def gIn {α : Type} (js : List Nat) (us ws : List α) : List α := us ++ js.filterMap (fun j => ws[j]?)
theorem gIn_rel {js : List Nat} {vs zs : List V} {us ws : List Value} (r : Vals vs us) (q : Vals zs ws) : Vals (gIn js vs zs) (gIn js us ws) := by
  refine r.append ?_
  induction js with
  | nil => exact .nil
  | cons j js ih =>
    rw [List.filterMap_cons, List.filterMap_cons]
    cases e : zs[j]? with
    | some x =>
      obtain ⟨u, hu, ru⟩ := Vals.get q e
      rw [hu]
      exact .cons ru ih
    | none =>
      rw [Vals.none_of q e]
      exact ih
/-- the module's def x keeps the promise sp, called with the keywords ks -/
structure DnK (P : Program) (w : World) (K : PySem.W.Frag) (mg : Str → Option Value) (bh : Heap) (C : CXT) (k : Nat) (x : Str) (ps ks : List Str) (js : List Nat) (sp : Sp) : Prop where
  ex : ∃ f fd, mg x = some (.ref f) ∧ PySem.W.keepIn K (.ref f) = true ∧ KBinds K fd ps ks (gIn js) (gIn js) ∧ FnOk P w K mg bh C k f fd ps sp
abbrev KBindsTxt (x : Str) (st : Stmt) (ps ks : List Str) (js : List Nat) : Prop := ∀ (kV dc pm : Value) (an : Option Addr) (cdv ct : Value) (us ws : List Value), (gIn js us ws).length = ps.length →
  bindArgs (PySem.W.fnOf x x (defArgs st) (defBody st) (defScope st) .none kV dc pm an cdv ct) ⟨us, ks.zip ws⟩ = pure (ps.zip (gIn js us ws))
section
variable {P : Program} {w : World} {K : PySem.W.Frag} {mg : Str → Option Value} {bh : Heap} {C : CXT} {k : Nat} {x : Str} {st : Stmt} {ps ks : List Str} {js : List Nat} {sp : Sp}
theorem DnK.mk' (W : Wr K mg x st) (hb : KBindsTxt x st ps ks js) (h : ∀ f fd, Fun K x x st f fd → FnOk P w K mg bh C k f fd ps sp) : DnK P w K mg bh C k x ps ks js sp := by
  obtain ⟨f, fd, g, F⟩ := W.ex
  have FO := h f fd F
  obtain ⟨oc, od, kV, doc, pm, an, cdv, ct, osl, rfl, lk, hcd⟩ := F.ex
  exact ⟨f, _, g, F.kp, ⟨fun s us ws _ hl => .of_eq (hb kV doc pm an cdv ct us ws hl), fun r q => gIn_rel r q⟩, FO⟩
end
/-- f(e, .., k = v, ..); the exception's wish at the caller's slots -/
def tCallKS (js : List Nat) (sp : Sp) (E : St → XK) (t tk : TA) : TE := fun σ H Q => t σ H fun vs H1 => tk σ H1 fun zs H2 => sp (gIn js vs zs) H2 Q (E σ)
section
variable {X : Cx} {C : CXT} {k : Nat} {ps ks : List Str} {js : List Nat} {sp : Sp} {E : St → XK} {x : Str} {p pos : Pos} {e : Expr} {es : List Expr} {kws : List Keyword} {t tk : TA}
theorem run_ks {f : Addr} {fd : FuncData} {g : List Value → List Value → List Value} {gV : List V → List V → List V} {E : XK} {pins : List (Addr × Obj)} {σ : St} {H : Hp} {s : Shared} {Q : VK} {us ws : List Value} {vs zs : List V} (F : FnOk X.prog X.w X.K X.mg X.base C k f fd ps sp)
    (hr : Room k X.A) (hb : KBinds X.K fd ps ks g gV) (hx : PassesAt C X σ E) (I : Inv X pins σ H s) (r : Vals vs us) (rz : Vals zs ws) (h : sp (gV vs zs) H Q E) :
    wpAny (model X.prog X.w) X.A (call (.ref f) us (ks.zip ws)) (EP X pins σ Q) X.xe s := by
  have r2 := hb.rel r rz
  have hl : (g us ws).length = ps.length := r2.length.symm.trans (F.len _ _ _ _ h)
  refine wpAny_call (codeAny_mono (F.run X.A X.stack s H ⟨us, ks.zip ws⟩ (g us ws) (gV vs zs) Q E hr I.env0 (hb.to s us ws I.kIn hl) r2 h) fun res s2 z => ?_)
  match res, z with
  | .error er, z => exact hx pins H s er s2 I z
  | .ok (.ret u), z => exact I.after z
  | .ok .next, z => exact False.elim z
  | .ok .brk, z => exact False.elim z
  | .ok .cont, z => exact False.elim z
/-- f(k = v, ..) -/
theorem pe_k0 (D : DnK X.prog X.w X.K X.mg X.base C k x ps ks js sp) (hr : Room k X.A) (hx : ∀ σ, PassesAt C X σ (E σ)) (hkw : PK X kws tk) (hg : Gl X x := by rfl) (hdb : (x == ("__debug__" : Str)) = false := by decide)
    (hall : (backToKw pos (keywordEach kws X.env)).all (·.1.isSome) = true := by rfl) (hks : (backToKw pos (keywordEach kws X.env)).filterMap (·.1) = ks := by rfl)
    (hpl : ((backTo pos (starEach [] X.env)).any (·.1) || (backToKw pos (keywordEach kws X.env)).any (·.1.isNone)) = false := by rfl) :
    PE X (.Call (.Name x p) [] kws pos) (tCallKS js sp E tNil tk) := by
  obtain ⟨f, fd, hm, hk, hb, F⟩ := D.ex
  refine ⟨fun pins s σ H Q I h => wpAny_Call_Name_kw (ld_glob I hg hm ?_ hdb)⟩
  refine PySem.W.callWith_KW0 (h₀ := X.base) I.ok.mod.kin hk hall (thn (hkw.run pos pins s σ H _ I h) fun ws s2 z => ?_) hpl
  obtain ⟨zs, H2, I2, rz, q2⟩ := z
  refine ⟨I2.kIn, ?_⟩
  rw [hks]
  exact run_ks F hr hb (hx σ) I2 .nil rz q2
/-- f(e, .., k = v, ..) -/
theorem pe_k (D : DnK X.prog X.w X.K X.mg X.base C k x ps ks js sp) (hr : Room k X.A) (hx : ∀ σ, PassesAt C X σ (E σ)) (ha : PA X (e :: es) t) (hkw : PK X kws tk) (hg : Gl X x := by rfl) (hdb : (x == ("__debug__" : Str)) = false := by decide)
    (hall : (backToKw pos (keywordEach kws X.env)).all (·.1.isSome) = true := by rfl) (hks : (backToKw pos (keywordEach kws X.env)).filterMap (·.1) = ks := by rfl)
    (he : starEach (e :: es) X.env = (false, eval e X.env) :: starEach es X.env := by rfl)
    (hpl : ((backTo pos (starEach (e :: es) X.env)).any (·.1) || (backToKw pos (keywordEach kws X.env)).any (·.1.isNone)) = false := by rfl) :
    PE X (.Call (.Name x p) (e :: es) kws pos) (tCallKS js sp E t tk) := by
  obtain ⟨f, fd, hm, hk, hb, F⟩ := D.ex
  refine ⟨fun pins s σ H Q I h => wpAny_Call_Name_kw (ld_glob I hg hm ?_ hdb)⟩
  refine PySem.W.callWith_KW (h₀ := X.base) I.ok.mod.kin hk hall (thn (ha.run pos pins s σ H _ I h) fun us s1 z => ?_) hpl he
  obtain ⟨vs, H1, I1, r, q⟩ := z
  refine thn (hkw.run pos pins s1 σ H1 _ I1 q) fun ws s2 z2 => ?_
  obtain ⟨zs, H2, I2, rz, q2⟩ := z2
  refine ⟨I2.kIn, ?_⟩
  rw [hks]
  exact run_ks F hr hb (hx σ) I2 r rz q2
theorem passes_at {X : Cx} {C : CXT} {E : XK} (h : Passes C X E) : ∀ σ, PassesAt C X σ E := fun σ pins H s e s' I c => h pins σ H s e s' I c
end
end Ov
end

section
set_option Elab.async false
set_option linter.all false
set_option maxRecDepth 100000
set_option maxHeartbeats 2000000
namespace Ov
open PySem PySem.Spec PyProof.Rows L2

/-! ### names of the module that hold plain values -/
section
variable {X : Cx} {x : Str} {pos : Pos}
theorem pe_gi {i : Int} (h : ∃ t, X.mg x = some (.int i t)) (hg : Gl X x := by rfl) (hd : (x == ("__debug__" : Str)) = false := by decide) : PE X (.Name x pos) (tC (.int i)) := by
  obtain ⟨t, e⟩ := h
  exact pe_glob hg e ⟨t, rfl⟩ hd
theorem pe_gs {z : Str} (h : ∃ t, X.mg x = some (.str z t)) (hg : Gl X x := by rfl) (hd : (x == ("__debug__" : Str)) = false := by decide) : PE X (.Name x pos) (tC (.str z)) := by
  obtain ⟨t, e⟩ := h
  exact pe_glob hg e ⟨t, rfl⟩ hd
theorem pe_gr {a : Addr} (h : X.mg x = some (.ref a)) (hg : Gl X x := by rfl) (hd : (x == ("__debug__" : Str)) = false := by decide) : PE X (.Name x pos) (tC (.ref a)) := pe_glob hg h rfl hd
theorem pe_ty {T : String} (hm : X.mg x = none) (hv : bootBuiltins x = some (.type T)) (hg : Gl X x := by rfl) (hn : x ≠ "__name__" := by decide) (hd : (x == ("__debug__" : Str)) = false := by decide) : PE X (.Name x pos) (tC (.ty T)) :=
  pe_bltn hg hm hv rfl hn hd
end

/-! ### heaps: what stood stands -/
end Ov
namespace Evl
open PySem PySem.Spec PyProof.Rows L2
theorem Ex.get {H H' : Hp} {a : Addr} {o : HO} (e : Ex H H') (h : H a = some o) : H' a = some o := e a o h
theorem Ex.free {H H' : Hp} {a : Addr} (e : Ex H H') (h : H' a = none) : H a = none := fresh_back e h
end Evl
namespace Ov
open PySem PySem.Spec PyProof.Rows L2 Evl

/-! ### readings, one step each; a new object leaves a new heap of which little is known -/
section
variable {K : PySem.W.Frag} {σ : St} {H : Hp} {Q : VK} {D : Ends} {i : Nat} {v x y : V} {ta tb te : TE}
theorem r_tup {xs : List V} (hl : xs.length ≤ 100000) (h : ∀ p H', H p = none → Ex H H' → H' p = some (.tup xs) → Q (.ref p) H') : xs.length ≤ sizeLine ∧ ∀ p, H p = none → Q (.ref p) (upd H p (.tup xs)) :=
  ⟨Nat.le_trans hl (by decide), fun p hp => h p _ hp (Evl.Ex.new hp) upd_same⟩
theorem r_lst {xs : List V} (hl : xs.length ≤ 100000) (h : ∀ p H', H p = none → Ex H H' → H' p = some (.lst xs) → Q (.ref p) H') : xs.length ≤ sizeLine ∧ ∀ p, H p = none → Q (.ref p) (upd H p (.lst xs)) :=
  ⟨Nat.le_trans hl (by decide), fun p hp => h p _ hp (Evl.Ex.new hp) upd_same⟩
theorem r_new {o : HO} (h : ∀ p H', H p = none → Ex H H' → H' p = some o → Q (.ref p) H') : ∀ p, H p = none → Q (.ref p) (upd H p o) := fun p hp => h p _ hp (Evl.Ex.new hp) upd_same
end
end Ov
end

section
set_option Elab.async false
set_option linter.all false
set_option maxRecDepth 100000
set_option maxHeartbeats 2000000
namespace Ov
open PySem PySem.Spec PyProof.Rows L2 Evl

section
variable {K : PySem.W.Frag} {σ : L2.St} {H H' : Hp} {ta tb tc te tx : TE} {t u : TT} {x y z v : V} {r r' : R2}
/-! ### what expressions evaluate to, further -/
theorem ev_slS {tl th : TO} {s : Str} {lo hi : Option Int} (h : Ev te σ H (.str s)) (h1 : EvO tl σ H lo) (h2 : EvO th σ H hi) (hz : s.length ≤ 100000) : Ev (tSl rSlS te tl th) σ H (.str (cutS s lo hi)) := fun H1 e Q q =>
  h H1 e _ fun H2 e2 => h1 H2 (e.trans e2) _ fun H3 e3 => h2 H3 ((e.trans e2).trans e3) _ fun H4 e4 => ⟨s, rfl, sz_of hz, q H4 ((e2.trans e3).trans e4)⟩
theorem ev_chain {a b : Bool} (ha : Ev ta σ H x) (hb : Ev tb σ H y) (hr : RV r x y H (.bl a)) (hc : a = true → Ev tc σ H z) (hr' : a = true → RV r' y z H (.bl b)) : Ev (tChain r r' ta tb tc) σ H (.bl (a && b)) := fun H1 e Q q =>
  ha H1 e _ fun H2 e2 => hb H2 (e.trans e2) _ fun H3 e3 => hr H3 ((e.trans e2).trans e3) _ fun H4 e4 => ⟨a, rfl, by
    cases a with
    | true => exact iteT (hc rfl H4 (((e.trans e2).trans e3).trans e4) _ fun H5 e5 => hr' rfl H5 ((((e.trans e2).trans e3).trans e4).trans e5) Q fun H6 e6 => q H6 ((((e2.trans e3).trans e4).trans e5).trans e6))
    | false => exact iteF (q H4 ((e2.trans e3).trans e4))⟩
theorem rc_lenS {s : Str} (hz : s.length ≤ 100000) : RC (fun xs H Q => ∃ z, xs = [V.str z] ∧ z.length ≤ sizeLine ∧ Q (V.int z.length) H) [.str s] H (.int s.length) := fun H1 _ _ q => ⟨s, rfl, sz_of hz, q H1 (Ex.refl H1)⟩
/-- all, any of a list of truth values -/
theorem ev_all {bs : List Bool} (h : EvL ta σ H (bs.map V.bl)) : Ev (tCB (rAll K) (tCons ta tNil)) σ H (.bl (bs.all id)) := fun H1 e Q q =>
  h H1 e _ fun p H2 _ e2 h2 => ⟨p, bs, rfl, sq_of h2, q H2 e2⟩
theorem ev_any {bs : List Bool} (h : EvL ta σ H (bs.map V.bl)) : Ev (tCB (rAny K) (tCons ta tNil)) σ H (.bl (bs.any id)) := fun H1 e Q q =>
  h H1 e _ fun p H2 _ e2 h2 => ⟨p, bs, rfl, sq_of h2, q H2 e2⟩
/-- one sign in a text -/
theorem rv_inSign {c : Nat} {s : Str} : RV (fun x y H Q => ∃ (c : Nat) (z : Str), x = .str ⟨#[c]⟩ ∧ y = .str z ∧ Q (.bl (decide (c ∈ z.cps.toList))) H) (.str ⟨#[c]⟩) (.str s) H (.bl (decide (c ∈ s.cps.toList))) := fun H1 _ _ q => ⟨c, s, rfl, rfl, q H1 (Ex.refl H1)⟩
theorem rv_notInSign {c : Nat} {s : Str} : RV (fun x y H Q => ∃ (c : Nat) (z : Str), x = .str ⟨#[c]⟩ ∧ y = .str z ∧ Q (.bl (!decide (c ∈ z.cps.toList))) H) (.str ⟨#[c]⟩) (.str s) H (.bl (!decide (c ∈ s.cps.toList))) := fun H1 _ _ q => ⟨c, s, rfl, rfl, q H1 (Ex.refl H1)⟩
theorem rv_isN : RV (fun x y H Q => y = .non ∧ Q (.bl (decide (x = .non))) H) x .non H (.bl (decide (x = .non))) := fun H1 _ _ q => ⟨rfl, q H1 (Ex.refl H1)⟩
theorem rv_addS {a b : Str} (h : a.length + b.length ≤ 100000) : RV (fun x y H Q => ∃ i j, x = .str i ∧ y = .str j ∧ i.length + j.length ≤ sizeLine ∧ Q (.str (i ++ j)) H) (.str a) (.str b) H (.str (a ++ b)) := fun H1 _ _ q => ⟨a, b, rfl, rfl, sz_of h, q H1 (Ex.refl H1)⟩
theorem rc_strI {i : Int} (h : i.natAbs.log2 < 1920) : RC (fun xs H Q => ∃ i : Int, xs = [V.int i] ∧ i.natAbs.log2 < 1920 ∧ Q (V.str (toString i)) H) [.int i] H (.str (toString i)) := fun H1 _ _ q => ⟨i, rfl, h, q H1 (Ex.refl H1)⟩
theorem rc_intS {s : Str} {n : Int} (h : PySem.intText? s = some n) (hl : s.length ≤ 640) : RC (fun xs H Q => ∃ a n, xs = [V.str a] ∧ PySem.intText? a = some n ∧ a.length ≤ 640 ∧ Q (V.int n) H) [.str s] H (.int n) := fun H1 _ _ q => ⟨s, n, rfl, h, hl, q H1 (Ex.refl H1)⟩
/-- [f c for c in s] -/
theorem el_lcS {s : Str} {tl : TE} {j : Nat} {vs : List Nat} (f : Nat → V) (h : Ev tl σ H (.str s)) (hz : s.length ≤ 40000) (hw : ∀ x, wipe ((wipe σ vs).set j (some x)) vs = wipe σ vs)
    (he : ∀ (c : Nat) H1, Ex H H1 → Ev te ((wipe σ vs).set j (some (.str ⟨#[c]⟩))) H1 (f c)) : EvL (tLc (iStr tl) (gName j) tYes te vs) σ H (s.cps.toList.map f) := fun H0 e Q q => h H0 e _ fun H1 e1 => ⟨s, rfl, fun D hD =>
  lc_it (walk_str (z := s)) (fun i H' => H1 D = none ∧ Ex H1 H' ∧ H' D = some (.lst ((s.cps.toList.take i).map f))) ⟨hD, Evl.Ex.new hD, by rw [List.take_zero]; exact upd_same⟩ (fun _ _ _ _ => trivial) (fun i x H2 H3 hi p hy => by
    obtain ⟨rfl, c, hc, rfl⟩ := hy
    obtain ⟨p1, p2, p3⟩ := p
    refine ⟨hw _, he c H3 ((e.trans e1).trans p2) H3 (Evl.Ex.refl _) _ fun H4 e4 => ?_⟩
    have hl : ((s.cps.toList.take i).map f).length < 100000 := by
      rw [List.length_map, List.length_take, Array.length_toList]
      have : s.cps.size ≤ 40000 := hz
      omega
    refine ⟨_, e4 D _ p3, sz_lt hl, p1, Evl.Ex.mut (p2.trans e4) p1, ?_⟩
    rw [upd_same]
    have ht : s.cps.toList.take (i + 1) = s.cps.toList.take i ++ [c] := by
      rw [List.take_succ, Array.getElem?_toList, hc] <;> rfl
    rw [ht, List.map_append] <;> rfl) (fun H' p => q D H' (fresh_back e1 p.1) (e1.trans p.2.1) (by
      rw [p.2.2]
      congr 3
      exact List.take_of_length_le (by rw [Array.length_toList]; exact Nat.le_refl _)))⟩
/-- (a, b, ..) as a value that is found -/
theorem eu_is {xs ys : List V} (h : EvU te σ H xs) (e : xs = ys) : EvU te σ H ys := e ▸ h
theorem el_is {xs ys : List V} (h : EvL te σ H xs) (e : xs = ys) : EvL te σ H ys := e ▸ h
theorem ev_bl {b b' : Bool} (h : Ev te σ H (.bl b)) (e : b = b') : Ev te σ H (.bl b') := e ▸ h
end
end Ov
end

section
set_option Elab.async false
set_option linter.all false
set_option maxRecDepth 100000
set_option maxHeartbeats 2000000
namespace Ov
open PySem PySem.Spec PyProof.Rows L2 Evl

/-! ### the list that the draws change -/
/-- at v: the digits left, the seed, how often was mixed; n more draws are allowed for -/
def VatN (H : Hp) (v : Addr) (n : Nat) : Prop := ∃ d m c : Int, H v = some (.lst [.int d, .int m, .int c]) ∧ 0 ≤ d ∧ 0 ≤ m ∧ m < 10 ^ 43 ∧ 0 ≤ c ∧ c + n ≤ 10 ^ 9
/-- G stands, and v is none of it -/
structure Wd (G : Hp) (v : Addr) (n : Nat) (H : Hp) : Prop where
  no : G v = none
  ex : Ex G H
  vat : VatN H v n
theorem VatN.le {H : Hp} {v : Addr} {n m : Nat} (h : VatN H v n) (k : m ≤ n) : VatN H v m := by
  obtain ⟨d, e, c, h1, h2, h3, h4, h5, h6⟩ := h
  exact ⟨d, e, c, h1, h2, h3, h4, h5, by omega⟩
theorem VatN.ex {H H' : Hp} {v : Addr} {n : Nat} (h : VatN H v n) (e : Ex H H') : VatN H' v n := by
  obtain ⟨d, m, c, h1, h2⟩ := h
  exact ⟨d, m, c, e _ _ h1, h2⟩
theorem VatN.is {H : Hp} {v : Addr} {n : Nat} (h : VatN H v n) : ∃ o, H v = some o := by
  obtain ⟨d, m, c, h1, _⟩ := h
  exact ⟨_, h1⟩
section
variable {G H H' : Hp} {v : Addr} {n m : Nat}
theorem Wd.le (h : Wd G v n H) (k : m ≤ n) : Wd G v m H := ⟨h.no, h.ex, h.vat.le k⟩
theorem Wd.mono (h : Wd G v n H) (e : Ex H H') : Wd G v n H' := ⟨h.no, h.ex.trans e, h.vat.ex e⟩
theorem Wd.sub {G' : Hp} (h : Wd G v n H) (e : Ex G' G) : Wd G' v n H := ⟨e.free h.no, e.trans h.ex, h.vat⟩
/-- something new belongs to what stands -/
theorem Wd.new {p : Addr} {o : HO} (h : Wd G v n H) (hp : H p = none) (e : Ex H H') (ho : H' p = some o) : Wd (upd G p o) v n H' ∧ Ex G (upd G p o) ∧ upd G p o p = some o := by
  have nv : v ≠ p := by
    obtain ⟨u, hu⟩ := h.vat.is
    exact ne_of_none hu hp
  refine ⟨⟨by rw [upd_ne nv]; exact h.no, fun b u hb => ?_, h.vat.ex e⟩, Evl.Ex.new (h.ex.free hp), upd_same⟩
  by_cases hbp : b = p
  · subst hbp
    rw [upd_same] at hb
    cases hb
    exact ho
  · rw [upd_ne hbp] at hb
    exact e _ _ (h.ex _ _ hb)
end
/-- all that is known, but v -/
def hideV (H : Hp) (v : Addr) : Hp := fun b => if b = v then none else H b
theorem hide_ne {H : Hp} {v b : Addr} (h : b ≠ v) : hideV H v b = H b := if_neg h
theorem hide_wd {H : Hp} {v : Addr} {n : Nat} (h : VatN H v n) : Wd (hideV H v) v n H :=
  ⟨if_pos rfl, fun b o e => by
    unfold hideV at e
    split at e
    · cases e
    · exact e, h⟩

/-! ### what an expression with draws gives -/
def EvW (te : TE) (σ : L2.St) (G : Hp) (v : Addr) (n m : Nat) (P : V → Prop) : Prop := ∀ H, Wd G v n H → ∀ Q : VK, (∀ x H', P x → Wd G v m H' → Q x H') → te σ H Q
section
variable {K : PySem.W.Frag} {σ : L2.St} {G H : Hp} {v : Addr} {n m k : Nat} {te ta tb : TE} {x y z : V} {P P' : V → Prop}
theorem Wd.ev (h : Wd G v n H) (he : Ev te σ G x) {Q : VK} (q : ∀ H', Wd G v n H' → Ex H H' → Q x H') : te σ H Q := he H h.ex Q fun H' e => q H' (h.mono e) e
theorem evw_of (he : Ev te σ G x) (hp : P x) : EvW te σ G v n n P := fun H h Q q => h.ev he fun H' h' _ => q x H' hp h'
end
/-- the script's cells -/
def spVat (K : PySem.W.Frag) : Sp := fun vs H Q _ => ∃ (a : Addr) (ns : List Int) (k : Int), vs = [.ref a, .int k] ∧ SqL K H a (ns.map V.int) ∧ ns.length ≤ 63 ∧ 0 ≤ k ∧ k < 64 ∧
  ∀ p H', H p = none → Ex H H' → VatN H' p 900000000 → Q (.ref p) H'
def spSip : Sp := fun vs H Q _ => ∃ (G : Hp) (v : Addr) (n : Nat) (size : Int), vs = [.ref v, .int size] ∧ Wd G v (n + 1) H ∧ 0 < size ∧ size < 1000000 ∧ ∀ r H', 0 ≤ r → r < size → Wd G v n H' → Q (.int r) H'
end Ov
end

section
set_option Elab.async false
set_option linter.all false
set_option maxRecDepth 100000
set_option maxHeartbeats 2000000
namespace Ov
open PySem PySem.Spec PyProof.Rows L2 Evl
section
variable {K : PySem.W.Frag} {σ : L2.St} {H H' : Hp} {ta tb tc te tx : TE} {t u : TT} {x y z v : V} {r r' : R2} {D : Ends} {tu tw tz : TS} {g : TG}
/-! ### texts that become lists and tuples -/
abbrev rPart : V → List V → Hp → VK → Prop := fun x xs H Q => ∃ a b : Str, x = .str a ∧ xs = [.str b] ∧ (b.length == 0) = false ∧ a.length ≤ sizeLine ∧ ∀ p, H p = none → Q (.ref p) (upd H p (.tup [.str (Txt.partition a b).1, .str (Txt.partition a b).2.1, .str (Txt.partition a b).2.2]))
theorem eu_partition {a b : Str} (h : Ev ta σ H (.str a)) (h2 : Ev tb σ H (.str b)) (hb : (b.length == 0) = false) (hz : a.length ≤ 100000) :
    EvU (tM1 rPart ta tb) σ H [.str (Txt.partition a b).1, .str (Txt.partition a b).2.1, .str (Txt.partition a b).2.2] := fun H1 e _ q =>
  h H1 e _ fun H2 e2 => ⟨⟨a, rfl⟩, h2 H2 (e.trans e2) _ fun H3 e3 => ⟨a, b, rfl, rfl, hb, sz_of hz, fun p hp => q p _ (fresh_back (e2.trans e3) hp) ((e2.trans e3).trans (Evl.Ex.new hp)) upd_same⟩⟩
abbrev rSplitT : V → List V → Hp → VK → Prop := fun x xs H Q => ∃ a b : Str, x = .str a ∧ xs = [.str b] ∧ (b.length == 0) = false ∧ a.length + 2 ≤ sizeLine ∧ rNewStrs (Txt.split a b) H Q
theorem el_split {a b : Str} (h : Ev ta σ H (.str a)) (h2 : Ev tb σ H (.str b)) (hb : (b.length == 0) = false) (hz : a.length ≤ 90000) : EvL (tM1 rSplitT ta tb) σ H ((Txt.split a b).map V.str) := fun H1 e _ q =>
  h H1 e _ fun H2 e2 => ⟨⟨a, rfl⟩, h2 H2 (e.trans e2) _ fun H3 e3 => ⟨a, b, rfl, rfl, hb, by have := (sz_of (n := a.length + 2) (by omega)); exact this, fun p hp => q p _ (fresh_back (e2.trans e3) hp) ((e2.trans e3).trans (Evl.Ex.new hp)) upd_same⟩⟩
abbrev rJoinT (K : PySem.W.Frag) : V → List V → Hp → VK → Prop := fun x xs H Q => ∃ (a : Str) (p : Addr), ∃ ys : List Str, x = .str a ∧ xs = [.ref p] ∧ (SqL K H p (ys.map V.str) ∨ SqT K H p (ys.map V.str)) ∧ (ys.map (·.length)).sum + ys.length * a.length ≤ 16777216 ∧ Q (.str (Txt.join a ys)) H
theorem ev_join {a : Str} {ys : List Str} (h : Ev ta σ H (.str a)) (h2 : EvL tb σ H (ys.map V.str)) (hz : (ys.map (·.length)).sum + ys.length * a.length ≤ 16777216) : Ev (tM1 (rJoinT K) ta tb) σ H (.str (Txt.join a ys)) := fun H1 e _ q =>
  h H1 e _ fun H2 e2 => ⟨⟨a, rfl⟩, h2 H2 (e.trans e2) _ fun p H3 _ e3 hp => ⟨a, p, ys, rfl, rfl, .inl (sq_of hp), hz, q H3 (e2.trans e3)⟩⟩
theorem ev_joinL {a : Str} {p : Addr} {ys : List Str} (h : Ev ta σ H (.str a)) (h2 : Ev tb σ H (.ref p)) (hp : SqL K H p (ys.map V.str)) (hz : (ys.map (·.length)).sum + ys.length * a.length ≤ 16777216) : Ev (tM1 (rJoinT K) ta tb) σ H (.str (Txt.join a ys)) := fun H1 e _ q =>
  h H1 e _ fun H2 e2 => ⟨⟨a, rfl⟩, h2 H2 (e.trans e2) _ fun H3 e3 => ⟨a, p, ys, rfl, rfl, .inl (ex_l ((e.trans e2).trans e3) hp), hz, q H3 (e2.trans e3)⟩⟩
/-! ### a tuple's items to names -/
theorem q_un2 {i j : Nat} {a b : V} (h : EvU te σ H [a, b]) (k : ∀ H1, Ex H H1 → tz D ((σ.set i (some a)).set j (some b)) H1) : tSeq (tAsg te (gTup K 2 (gCons (gName i) (gCons (gName j) gNil)))) tz D σ H :=
  h H (Evl.Ex.refl H) _ fun p H1 _ e h1 => ⟨p, _, rfl, st_of h1, rfl, _, _, rfl, _, _, rfl, rfl, k H1 e⟩
theorem q_un3 {i j l : Nat} {a b c : V} (h : EvU te σ H [a, b, c]) (k : ∀ H1, Ex H H1 → tz D (((σ.set i (some a)).set j (some b)).set l (some c)) H1) : tSeq (tAsg te (gTup K 3 (gCons (gName i) (gCons (gName j) (gCons (gName l) gNil))))) tz D σ H :=
  h H (Evl.Ex.refl H) _ fun p H1 _ e h1 => ⟨p, _, rfl, st_of h1, rfl, _, _, rfl, _, _, rfl, _, _, rfl, rfl, k H1 e⟩
theorem q_par {i j : Nat} {ta : TA} {a b : V} (h : EvA ta σ H [a, b]) (k : ∀ H1, Ex H H1 → tz D ((σ.set i (some a)).set j (some b)) H1) : tSeq (tPar i j ta) tz D σ H :=
  h H (Evl.Ex.refl H) _ fun H1 e => ⟨a, b, rfl, k H1 e⟩
/-! ### calls -/
theorem ev_callS {sp : Sp} {vs : List V} {E : L2.St → XK} {ta : TA} (h : EvA ta σ H vs) (hs : SpV sp vs H z) : Ev (tCallS sp E ta) σ H z := fun H1 e Q q =>
  h H1 e _ fun H2 e2 => hs H2 (e.trans e2) Q (fun H3 e3 => q H3 (e2.trans e3)) (E σ)
theorem spv_of {sp : Sp} {vs : List V} (h : ∀ H1, Ex H H1 → ∀ Q : VK, RetV z H1 Q → ∀ E : XK, sp vs H1 Q E) : SpV sp vs H z := fun H1 e Q q E => h H1 e Q q E
theorem ev_call' {sp : Sp} {vs : List V} {E : XK} {ta : TA} (h : EvA ta σ H vs) (hs : ∀ H1, Ex H H1 → ∀ Q : VK, RetV z H1 Q → sp vs H1 Q E) : Ev (tCall sp [] E ta) σ H z := fun H1 e Q q =>
  h H1 e _ fun H2 e2 => by
    show sp (vs ++ []) H2 Q E
    rw [List.append_nil]
    exact hs H2 (e.trans e2) Q fun H3 e3 => q H3 (e2.trans e3)
theorem scal_opt {o : Option Int} : True := trivial
end
end Ov
end

section
set_option Elab.async false
set_option linter.all false
set_option maxRecDepth 100000
set_option maxHeartbeats 2000000
namespace Ov
open PySem PySem.Spec PyProof.Rows L2 Evl
section
variable {K : PySem.W.Frag} {σ : L2.St} {H H' : Hp} {ta tb tc te tx : TE} {t u : TT} {x y z v : V} {r r' : R2} {D : Ends} {tu tw tz : TS} {g : TG}
/-- a comprehension that changes nothing, over anything that is walked -/
theorem lcG {J : It} {n : Nat} {G : Hp → Prop} {Y : Nat → Hp → V → Hp → Prop} {tt : TT} {vs : List Nat} {H1 : Hp} {Q : VK} (wk : Walk J n G Y) (hG : ∀ H', Ex H1 H' → G H') (acc : Nat → List V) (h0 : acc 0 = []) (hl : ∀ i, i ≤ n → (acc i).length ≤ 90000)
    (turn : ∀ i x H2 H3, i < n → Ex H1 H2 → Y i H2 x H3 → Ex H2 H3 ∧ ∃ σ2, (∀ R : L2.St → Hp → Prop, (∀ H4, Ex H3 H4 → R σ2 H4) → g x (wipe σ vs) H3 R) ∧ wipe σ2 vs = wipe σ vs ∧
      ((EvT tt σ2 H3 true ∧ ∃ y, Ev te σ2 H3 y ∧ acc (i + 1) = acc i ++ [y]) ∨ (EvT tt σ2 H3 false ∧ acc (i + 1) = acc i)))
    (q : ∀ p H2, H1 p = none → Ex H1 H2 → H2 p = some (.lst (acc n)) → Q (.ref p) H2) :
    ∀ D, H1 D = none → ∃ W : Nat → Nat → Hp → Prop, (∃ m, W 0 m (upd H1 D (.lst []))) ∧ ∀ i m H, W i m H →
      (J.stop i H ∧ Q (.ref D) H) ∨ (J.go i H ∧ ∃ Nx : Hp → Prop, (∀ H', Nx H' → ∃ m', m' < m ∧ W (i + 1) m' H') ∧ ∀ x H', J.yld i H x H' → g x (wipe σ vs) H' fun σ2 H2 => wipe σ2 vs = wipe σ vs ∧ tt σ2 H2 fun b H3 =>
        if b = true then te σ2 H3 fun y H4 => ∃ acc, H4 D = some (.lst acc) ∧ acc.length < sizeLine ∧ Nx (upd H4 D (.lst (acc ++ [y]))) else Nx H3) := fun D hD =>
  lc_it wk (fun i H' => H1 D = none ∧ Ex H1 H' ∧ H' D = some (.lst (acc i))) ⟨hD, Evl.Ex.new hD, by rw [h0]; exact upd_same⟩ (fun _ H' _ p => hG H' p.2.1) (fun i x H2 H3 hi p hy => by
    obtain ⟨p1, p2, p3⟩ := p
    obtain ⟨e3, σ2, hg, hw, hc⟩ := turn i x H2 H3 hi p2 hy
    refine hg _ fun H4 e4 => ⟨hw, ?_⟩
    rcases hc with ⟨ht, y, hy, ha⟩ | ⟨ht, ha⟩
    · refine ht H4 e4 _ fun H5 e5 => hy H5 (e4.trans e5) _ fun H6 e6 => ⟨_, e6 D _ (e5 D _ (e4 D _ (e3 D _ p3))), sz_lt (by have := hl i (by omega); omega), p1, Evl.Ex.mut (p2.trans (e3.trans (e4.trans (e5.trans e6)))) p1, ?_⟩
      rw [upd_same, ha]
    · refine ht H4 e4 _ fun H5 e5 => ⟨p1, p2.trans (e3.trans (e4.trans e5)), ?_⟩
      rw [ha]
      exact e5 D _ (e4 D _ (e3 D _ p3))) (fun H' p => q D H' p.1 p.2.1 p.2.2)
/-- [f x, y for x, y in xs], xs a list of pairs -/
theorem el_lcP {a : Addr} {xs : List V} {tl : TE} {j l : Nat} {vs : List Nat} (f : Nat → V) (px py : Nat → V) (h : Ev tl σ H (.ref a)) (hx : SqL K H a xs) (hz : xs.length ≤ 40000)
    (hi : ∀ i, i < xs.length → ∃ t, xs[i]? = some (.ref t) ∧ SqT K H t [px i, py i]) (hw : ∀ x y, wipe (((wipe σ vs).set j (some x)).set l (some y)) vs = wipe σ vs)
    (he : ∀ i H1, Ex H H1 → i < xs.length → Ev te (((wipe σ vs).set j (some (px i))).set l (some (py i))) H1 (f i)) :
    EvL (tLc (iList K tl) (gTup K 2 (gCons (gName j) (gCons (gName l) gNil))) tYes te vs) σ H ((List.range xs.length).map f) := fun H0 e Q q => h H0 e _ fun H1 e1 => ⟨a, rfl, ⟨xs, ex_l (e.trans e1) hx⟩,
  lcG (walk_list (K := K) (a := a) (xs := xs)) (fun H' e' => ex_l ((e.trans e1).trans e') hx) (fun i => (List.range i).map f) rfl (fun i hi => by rw [List.length_map, List.length_range]; omega) (fun i x H2 H3 hi2 e2 hy => by
    obtain ⟨rfl, hxi⟩ := hy
    obtain ⟨t, ht, hs⟩ := hi i hi2
    rw [ht] at hxi
    cases hxi
    refine ⟨Evl.Ex.refl _, _, fun R r => ⟨t, _, rfl, ex_t ((e.trans e1).trans e2) hs, rfl, _, _, rfl, _, _, rfl, rfl, r H3 (Evl.Ex.refl _)⟩, hw _ _, .inl ⟨fun H4 _ _ q => q H4 (Evl.Ex.refl _), f i, he i H3 ((e.trans e1).trans e2) hi2, by rw [List.range_succ, List.map_append] <;> rfl⟩⟩)
    (fun p H2 hp e2 h2 => q p H2 (e1.free hp) (e1.trans e2) h2)⟩
/-! ### texts made of pieces -/
theorem ev_fmtI {i : Int} (h : Ev te σ H (.int i)) (hi : i.natAbs.log2 < 1920) : Ev (tFmt te) σ H (.str (toString i)) := fun H1 e _ q => h H1 e _ fun H2 e2 => .inr ⟨i, rfl, hi, q H2 e2⟩
theorem ev_fmtS {s : Str} (h : Ev te σ H (.str s)) (hs : s.length ≤ 100000) : Ev (tFmt te) σ H (.str s) := fun H1 e _ q => h H1 e _ fun H2 e2 => .inl ⟨s, rfl, sz_of hs, q H2 e2⟩
theorem js_run {ts : List TE} {ys : List Str} (h : Paired (fun t y => Ev t σ H (.str y)) ts ys) : ∀ (acc : Str) (H1 : Hp) (Q : Str → Hp → Prop), Ex H H1 → acc.length + (ys.map (·.length)).sum ≤ 100000 → (∀ H2, Ex H1 H2 → Q (ys.foldl (· ++ ·) acc) H2) → tJs ts acc σ H1 Q := by
  induction h with
  | nil => exact fun acc H1 Q _ _ q => q H1 (Evl.Ex.refl _)
  | @cons t y ts ys h1 _ ih =>
    intro acc H1 Q e hl q
    rw [List.map_cons, List.sum_cons] at hl
    refine h1 H1 e _ fun H2 e2 => ⟨y, rfl, ?_, ?_⟩
    · have : (acc ++ y).length = acc.length + y.length := by simp [Str.length, Str.cps_append]
      rw [this]
      exact sz_of (by omega)
    · refine ih (acc ++ y) H2 Q (e.trans e2) ?_ fun H3 e3 => q H3 (e2.trans e3)
      have : (acc ++ y).length = acc.length + y.length := by simp [Str.length, Str.cps_append]
      rw [this]
      omega
theorem ev_js {ts : List TE} {ys : List Str} (h : Paired (fun t y => Ev t σ H (.str y)) ts ys) (hl : (ys.map (·.length)).sum ≤ 100000) : Ev (fun σ H Q => tJs ts Str.empty σ H fun out H1 => Q (.str out) H1) σ H (.str (ys.foldl (· ++ ·) Str.empty)) :=
  fun H1 e Q q => js_run h Str.empty H1 _ e (by show 0 + _ ≤ _; omega) q
/-! ### data -/
theorem dpAll_at {xs : List V} {ds : List PyData} (h : DpAll K H xs ds) : xs.length = ds.length ∧ ∀ (i : Nat) (d : PyData), ds[i]? = some d → ∃ x, xs[i]? = some x ∧ Dp K H x d := by
  induction ds generalizing xs with
  | nil =>
    cases h
    exact ⟨rfl, fun i d z => by simp at z⟩
  | cons d0 ds ih =>
    cases h with
    | cons h1 h2 =>
      obtain ⟨l, k⟩ := ih h2
      refine ⟨by simp [l], fun i d z => ?_⟩
      cases i with
      | zero =>
        simp only [List.getElem?_cons_zero, Option.some.injEq] at z
        subst z
        exact ⟨_, rfl, h1⟩
      | succ i => simpa using k i d (by simpa using z)
theorem dpAll_ints : ∀ {ns : List Int} {xs : List V}, DpAll K H xs (ns.map PyData.int) → xs = ns.map V.int
  | [], _, h => by cases h; rfl
  | n :: ns, _, h => by
    cases h with
    | cons h1 h2 =>
      cases h1
      rw [dpAll_ints (ns := ns) h2] <;> rfl
theorem dp_list {v : V} {ds : List PyData} (h : Dp K H v (.list ds)) : ∃ a xs, v = .ref a ∧ SqL K H a xs ∧ DpAll K H xs ds := by
  cases h with
  | lst h1 h2 => exact ⟨_, _, rfl, h1, h2⟩
theorem dp_tup {v : V} {ds : List PyData} (h : Dp K H v (.tuple ds)) : ∃ a xs, v = .ref a ∧ SqT K H a xs ∧ DpAll K H xs ds := by
  cases h with
  | tup h1 h2 => exact ⟨_, _, rfl, h1, h2⟩
theorem dp_tupI {v : V} {ns : List Int} (h : Dp K H v (.tuple (ns.map PyData.int))) : ∃ a, v = .ref a ∧ SqT K H a (ns.map V.int) := by
  obtain ⟨a, xs, rfl, h1, h2⟩ := dp_tup h
  rw [dpAll_ints h2] at h1
  exact ⟨a, rfl, h1⟩
theorem dpAll_of : ∀ {ns : List Int}, DpAll K H (ns.map V.int) (ns.map PyData.int)
  | [] => .nil
  | n :: ns => .cons (.int n) dpAll_of
theorem dpAll_strs : ∀ {ns : List Str}, DpAll K H (ns.map V.str) (ns.map PyData.str)
  | [] => .nil
  | n :: ns => .cons (.str n) dpAll_strs
mutual
theorem Dp.ex (e : Ex H H') : ∀ {v : V} (d : PyData), Dp K H v d → Dp K H' v d
  | _, .none, .non => .non
  | _, .bool _, .bl b => .bl b
  | _, .int _, .int i => .int i
  | _, .str _, .str s => .str s
  | _, .list ds, .lst h1 h2 => .lst (ex_l e h1) (DpAll.ex e ds h2)
  | _, .tuple ds, .tup h1 h2 => .tup (ex_t e h1) (DpAll.ex e ds h2)
theorem DpAll.ex (e : Ex H H') : ∀ {vs : List V} (ds : List PyData), DpAll K H vs ds → DpAll K H' vs ds
  | _, [], .nil => .nil
  | _, d :: ds, .cons h1 h2 => .cons (Dp.ex e d h1) (DpAll.ex e ds h2)
end
theorem DpAll.snoc {vs : List V} {ds : List PyData} {v : V} {d : PyData} (h : DpAll K H vs ds) (h2 : Dp K H v d) : DpAll K H (vs ++ [v]) (ds ++ [d]) := by
  induction ds generalizing vs with
  | nil =>
    cases h
    exact .cons h2 .nil
  | cons d0 ds ih =>
    cases h with
    | cons a b => exact .cons a (ih b)
end
end Ov
end

section
set_option Elab.async false
set_option linter.all false
set_option maxRecDepth 100000
set_option maxHeartbeats 2000000
namespace Ov
open PySem PySem.Spec PyProof.Rows L2 Evl
/-! ### data of no great size -/
structure Tame (n k : Nat) (d : PyData) : Prop where
  lay : d.canLay0 = true
  sh : d.showable = true
  le : d.leavesShort 13 = true
  dp : d.depth ≤ n
  wt : d.weight ≤ k
structure TameAll (n k : Nat) (ds : List PyData) : Prop where
  lay : PyData.canLayAll0 ds = true
  sh : PyData.showableAll ds = true
  le : PyData.leavesShortAll 13 ds = true
  dp : PyData.depthAll ds ≤ n
  wt : PyData.weightAll ds ≤ ds.length * (k + 1)
theorem TameAll.of {n k : Nat} : ∀ {ds : List PyData}, (∀ d ∈ ds, Tame n k d) → TameAll n k ds
  | [], _ => ⟨rfl, rfl, rfl, Nat.zero_le _, Nat.zero_le _⟩
  | d :: ds, h => by
    have a := h d List.mem_cons_self
    have b := TameAll.of (ds := ds) fun e he => h e (List.mem_cons_of_mem _ he)
    refine ⟨?_, ?_, ?_, ?_, ?_⟩
    · show (d.canLay0 && PyData.canLayAll0 ds) = true
      rw [a.lay, b.lay] <;> rfl
    · show (d.showable && PyData.showableAll ds) = true
      rw [a.sh, b.sh] <;> rfl
    · show (d.leavesShort 13 && PyData.leavesShortAll 13 ds) = true
      rw [a.le, b.le] <;> rfl
    · show max d.depth (PyData.depthAll ds) ≤ n
      exact Nat.max_le.mpr ⟨a.dp, b.dp⟩
    · show d.weight + 1 + PyData.weightAll ds ≤ (ds.length + 1) * (k + 1)
      have h1 := a.wt
      have h2 := b.wt
      rw [Nat.succ_mul]
      omega
theorem Tame.list {n k : Nat} {ds : List PyData} (h : ∀ d ∈ ds, Tame n k d) : Tame (n + 1) (ds.length * (k + 1)) (.list ds) :=
  let a := TameAll.of h
  ⟨a.lay, a.sh, a.le, Nat.succ_le_succ a.dp, a.wt⟩
theorem Tame.tup {n k : Nat} {ds : List PyData} (h : ∀ d ∈ ds, Tame n k d) : Tame (n + 1) (ds.length * (k + 1)) (.tuple ds) :=
  let a := TameAll.of h
  ⟨a.lay, a.sh, a.le, Nat.succ_le_succ a.dp, a.wt⟩
theorem Tame.int {i : Int} (h : i.natAbs < 1048576) : Tame 0 20 (.int i) := by
  have hl : i.natAbs.log2 < 20 := by
    by_cases e : i.natAbs = 0
    · rw [e]
      decide
    · exact (Nat.log2_lt e).mpr h
  refine ⟨rfl, decide_eq_true (by omega), decide_eq_true (PyData.shown_int_le (by omega)), Nat.le_refl _, ?_⟩
  show (if (i == 0) = true then 0 else i.natAbs.log2 + 1) ≤ 20
  split <;> omega
theorem Tame.mono {n k n' k' : Nat} {d : PyData} (h : Tame n k d) (h1 : n ≤ n') (h2 : k ≤ k') : Tame n' k' d := ⟨h.lay, h.sh, h.le, Nat.le_trans h.dp h1, Nat.le_trans h.wt h2⟩
theorem Tame.str {x : Str} {k : Nat} (h : PySem.PyData.strOk x = true) (h2 : ∀ c ∈ x.cps.toList, c < 16 ^ 8) (hl : x.length ≤ k) : Tame 0 k (.str x) :=
  ⟨h, rfl, List.all_eq_true.mpr fun c hc => decide_eq_true (h2 c hc), Nat.le_refl _, hl⟩
theorem Tame.bool {b : Bool} : Tame 0 0 (.bool b) := ⟨rfl, rfl, rfl, Nat.le_refl _, Nat.le_refl _⟩
theorem Tame.none : Tame 0 0 .none := ⟨rfl, rfl, rfl, Nat.le_refl _, Nat.le_refl _⟩
theorem Tame.shaped {n k : Nat} {d : PyData} (h : Tame n k d) (hn : n ≤ 64) : SeqAt.shaped d = true := by
  show (d.canLay0 && decide (d.depth ≤ 64)) = true
  rw [h.lay, decide_eq_true (Nat.le_trans h.dp hn)] <;> rfl
theorem Tame.fits {n k : Nat} {d : PyData} (h : Tame n k d) (hk : k ≤ 2 ^ 20) : d.shown.length ≤ sizeLine := PyData.shown_fits (B := 13) (by decide) (by decide) h.le (Nat.le_trans h.wt hk)
section
variable {K : PySem.W.Frag} {σ : L2.St} {H H' : Hp} {ta tb tc te tx : TE} {x y z v : V}
theorem rv_neD {d e : PyData} {n k : Nat} (hx : Dp K H x d) (hy : Dp K H y e) (td : Tame n k d) (te : Tame n k e) (hn : n ≤ 64) : RV (rNeD K) x y H (.bl (!PyData.eqv d e)) :=
  fun H1 ex _ q => ⟨d, e, Dp.ex ex d hx, Dp.ex ex e hy, td.shaped hn, te.shaped hn, q H1 (Ex.refl H1)⟩
theorem rv_eqD {d e : PyData} {n k : Nat} (hx : Dp K H x d) (hy : Dp K H y e) (td : Tame n k d) (te : Tame n k e) (hn : n ≤ 64) : RV (rEqD K) x y H (.bl (PyData.eqv d e)) :=
  fun H1 ex _ q => ⟨d, e, Dp.ex ex d hx, Dp.ex ex e hy, td.shaped hn, te.shaped hn, q H1 (Ex.refl H1)⟩
theorem rc_repr {a : Addr} {d : PyData} {n k : Nat} (hx : Dp K H (.ref a) d) (td : Tame n k d) (hn : n ≤ 60) (hk : k ≤ 2 ^ 20) : RC (rRepr K) [.ref a] H (.str d.shown) :=
  fun H1 ex _ q => ⟨_, d, rfl, Dp.ex ex d hx, td.sh, td.lay, Nat.le_trans td.dp hn, td.fits hk, ⟨a, rfl⟩, q H1 (Ex.refl H1)⟩
/-- a new list, as data -/
theorem dp_lst {p : Addr} {xs : List V} {ds : List PyData} (h : H p = some (.lst xs)) (hd : DpAll K H xs ds) : Dp K H (.ref p) (.list ds) := .lst (SqL.of h) hd
theorem dp_tupN {p : Addr} {xs : List V} {ds : List PyData} (h : H p = some (.tup xs)) (hd : DpAll K H xs ds) : Dp K H (.ref p) (.tuple ds) := .tup (SqT.of h) hd
end
end Ov
end

section
set_option Elab.async false
set_option linter.all false
set_option maxRecDepth 100000
set_option maxHeartbeats 2000000
namespace Ov
open PySem PySem.Spec PyProof.Rows L2 Evl
section
variable {P : Program} {w : World} {K : PySem.W.Frag} {mg : Str → Option Value} {bh : Heap} {C : CXT} {k : Nat} {f : Addr} {fd : FuncData} {ps N : List Str} {sp : Sp} {st : Stmt} {x qual : Str}
/-- a def by its body, whatever is said of what leaves it -/
theorem okC (F : Fun K x qual st f fd) (S : FnScope N ps (defScope st)) (len : ∀ vs H Q E, sp vs H Q E → vs.length = ps.length)
    (hbody : ∀ (cdv : Value) (A : Around) (outer : List Env) (s : Shared) (H : Hp) (vs : List V) (Q : VK) (E : XK), Room k (A.deeper (envOfC qual (defScope st) s.heap.objs.size f cdv)) → sp vs H Q E →
      ∃ t, PSs (cxOf C P w K mg bh N qual (defScope st) f cdv A outer s H E) (defBody st) t ∧ t { nx := fun _ H' => Q .non H', rt := Q } (L2.start N vs) H) : FnOk P w K mg bh C (k + 1) f fd ps sp := by
  obtain ⟨oc, od, kV, doc, pm, an, cdv, ct, osl, rfl, lk, hcd⟩ := F.ex
  exact fn_of lk hcd S len fun A outer s H vs Q E hr hsp => hbody cdv A outer s H vs Q E hr hsp
theorem passLN {X : Cx} : Passes (L2N.CX X.prog X.w) X (fun _ _ _ => False) := fun _ _ _ _ _ _ _ c => by
  obtain ⟨_, _, _, _, _, _, _, _, _, _, _, _, z⟩ := c
  exact z.elim
end
/-! ### an error with one field -/
/-- its __init__(self, at): the field n is the argument -/
def spAt (K : PySem.W.Frag) (Ca : Addr) (n : Str) : Sp := fun vs H Q _ => ∃ (a : Addr) (v : V), vs = [.ref a, v] ∧ H a = some (exo a Ca none) ∧
  ∀ dx H', H dx = none → dx ≠ a → H' a = some (exo a Ca (some dx)) → H' dx = some (exd dx [(n, v)]) → (∀ b o, b ≠ a → H b = some o → H' b = some o) → Q .non H'
section
variable {K : PySem.W.Frag} {σ : L2.St} {H H' : Hp} {ta : TA} {v : V} {D : Ends} {tu tz : TS}
theorem mk_at {Ca : Addr} {n : Str} {Q : XK} (h : EvA ta σ H [v]) (q : ∀ dd H', Ex H H' → H dd = none → H' dd = some (.xd [(n, v)]) → Q (.ref Ca) (some dd) H') : tMkO Ca (spAt K Ca n) [] ta σ H Q :=
  h H (Evl.Ex.refl H) _ fun H1 e1 => ⟨by show 1 ≤ 1000; decide, fun a ha => ⟨a, v, rfl, upd_same, fun dx H2 hdx hne h2 h3 h4 => ⟨rfl, dx, [(n, v)], h2, h3, by rw [← upd_ne (H := H1) (o := exo a Ca none) hne]; exact hdx, by
    have hdx1 : H1 dx = none := by rw [← upd_ne (H := H1) (o := exo a Ca none) hne]; exact hdx
    refine q dx _ (fun b o hb => ?_) (fresh_back e1 hdx1) upd_same
    have hb1 := e1 b o hb
    have hba : b ≠ a := ne_of_none hb1 ha
    have hbd : b ≠ dx := ne_of_none hb1 hdx1
    rw [upd_ne hbd, del_ne hba]
    exact h4 b o hba (by rw [upd_ne hba]; exact hb1)⟩⟩⟩
/-- for i, x in enumerate(xs) -/
theorem s_forEn {a : Addr} {xs : List V} {j l : Nat} (h : EvA ta σ H [.ref a]) (hx : SqL K H a xs) (Pv : Nat → L2.St → Hp → Prop) (h0 : ∀ H1, Ex H H1 → Pv 0 σ H1) (hl : ∀ i σ' H', i ≤ xs.length → Pv i σ' H' → SqL K H' a xs)
    (hs : ∀ i x σ' H', xs[i]? = some x → Pv i σ' H' → ∀ H2, Ex H' H2 → tu { D with nx := Pv (i + 1), ct := Pv (i + 1), bk := D.nx } ((σ'.set j (some (.int (i : Int)))).set l (some x)) H2) (hd : ∀ σ' H', Pv xs.length σ' H' → D.nx σ' H') :
    tFor (iEnum K ta) (gTup K 2 (gCons (gName j) (gCons (gName l) gNil))) tu D σ H := h H (Evl.Ex.refl H) _ fun H1 e1 => ⟨a, xs, rfl, ex_l e1 hx, by
  refine for_it (walk_enum (K := K) (a := a) (xs := xs)) Pv (h0 H1 e1) (fun i σ' H' hi p => hl i σ' H' hi p) (fun i x σ' H' H2 hi p hy => ?_) hd
  obtain ⟨t, x0, y0, rfl, ht, rfl, h3, h4⟩ := hy
  cases h3
  exact ⟨t, _, rfl, st_of upd_same, rfl, _, _, rfl, _, _, rfl, rfl, hs i y0 σ' H' h4 p _ (Evl.Ex.new ht)⟩⟩
theorem q_forEn {a : Addr} {xs : List V} {j l : Nat} (h : EvA ta σ H [.ref a]) (hx : SqL K H a xs) (Pv : Nat → L2.St → Hp → Prop) (h0 : ∀ H1, Ex H H1 → Pv 0 σ H1) (hl : ∀ i σ' H', i ≤ xs.length → Pv i σ' H' → SqL K H' a xs)
    (hs : ∀ i x σ' H', xs[i]? = some x → Pv i σ' H' → ∀ H2, Ex H' H2 → tu { D with nx := Pv (i + 1), ct := Pv (i + 1), bk := tz D } ((σ'.set j (some (.int (i : Int)))).set l (some x)) H2) (hd : ∀ σ' H', Pv xs.length σ' H' → tz D σ' H') :
    tSeq (tFor (iEnum K ta) (gTup K 2 (gCons (gName j) (gCons (gName l) gNil))) tu) tz D σ H := s_forEn (D := { D with nx := tz D }) h hx Pv h0 hl hs hd
end
end Ov
end

section
set_option Elab.async false
set_option linter.all false
set_option maxRecDepth 100000
set_option maxHeartbeats 2000000
namespace Ov
open PySem PySem.Spec PyProof.Rows L2 Evl
/-- what the module says of a name -/
def ad (mg : Str → Option Value) (x : Str) : Addr := match mg x with
  | some (.ref a) => a
  | _ => 0
theorem hot_of {A : Around} {a : Addr} {oe : Obj} {cls : Value} {d : Option Addr} (hz : L2N.Zn cls d oe) (hf : ∃ vs, oe.data = .fields vs) (hA : A.handled = some (.ref a)) : L2H.Hot1 A (a, oe) := by
  obtain ⟨vs, hv⟩ := hf
  exact ⟨hA, vs, hv, hz.2.2 vs hv⟩
theorem roomM {k j : Nat} {A : Around} {x : Option Value} (r : Room k A) (h : j ≤ k) : L2H.RoomH j (A.mark x) := L2H.RoomH.mono (k := k) ⟨r.dp, r.un⟩ h
theorem lenApp (a b : Str) : (a ++ b : Str).length = a.length + b.length := by simp [Str.length, Str.cps_append]
theorem units1 {k : Nat} {A : Around} (r : Room k A) : A.units + 1 < cLine := by have := r.un; omega
theorem tkNo {X : Cx} : L2N.Takes X (fun _ _ _ _ => False) := fun _ _ z => by
  obtain ⟨_, _, _, _, _, _, _, _, _, _, _, _, _, _, _, _, w⟩ := z
  exact w.elim
section
variable {K : PySem.W.Frag} {σ : L2.St} {H H' : Hp} {te : TE} {ta : TA} {a D : Addr} {d : Option Addr} {b : Bool}
theorem XdAt.ex (h : XdAt H d) (e : Ex H H') : XdAt H' d := by
  cases d with
  | none => trivial
  | some dd =>
    obtain ⟨fs, hf⟩ := h
    exact ⟨fs, e _ _ hf⟩
/-- return a if t else b -/
theorem r_if {t : TT} {ta tb : TE} {Dn : Ends} (h : EvT t σ H b) (h1 : b = true → ∀ H1, Ex H H1 → ta σ H1 Dn.rt) (h2 : b = false → ∀ H1, Ex H H1 → tb σ H1 Dn.rt) : tRet (tIf t ta tb) Dn σ H := h H (Evl.Ex.refl H) _ fun H1 e1 => by
  cases b with
  | true => exact h1 rfl H1 e1
  | false => exact h2 rfl H1 e1
theorem ev_isPT {cs : List V} {us : List Value} (h : Ev te σ H (.ref a)) (h2 : EvA ta σ H cs) (hc : Paired ClsV cs us) (hl : cs.length ≤ 100) (hx : XdAt H d) (hk : PySem.W.kitAny K (.ref D) us = some b) :
    Ev (tCB (rIsPT K D a d) (tCons te (tCons (tTup ta) tNil))) σ H (.bl b) := fun H1 e Q q =>
  h H1 e _ fun H2 e2 => eu_tup h2 (by omega) H2 (e.trans e2) _ fun p H3 hp e3 h3 => ⟨p, cs, us, b, rfl, h3, hc, hx.ex ((e.trans e2).trans e3), hk, q H3 (e2.trans e3)⟩
theorem ev_isP {c : V} {cv : Value} {tc : TE} (h : Ev te σ H (.ref a)) (h2 : Ev tc σ H c) (hc : ClsV c cv) (hx : XdAt H d) (hk : PySem.W.kitOne K (.ref D) cv = some b) :
    Ev (tCB (rIsP K D a d) (tCons te (tCons tc tNil))) σ H (.bl b) := fun H1 e Q q =>
  h H1 e _ fun H2 e2 => h2 H2 (e.trans e2) _ fun H3 e3 => ⟨c, cv, b, rfl, hc, hx.ex ((e.trans e2).trans e3), hk, q H3 (e2.trans e3)⟩
theorem ev_xp {dd : Addr} {fs : List (Str × V)} {v : V} {f : Str} (h : Ev te σ H (.ref a)) (hd : H dd = some (.xd fs)) (hl : fs.lookup f = some v) : Ev (tXp a (some dd) f te) σ H v := fun H1 e Q q =>
  h H1 e _ fun H2 e2 => ⟨rfl, dd, fs, v, rfl, e2 _ _ (e _ _ hd), hl, q H2 e2⟩
theorem q_parLL {ta tb : TE} {tz : TS} {Dn : Ends} {xs ys : List V} {i j : Nat} (h1 : EvL ta σ H xs) (h2 : EvL tb σ H ys) (k : ∀ p q H1 H2, H p = none → Ex H H1 → H1 p = some (.lst xs) → H1 q = none → Ex H1 H2 → H2 q = some (.lst ys) → tz Dn ((σ.set i (some (.ref p))).set j (some (.ref q))) H2) :
    tSeq (tPar i j (tCons ta (tCons tb tNil))) tz Dn σ H := h1 H (Evl.Ex.refl H) _ fun p H1 hp e1 hp1 => h2 H1 e1 _ fun q H2 hq e2 hq1 => ⟨_, _, rfl, k p q H1 H2 hp e1 hp1 hq e2 hq1⟩
/-- a key of a dict -/
theorem ev_dget {td ty : TE} {a : Addr} {kvs : List (Key × V)} {key : Str} {v : V} (h1 : Ev td σ H (.ref a)) (h2 : Ev ty σ H (.str key)) (hk : H a = some (.dK kvs)) (hv : valV kvs (.inr key) = some v) : Ev (tDGet td ty) σ H v := fun H1 e Q q =>
  h1 H1 e _ fun H2 e2 => h2 H2 (e.trans e2) _ fun H3 e3 => ⟨a, v, rfl, hv ▸ DGet.k (k := .inr key) (e3 _ _ (e2 _ _ (e _ _ hk))), q H3 (e2.trans e3)⟩
theorem ev_dni {td ty : TE} {a : Addr} {kvs : List (Key × V)} {key : Str} (h1 : Ev ty σ H (.str key)) (h2 : Ev td σ H (.ref a)) (hk : H a = some (.dK kvs)) : Ev (tDNotIn ty td) σ H (.bl (!(valV kvs (.inr key)).isSome)) := fun H1 e Q q =>
  h1 H1 e _ fun H2 e2 => h2 H2 (e.trans e2) _ fun H3 e3 => ⟨a, _, rfl, DGet.k (k := .inr key) (e3 _ _ (e2 _ _ (e _ _ hk))), q H3 (e2.trans e3)⟩
theorem s_forR2N {tu : TS} {Dn : Ends} {j : Nat} {lo n : Int} (h : EvA ta σ H [.int lo, .int n]) (hn : -100000 ≤ lo ∧ lo ≤ 100000 ∧ -100000 ≤ n ∧ n ≤ 100000) (Pv : Nat → L2.St → Hp → Prop) (h0 : ∀ H1, Ex H H1 → Pv 0 σ H1)
    (hs : ∀ (i : Nat) σ' H', lo + (i : Int) < n → Pv i σ' H' → tu { Dn with nx := Pv (i + 1), ct := Pv (i + 1), bk := Dn.nx } (σ'.set j (some (.int (lo + (i : Int))))) H') (hd : ∀ σ' H', Pv (n - lo).toNat σ' H' → Dn.nx σ' H') : tFor (iRng2 ta) (gName j) tu Dn σ H :=
  h H (Evl.Ex.refl H) _ fun H1 e => ⟨lo, n, rfl, ⟨by omega, by omega, by omega, by omega⟩, for_range (lo := lo) (n := (n - lo).toNat) Pv (h0 H1 e) (fun i σ' H' hi p => hs i σ' H' (by omega) p) hd⟩
end
end Ov
end

section
set_option Elab.async false
set_option linter.all false
set_option maxRecDepth 100000
set_option maxHeartbeats 2000000
namespace Ov
open PySem PySem.Spec PyProof.Rows L2 Evl
section
variable {P : Program} {w : World} {K : PySem.W.Frag} {mg : Str → Option Value} {bh : Heap} {C : CXT} {j k : Nat} {x : Str} {ps ks : List Str} {js : List Nat} {sp : Sp}
theorem okUp {f : Addr} {fd : FuncData} (F : FnOk P w K mg bh C j f fd ps sp) (h : j ≤ k) : FnOk P w K mg bh C k f fd ps sp := ⟨F.len, fun A out s H ar us vs Q E r => F.run A out s H ar us vs Q E (r.mono h)⟩
theorem Dn.up (D : Dn P w K mg bh C j x ps sp) (h : j ≤ k) : Dn P w K mg bh C k x ps sp := by
  obtain ⟨f, fd, a, b, c, F⟩ := D.ex
  exact ⟨f, fd, a, b, c, okUp F h⟩
theorem DnK.up (D : DnK P w K mg bh C j x ps ks js sp) (h : j ≤ k) : DnK P w K mg bh C k x ps ks js sp := by
  obtain ⟨f, fd, a, b, c, F⟩ := D.ex
  exact ⟨f, fd, a, b, c, okUp F h⟩
theorem DnG.up (D : DnG P w K mg bh C j x ps sp) (h : j ≤ k) : DnG P w K mg bh C k x ps sp := by
  obtain ⟨f, fd, a, b, c, F⟩ := D.ex
  exact ⟨f, fd, a, b, c, F.up h⟩
end
section
variable {K : PySem.W.Frag} {σ : L2.St} {H H' : Hp} {te ta tb : TE} {x y : V} {a t : Addr} {d d1 d2 : PyData} {n k : Nat} {P P1 P2 : Hp → Addr → Prop} {tz : TS} {D : Ends}
/-! ### a new object -/
def EvN (te : TE) (σ : L2.St) (H : Hp) (P : Hp → Addr → Prop) : Prop := ∀ H1, Ex H H1 → ∀ Q : VK, (∀ p H2, H1 p = none → Ex H1 H2 → P H2 p → Q (.ref p) H2) → te σ H1 Q
theorem en_call {sp : Sp} {vs : List V} {E : XK} {tA : TA} (h : EvA tA σ H vs) (hs : ∀ H1, Ex H H1 → ∀ Q : VK, (∀ p H2, H1 p = none → Ex H1 H2 → P H2 p → Q (.ref p) H2) → sp vs H1 Q E) : EvN (tCall sp [] E tA) σ H P := fun H1 e Q q =>
  h H1 e _ fun H2 e2 => by
    show sp (vs ++ []) H2 Q E
    rw [List.append_nil]
    exact hs H2 (e.trans e2) Q fun p H3 hp e3 hP => q p H3 (fresh_back e2 hp) (e2.trans e3) hP
theorem ev_callKS {sp : Sp} {js : List Nat} {vs : List V} {E : L2.St → XK} {tk : TA} {z : V} (h : EvA tk σ H vs) (hs : ∀ H1, Ex H H1 → ∀ Q : VK, RetV z H1 Q → sp (gIn js [] vs) H1 Q (E σ)) : Ev (tCallKS js sp E tNil tk) σ H z := fun H1 e Q q =>
  h H1 e _ fun H2 e2 => hs H2 (e.trans e2) Q fun H3 e3 => q H3 (e2.trans e3)
theorem q_asgN {i : Nat} (h : EvN te σ H P) (k : ∀ p H1, H p = none → Ex H H1 → P H1 p → tz D (σ.set i (some (.ref p))) H1) : tSeq (tAsg te (gName i)) tz D σ H := h H (Evl.Ex.refl H) _ fun p H1 hp e hP => k p H1 hp e hP
/-- x = [new, new] -/
theorem q_asg2N {i : Nat} (h1 : EvN ta σ H P1) (h2 : EvN tb σ H P2) (k : ∀ p q l H1 H2 H3, H p = none → Ex H H1 → P1 H1 p → H1 q = none → Ex H1 H2 → P2 H2 q → H2 l = none → Ex H2 H3 → H3 l = some (.lst [.ref p, .ref q]) → tz D (σ.set i (some (.ref l))) H3) :
    tSeq (tAsg (tLst (tCons ta (tCons tb tNil))) (gName i)) tz D σ H := h1 H (Evl.Ex.refl H) _ fun p H1 hp e1 hP1 => h2 H1 e1 _ fun q H2 hq e2 hP2 =>
  ⟨sz_of (by show 2 ≤ 100000; decide), fun l hl => k p q l H1 H2 _ hp e1 hP1 hq e2 hP2 hl (Evl.Ex.new hl) upd_same⟩
/-! ### what is shown -/
theorem ev_repr (h : Ev te σ H (.ref a)) (hd : Dp K H (.ref a) d) (td : Tame n k d) (hn : n ≤ 60) (hk : k ≤ 2 ^ 20) : Ev (tCB (rRepr K) (tCons te tNil)) σ H (.str d.shown) := ev_cb (ea_cons h ea_nil) (rc_repr hd td hn hk)
theorem ev_reprL {xs : List V} {ds : List PyData} (h : EvL te σ H xs) (hd : DpAll K H xs ds) (td : Tame n k (.list ds)) (hn : n ≤ 60) (hk : k ≤ 2 ^ 20) : Ev (tCB (rRepr K) (tCons te tNil)) σ H (.str (PyData.list ds).shown) := fun H1 e Q q =>
  h H1 e _ fun p H2 hp e2 h2 => rc_repr (dp_lst h2 (DpAll.ex (e.trans e2) _ hd)) td hn hk H2 (Evl.Ex.refl _) Q fun H3 e3 => q H3 (e2.trans e3)
/-- repr([x, new]) -/
theorem ev_reprVN (h1 : Ev ta σ H x) (h2 : EvN tb σ H P) (hx : Dp K H x d1) (hP : ∀ H' p, Ex H H' → P H' p → Dp K H' (.ref p) d2) (td : Tame n k (.list [d1, d2])) (hn : n ≤ 60) (hk : k ≤ 2 ^ 20) :
    Ev (tCB (rRepr K) (tCons (tLst (tCons ta (tCons tb tNil))) tNil)) σ H (.str (PyData.list [d1, d2]).shown) := fun H1 e Q q =>
  h1 H1 e _ fun H2 e2 => h2 H2 (e.trans e2) _ fun p H3 hp e3 h3 => ⟨sz_of (by show 2 ≤ 100000; decide), fun l hl =>
    rc_repr (dp_lst upd_same (.cons (Dp.ex (((e.trans e2).trans e3).trans (Evl.Ex.new hl)) _ hx) (.cons (Dp.ex (Evl.Ex.new hl) _ (hP H3 p ((e.trans e2).trans e3) h3)) .nil))) td hn hk _ (Evl.Ex.refl _) Q fun H4 e4 => q H4 (((e2.trans e3).trans (Evl.Ex.new hl)).trans e4)⟩
/-! ### isinstance(x, list) -/
theorem ev_isiL {xs : List V} (h : Ev te σ H (.ref a)) (hx : H a = some (.lst xs)) : Ev (tCB (rIsi K) (tCons te (tCons (tC (.ty "list")) tNil))) σ H (.bl true) := fun H1 e Q q =>
  h H1 e _ fun H2 e2 => ⟨_, _, _, _, true, rfl, .ty "list", .base (.lst ((e.trans e2) _ _ hx)), kit_ty (by decide +kernel), q H2 e2⟩
theorem ev_isiT {xs : List V} (h : Ev te σ H (.ref a)) (hx : H a = some (.tup xs)) : Ev (tCB (rIsi K) (tCons te (tCons (tC (.ty "list")) tNil))) σ H (.bl false) := fun H1 e Q q =>
  h H1 e _ fun H2 e2 => ⟨_, _, _, _, false, rfl, .ty "list", .base (.tup ((e.trans e2) _ _ hx)), kit_ty (by decide +kernel), q H2 e2⟩
/-! ### data that do not rest on a list -/
theorem sqT_hide {xs ys : List V} (h : SqT K H a xs) (ht : H t = some (.lst ys)) : SqT K (hideV H t) a xs := by
  rcases h with (h | ⟨o, h⟩) | h
  · have hne : a ≠ t := fun z => by
      rw [z, ht] at h
      cases h
    exact .inl (.inl (by rw [hide_ne hne]; exact h))
  · have hne : a ≠ t := fun z => by
      rw [z, ht] at h
      cases h
    exact .inl (.inr ⟨o, by rw [hide_ne hne]; exact h⟩)
  · exact .inr h
theorem tupI_hide {ns : List Int} {ys : List V} (h : Dp K H x (.tuple (ns.map PyData.int))) (ht : H t = some (.lst ys)) : Dp K (hideV H t) x (.tuple (ns.map PyData.int)) := by
  obtain ⟨a, rfl, hs⟩ := dp_tupI h
  exact .tup (sqT_hide hs ht) dpAll_of
theorem tupsI_hide {α : Type} {f : α → List Int} {ys : List V} (ht : H t = some (.lst ys)) : ∀ {ps : List α} {xs : List V}, DpAll K H xs (ps.map fun p => PyData.tuple ((f p).map PyData.int)) → DpAll K (hideV H t) xs (ps.map fun p => PyData.tuple ((f p).map PyData.int))
  | [], _, h => by
    cases h
    exact .nil
  | p :: ps, _, h => by
    cases h with
    | cons h1 h2 => exact .cons (tupI_hide h1 ht) (tupsI_hide ht h2)
/-- behind a change at t alone -/
theorem ex_hide_upd {o : HO} (e : Ex H H') : Ex (hideV H t) (upd H' t o) := fun b u hb => by
  unfold hideV at hb
  split at hb
  · cases hb
  · rename_i hne
    rw [upd_ne hne]
    exact e _ _ hb
end
end Ov
end

section
set_option Elab.async false
set_option linter.all false
set_option maxRecDepth 100000
set_option maxHeartbeats 4000000
namespace TxM
open PySem PySem.Spec PyProof.Rows L2 TL
abbrev S (l : List Nat) : Str := ⟨l.toArray⟩
/-- cut at each sign c -/
def cutAt (c : Nat) : List Nat → List Nat → List (List Nat)
  | acc, [] => [acc]
  | acc, x :: r => if x = c then acc :: cutAt c [] r else cutAt c (acc ++ [x]) r
theorem pre_one (c x : Nat) (r : List Nat) : pre [c] (x :: r) = decide (x = c) := by
  by_cases h : x = c
  · subst h
    rw [decide_eq_true rfl]
    exact pre_self [x] r
  · rw [decide_eq_false h]
    exact pre_of_head [] r h
theorem spl_cut (c : Nat) : ∀ (l acc : List Nat), spl [c] 0 acc l = cutAt c acc l
  | [], acc => spl_nil _ _ _
  | x :: r, acc => by
    unfold cutAt
    by_cases h : x = c
    · rw [if_pos h, spl_hit (by rw [pre_one, decide_eq_true h])]
      show acc :: spl [c] 0 [] r = _
      rw [spl_cut c r []]
    · rw [if_neg h, spl_miss (by rw [pre_one, decide_eq_false h]), spl_cut c r (acc ++ [x])]
theorem cutAt_ne (c : Nat) : ∀ (l acc : List Nat), cutAt c acc l ≠ []
  | [], _ => by simp [cutAt]
  | x :: r, acc => by
    unfold cutAt
    split
    · simp
    · exact cutAt_ne c r _
theorem joinL_cons {s : List Nat} {p : List Nat} {ps : List (List Nat)} (h : ps ≠ []) : joinL s (p :: ps) = p ++ (s ++ joinL s ps) := by
  cases ps with
  | nil => exact absurd rfl h
  | cons q r => rfl
theorem join_cutAt (c : Nat) : ∀ (l acc : List Nat), joinL [c] (cutAt c acc l) = acc ++ l
  | [], acc => by simp [cutAt, joinL]
  | x :: r, acc => by
    unfold cutAt
    split
    · rename_i h
      rw [joinL_cons (cutAt_ne c r []), join_cutAt c r [], h]
      rfl
    · rw [join_cutAt c r (acc ++ [x]), List.append_assoc]
      rfl
theorem cutAt_len (c : Nat) : ∀ (l acc : List Nat), (cutAt c acc l).length ≤ l.length + 1
  | [], _ => by simp [cutAt]
  | x :: r, acc => by
    unfold cutAt
    split
    · have := cutAt_len c r []
      rw [List.length_cons, List.length_cons]
      omega
    · have := cutAt_len c r (acc ++ [x])
      rw [List.length_cons]
      omega
theorem cutAt_sum (c : Nat) : ∀ (l acc : List Nat), ((cutAt c acc l).map List.length).sum + (cutAt c acc l).length = acc.length + l.length + 1
  | [], acc => by simp [cutAt]
  | x :: r, acc => by
    unfold cutAt
    split
    · have := cutAt_sum c r []
      simp only [List.map_cons, List.sum_cons, List.length_cons, List.length_nil] at this ⊢
      omega
    · have := cutAt_sum c r (acc ++ [x])
      simp only [List.length_append, List.length_cons, List.length_nil] at this ⊢
      omega
theorem mem_sum {l : List Nat} {x : Nat} (h : x ∈ l) : x ≤ l.sum := by
  induction l with
  | nil => cases h
  | cons a r ih =>
    rw [List.sum_cons]
    rcases List.mem_cons.mp h with rfl | h
    · omega
    · have := ih h
      omega
/-- the words of a text -/
def wds (w : Str) : List Str := (cutAt 32 [] (tl w)).map S
theorem split_wds (w : Str) : Txt.split w " " = wds w := by
  refine map_tl_inj ?_
  have e : tl (" " : Str) = [32] := by decide +kernel
  rw [split_spl w " " (by rw [e]; simp) (kind_ok (by decide +kernel)), e, spl_cut]
  unfold wds
  rw [List.map_map]
  exact (List.map_id _).symm
theorem wds_ne (w : Str) : wds w ≠ [] := fun h => cutAt_ne 32 _ _ (List.map_eq_nil_iff.mp h)
theorem join_wds (w : Str) : Txt.join " " (wds w) = w := by
  refine ext_tl ?_
  have e : tl (" " : Str) = [32] := by decide +kernel
  rw [join_eq, tl_join, e]
  unfold wds
  rw [List.map_map]
  have e2 : (cutAt 32 [] (tl w)).map (tl ∘ S) = cutAt 32 [] (tl w) := List.map_id _
  rw [e2, join_cutAt]
  rfl
theorem S_len (l : List Nat) : (S l).length = l.length := by show l.toArray.size = _; rw [List.size_toArray]
theorem wds_sum (w : Str) : ((wds w).map (·.length)).sum + (wds w).length = w.length + 1 := by
  have h := cutAt_sum 32 (tl w) []
  unfold wds
  rw [List.map_map, List.length_map, len_tl]
  have e : (cutAt 32 [] (tl w)).map ((fun x : Str => x.length) ∘ S) = (cutAt 32 [] (tl w)).map List.length := List.map_congr_left fun a _ => S_len a
  rw [e]
  simpa using h
theorem wds_mem {w p : Str} (h : p ∈ wds w) : p.length ≤ w.length := by
  have := wds_sum w
  have h2 := mem_sum (List.mem_map_of_mem (f := fun x : Str => x.length) h)
  have h3 : 1 ≤ (wds w).length := List.length_pos_iff.mpr (wds_ne w)
  omega
theorem wds_len (w : Str) : (wds w).length ≤ w.length + 1 := by
  have := wds_sum w
  omega
/-! ### lengths of joined texts -/
theorem joinL_len (s : List Nat) : ∀ ps : List (List Nat), (joinL s ps).length ≤ (ps.map List.length).sum + ps.length * s.length
  | [] => by simp [joinL]
  | [p] => by simp [joinL]
  | p :: q :: r => by
    have := joinL_len s (q :: r)
    rw [joinL_cons (by simp), List.length_append, List.length_append]
    simp only [List.map_cons, List.sum_cons, List.length_cons] at this ⊢
    rw [Nat.succ_mul]
    omega
theorem join_len (a : Str) (ys : List Str) : (Txt.join a ys).length ≤ (ys.map (·.length)).sum + ys.length * a.length := by
  rw [len_tl, join_eq, tl_join]
  have h := joinL_len (tl a) (ys.map tl)
  rw [List.map_map, List.length_map] at h
  have e : ys.map (List.length ∘ tl) = ys.map (·.length) := List.map_congr_left fun x _ => (len_tl x).symm
  rw [e] at h
  rw [len_tl a]
  exact h
/-! ### what stands before a sign, and behind it -/
def parC (c : Nat) : List Nat → List Nat → Option (List Nat × List Nat)
  | _, [] => none
  | acc, x :: r => if x = c then some (acc, r) else parC c (acc ++ [x]) r
theorem par_parC (c : Nat) : ∀ (l acc : List Nat), par [c] acc l = parC c acc l
  | [], acc => rfl
  | x :: r, acc => by
    unfold parC
    by_cases h : x = c
    · rw [if_pos h, par_hit (by rw [pre_one, decide_eq_true h])]
      rfl
    · rw [if_neg h, par_miss (by rw [pre_one, decide_eq_false h]), par_parC c r (acc ++ [x])]
theorem parC_some {c : Nat} : ∀ {l acc a b : List Nat}, parC c acc l = some (a, b) → acc ++ l = a ++ c :: b
  | [], _, _, _, h => by cases h
  | x :: r, acc, a, b, h => by
    unfold parC at h
    by_cases e : x = c
    · rw [if_pos e] at h
      cases h
      rw [e]
    · rw [if_neg e] at h
      have := parC_some h
      rw [← this, List.append_assoc]
      rfl
theorem parC_none {c : Nat} : ∀ {l acc : List Nat}, parC c acc l = none → c ∉ l
  | [], _, _ => by simp
  | x :: r, acc, h => by
    unfold parC at h
    by_cases e : x = c
    · rw [if_pos e] at h
      cases h
    · rw [if_neg e] at h
      have := parC_none h
      simp [this, Ne.symm e]
theorem parC_notin {c : Nat} : ∀ {l acc : List Nat}, c ∉ l → parC c acc l = none
  | [], _, _ => rfl
  | x :: r, acc, h => by
    have h1 : ¬ x = c := fun e => h (by rw [e]; exact List.mem_cons_self)
    unfold parC
    rw [if_neg h1]
    exact parC_notin fun z => h (List.mem_cons_of_mem _ z)
theorem parC_app {c : Nat} {b : List Nat} : ∀ {a acc : List Nat}, c ∉ a → parC c acc (a ++ c :: b) = some (acc ++ a, b)
  | [], acc, _ => by simp [parC]
  | x :: r, acc, h => by
    have h1 : ¬ x = c := fun e => h (by rw [e]; exact List.mem_cons_self)
    show parC c acc (x :: (r ++ c :: b)) = _
    unfold parC
    rw [if_neg h1, parC_app (a := r) fun z => h (List.mem_cons_of_mem _ z), List.append_assoc]
    rfl
/-- partition at one sign -/
def part1 (c : Nat) (w : Str) : Str × Str × Str := match parC c [] (tl w) with
  | some (a, b) => (S a, S [c], S b)
  | none => (w, Str.empty, Str.empty)
theorem partition_one {c : Nat} {y : Str} (e : tl y = [c]) (w : Str) : Txt.partition w y = part1 c w := by
  rw [partition_par w y (by rw [e]; simp), e, par_parC]
  have ey : y = S [c] := ext_tl e
  unfold part1
  cases parC c [] (tl w) with
  | none => rfl
  | some p => rw [ey]
theorem part1_len (c : Nat) (w : Str) : (part1 c w).1.length ≤ w.length ∧ (part1 c w).2.2.length ≤ w.length := by
  unfold part1
  cases h : parC c [] (tl w) with
  | none => exact ⟨Nat.le_refl _, Nat.zero_le _⟩
  | some p =>
    obtain ⟨a, b⟩ := p
    have := parC_some h
    have h2 := congrArg List.length this
    rw [List.nil_append, List.length_append, List.length_cons] at h2
    have ea := S_len a
    have eb := S_len b
    have ew := len_tl w
    show (S a).length ≤ w.length ∧ (S b).length ≤ w.length
    omega
theorem part1_join (c : Nat) (w : Str) : (part1 c w).2.2 = Str.empty ∨ w = (part1 c w).1 ++ S [c] ++ (part1 c w).2.2 := by
  unfold part1
  cases h : parC c [] (tl w) with
  | none => exact .inl rfl
  | some p =>
    obtain ⟨a, b⟩ := p
    have := parC_some h
    rw [List.nil_append] at this
    refine .inr (ext_tl ?_)
    rw [this]
    show _ = tl (S a ++ S [c] ++ S b)
    rw [tl_append, tl_append]
    simp [tl, S]
theorem joinL_mem {s : List Nat} : ∀ {ps : List (List Nat)} {c : Nat}, c ∈ joinL s ps → c ∈ s ∨ ∃ p ∈ ps, c ∈ p
  | [], _, h => by cases h
  | [p], _, h => .inr ⟨p, List.mem_singleton_self _, h⟩
  | p :: q :: r, c, h => by
    rw [joinL_cons (by simp), List.mem_append, List.mem_append] at h
    rcases h with h | h | h
    · exact .inr ⟨p, List.mem_cons_self, h⟩
    · exact .inl h
    · rcases joinL_mem h with h | ⟨u, hu, h⟩
      · exact .inl h
      · exact .inr ⟨u, List.mem_cons_of_mem _ hu, h⟩
theorem join_mem {a : Str} {ys : List Str} {c : Nat} (h : c ∈ (Txt.join a ys).cps.toList) : c ∈ a.cps.toList ∨ ∃ y ∈ ys, c ∈ y.cps.toList := by
  have h2 : c ∈ joinL (tl a) (ys.map tl) := by
    rw [← tl_join, ← join_eq]
    exact h
  rcases joinL_mem h2 with h | ⟨p, hp, h⟩
  · exact .inl h
  · obtain ⟨y, hy, rfl⟩ := List.mem_map.mp hp
    exact .inr ⟨y, hy, h⟩
end TxM
end

section
set_option Elab.async false
set_option linter.all false
set_option maxRecDepth 100000
set_option maxHeartbeats 2000000
namespace Ov
open PySem PySem.Spec PyProof.Rows L2 Evl
/-! ### draws -/
section
variable {K : PySem.W.Frag} {σ : L2.St} {G H : Hp} {v : Addr} {n m k : Nat} {te ta tb tc : TE} {x y z : V} {P P' P2 : V → Prop} {tz tu : TS} {D : Ends} {g : TG}
def isI (size : Int) : V → Prop := fun x => ∃ r : Int, x = .int r ∧ 0 ≤ r ∧ r < size
theorem evw_sip {E : XK} {tv ts : TE} {size : Int} (hv : Ev tv σ G (.ref v)) (hs : Ev ts σ G (.int size)) (h0 : 0 < size) (h1 : size < 1000000) : EvW (tCall spSip [] E (tCons tv (tCons ts tNil))) σ G v (n + 1) n (isI size) := fun H h Q q =>
  h.ev hv fun H1 w1 e1 => w1.ev hs fun H2 w2 e2 => ⟨G, v, n, size, rfl, w2, h0, h1, fun r H' a b hw => q _ H' ⟨r, rfl, a, b⟩ hw⟩
theorem evw_imp (h : EvW te σ G v n m P) (hp : ∀ x, P x → P' x) : EvW te σ G v n m P' := fun H w Q q => h H w Q fun x H' hx w' => q x H' (hp x hx) w'
theorem evw_opR {r : R2} (ha : Ev ta σ G x) (hb : EvW tb σ G v n m P) (hr : ∀ y, P y → ∃ z, P2 z ∧ RV r x y G z) : EvW (tOp r ta tb) σ G v n m P2 := fun H h Q q =>
  h.ev ha fun H1 w1 e1 => hb H1 w1 _ fun y H2 hy w2 => by
    obtain ⟨z, hz, hrv⟩ := hr y hy
    exact hrv H2 w2.ex Q fun H3 e3 => q z H3 hz (w2.mono e3)
theorem evw_opL {r : R2} (ha : EvW ta σ G v n m P) (hb : Ev tb σ G y) (hr : ∀ x, P x → ∃ z, P2 z ∧ RV r x y G z) : EvW (tOp r ta tb) σ G v n m P2 := fun H h Q q =>
  ha H h _ fun x H1 hx w1 => w1.ev hb fun H2 w2 e2 => by
    obtain ⟨z, hz, hrv⟩ := hr x hx
    exact hrv H2 w2.ex Q fun H3 e3 => q z H3 hz (w2.mono e3)
/-- [a, b, ..][a draw] -/
theorem evw_pick {tl : TA} {vs : List V} (ha : EvA tl σ G vs) (hl : vs.length ≤ 1000) (hb : ∀ G', Ex G G' → EvW tb σ G' v n m (isI vs.length)) : EvW (tOp (rIxL K) (tLst tl) tb) σ G v n m (fun x => x ∈ vs) := fun H h Q q =>
  ha H h.ex _ fun H1 e1 => ⟨sz_of (by omega), fun p hp => by
    obtain ⟨w2, eG, hp2⟩ := (h.mono e1).new hp (Evl.Ex.new hp) (o := .lst vs) upd_same
    refine hb _ eG _ w2 _ fun y H2 hy w3 => ?_
    obtain ⟨r, rfl, r0, r1⟩ := hy
    obtain ⟨i, rfl⟩ : ∃ i : Nat, r = i := ⟨r.toNat, by omega⟩
    have hi : i < vs.length := by omega
    exact rv_ixL (v := vs[i]) (sq_of (w3.ex _ _ hp2)) (atI_nat (List.getElem?_eq_getElem hi)) H2 (Evl.Ex.refl _) Q fun H3 e3 => q _ H3 (List.getElem_mem hi) ((w3.sub eG).mono e3)⟩
theorem q_asgW {i : Nat} (hw : Wd G v n H) (h : EvW te σ G v n m P) (k : ∀ x H1, P x → Wd G v m H1 → tz D (σ.set i (some x)) H1) : tSeq (tAsg te (gName i)) tz D σ H := h H hw _ fun x H1 hx w1 => k x H1 hx w1
theorem s_asgW {i : Nat} (hw : Wd G v n H) (h : EvW te σ G v n m P) (k : ∀ x H1, P x → Wd G v m H1 → D.nx (σ.set i (some x)) H1) : tAsg te (gName i) D σ H := h H hw _ fun x H1 hx w1 => k x H1 hx w1
theorem q_parW {i j : Nat} (hw : Wd G v n H) (h1 : EvW ta σ G v n m P) (h2 : EvW tb σ G v m k P2) (c : ∀ x y H1, P x → P2 y → Wd G v k H1 → tz D ((σ.set i (some x)).set j (some y)) H1) : tSeq (tPar i j (tCons ta (tCons tb tNil))) tz D σ H :=
  h1 H hw _ fun x H1 hx w1 => h2 H1 w1 _ fun y H2 hy w2 => ⟨x, y, rfl, c x y H2 hx hy w2⟩
theorem s_forR1W (hw : Wd G v n H) (h : EvW te σ G v n m P) (hP : ∀ x, P x → ∃ r : Int, x = .int r) (c : ∀ (r : Int) H1, P (.int r) → Wd G v m H1 → tFor (iRng1 (tCons (tC (.int r)) tNil)) g tu D σ H1) : tFor (iRng1 (tCons te tNil)) g tu D σ H :=
  h H hw _ fun x H1 hx w1 => by
    obtain ⟨r, rfl⟩ := hP x hx
    exact c r H1 hx w1
theorem q_forR1W (hw : Wd G v n H) (h : EvW te σ G v n m P) (hP : ∀ x, P x → ∃ r : Int, x = .int r) (c : ∀ (r : Int) H1, P (.int r) → Wd G v m H1 → tSeq (tFor (iRng1 (tCons (tC (.int r)) tNil)) g tu) tz D σ H1) : tSeq (tFor (iRng1 (tCons te tNil)) g tu) tz D σ H :=
  s_forR1W (D := { D with nx := tz D }) hw h hP c
/-! ### lists put together -/
theorem el_cat {xs ys : List V} (ha : EvL ta σ H xs) (hb : EvL tb σ H ys) (hl : xs.length + ys.length ≤ 100000) : EvL (tOp rCat ta tb) σ H (xs ++ ys) := fun H1 e Q q =>
  ha H1 e _ fun p H2 hp e2 h2 => hb H2 (e.trans e2) _ fun p3 H3 hp3 e3 h3 => ⟨p, p3, xs, ys, rfl, rfl, e3 _ _ h2, h3, sz_of hl, fun l hl => q l _ (fresh_back (e2.trans e3) hl) ((e2.trans e3).trans (Evl.Ex.new hl)) upd_same⟩
theorem el_catV {xs ys : List V} {a : Addr} (ha : Ev ta σ H (.ref a)) (hx : H a = some (.lst xs)) (hb : EvL tb σ H ys) (hl : xs.length + ys.length ≤ 100000) : EvL (tOp rCat ta tb) σ H (xs ++ ys) := fun H1 e Q q =>
  ha H1 e _ fun H2 e2 => hb H2 (e.trans e2) _ fun p3 H3 hp3 e3 h3 => ⟨a, p3, xs, ys, rfl, rfl, ((e.trans e2).trans e3) _ _ hx, h3, sz_of hl, fun l hl => q l _ (fresh_back (e2.trans e3) hl) ((e2.trans e3).trans (Evl.Ex.new hl)) upd_same⟩
end
/-! ### how long a list of words is, joined -/
def tot (ws : List Str) : Nat := (ws.map (·.length)).sum + ws.length
theorem tot_app (a b : List Str) : tot (a ++ b) = tot a + tot b := by
  unfold tot
  rw [List.map_append, List.sum_append, List.length_append]
  omega
theorem tot_one (a : Str) : tot [a] = a.length + 1 := by simp [tot]
theorem tot_cons (c : Str) (l : List Str) : tot (c :: l) = c.length + 1 + tot l := by
  unfold tot
  rw [List.map_cons, List.sum_cons, List.length_cons]
  omega
theorem tot_sub {a b : List Str} (h : a.Sublist b) : tot a ≤ tot b := by
  induction h with
  | slnil => exact Nat.le_refl _
  | cons c h ih =>
    rw [tot_cons]
    omega
  | cons_cons c h ih =>
    rw [tot_cons, tot_cons]
    omega
theorem tot_mem {a : Str} {ws : List Str} (h : a ∈ ws) : a.length + 1 ≤ tot ws := by
  rw [← tot_one]
  exact tot_sub (List.singleton_sublist.mpr h)
theorem tot_len (ws : List Str) : ws.length ≤ tot ws := Nat.le_add_left _ _
theorem tot_wds (z : Str) : tot (TxM.wds z) = z.length + 1 := TxM.wds_sum z
theorem tot_join (ws : List Str) : (Txt.join " " ws).length ≤ tot ws := by
  have := TxM.join_len " " ws
  rw [show (" " : Str).length = 1 from rfl, Nat.mul_one] at this
  exact this
theorem cut_words (ws : List Str) (lo hi : Option Int) : ∃ us : List Str, cutV (ws.map V.str) lo hi = us.map V.str ∧ us.Sublist ws := by
  unfold cutV
  rw [← List.map_drop, ← List.map_take]
  exact ⟨_, rfl, (List.take_sublist _ _).trans (List.drop_sublist _ _)⟩
theorem cutS_len (z : Str) (lo hi : Option Int) : (cutS z lo hi).length ≤ z.length := by
  unfold cutS
  show (List.toArray _).size ≤ _
  rw [List.size_toArray, List.length_take, List.length_drop]
  have : z.cps.toList.length = z.length := Array.length_toList
  omega
end Ov
end

section
set_option Elab.async false
set_option linter.all false
set_option maxRecDepth 100000
set_option maxHeartbeats 2000000
namespace Ov
open PySem PySem.Spec PyProof.Rows L2 Evl
/-! ### a text repeated -/
def repS (a : Str) (n : Nat) : Str := ⟨(List.replicate n a.cps).foldl (· ++ ·) #[]⟩
theorem foldl_size (a : Array Nat) : ∀ (n : Nat) (acc : Array Nat), ((List.replicate n a).foldl (· ++ ·) acc).size = acc.size + n * a.size
  | 0, acc => by simp
  | n + 1, acc => by
    rw [List.replicate_succ, List.foldl_cons, foldl_size a n, Array.size_append, Nat.succ_mul]
    omega
theorem repS_len (a : Str) (n : Nat) : (repS a n).length = n * a.length := by
  show ((List.replicate n a.cps).foldl (· ++ ·) #[]).size = _
  rw [foldl_size]
  simp [Str.length]
def rRepS : R2 := fun x y H Q => ∃ (a : Str) (k : Int), x = .str a ∧ y = .int k ∧ 2 ≤ k ∧ k ≤ 10000 ∧ 0 < a.length ∧ a.length * k.toNat ≤ 90000 ∧ Q (.str (repS a k.toNat)) H
theorem op_repS {X : Cx} : OpR X (binaryOp .Mult) rRepS := by
  intro pins s σ H x y v u Q I rx ry h
  obtain ⟨a, k, rfl, rfl, h1, h2, h3, h4, q⟩ := h
  obtain ⟨t, rfl⟩ := rx
  obtain ⟨t', rfl⟩ := ry
  have e1 : ¬ k < 1 := by omega
  have e2 : (k == 1 || a.length == 0) = false := by
    have a1 : (k == 1) = false := by simp; omega
    have a2 : (a.length == 0) = false := by simp; omega
    rw [a1, a2] <;> rfl
  refine PySem.P.mul_str (by
    rw [decide_eq_false (by omega), decide_eq_false (by omega)] <;> rfl) (fun _ _ => ?_) (fun _ _ => ?_) ?_
  · have hk : (10000 : Int) * k ≤ 10000 * 10000 := by omega
    have hd : (90000 : Int) ≤ (2 ^ 63 - 1) / k := by
      rw [Int.le_ediv_iff_mul_le (by omega)]
      have : (90000 : Int) * k ≤ 90000 * 10000 := by omega
      exact Int.le_trans this (by decide)
    have hl : (a.length : Int) ≤ 90000 := by
      have : a.length * 2 ≤ a.length * k.toNat := Nat.mul_le_mul_left _ (by omega)
      omega
    omega
  · unfold Builtin.Str.tooLong
    have : ((90000 : Nat) ≤ sizeLine) := by decide
    simp only [decide_eq_false_iff_not]
    omega
  · rw [if_neg e1, if_neg (by rw [e2]; decide)]
    refine ⟨?_, .str (repS a k.toNat), H, I.tok _, ⟨_, rfl⟩, q⟩
    show (repS a k.toNat).length ≤ _
    rw [repS_len, Nat.mul_comm]
    exact sz_of (by omega)
theorem rv_repS {H : Hp} {a : Str} {k : Int} (h1 : 2 ≤ k) (h2 : k ≤ 10000) (h3 : 0 < a.length) (h4 : a.length * k.toNat ≤ 90000) : RV rRepS (.str a) (.int k) H (.str (repS a k.toNat)) := fun H1 _ _ q => ⟨a, k, rfl, rfl, h1, h2, h3, h4, q H1 (Evl.Ex.refl H1)⟩
/-! ### lists made with draws -/
section
variable {K : PySem.W.Frag} {σ : L2.St} {G H : Hp} {v : Addr} {n m k c : Nat} {te ta tb : TE} {tA : TA} {P1 P2 : V → Prop} {tz tu : TS} {D : Ends} {g : TG}
theorem hide_wd2 {G' H' : Hp} {t : Addr} {ys zs : List V} (w : Wd G' v k H') (ht : G' t = some (.lst ys)) : Wd (hideV G' t) v k (upd H' t (.lst zs)) ∧ hideV G' t t = none := by
  have htv : v ≠ t := fun z => by
    have := w.no
    rw [z, ht] at this
    cases this
  refine ⟨⟨by rw [hide_ne htv]; exact w.no, ex_hide_upd w.ex, ?_⟩, if_pos rfl⟩
  obtain ⟨d, e, f, h1, h2⟩ := w.vat
  exact ⟨d, e, f, by rw [upd_ne htv]; exact h1, h2⟩
theorem wd_add {Gi H' : Hp} {t : Addr} {o : HO} (w : Wd Gi v k H') (hvt : v ≠ t) (hd : H' t = some o) : Wd (upd Gi t o) v k H' := ⟨by rw [upd_ne hvt]; exact w.no, fun b u hb => by
  by_cases hbd : b = t
  · subst hbd
    rw [upd_same] at hb
    cases hb
    exact hd
  · rw [upd_ne hbd] at hb
    exact w.ex _ _ hb, w.vat⟩
/-- [e for x in range(n)], e with draws -/
theorem lcRW {j : Nat} {vs : List Nat} {r : Int} (Pe : Hp → V → Prop) (hPe : ∀ {G : Hp} {y : V} {t : Addr} {ys : List V}, Pe G y → G t = some (.lst ys) → Pe (hideV G t) y) (mono : ∀ {G G' : Hp} {y : V}, Ex G G' → Pe G y → Pe G' y)
    (h : EvA tA σ G [.int r]) (hn : 0 ≤ r ∧ r ≤ 40000) (hwi : ∀ x, wipe ((wipe σ vs).set j (some x)) vs = wipe σ vs)
    (he : ∀ (i : Nat) (G' : Hp) (l : Nat) (H' : Hp), (i : Int) < r → Ex G G' → Wd G' v (l + c) H' → ∀ Q : VK, (∀ y G2 H2, Pe G2 y → Ex G' G2 → Wd G2 v l H2 → Q y H2) → te ((wipe σ vs).set j (some (.int (i : Int)))) H' Q)
    (hw : Wd G v (k + c * r.toNat) H) {Q : VK} (q : ∀ p ys G' H', (∀ y ∈ ys, Pe G' y) → ys.length = r.toNat → Ex G G' → Wd G' v k H' → G' p = some (.lst ys) → Q (.ref p) H') : tLc (iRng1 tA) (gName j) tYes te vs σ H Q :=
  h H hw.ex _ fun H1 e1 => ⟨r, rfl, by omega, by omega, fun Dl hD =>
    lc_range (lo := 0) (n := r.toNat) (fun i H' => ∃ (Gi : Hp) (ys : List V), Ex G Gi ∧ Gi Dl = none ∧ Wd Gi v (k + c * (r.toNat - i)) H' ∧ H' Dl = some (.lst ys) ∧ ys.length = i ∧ ∀ y ∈ ys, Pe Gi y)
      ⟨G, [], Evl.Ex.refl _, fresh_back (hw.ex.trans e1) hD, (hw.mono e1).mono (Evl.Ex.new hD), upd_same, rfl, fun y z => by cases z⟩ (fun i H' hi p => by
        have e0 : (0 : Int) + (i : Int) = (i : Int) := Int.zero_add _
        obtain ⟨Gi, ys, eG, hg, w, hd, hl, hp⟩ := p
        show wipe ((wipe σ vs).set j (some (.int ((0 : Int) + (i : Int))))) vs = wipe σ vs ∧ te ((wipe σ vs).set j (some (.int ((0 : Int) + (i : Int))))) H' fun y H4 => ∃ acc, H4 Dl = some (.lst acc) ∧ acc.length < sizeLine ∧ ∃ (Gi : Hp) (zs : List V), Ex G Gi ∧ Gi Dl = none ∧ Wd Gi v (k + c * (r.toNat - (i + 1))) (upd H4 Dl (.lst (acc ++ [y]))) ∧ upd H4 Dl (.lst (acc ++ [y])) Dl = some (.lst zs) ∧ zs.length = i + 1 ∧ ∀ y ∈ zs, Pe Gi y
        rw [e0]
        refine ⟨hwi _, ?_⟩
        have hcm : k + c * (r.toNat - i) = (k + c * (r.toNat - (i + 1))) + c := by
          rw [show r.toNat - i = (r.toNat - (i + 1)) + 1 by omega, Nat.mul_succ]
          omega
        rw [hcm] at w
        have hvd : v ≠ Dl := by
          obtain ⟨u, hu⟩ := (hw.mono e1).vat.is
          exact ne_of_none hu hD
        have w' := wd_add w hvd hd
        refine he i _ _ H' (by omega) (eG.trans (Evl.Ex.new hg)) w' _ fun y G2 H2 hy e2 w2 => ?_
        have hd2 : G2 Dl = some (.lst ys) := e2 _ _ upd_same
        obtain ⟨w3, hn3⟩ := hide_wd2 (zs := ys ++ [y]) w2 hd2
        refine ⟨ys, w2.ex _ _ hd2, sz_lt (by omega), hideV G2 Dl, ys ++ [y], fun b o hb => ?_, hn3, w3, upd_same, by simp [hl], fun u hu => ?_⟩
        · have hbd : b ≠ Dl := ne_of_none hb (fresh_back (eG.trans (Evl.Ex.refl _)) hg)
          rw [hide_ne hbd]
          exact ((eG.trans (Evl.Ex.new hg)).trans e2) _ _ hb
        · rcases List.mem_append.mp hu with hu | hu
          · exact hPe (mono ((Evl.Ex.new hg).trans e2) (hp u hu)) hd2
          · cases List.mem_singleton.mp hu
            exact hPe hy hd2) (fun H' p => by
        obtain ⟨Gi, ys, eG, hg, w, hd, hl, hp⟩ := p
        rw [Nat.sub_self, Nat.mul_zero, Nat.add_zero] at w
        have hvd : v ≠ Dl := by
          obtain ⟨u, hu⟩ := (hw.mono e1).vat.is
          exact ne_of_none hu hD
        exact q Dl ys _ H' (fun y hy => mono (Evl.Ex.new hg) (hp y hy)) hl (eG.trans (Evl.Ex.new hg)) (wd_add w hvd hd) upd_same)⟩
theorem q_lcRW {i0 j : Nat} {vs : List Nat} {r : Int} (Pe : Hp → V → Prop) (hPe : ∀ {G : Hp} {y : V} {t : Addr} {ys : List V}, Pe G y → G t = some (.lst ys) → Pe (hideV G t) y) (mono : ∀ {G G' : Hp} {y : V}, Ex G G' → Pe G y → Pe G' y)
    (hw : Wd G v (k + c * r.toNat) H) (h : EvA tA σ G [.int r]) (hn : 0 ≤ r ∧ r ≤ 40000) (hwi : ∀ x, wipe ((wipe σ vs).set j (some x)) vs = wipe σ vs)
    (he : ∀ (i : Nat) (G' : Hp) (l : Nat) (H' : Hp), (i : Int) < r → Ex G G' → Wd G' v (l + c) H' → ∀ Q : VK, (∀ y G2 H2, Pe G2 y → Ex G' G2 → Wd G2 v l H2 → Q y H2) → te ((wipe σ vs).set j (some (.int (i : Int)))) H' Q)
    (q : ∀ p ys G' H', (∀ y ∈ ys, Pe G' y) → ys.length = r.toNat → Ex G G' → Wd G' v k H' → G' p = some (.lst ys) → tz D (σ.set i0 (some (.ref p))) H') : tSeq (tAsg (tLc (iRng1 tA) (gName j) tYes te vs) (gName i0)) tz D σ H := by
  show tLc (iRng1 tA) (gName j) tYes te vs σ H fun x H' => tz D (σ.set i0 (some x)) H'
  exact lcRW Pe hPe mono h hn hwi he hw fun p ys G' H' h1 h2 h3 h4 h5 => q p ys G' H' h1 h2 h3 h4 h5
/-- for x in [a draw, a draw] -/
theorem s_forL2W (hw : Wd G v n H) (h1 : EvW ta σ G v n m P1) (h2 : EvW tb σ G v m k P2) (cc : ∀ x y l G' H', P1 x → P2 y → Ex G G' → G' l = some (.lst [x, y]) → Wd G' v k H' → tFor (iList K (tC (.ref l))) g tu D σ H') : tFor (iList K (tLst (tCons ta (tCons tb tNil)))) g tu D σ H :=
  h1 H hw _ fun x H1 hx w1 => h2 H1 w1 _ fun y H2 hy w2 => ⟨sz_of (by show 2 ≤ 100000; decide), fun l hl => by
    obtain ⟨w3, eG, hlG⟩ := w2.new hl (Evl.Ex.new hl) (o := .lst [x, y]) upd_same
    exact cc x y l _ _ hx hy eG hlG w3⟩
/-- [a, b, c, a draw][a draw] -/
theorem evw_pickW {t1 t2 t3 t4 : TE} {x1 x2 x3 : V} (h1 : Ev t1 σ G x1) (h2 : Ev t2 σ G x2) (h3 : Ev t3 σ G x3) (h4 : EvW t4 σ G v n m P1) (hb : ∀ G', Ex G G' → EvW tb σ G' v m k (isI 4)) :
    EvW (tOp (rIxL K) (tLst (tCons t1 (tCons t2 (tCons t3 (tCons t4 tNil))))) tb) σ G v n k (fun x => x = x1 ∨ x = x2 ∨ x = x3 ∨ P1 x) := fun H h Q q =>
  h.ev h1 fun H1 w1 e1 => w1.ev h2 fun H2 w2 e2 => w2.ev h3 fun H3 w3 e3 => h4 H3 w3 _ fun x4 H4 hx4 w4 => ⟨sz_of (by show 4 ≤ 100000; decide), fun p hp => by
    obtain ⟨w5, eG, hp2⟩ := w4.new hp (Evl.Ex.new hp) (o := .lst [x1, x2, x3, x4]) upd_same
    refine hb _ eG _ w5 _ fun y H5 hy w6 => ?_
    obtain ⟨r, rfl, r0, r1⟩ := hy
    obtain ⟨i, rfl⟩ : ∃ i : Nat, r = i := ⟨r.toNat, by omega⟩
    have hi : i < 4 := by omega
    have hx : [x1, x2, x3, x4][i]'(by simpa using hi) = x1 ∨ [x1, x2, x3, x4][i]'(by simpa using hi) = x2 ∨ [x1, x2, x3, x4][i]'(by simpa using hi) = x3 ∨ P1 ([x1, x2, x3, x4][i]'(by simpa using hi)) := by
      rcases (show i = 0 ∨ i = 1 ∨ i = 2 ∨ i = 3 by omega) with rfl | rfl | rfl | rfl
      · exact .inl rfl
      · exact .inr (.inl rfl)
      · exact .inr (.inr (.inl rfl))
      · exact .inr (.inr (.inr hx4))
    exact rv_ixL (v := [x1, x2, x3, x4][i]'(by simpa using hi)) (sq_of (w6.ex _ _ hp2)) (atI_nat (List.getElem?_eq_getElem _)) H5 (Evl.Ex.refl _) Q fun H6 e6 => q _ H6 hx ((w6.sub eG).mono e6)⟩
/-- if not t: .. -/
theorem s_whenW (hw : Wd G v n H) (h : EvW te σ G v n m (fun x => x = .bl true)) (c : ∀ H1, Wd G v m H1 → D.nx σ H1) : tIfS (tNot (tTest te)) tu tNext D σ H := h H hw _ fun x H1 hx w1 => by
  subst hx
  exact ⟨true, rfl, c H1 w1⟩
theorem r_call {sp : Sp} {E : XK} {vs : List V} {Q : VK} (h : EvA tA σ H vs) (c : ∀ H1, Ex H H1 → sp vs H1 Q E) : tCall sp [] E tA σ H Q := h H (Evl.Ex.refl H) _ fun H1 e1 => by
  show sp (vs ++ []) H1 Q E
  rw [List.append_nil]
  exact c H1 e1
theorem evw_call2 {sp : Sp} {E : XK} {y z : V} (h1 : EvW ta σ G v n m P1) (h2 : Ev tb σ G y) (hs : ∀ x H', P1 x → Wd G v m H' → ∀ Q : VK, RetV z H' Q → sp [x, y] H' Q E) : EvW (tCall sp [] E (tCons ta (tCons tb tNil))) σ G v n m (fun r => r = z) := fun H h Q q =>
  h1 H h _ fun x H1 hx w1 => w1.ev h2 fun H2 w2 e2 => hs x H2 hx w2 Q fun H3 e3 => q z H3 rfl (w2.mono e3)
theorem given_all (n : Nat) (w : Nat → V) : given n (fun _ => true) w = (List.range n).map w := by
  unfold given
  rw [List.filter_eq_self.mpr fun _ _ => rfl]
theorem given_non (n : Nat) (w : Nat → V) : given n (fun _ => false) w = [] := by
  unfold given
  rw [List.filter_eq_nil_iff.mpr fun _ _ => by decide] <;> rfl
end
end Ov
end

section
set_option Elab.async false
set_option linter.all false
set_option maxRecDepth 100000
set_option maxHeartbeats 2000000
namespace Ov
open PySem PySem.Spec PyProof.Rows L2 Evl
/-! ### the start: only the script is known -/
section
variable {P : Program} {w : World} {K : PySem.W.Frag} {mg mb : Str → Option Value} {s : Shared} {a : Addr} {vs : List Value} {ns : List Int} {H : Hp}
/-- such a world is fit for a call -/
theorem env_fit (kin : K.In s.heap) (hm : s.heap.Ns mainGlobals mg) (hb : s.heap.Ns builtinsNs mb) (hx : ∀ x : Str, x ≠ "__name__" → mb x = bootBuiltins x) (hl : s.heap.NoLimit) (hg : s.gens = #[])
    (at_a : s.heap.get? a = some { cls := .type "list", data := .seq vs.toArray }) (ok : HOk P w H s.heap) (one : ∀ b u, H b = some u → b = a ∧ K.lookup a = none) :
    K.In (hidT s.heap H) ∧ (hidT s.heap H).Ns mainGlobals mg ∧ Env0 P w K mg (hidT s.heap H) callerA [] s H := by
  have free_of : ∀ b, (b = a → False) → H b = none := fun b hne => Option.eq_none_iff_forall_not_mem.mpr fun u hu => hne (one b u hu).1
  have name_kept : ∀ (b : Addr) (m : Str → Option Value), s.heap.Ns b m → (hidT s.heap H).Ns b m := by
    rintro b m ⟨ob, es, ep, hget, hdat, rest⟩
    refine ⟨ob, es, ep, hidT_get hget (free_of b fun hba => ?_), hdat, rest⟩
    rw [hba, at_a] at hget
    injection hget with hob
    rw [← hob] at hdat
    cases hdat
  have part : K.In (hidT s.heap H) := by
    intro b ob hb'
    refine hidT_get (kin b ob hb') (Option.eq_none_iff_forall_not_mem.mpr fun u hu => ?_)
    obtain ⟨hba, hno⟩ := one b u hu
    rw [hba, hno] at hb'
    cases hb'
  obtain ⟨mc, lim1, lim2⟩ := hl
  refine ⟨part, name_kept _ _ hm, { frames := rfl, mod := ⟨part, name_kept _ _ hm, ⟨mb, name_kept _ _ hb, hx⟩, ⟨mc, name_kept _ _ lim1, lim2⟩⟩, bs := fun _ _ q => of_hidT q, bsz := Nat.le_of_eq (hidT_size _ _), funs := trivial, frf := ?_, hok := ok, bare := .of_eq hg }⟩
  intro b hb'
  exact absurd (show b ∈ ([] : List Addr) from hb') List.not_mem_nil
/-- there is such a world -/
theorem world_of (kin : K.In s.heap) (at_a : s.heap.get? a = some { cls := .type "list", data := .seq vs.toArray }) (hi : IntsAre vs ns) (hl : ns.length ≤ sizeLine) :
    ∃ H : Hp, SqL K H a (ns.map V.int) ∧ HOk P w H s.heap ∧ (∀ b u, H b = some u → b = a ∧ K.lookup a = none) ∧ Only H := by
  have vals := vals_ints hi
  have num := hi.length
  rcases Option.eq_none_or_eq_some (K.lookup a) with unknown | ⟨ob, known⟩
  · let o : Obj := { cls := .type "list", data := .seq vs.toArray }
    let Hs : Hp := fun b => if b = a then some (.frz o (.lst (ns.map V.int))) else none
    have same : Hs a = some (.frz o (.lst (ns.map V.int))) := if_pos rfl
    have only_a : ∀ b u, Hs b = some u → b = a := fun b u hu => Decidable.byContradiction fun hne => by
      have : Hs b = none := if_neg hne
      rw [this] at hu
      cases hu
    refine ⟨Hs, Or.inl (Or.inr ⟨o, same⟩), fun b u hu => ?_, fun b u hu => ⟨only_a b u hu, unknown⟩, fun b => ?_⟩
    · have hba := only_a b u hu
      subst hba
      rw [same] at hu
      injection hu with hu
      rw [← hu]
      exact ⟨at_a, by rw [List.length_map]; exact hl, vs, _, vals, at_a⟩
    · rcases Option.eq_none_or_eq_some (Hs b) with hn | ⟨u, hu⟩
      · exact .inl hn
      · have hba := only_a b u hu
        subst hba
        exact .inr ⟨_, _, same⟩
  · have its := kin a ob known
    rw [at_a] at its
    injection its with its
    subst its
    refine ⟨fun _ => none, Or.inr ⟨_, vs.toArray, _, known, rfl, rfl, rfl, ?_, ?_⟩, fun b u hu => ?_, fun b u hu => ?_, fun b => .inl rfl⟩
    · rw [List.size_toArray, num]
      exact hl
    · rw [List.toList_toArray]
      exact vals
    · exact absurd (show (none : Option HO) = some u from hu) (by simp)
    · exact absurd (show (none : Option HO) = some u from hu) (by simp)
/-- the law's call, for a promise that asks that nothing is being shown -/
theorem lawG {CX : CXT} {k : Nat} {fa : Addr} {fd : FuncData} {x : Str} {sp : Sp} (kin : K.In s.heap) (hm : s.heap.Ns mainGlobals mg) (hb : s.heap.Ns builtinsNs mb) (hx : ∀ x : Str, x ≠ "__name__" → mb x = bootBuiltins x) (hlim : s.heap.NoLimit) (hg : s.gens = #[])
    (at_a : s.heap.get? a = some { cls := .type "list", data := .seq vs.toArray }) (hi : IntsAre vs ns) (hl : ns.length ≤ sizeLine) (room : Room k callerA)
    (F : ∀ base : Heap, K.In base → base.Ns mainGlobals mg → FnG P w K mg base CX k fa fd [x] sp) (bind : ∀ (s : Shared) (u : Value), BindsTo s fd ⟨[u], []⟩ [(x, u)])
    (ask : ∀ H : Hp, SqL K H a (ns.map V.int) → sp [.ref a] H (fun v _ => v = .bl true) fun _ _ _ => False) (noCX : ∀ H e s', CX [] H s (fun _ _ _ => False) e s' → False) :
    codeAny (model P w) callerA (.call (.ref fa) ⟨[.ref a], []⟩) (fun r s' => r = .ok (.ret (.bool true)) ∧ OldK s.heap s'.heap ∧ s'.os = s.os ∧ AllBare s'.gens) s := by
  obtain ⟨H, script, ok, one, only⟩ := world_of (P := P) (w := w) kin at_a hi hl
  obtain ⟨part, names, env⟩ := env_fit kin hm hb hx hlim hg at_a ok one
  have promise := (F _ part names).go callerA [] s H ⟨[.ref a], []⟩ [.ref a] [.ref a] _ _ rfl room env (bind s (.ref a)) (.cons rfl .nil) (ask H script)
  refine codeAny_mono promise fun r s' after => ?_
  match r, after with
  | .error e, after => exact (noCX H e s' after).elim
  | .ok .next, after => exact after.elim
  | .ok .brk, after => exact after.elim
  | .ok .cont, after => exact after.elim
  | .ok (.ret u), after =>
    obtain ⟨v, H', os, bare, un, ok', rel, hv⟩ := after
    have isT : v = .bl true := hv
    subst isT
    have hu : u = Value.bool true := rel
    refine ⟨by rw [hu], OldK.of_keep fun b o hbo => ?_, os, bare⟩
    rcases only b with free | ⟨ob, xs, frozen⟩
    · exact un.keep b o hbo free (fun z => absurd (show b ∈ ([] : List Addr) from z) List.not_mem_nil) List.not_mem_nil
    · have before := (ok b _ frozen).1
      have behind := (ok' b _ (un.frzs b ob _ frozen)).1
      rw [before] at hbo
      injection hbo with hbo
      rw [← hbo]
      exact behind
end
/-! ### the head's facts, one more Bool -/
/-- what the module's names reach, and the statics -/
def asB (g : Addr → Option Obj) (n : Nat) : List Addr := cStatics :: He.asD g n
def hookB (n : Nat) (fa : List He.Fa) (fn : List He.DefD) (ex : PySem.W.Frag → Bool) : PySem.W.Hook where
  α := He.AlD × Bool
  obs := fun s => (He.obsD fa fn (He.frG s.heap.get? (asB s.heap.get? n)), ex (He.frG s.heap.get? (asB s.heap.get? n)))
  val := fun _ => (He.valD fn, true)
  says := fun _ h => ∃ K : PySem.W.Frag, K.In h ∧ He.SaysD fa fn K ∧ ex K = true
  of := fun _ _ e => ⟨_, He.frG_in, congrArg (fun z : He.AlD × Bool => z.1) e, congrArg (fun z : He.AlD × Bool => z.2) e⟩
  keeps := fun _ _ _ ⟨K, hK, c⟩ k => ⟨K, PySem.W.Frag.In.keeps hK k, c⟩
def obB (n : Nat) (fa : List He.Fa) (fn : List He.DefD) (ex : PySem.W.Frag → Bool) (s : PySem.W.SharedT) : He.AlD × Bool :=
  (He.obsD fa fn (He.frG (HandSHeadRun.getT s) (asB (HandSHeadRun.getT s) n)), ex (He.frG (HandSHeadRun.getT s) (asB (HandSHeadRun.getT s) n)))
theorem obB_eq {n : Nat} {fa : List He.Fa} {fn : List He.DefD} {ex : PySem.W.Frag → Bool} (s : PySem.W.SharedT) : obB n fa fn ex s = (hookB n fa fn ex).obs s.abs := by
  have e : HandSHeadRun.getT s = s.abs.heap.get? := funext (HandSHeadRun.getT_eq s)
  unfold obB
  rw [e] <;> rfl
/-- a def as the layer has it -/
theorem fun_of {K : PySem.W.Frag} {x qual : Str} {st : Stmt} {f : Addr} {fd : FuncData} (F : FunD K x qual (defArgs st) (defBody st) (defScope st) [] [] f fd) : Fun K x qual st f fd := by
  obtain ⟨oc, od, dV, kV, doc, pm, an, cdv, ct, osl, hfd, lk, cd, hd, _⟩ := F.ex
  have hn : dV = .none := by
    rcases hd with ⟨_, h⟩ | ⟨h, _⟩
    · exact h
    · exact absurd rfl h
  rw [hn] at hfd
  exact ⟨⟨oc, od, kV, doc, pm, an, cdv, ct, osl, hfd, lk, cd⟩, F.kp⟩
/-- the end over such a head -/
theorem walkG {l : PySem.W.OpenLaw} {n k : Nat} {q : Program} {loose : List Str} {XP : (Str → Option Value) → Heap → Prop} {YP : World → Heap → Prop} {d : DefRec} {CX : CXT} {x : Str}
    (hn : l.most = some n) (hn2 : n ≤ sizeLine) (hdf : d.params.defaults = []) (hr : Room k callerA)
    (F : ∀ (w : World) (mg : Str → Option Value) (fa : Addr) (h : Heap), YP w h → h.Ns mainGlobals mg → mg d.name = some (.ref fa) →
      ∃ (K : PySem.W.Frag) (fd : FuncData) (sp : Sp), K.In h ∧ (∀ (s : Shared) (u : Value), BindsTo s fd ⟨[u], []⟩ [(x, u)]) ∧
        (∀ (H : Hp) (a : Addr) (ns : List Int), ns.length ≤ n → SqL K H a (ns.map V.int) → sp [.ref a] H (fun v _ => v = .bl true) fun _ _ _ => False) ∧
        ∀ base : Heap, K.In base → base.Ns mainGlobals mg → FnG l.prog w K mg base CX k fa fd [x] sp)
    (hCX : ∀ (H : Hp) (s : Shared) (e : Value) (s' : Shared), CX [] H s (fun _ _ _ => False) e s' → False) :
    PySem.W.WalkO q loose XP YP l.row.toRowW d [] (fun f vs => PySem.call f vs) := by
  refine Att.attach_call hn hdf fun w s₀ s mg mb fa o pm cd doc a vs ns G Y _ _ _ hmg hobj hints hlen hg => ?_
  obtain ⟨K, fd, sp, kin, bind, ask, promise⟩ := F w mg fa _ Y G.T.g hmg
  exact lawG kin G.T.g G.T.b G.T.builtins G.T.nolimit hg hobj hints (Nat.le_trans hlen hn2) hr promise bind (fun H script => ask H a ns hlen script) fun H e s' => hCX H s e s'
end Ov
end

section
set_option Elab.async false
set_option linter.all false
set_option maxRecDepth 100000
set_option maxHeartbeats 2000000
namespace Ov
open PySem PySem.Spec PyProof.Rows L2 Evl
/-! ### an own error class over an own base over ValueError, told by Bools -/
def isO (o : Option (Option Value)) (v : Value) : Bool := decide (o = some (some v))
def mroB (C : Addr) : List Value → Bool
  | .ref D :: up => decide (D = C) && PySem.HandSPX.refsVE up
  | _ => false
def newB (nid : String) : List (Option Value) → Bool
  | [_, _, _, _, some (.builtin n), _] => decide (n = nid)
  | _ => false
def clsB (C : Addr) (nid : String) : Option Obj → Bool
  | some ⟨.type ty, _, .cls cd, slots⟩ => decide (ty = "type") && (!cd.hasDel && (cd.hasDict && (mroB C cd.mro && newB nid slots.toList)))
  | _ => false
theorem mroB_ok {C : Addr} {l : List Value} (h : mroB C l = true) : ∃ up, l = .ref C :: up ∧ PySem.HandSPX.refsVE up = true := by
  unfold mroB at h
  split at h
  · obtain ⟨h1, h2⟩ := He.ba h
    rw [of_decide_eq_true h1]
    exact ⟨_, rfl, h2⟩
  · cases h
theorem newB_ok {nid : String} {l : List (Option Value)} (h : newB nid l = true) : ∃ k0 k1 k2 k3 k5, l = [k0, k1, k2, k3, some (.builtin nid), k5] := by
  unfold newB at h
  split at h
  · rw [of_decide_eq_true h]
    exact ⟨_, _, _, _, _, rfl⟩
  · cases h
theorem clsB_ok {C : Addr} {nid : String} {o : Option Obj} (h : clsB C nid o = true) : ∃ nm q N bs bm sn sub ab col dd k0 k1 k2 k3 k5, o = some (excClassObj nm q C N bs bm true sn sub ab col dd k0 k1 k2 k3 k5 nid) ∧ PySem.HandSPX.refsVE bm = true := by
  unfold clsB at h
  split at h
  · rename_i ty dd cd slots
    obtain ⟨h1, h⟩ := He.ba h
    obtain ⟨h2, h⟩ := He.ba h
    obtain ⟨h3, h⟩ := He.ba h
    obtain ⟨h4, h5⟩ := He.ba h
    obtain ⟨up, e4, h6⟩ := mroB_ok h4
    obtain ⟨k0, k1, k2, k3, k5, e5⟩ := newB_ok h5
    obtain ⟨nm, bs, mro, N, q, hd, sn, sub, ab, col, del⟩ := cd
    have e2 : del = false := by
      cases del with
      | true => cases h2
      | false => rfl
    have e3 : hd = true := h3
    have e4' : mro = .ref C :: up := e4
    have e1 := of_decide_eq_true h1
    have e6 : slots = #[k0, k1, k2, k3, some (.builtin nid), k5] := by rw [← e5, Array.toArray_toList]
    rw [e1, e2, e3, e4', e6]
    exact ⟨nm, q, N, bs, up, sn, sub, ab, col, dd, k0, k1, k2, k3, k5, rfl, h6⟩
  · cases h
def oexB (K : PySem.W.Frag) (C : Addr) : Bool := clsB C "ValueError.__new__" (K.lookup C) && (isO (PySem.W.findIn K (.ref C) "__setattr__") (.builtin "object.__setattr__") && (decide (PySem.W.subIn K (.ref C) (.type "BaseException") = some true) && (decide (PySem.W.typeIn K (.ref C) = some (.type "type")) && PySem.W.keepIn K (.ref C))))
theorem oexB_ok {K : PySem.W.Frag} {C : Addr} (h : oexB K C = true) : OexC K C := by
  obtain ⟨h1, h⟩ := He.ba h
  obtain ⟨h2, h⟩ := He.ba h
  obtain ⟨h3, h⟩ := He.ba h
  obtain ⟨h4, h5⟩ := He.ba h
  exact ⟨clsB_ok h1, of_decide_eq_true h2, of_decide_eq_true h3, of_decide_eq_true h4, h5⟩
def exkB (K : PySem.W.Frag) (D : Addr) : Bool := (PySem.W.clsIn K D).isSome && (isO (PySem.W.findIn K (.ref D) "__getattribute__") (.builtin "BaseException.__getattribute__") && (decide (PySem.W.findIn K (.ref D) "__getattr__" = some none) &&
  (decide (PySem.W.subIn K (.ref D) (.type "BaseException") = some true) && (PySem.W.hasDictIn K D && (isO (PySem.W.findIn K (.ref D) "__class__") (.builtin "object.__class__") && (isO (PySem.W.specialIn K (.builtin "object.__class__") "__get__") (.builtin "getset_descriptor.__get__") &&
    (decide (PySem.W.takesIn K (.builtin "object.__class__") = some true) && decide (PySem.W.mroIn K D (.type "object") = some true))))))))
theorem exkB_ok {K : PySem.W.Frag} {D : Addr} (h : exkB K D = true) : ExK K D := by
  obtain ⟨h1, h⟩ := He.ba h
  obtain ⟨h2, h⟩ := He.ba h
  obtain ⟨h3, h⟩ := He.ba h
  obtain ⟨h4, h⟩ := He.ba h
  obtain ⟨h5, h⟩ := He.ba h
  obtain ⟨h6, h⟩ := He.ba h
  obtain ⟨h7, h⟩ := He.ba h
  obtain ⟨h8, h9⟩ := He.ba h
  exact ⟨h1, of_decide_eq_true h2, of_decide_eq_true h3, of_decide_eq_true h4, h5, of_decide_eq_true h6, of_decide_eq_true h7, of_decide_eq_true h8, of_decide_eq_true h9⟩
def valB (nid : String) : Option PySem.W.CFound → Bool
  | some (.val (.builtin n)) => decide (n = nid)
  | _ => false
theorem valB_ok {nid : String} {r : Option PySem.W.CFound} (h : valB nid r = true) : r = some (.val (.builtin nid)) := by
  unfold valB at h
  split at h
  · rw [of_decide_eq_true h]
  · cases h
def baseB (K : PySem.W.Frag) (S : Addr) : Bool := isO (PySem.W.specialIn K (.ref S) "__getattribute__") (.builtin "type.__getattribute__") && (PySem.W.readsIn K S (.type "type") && valB "ValueError.__init__" (PySem.W.findCls K (.ref S) (.type "type") "__init__"))
theorem baseB_ok {K : PySem.W.Frag} {mg : Str → Option Value} {x : Str} {S : Addr} (hm : mg x = some (.ref S)) (h : baseB K S = true) : BaseI K mg x := by
  obtain ⟨h1, h⟩ := He.ba h
  obtain ⟨h2, h3⟩ := He.ba h
  exact ⟨S, .type "type", hm, of_decide_eq_true h1, h2, valB_ok h3⟩
/-- the error class x with its own __init__, the base S: all that the walks ask -/
def ownB (K : PySem.W.Frag) (x S f : Str) : Bool := oexB K (He.ga K x) && (exkB K (He.ga K x) && (baseB K (He.ga K S) && (isO (PySem.W.findIn K (.ref (He.ga K x)) "__init__") (.ref (He.ma K (He.ga K x) "__init__")) && (decide (PySem.W.typeIn K (.ref (He.ma K (He.ga K x) "__init__")) = some (.type "function")) &&
  (decide (PySem.W.findIn K (.ref (He.ga K x)) f = some none) && (decide (PySem.W.kitOne K (.ref (He.ga K x)) (.type "ValueError") = some true) && (decide (PySem.W.kitOne K (.ref (He.ga K x)) (.ref (He.ga K x)) = some true) && decide (PySem.W.exmOne K (.ref (He.ga K x)) (.ref (He.ga K S)) = some true))))))))
structure Own (K : PySem.W.Frag) (mg : Str → Option Value) (x S f : Str) : Prop where
  err : ErrI K x (He.ga K x) (He.ma K (He.ga K x) "__init__")
  exk : ExK K (He.ga K x)
  base : mg S = some (.ref (He.ga K S)) → BaseI K mg S
  nof : PySem.W.findIn K (.ref (He.ga K x)) f = some none
  isV : PySem.W.kitOne K (.ref (He.ga K x)) (.type "ValueError") = some true
  isC : PySem.W.kitOne K (.ref (He.ga K x)) (.ref (He.ga K x)) = some true
  exS : PySem.W.exmOne K (.ref (He.ga K x)) (.ref (He.ga K S)) = some true
theorem ownB_ok {K : PySem.W.Frag} {mg : Str → Option Value} {x S f : Str} (h : ownB K x S f = true) : Own K mg x S f := by
  obtain ⟨h1, h⟩ := He.ba h
  obtain ⟨h2, h⟩ := He.ba h
  obtain ⟨h3, h⟩ := He.ba h
  obtain ⟨h4, h⟩ := He.ba h
  obtain ⟨h5, h⟩ := He.ba h
  obtain ⟨h6, h⟩ := He.ba h
  obtain ⟨h7, h⟩ := He.ba h
  obtain ⟨h8, h9⟩ := He.ba h
  exact ⟨⟨oexB_ok h1, of_decide_eq_true h4, of_decide_eq_true h5⟩, exkB_ok h2, fun hm => baseB_ok hm h3, of_decide_eq_true h6, of_decide_eq_true h7, of_decide_eq_true h8, of_decide_eq_true h9⟩
theorem ad_glo {K : PySem.W.Frag} {h : Heap} {mg : Str → Option Value} (X : K.In h) (G : h.Ns mainGlobals mg) {x : Str} (c : (He.Fa.glo x).ok K = true) : mg x = some (.ref (ad mg x)) ∧ ad mg x = He.ga K x := by
  have e := He.glo_ok X G c
  unfold ad
  rw [e]
  exact ⟨rfl, rfl⟩
end Ov
end

section
set_option Elab.async false
set_option linter.all false
set_option maxRecDepth 100000
set_option maxHeartbeats 400000
namespace Ov
open PySem PySem.Spec PyProof.Rows L2 Evl
/-! ### t += u, tuples, both with items -/
theorem noI_tuple_add : typeLookup (.type "tuple") (dunderI "add") = pure none := by rw [typeLookup_type, builtinLookup_eq_fast]; kernel_rfl
def rIpT (K : PySem.W.Frag) : R2 := fun x y H Q => ∃ a b xs ys, x = .ref a ∧ y = .ref b ∧ SqT K H a xs ∧ SqT K H b ys ∧ xs ≠ [] ∧ ys ≠ [] ∧ xs.length + ys.length ≤ 90000 ∧ ∀ p, H p = none → Q (.ref p) (upd H p (.tup (xs ++ ys)))
theorem ip_addT {X : Cx} : PIp X .Add (rIpT X.K) := by
  intro pins s σ H x y v u Q I rx ry h
  obtain ⟨a, b, xs, ys, rfl, rfl, ha, hb, hx, hy, hz, q⟩ := h
  cases rx
  cases ry
  obtain ⟨its, r1, p1, _⟩ := I.tuple ha
  obtain ⟨its2, r2, p2, _⟩ := I.tuple hb
  obtain ⟨⟨c1, d1, dt1, sl1⟩, o1, e1, n1, f1⟩ := id p1
  obtain ⟨⟨c2, d2, dt2, sl2⟩, o2, e2, n2, f2⟩ := id p2
  simp only at e1 f1 e2 f2
  subst e1 f1 e2 f2
  have hi : its ≠ [] := fun z => hx (r1.nil_iff.mp z)
  have hi2 : its2 ≠ [] := fun z => hy (r2.nil_iff.mp z)
  have l1 := r1.length
  have l2 := r2.length
  refine inplaceOp_concat (T := "tuple") (id := "tuple.__add__") ⟨_, o1, rfl⟩ ⟨_, o2, rfl⟩ noI_tuple_add noFill_tuple_add seq_tuple_add (PySem.call_meets PySem.F.slot_tuple_add ⟨_, o1, rfl⟩ PySem.F.entry_tuple_add (PySem.F.args_tuple_add_2 _ _)
    (tuple_addW2 a b its.toArray its2.toArray n1 n2 d1 d2 sl1 sl2 (by simpa using hi) (by simpa using hi2) (by
      rw [List.size_toArray, List.size_toArray]
      exact sz_of (by omega))) ⟨o1, o2, ?_⟩)
  have e : its.toArray ++ its2.toArray = (its ++ its2).toArray := by simp
  rw [e]
  refine ⟨.ref s.heap.objs.size, _, I.laid (t' := s.toks) (o := .tup (xs ++ ys)) (fun b ob q => Heap.get?_push_of_some _ q) (Nat.le_refl _) ?_, rfl, q _ (I.hok.fresh (Nat.le_refl _))⟩
  exact ⟨by rw [List.length_append]; exact sz_of (by omega), _, r1.append r2, IsTup.new _ _⟩
section
variable {K : PySem.W.Frag} {σ : L2.St} {H : Hp} {te : TE} {tz : TS} {D : Ends}
theorem q_augT {i : Nat} {a : Addr} {xs ys : List V} (hx : σ[i]? = some (some (.ref a))) (hs : SqT K H a xs) (h : EvU te σ H ys) (h1 : xs ≠ []) (h2 : ys ≠ []) (h3 : xs.length + ys.length ≤ 90000)
    (k : ∀ p H1, H p = none → Ex H H1 → H1 p = some (.tup (xs ++ ys)) → tz D (σ.set i (some (.ref p))) H1) : tSeq (tAug i te (rIpT K)) tz D σ H :=
  ⟨_, hx, h H (Evl.Ex.refl H) _ fun p H1 hp e1 hp1 => ⟨a, p, xs, ys, rfl, rfl, ex_t e1 hs, st_of hp1, h1, h2, h3, fun q hq => k q _ (fresh_back e1 hq) (e1.trans (Evl.Ex.new hq)) upd_same⟩⟩
/-- for i, x in enumerate(a new list) -/
theorem q_forEnL {tl : TE} {g : TG} {tu : TS} {xs : List V} (h : EvL tl σ H xs) (k : ∀ a H1, H a = none → Ex H H1 → H1 a = some (.lst xs) → tSeq (tFor (iEnum K (tCons (tC (.ref a)) tNil)) g tu) tz D σ H1) : tSeq (tFor (iEnum K (tCons tl tNil)) g tu) tz D σ H :=
  h H (Evl.Ex.refl H) _ fun a H1 ha e1 h1 => k a H1 ha e1 h1
end
end Ov
end

section
set_option Elab.async false
set_option linter.all false
set_option maxRecDepth 100000
set_option maxHeartbeats 400000
namespace Ov
open PySem PySem.Spec PyProof.Rows L2 Evl
theorem pair_imp {α β : Type} {R S : α → β → Prop} (h : ∀ a b, R a b → S a b) : ∀ {as : List α} {bs : List β}, Paired R as bs → Paired S as bs
  | _, _, .nil => .nil
  | _, _, .cons a b => .cons (h _ _ a) (pair_imp h b)
theorem pair_snoc {α β : Type} {R : α → β → Prop} {a : α} {b : β} (h : R a b) : ∀ {as : List α} {bs : List β}, Paired R as bs → Paired R (as ++ [a]) (bs ++ [b])
  | _, _, .nil => .cons h .nil
  | _, _, .cons x y => .cons x (pair_snoc h y)
section
variable {K : PySem.W.Frag} {σ : L2.St} {H : Hp} {te ta tb : TE} {tA : TA} {tz tu : TS} {D : Ends} {P : Hp → Addr → Prop}
/-- [a new tuple for i in range(n)] -/
theorem lcRU {j : Nat} {vs : List Nat} {n : Int} (g : Nat → List V) (h : EvA tA σ H [.int n]) (hn : 0 ≤ n ∧ n ≤ 40000) (hwi : ∀ x, wipe ((wipe σ vs).set j (some x)) vs = wipe σ vs)
    (he : ∀ (i : Nat) H1, Ex H H1 → (i : Int) < n → EvU te ((wipe σ vs).set j (some (.int (i : Int)))) H1 (g i)) {H1 : Hp} (e : Ex H H1) {Q : VK}
    (q : ∀ p ps H2, H1 p = none → Ex H1 H2 → H2 p = some (.lst (ps.map V.ref)) → Paired (fun t xs => H2 t = some (.tup xs)) ps ((List.range n.toNat).map g) → Q (.ref p) H2) : tLc (iRng1 tA) (gName j) tYes te vs σ H1 Q :=
  h H1 e _ fun H2 e2 => ⟨n, rfl, by omega, by omega, fun Dl hD =>
    lc_range (lo := 0) (n := n.toNat) (fun i H' => ∃ ps : List Addr, Ex H2 H' ∧ H' Dl = some (.lst (ps.map V.ref)) ∧ ps.length = i ∧ Paired (fun t xs => H' t = some (.tup xs)) ps ((List.range i).map g))
      ⟨[], Evl.Ex.new hD, upd_same, rfl, .nil⟩ (fun i H' hi p => by
        have e0 : (0 : Int) + (i : Int) = (i : Int) := Int.zero_add _
        obtain ⟨ps, ex, hd, hl, hp⟩ := p
        show wipe ((wipe σ vs).set j (some (.int ((0 : Int) + (i : Int))))) vs = wipe σ vs ∧ te ((wipe σ vs).set j (some (.int ((0 : Int) + (i : Int))))) H' fun y H4 => ∃ acc, H4 Dl = some (.lst acc) ∧ acc.length < sizeLine ∧ ∃ qs : List Addr, Ex H2 (upd H4 Dl (.lst (acc ++ [y]))) ∧ upd H4 Dl (.lst (acc ++ [y])) Dl = some (.lst (qs.map V.ref)) ∧ qs.length = i + 1 ∧ Paired (fun t xs => upd H4 Dl (.lst (acc ++ [y])) t = some (.tup xs)) qs ((List.range (i + 1)).map g)
        rw [e0]
        refine ⟨hwi _, he i H' ((e.trans e2).trans ex) (by omega) H' (Evl.Ex.refl _) _ fun t H4 ht e4 h4 => ⟨_, e4 _ _ hd, sz_lt (by rw [List.length_map]; omega), ps ++ [t], Evl.Ex.mut (ex.trans e4) hD, ?_, by simp [hl], ?_⟩⟩
        · rw [upd_same, List.map_append] <;> rfl
        · have keep : ∀ u xs, H4 u = some (.tup xs) → upd H4 Dl (.lst (ps.map V.ref ++ [.ref t])) u = some (.tup xs) := fun u xs hu => by
            have hne : u ≠ Dl := fun z => by
              rw [z, e4 _ _ hd] at hu
              cases hu
            rw [upd_ne hne]
            exact hu
          rw [List.range_succ, List.map_append]
          exact pair_snoc (R := fun u xs => upd H4 Dl (.lst (ps.map V.ref ++ [.ref t])) u = some (.tup xs)) (keep _ _ h4) (pair_imp (fun u xs hu => keep _ _ (e4 _ _ hu)) hp)) (fun H' p => by
        obtain ⟨ps, ex, hd, hl, hp⟩ := p
        exact q Dl ps H' (fresh_back e2 hD) (e2.trans ex) hd hp)⟩
theorem r_cb1 {r : List V → Hp → VK → Prop} {Q : VK} (h : te σ H fun v H' => r [v] H' Q) : tCB r (tCons te tNil) σ H Q := h
/-- a part of a new list -/
theorem el_slN {tl th : TO} {xs : List V} {lo hi : Option Int} (h : EvL te σ H xs) (h1 : EvO tl σ H lo) (h2 : EvO th σ H hi) : EvL (tSl (rSlL K) te tl th) σ H (cutV xs lo hi) := fun H1 e _ q =>
  h H1 e _ fun p H2 hp e2 hp2 => h1 H2 (e.trans e2) _ fun H3 e3 => h2 H3 ((e.trans e2).trans e3) _ fun H4 e4 =>
    ⟨p, xs, rfl, sq_of (e4 _ _ (e3 _ _ hp2)), fun p2 hp3 => q p2 _ (fresh_back ((e2.trans e3).trans e4) hp3) (((e2.trans e3).trans e4).trans (Evl.Ex.new hp3)) upd_same⟩
theorem q_parNL {ys : List V} {i j : Nat} (h1 : EvN ta σ H P) (h2 : EvL tb σ H ys) (k : ∀ p q H1 H2, H p = none → Ex H H1 → P H1 p → H1 q = none → Ex H1 H2 → H2 q = some (.lst ys) → tz D ((σ.set i (some (.ref p))).set j (some (.ref q))) H2) :
    tSeq (tPar i j (tCons ta (tCons tb tNil))) tz D σ H := h1 H (Evl.Ex.refl H) _ fun p H1 hp e1 hp1 => h2 H1 e1 _ fun q H2 hq e2 hq1 => ⟨_, _, rfl, k p q H1 H2 hp e1 hp1 hq e2 hq1⟩
theorem s_appUt {l : Addr} {xs ys : List V} (hl : H l = some (.lst xs)) (ha : Ev ta σ H (.ref l)) (h : EvU te σ H ys) (hz : xs.length < 100000) (k : ∀ p H1, H p = none → Ex H H1 → H1 p = some (.tup ys) → D.nx σ (upd H1 l (.lst (xs ++ [.ref p])))) :
    tDrop (tBM K "list" rAppend ta (tCons te tNil)) D σ H := s_appU hl ha h hz k
theorem erase_map {α β : Type} (f : α → β) : ∀ (l : List α) (i : Nat), (l.map f).eraseIdx i = (l.eraseIdx i).map f
  | [], _ => rfl
  | _ :: _, 0 => rfl
  | a :: l, i + 1 => by
    show f a :: (l.map f).eraseIdx i = f a :: (l.eraseIdx i).map f
    rw [erase_map f l i]
theorem el_rg {n : Int} (h : Ev te σ H (.int n)) (h0 : 0 ≤ n) (h1 : n ≤ 100000) : EvL (tLstRg (tRg1 te)) σ H (rgV 0 n) := fun H1 e _ q =>
  h H1 e _ fun H2 e2 => ⟨n, rfl, RgOk.of_le (by omega) (by omega) (by omega) (by omega), fun p hp => q p _ (fresh_back e2 hp) (e2.trans (Evl.Ex.new hp)) upd_same⟩
theorem Wd.mut {G H : Hp} {v t : Addr} {k : Nat} {o : HO} (w : Wd G v k H) (hg : G t = none) (hv : v ≠ t) : Wd G v k (upd H t o) := ⟨w.no, Evl.Ex.mut w.ex hg, by
  obtain ⟨d, e, f, h1, h2⟩ := w.vat
  exact ⟨d, e, f, by rw [upd_ne hv]; exact h1, h2⟩⟩
/-- [left.pop(a draw) for i in range(m)] -/
theorem lcPop {G : Hp} {v L : Addr} {k j i1 i0 : Nat} {vs : List Nat} {E : XK} {ls : List Int} {r B : Int} (hG : G L = none) (hvL : v ≠ L) (hw : Wd G v (k + r.toNat) H) (hL : H L = some (.lst (ls.map V.int))) (hB : ∀ x ∈ ls, 0 ≤ x ∧ x < B) (hr0 : 0 ≤ r) (hr : r ≤ ls.length) (hls : ls.length ≤ 1000)
    (h : Ev te σ H (.int r)) (hwi : ∀ x, wipe ((wipe σ vs).set j (some x)) vs = wipe σ vs) (hv0 : ∀ x, ((wipe σ vs).set j (some x))[i0]? = some (some (.ref v))) (hv1 : ∀ x, ((wipe σ vs).set j (some x))[i1]? = some (some (.ref L))) {Q : VK}
    (q : ∀ p (ys : List Int) H', (∀ y ∈ ys, 0 ≤ y ∧ y < B) → ys.length = r.toNat → Wd G v k H' → H' p = some (.lst (ys.map V.int)) → Q (.ref p) H') :
    tLc (iRng1 (tCons te tNil)) (gName j) tYes (tBM K "list" rPopAt (tVar i1) (tCons (tCall spSip [] E (tCons (tVar i0) (tCons (tCB (rLenS K) (tCons (tVar i1) tNil)) tNil))) tNil)) vs σ H Q :=
  h H (Evl.Ex.refl _) _ fun H1 e1 => ⟨r, rfl, by omega, by omega, fun Dl hD => by
    have w1 := hw.mono e1
    have hvD : v ≠ Dl := by
      obtain ⟨u, hu⟩ := w1.vat.is
      exact ne_of_none hu hD
    have hLD : L ≠ Dl := ne_of_none (e1 _ _ hL) hD
    have hGD : G Dl = none := fresh_back w1.ex hD
    refine lc_range (lo := 0) (n := r.toNat) (fun i H' => ∃ (ms ys : List Int), H' Dl = some (.lst (ys.map V.int)) ∧ H' L = some (.lst (ms.map V.int)) ∧ ms.length + i = ls.length ∧ (∀ x ∈ ms, 0 ≤ x ∧ x < B) ∧ (∀ y ∈ ys, 0 ≤ y ∧ y < B) ∧ ys.length = i ∧ Wd G v (k + (r.toNat - i)) H')
      ⟨ls, [], upd_same, by rw [upd_ne hLD]; exact e1 _ _ hL, by omega, hB, (fun y z => by cases z), rfl, w1.mut hGD hvD⟩ (fun i H' hi p => ?_) (fun H' p => ?_)
    · have e0 : (0 : Int) + (i : Int) = (i : Int) := Int.zero_add _
      obtain ⟨ms, ys, hd, hm, hml, hmB, hyB, hyl, w⟩ := p
      rw [e0]
      refine ⟨hwi _, ⟨_, hv1 _, ?_⟩⟩
      refine ⟨Or.inl ⟨rfl, _, sq_of hm⟩, ?_⟩
      refine ⟨.ref v, hv0 _, .ref L, hv1 _, L, _, rfl, Or.inl (sq_of hm), ?_⟩
      have hmp : 0 < ms.length := by omega
      have hwk : k + (r.toNat - i) = (k + (r.toNat - (i + 1))) + 1 := by omega
      rw [hwk] at w
      have w2 := wd_add (wd_add w hvD hd) hvL (o := .lst (ms.map V.int)) hm
      refine ⟨_, v, _, ((ms.map V.int).length : Int), rfl, w2, by rw [List.length_map]; omega, by rw [List.length_map]; omega, fun x H2 x0 x1 w3 => ?_⟩
      have hm2 : H2 L = some (.lst (ms.map V.int)) := w3.ex _ _ upd_same
      have hd2 : H2 Dl = some (.lst (ys.map V.int)) := w3.ex _ _ (by rw [upd_ne (fun z => hLD z.symm)]; exact upd_same)
      rw [List.length_map] at x1
      obtain ⟨a, rfl⟩ : ∃ a : Nat, x = a := ⟨x.toNat, by omega⟩
      have ha : a < ms.length := by omega
      have ha2 : a < (ms.map V.int).length := by rw [List.length_map]; exact ha
      refine ⟨L, _, (a : Int), a, .int ms[a], rfl, rfl, hm2, by omega, by omega, (ixN_seq (ixN_nat ha2)).1, by rw [List.getElem?_map, List.getElem?_eq_getElem ha] <;> rfl, ?_⟩
      refine ⟨ys.map V.int, by rw [upd_ne (fun z => hLD z.symm)]; exact hd2, sz_lt (by rw [List.length_map]; omega), ms.eraseIdx a, ys ++ [ms[a]], by rw [upd_same, List.map_append] <;> rfl, ?_, ?_, fun x hx => hmB x (List.mem_of_mem_eraseIdx hx), fun y hy => ?_, by simp [hyl], ?_⟩
      · rw [upd_ne hLD, upd_same]
        congr 2
        exact erase_map _ _ _
      · rw [List.length_eraseIdx_of_lt ha]
        omega
      · rcases List.mem_append.mp hy with hy | hy
        · exact hyB y hy
        · cases List.mem_singleton.mp hy
          exact hmB _ (List.getElem_mem ha)
      · have w4 : Wd G v (k + (r.toNat - (i + 1))) H2 := w3.sub ((Evl.Ex.new hGD).trans (Evl.Ex.new (by rw [upd_ne hLD]; exact hG)))
        exact (w4.mut hG hvL).mut hGD hvD
    · obtain ⟨ms, ys, hd, hm, hml, hmB, hyB, hyl, w⟩ := p
      rw [Nat.sub_self, Nat.add_zero] at w
      exact q Dl ys H' hyB hyl w hd⟩
theorem q_asgSort {i : Nat} (h : te σ H fun v H' => rSortedI K [v] H' fun x H2 => tz D (σ.set i (some x)) H2) : tSeq (tAsg (tCB (rSortedI K) (tCons te tNil)) (gName i)) tz D σ H := h
theorem q_asgR {i : Nat} (h : te σ H fun x H2 => tz D (σ.set i (some x)) H2) : tSeq (tAsg te (gName i)) tz D σ H := h
end
end Ov
end

section
set_option Elab.async false
set_option linter.all false
set_option maxRecDepth 100000
set_option maxHeartbeats 4000000
namespace TxM
open PySem PySem.Spec PyProof.Rows L2 TL
theorem cut_some {c : Nat} : ∀ {l acc a b : List Nat}, parC c acc l = some (a, b) → cutAt c acc l = a :: cutAt c [] b
  | [], _, _, _, h => by cases h
  | x :: r, acc, a, b, h => by
    unfold parC at h
    have hc : cutAt c acc (x :: r) = if x = c then acc :: cutAt c [] r else cutAt c (acc ++ [x]) r := rfl
    rw [hc]
    by_cases e : x = c
    · rw [if_pos e] at h ⊢
      cases h
      rfl
    · rw [if_neg e] at h ⊢
      exact cut_some h
def wdc (w : Str) : List Str := (cutAt 58 [] (tl w)).map S
theorem split_wdc (w : Str) : Txt.split w ":" = wdc w := by
  refine map_tl_inj ?_
  have e : tl (":" : Str) = [58] := by decide +kernel
  rw [split_spl w ":" (by rw [e]; simp) (kind_ok (by decide +kernel)), e, spl_cut]
  unfold wdc
  rw [List.map_map]
  exact (List.map_id _).symm
theorem wdc_yes {z : Str} (h : 58 ∈ z.cps.toList) : ∃ us, wdc z = (part1 58 z).1 :: us ∧ Txt.join ":" us = (part1 58 z).2.2 := by
  unfold wdc part1
  cases hp : parC 58 [] (tl z) with
  | none => exact absurd h (parC_none hp)
  | some q =>
    obtain ⟨a, b⟩ := q
    refine ⟨(cutAt 58 [] b).map S, by rw [cut_some hp] <;> rfl, ?_⟩
    show _ = S b
    refine ext_tl ?_
    have e : tl (":" : Str) = [58] := by decide +kernel
    rw [join_eq, tl_join, e, List.map_map]
    have e2 : (cutAt 58 [] b).map (tl ∘ S) = cutAt 58 [] b := List.map_id _
    rw [e2, join_cutAt]
    rfl
theorem wdc_no {z : Str} (h : 58 ∉ z.cps.toList) : part1 58 z = (z, Str.empty, Str.empty) := by
  unfold part1
  rw [parC_notin h]
theorem wdc_ne (w : Str) : wdc w ≠ [] := fun h => cutAt_ne 58 _ _ (List.map_eq_nil_iff.mp h)
theorem wdc_sum (w : Str) : ((wdc w).map (·.length)).sum + (wdc w).length = w.length + 1 := by
  have h := cutAt_sum 58 (tl w) []
  have e : (wdc w).map (·.length) = (cutAt 58 [] (tl w)).map List.length := by
    unfold wdc
    rw [List.map_map]
    exact List.map_congr_left fun x _ => S_len x
  have e2 : (wdc w).length = (cutAt 58 [] (tl w)).length := by
    unfold wdc
    rw [List.length_map]
  rw [e, e2, h, len_tl w]
  simp
theorem app_assoc (a b c : Str) : a ++ b ++ c = a ++ (b ++ c) := by
  refine ext_tl ?_
  rw [tl_append, tl_append, tl_append, tl_append, List.append_assoc]
end TxM
end

section
set_option Elab.async false
set_option linter.all false
set_option maxRecDepth 100000
set_option maxHeartbeats 2000000
namespace K83
open PySem PySem.Spec PyProof.Rows L2 Ov
def top (i : Nat) : Stmt := PySem.Challenge.pw_overstamps_k83_codes_of_parts.main.body.getD i (.Pass ⟨0, 0, 0, 0⟩)
abbrev s_number_in : Stmt := top 20
theorem sc_number_in : FnScope ["word", "least", "most", "digits", "number", "digit"] ["word", "least", "most"] (defScope s_number_in) := ⟨rfl, rfl, rfl, by decide +kernel, rfl, by decide +kernel, by decide +kernel⟩
theorem b_number_in : BindsTxt "number_in" s_number_in ["word", "least", "most"] := fun _ _ _ _ _ _ us hl => match us, hl with | [_, _, _], _ => rfl
abbrev s_write_parts : Stmt := top 21
theorem sc_write_parts : FnScope ["parts", "place", "word", "offset", "length"] ["parts"] (defScope s_write_parts) := ⟨rfl, rfl, rfl, by decide +kernel, rfl, by decide +kernel, by decide +kernel⟩
theorem b_write_parts : BindsTxt "write_parts" s_write_parts ["parts"] := fun _ _ _ _ _ _ us hl => match us, hl with | [_], _ => rfl
abbrev s_part_in : Stmt := top 22
theorem sc_part_in : FnScope ["text", "place", "colon", "rest", "word", "plus", "offset", "times", "length", "numbers"] ["text"] (defScope s_part_in) := ⟨rfl, rfl, rfl, by decide +kernel, rfl, by decide +kernel, by decide +kernel⟩
theorem b_part_in : BindsTxt "part_in" s_part_in ["text"] := fun _ _ _ _ _ _ us hl => match us, hl with | [_], _ => rfl
abbrev s_read_parts : Stmt := top 23
theorem sc_read_parts : FnScope ["code", "found", "at", "word", "part"] ["code"] (defScope s_read_parts) := ⟨rfl, rfl, rfl, by decide +kernel, rfl, by decide +kernel, by decide +kernel⟩
theorem b_read_parts : BindsTxt "read_parts" s_read_parts ["code"] := fun _ _ _ _ _ _ us hl => match us, hl with | [_], _ => rfl
abbrev s__law_vat : Stmt := top 25
theorem sc__law_vat : FnScope ["script", "k", "cell"] ["script", "k"] (defScope s__law_vat) := ⟨rfl, rfl, rfl, by decide +kernel, rfl, by decide +kernel, by decide +kernel⟩
theorem b__law_vat : BindsTxt "_law_vat" s__law_vat ["script", "k"] := fun _ _ _ _ _ _ us hl => match us, hl with | [_, _], _ => rfl
abbrev s__law_sip : Stmt := top 26
theorem sc__law_sip : FnScope ["vat", "size", "digit", "mixed"] ["vat", "size"] (defScope s__law_sip) := ⟨rfl, rfl, rfl, by decide +kernel, rfl, by decide +kernel, by decide +kernel⟩
theorem b__law_sip : BindsTxt "_law_sip" s__law_sip ["vat", "size"] := fun _ _ _ _ _ _ us hl => match us, hl with | [_, _], _ => rfl
abbrev s__law_read_at : Stmt := top 27
theorem sc__law_read_at : FnScope ["e", "others"] ["e"] (defScope s__law_read_at) := ⟨rfl, rfl, rfl, by decide +kernel, rfl, by decide +kernel, by decide +kernel⟩
theorem b__law_read_at : BindsTxt "_law_read_at" s__law_read_at ["e"] := fun _ _ _ _ _ _ us hl => match us, hl with | [_], _ => rfl
abbrev s__law_bent : Stmt := top 28
theorem sc__law_bent : FnScope ["vat", "given", "odd", "turn", "words", "at", "way", "one", "spot"] ["vat", "given", "odd"] (defScope s__law_bent) := ⟨rfl, rfl, rfl, by decide +kernel, rfl, by decide +kernel, by decide +kernel⟩
theorem b__law_bent : BindsTxt "_law_bent" s__law_bent ["vat", "given", "odd"] := fun _ _ _ _ _ _ us hl => match us, hl with | [_, _, _], _ => rfl
abbrev s__law_word : Stmt := top 29
theorem sc__law_word : FnScope ["one"] ["one"] (defScope s__law_word) := ⟨rfl, rfl, rfl, by decide +kernel, rfl, by decide +kernel, by decide +kernel⟩
theorem b__law_word : BindsTxt "_law_word" s__law_word ["one"] := fun _ _ _ _ _ _ us hl => match us, hl with | [_], _ => rfl
abbrev s__law_backs : Stmt := top 30
theorem sc__law_backs : FnScope ["found", "word", "begin", "size"] [] (defScope s__law_backs) := ⟨rfl, rfl, rfl, by decide +kernel, rfl, by decide +kernel, by decide +kernel⟩
theorem b__law_backs : BindsTxt "_law_backs" s__law_backs [] := fun _ _ _ _ _ _ us hl => match us, hl with | [], _ => rfl
abbrev s__law_due : Stmt := top 31
theorem sc__law_due : FnScope ["given", "backs", "spots", "found", "at", "word", "front", "back", "spot"] ["given", "backs"] (defScope s__law_due) := ⟨rfl, rfl, rfl, by decide +kernel, rfl, by decide +kernel, by decide +kernel⟩
theorem b__law_due : BindsTxt "_law_due" s__law_due ["given", "backs"] := fun _ _ _ _ _ _ us hl => match us, hl with | [_, _], _ => rfl
abbrev s__law_told : Stmt := top 32
theorem sc__law_told : FnScope ["given", "named", "e"] ["given", "named"] (defScope s__law_told) := ⟨rfl, rfl, rfl, by decide +kernel, rfl, by decide +kernel, by decide +kernel⟩
theorem b__law_told : BindsTxt "_law_told" s__law_told ["given", "named"] := fun _ _ _ _ _ _ us hl => match us, hl with | [_, _], _ => rfl
abbrev s__law_right : Stmt := top 33
theorem sc__law_right : FnScope ["given", "backs", "due", "told", "first", "kept"] ["given", "backs"] (defScope s__law_right) := ⟨rfl, rfl, rfl, by decide +kernel, rfl, by decide +kernel, by decide +kernel⟩
theorem b__law_right : BindsTxt "_law_right" s__law_right ["given", "backs"] := fun _ _ _ _ _ _ us hl => match us, hl with | [_, _], _ => rfl
abbrev s__law_some : Stmt := top 34
theorem sc__law_some : FnScope ["vat", "many", "left", "spots", "found", "spot", "begin", "turn"] ["vat", "many"] (defScope s__law_some) := ⟨rfl, rfl, rfl, by decide +kernel, rfl, by decide +kernel, by decide +kernel⟩
theorem b__law_some : BindsTxt "_law_some" s__law_some ["vat", "many"] := fun _ _ _ _ _ _ us hl => match us, hl with | [_, _], _ => rfl
abbrev s_law : Stmt := top 35
theorem sc_law : FnScope ["script", "backs", "odd", "k", "vat", "many", "some", "given", "step", "whole", "one", "spot"] ["script"] (defScope s_law) := ⟨rfl, rfl, rfl, by decide +kernel, rfl, by decide +kernel, by decide +kernel⟩
theorem b_law : BindsTxt "law" s_law ["script"] := fun _ _ _ _ _ _ us hl => match us, hl with | [_], _ => rfl
structure Txt (K : PySem.W.Frag) (mg : Str → Option Value) : Prop where
  f_ValueError : mg "ValueError" = none
  f_abs : mg "abs" = none
  f_all : mg "all" = none
  f_dict : mg "dict" = none
  f_enumerate : mg "enumerate" = none
  f_int : mg "int" = none
  f_isinstance : mg "isinstance" = none
  f_len : mg "len" = none
  f_list : mg "list" = none
  f_max : mg "max" = none
  f_min : mg "min" = none
  f_range : mg "range" = none
  f_repr : mg "repr" = none
  f_sorted : mg "sorted" = none
  f_str : mg "str" = none
  c_DIGITS : ∃ t, mg "DIGITS" = some (.str "0123456789" t)
  c_MOST_DIGITS : ∃ t, mg "MOST_DIGITS" = some (.int 3 t)
  c_MOST_PARTS : ∃ t, mg "MOST_PARTS" = some (.int 120 t)
  c_MOST_WIDTH : ∃ t, mg "MOST_WIDTH" = some (.int 8 t)
  c_MOST_WORDS : ∃ t, mg "MOST_WORDS" = some (.int 6 t)
  c_NOTHING : ∃ t, mg "NOTHING" = some (.str "-" t)
end K83
end

section
set_option Elab.async false
set_option linter.all false
set_option maxRecDepth 100000
set_option maxHeartbeats 4000000
namespace Num
open PySem PySem.Spec PyProof.Rows L2
/-- a text of these signs -/
abbrev S (l : List Nat) : Str := ⟨l.toArray⟩
theorem S_eta (w : Str) : S w.cps.toList = w := by cases w; rfl
def isD (c : Nat) : Bool := decide (c ∈ ("0123456789" : Str).cps.toList)
def digs (l : List Nat) : List Nat := if l.take 1 = [45] then l.drop 1 else l
def numOk (l : List Nat) : Bool := decide (1 ≤ (digs l).length) && (decide ((digs l).length ≤ 3) && ((digs l).all isD && !(decide ((digs l).head? = some 48) && !decide (l = [48]))))
def D1 : List Nat := [48, 49, 50, 51, 52, 53, 54, 55, 56, 57]
def ds1 : List (List Nat) := D1.map fun a => [a]
def ds2 : List (List Nat) := D1.flatMap fun a => D1.map fun b => [a, b]
def ds3 : List (List Nat) := D1.flatMap fun a => D1.flatMap fun b => D1.map fun c => [a, b, c]
def cand : List (List Nat) := ds1 ++ ds2 ++ ds3
def good (l : List Nat) : Bool := !numOk l || (match PySem.intText? (S l) with
  | some m => decide ((toString m : Str) = S l) && decide (-999 ≤ m ∧ m ≤ 999)
  | none => false)
theorem all_good : (cand.all fun l => good l && good (45 :: l)) = true := by decide +kernel
theorem mem_D1 {c : Nat} (h : isD c = true) : c ∈ D1 := by
  have h1 : c ∈ ("0123456789" : Str).cps.toList := of_decide_eq_true h
  have h2 : ("0123456789" : Str).cps.toList = D1 := by decide +kernel
  rwa [h2] at h1
theorem mem_cand {l : List Nat} (h1 : 1 ≤ l.length) (h3 : l.length ≤ 3) (hd : l.all isD = true) : l ∈ cand := by
  unfold cand ds1 ds2 ds3
  match l, h1, h3, hd with
  | [a], _, _, hd =>
    simp only [List.all_cons, List.all_nil, Bool.and_true] at hd
    exact List.mem_append_left _ (List.mem_append_left _ (List.mem_map.mpr ⟨a, mem_D1 hd, rfl⟩))
  | [a, b], _, _, hd =>
    simp only [List.all_cons, List.all_nil, Bool.and_true, Bool.and_eq_true] at hd
    exact List.mem_append_left _ (List.mem_append_right _ (List.mem_flatMap.mpr ⟨a, mem_D1 hd.1, List.mem_map.mpr ⟨b, mem_D1 hd.2, rfl⟩⟩))
  | [a, b, c], _, _, hd =>
    simp only [List.all_cons, List.all_nil, Bool.and_true, Bool.and_eq_true] at hd
    exact List.mem_append_right _ (List.mem_flatMap.mpr ⟨a, mem_D1 hd.1, List.mem_flatMap.mpr ⟨b, mem_D1 hd.2.1, List.mem_map.mpr ⟨c, mem_D1 hd.2.2, rfl⟩⟩⟩)
theorem good_of {l : List Nat} (h : numOk l = true) : good l = true := by
  have h0 := h
  unfold numOk at h
  simp only [Bool.and_eq_true, decide_eq_true_eq] at h
  obtain ⟨h1, h3, hd, _⟩ := h
  have hm := mem_cand h1 h3 hd
  have hg := List.all_eq_true.mp all_good _ hm
  rw [Bool.and_eq_true] at hg
  by_cases c : l.take 1 = [45]
  · have e : digs l = l.drop 1 := if_pos c
    have e2 : l = 45 :: digs l := by
      rw [e]
      match l, c with
      | a :: r, c =>
        have : a = 45 := by simpa using c
        rw [this]; rfl
    rw [e2]
    exact hg.2
  · have e : digs l = l := if_neg c
    have := hg.1
    rwa [e] at this
theorem num_val {l : List Nat} (h : numOk l = true) : ∃ m : Int, PySem.intText? (S l) = some m ∧ (toString m : Str) = S l ∧ -999 ≤ m ∧ m ≤ 999 := by
  have hg := good_of h
  unfold good at hg
  rw [h] at hg
  cases e : PySem.intText? (S l) with
  | none => rw [e] at hg; cases hg
  | some m =>
    rw [e] at hg
    simp only [Bool.not_true, Bool.false_or, Bool.and_eq_true, decide_eq_true_eq] at hg
    exact ⟨m, rfl, hg.1, hg.2⟩
/-- the integer that a word writes within two bounds -/
def numberIn (w : Str) (lo hi : Int) : Option Int := if numOk w.cps.toList = true then (PySem.intText? w).bind fun m => if lo ≤ m ∧ m ≤ hi then some m else none else none
theorem numberIn_text {w : Str} {lo hi n : Int} (h : numberIn w lo hi = some n) : w = (toString n : Str) ∧ lo ≤ n ∧ n ≤ hi := by
  unfold numberIn at h
  by_cases c : numOk w.cps.toList = true
  · rw [if_pos c] at h
    obtain ⟨m, h1, h2, _⟩ := num_val c
    rw [S_eta] at h1 h2
    rw [h1, Option.bind_some] at h
    by_cases c2 : lo ≤ m ∧ m ≤ hi
    · rw [if_pos c2] at h
      cases h
      exact ⟨h2.symm, c2⟩
    · rw [if_neg c2] at h
      cases h
  · rw [if_neg c] at h
    cases h
/-- cuts by lists -/
theorem cut_to (w : Str) (b : Nat) : cutS w none (some (b : Int)) = S (w.cps.toList.take b) := by
  unfold cutS
  rw [HT.sIx_none, HT.sIx_nat, List.drop_zero, Nat.sub_zero]
  have e : w.length = w.cps.toList.length := Array.length_toList.symm
  by_cases h : b ≤ w.length
  · rw [Nat.min_eq_left h]
  · rw [Nat.min_eq_right (by omega), e, List.take_length, List.take_of_length_le (by omega)]
theorem cut_from (w : Str) (a : Nat) : cutS w (some (a : Int)) none = S (w.cps.toList.drop a) := by
  unfold cutS
  rw [HT.sIx_none, HT.sIx_nat]
  have e : w.length = w.cps.toList.length := Array.length_toList.symm
  by_cases h : a ≤ w.length
  · rw [Nat.min_eq_left h, List.take_of_length_le (by rw [List.length_drop]; omega)]
  · rw [Nat.min_eq_right (by omega), e, List.drop_length, List.take_nil, List.drop_of_length_le (by omega)]
theorem cutV_to (xs : List V) (b : Nat) : cutV xs none (some (b : Int)) = xs.take b := by
  unfold cutV
  rw [HT.sIx_none, HT.sIx_nat, List.drop_zero, Nat.sub_zero]
  by_cases h : b ≤ xs.length
  · rw [Nat.min_eq_left h]
  · rw [Nat.min_eq_right (by omega), List.take_length, List.take_of_length_le (by omega)]
theorem cutV_from (xs : List V) (a : Nat) : cutV xs (some (a : Int)) none = xs.drop a := by
  unfold cutV
  rw [HT.sIx_none, HT.sIx_nat]
  by_cases h : a ≤ xs.length
  · rw [Nat.min_eq_left h, List.take_of_length_le (by rw [List.length_drop]; omega)]
  · rw [Nat.min_eq_right (by omega), List.drop_length, List.take_nil, List.drop_of_length_le (by omega)]
theorem S_len (l : List Nat) : (S l).length = l.length := by show l.toArray.size = _; rw [List.size_toArray]
theorem S_inj {l m : List Nat} (h : S l = S m) : l = m := by
  have := congrArg (fun w : Str => w.cps.toList) h
  simpa using this
theorem S_list (l : List Nat) : (S l).cps.toList = l := by simp
theorem S_dec (l m : List Nat) : decide (V.str (S l) = V.str (S m)) = decide (l = m) := by
  by_cases h : l = m
  · rw [h, decide_eq_true rfl, decide_eq_true rfl]
  · rw [decide_eq_false h, decide_eq_false fun z => h (S_inj (V.str.inj z))]
/-- a value or None -/
def optI : Option Int → V
  | none => .non
  | some n => .int n
end Num
end

section
set_option Elab.async false
set_option linter.all false
set_option maxRecDepth 100000
set_option maxHeartbeats 2000000
namespace K83
open PySem PySem.Spec PyProof.Rows L2 Ov Evl Num
section
variable {P : Program} {w : World} {K : PySem.W.Frag} {mg : Str → Option Value} {bh : Heap}
def spNumberIn : Sp := fun vs H Q _ => ∃ (z : Str) (lo hi : Int), vs = [.str z, .int lo, .int hi] ∧ z.length ≤ 5000 ∧ RetV (optI (numberIn z lo hi)) H Q
theorem ok_number_in {f : Addr} {fd : FuncData} (F : Fun K "number_in" "number_in" s_number_in f fd) (T : Txt K mg) : FnOk P w K mg bh CX0 1 f fd ["word", "least", "most"] spNumberIn := by
  refine F.ok sc_number_in (fun vs H Q E h => ?_) (fun cdv A outer s H vs Q E hr h => ?_)
  · obtain ⟨z, lo, hi, rfl, _⟩ := h
    rfl
  · obtain ⟨z, lo, hi, rfl, hz, k⟩ := h
    obtain ⟨l, rfl⟩ : ∃ l, z = S l := ⟨_, (S_eta z).symm⟩
    refine ⟨_, (pss_cons (ps_set (i := 3) sc_number_in.nd rfl (Or.inl rfl) (pe_ifExp (pt_cmpR op_eq (pe_slice sl_str (pv 0) po_none (po_some pe_int)) (pe_gs T.c_NOTHING) (nomark _)) (pe_slice sl_str (pv 0) (po_some pe_int) po_none) (pv 0)))
  (pss_cons (ps_if (PW.pt (pw_or (pt_not (pt_chain op_le op_le pe_int (pe_callB call_len_str rfl T.f_len (by decide +kernel) (pa_cons (pv 3) pa_nil)) (pe_gi T.c_MOST_DIGITS))) (pw_or1 (pt_not (pt_val (pe_callB (cr_all rfl) rfl T.f_all (by decide +kernel) (pa_cons (pe_lc (own := [("digit", 5)]) (g := gName 5) (tt := tYes) (by rfl) sc_number_in.nd (pi_str (pv 3)) (blkOk_by (own := [("digit", 5)]) (N := ["word", "least", "most", "digits", "number", "digit"]) (sc := defScope s_number_in) (by decide +kernel)) (fun _ _ _ _ _ => pg_name (i := 5) sc_number_in.nd rfl (.inl rfl)) (fun _ _ _ _ _ => pts_nil) (fun _ _ _ _ _ => (pe_cmpR op_in_sign (pv 5) (pe_gs T.c_DIGITS) rfl))) pa_nil)))))))
   (pss_one (ps_ret pe_non))
   pss_nil)
  (pss_cons (ps_if (PW.pt (pw_and (pt_cmpR op_eq (pe_ix ix_str (pv 3) pe_int (fun _ _ => rfl)) pe_str (nomark _)) (pw_and1 (pt_cmpR op_ne (pv 0) pe_str (nomark _)))))
   (pss_one (ps_ret pe_non))
   pss_nil)
  (pss_cons (ps_set (i := 4) sc_number_in.nd rfl (Or.inl rfl) (pe_callTy call_int_str rfl T.f_int (by decide +kernel) (pa_cons (pv 0) pa_nil)))
  (pss_one (ps_ret (pe_ifExp (pt_chain op_le op_le (pv 1) (pv 4) (pv 2)) (pv 4) pe_non))))))), ?_⟩
    have hl : l.length ≤ 5000 := by rw [← S_len]; exact hz
    have hdl : (digs l).length ≤ 5000 := by
      unfold digs
      split
      · rw [List.length_drop]; omega
      · exact hl
    -- digits
    refine q_asg (v := .str (S (digs l))) (ev_if (b := decide (l.take 1 = [45])) (et_test (ev_is (ev_op (ev_slS (ev_var rfl) eo_none (eo_some ev_c) (by omega)) ev_c (rv_eq rfl)) ?_)) (fun hb => ev_is (ev_slS (ev_var rfl) (eo_some ev_c) eo_none (by omega)) ?_) (fun hb => ev_is (ev_var rfl) ?_)) fun H1 e1 => ?_
    · rw [show cutS (S l) none (some 1) = S ((S l).cps.toList.take 1) from cut_to _ 1, S_list]
      exact congrArg V.bl (S_dec _ [45])
    · rw [show cutS (S l) (some 1) none = S ((S l).cps.toList.drop 1) from cut_from _ 1, S_list]
      unfold digs
      rw [if_pos (of_decide_eq_true hb)]
    · unfold digs
      rw [if_neg (of_decide_eq_false hb)]
    -- the two looks
    refine q_when (b := !decide (1 ≤ (digs l).length ∧ (digs l).length ≤ 3) || !(digs l).all isD) (et_or (et_not (et_test (ev_is (ev_chain ev_c (ev_cb (ea_cons (ev_var rfl) ea_nil) (rc_lenS (by rw [S_len]; omega))) rv_I0 (fun _ => ev_c) (fun _ => rv_I0)) ?_)))
      (fun _ => et_not (et_B (ev_is (ev_all (bs := (digs l).map isD) (el_is (el_lcS (fun c => .bl (isD c)) (ev_var rfl) (by rw [S_len]; omega) (fun _ => rfl) (fun c H1 e => ev_op (ev_var rfl) ev_c rv_inSign)) ?_)) ?_)))) (fun hb H2 e2 => ?_) (fun hb H2 e2 => ?_)
    · rw [S_len]
      exact congrArg V.bl (by rw [← Bool.decide_and]; exact decide_eq_decide.mpr (by omega))

    · rw [S_list, List.map_map]
      rfl
    · rw [List.all_map]
      rfl
    · refine s_ret ev_c fun H3 e3 => ?_
      have e : numberIn (S l) lo hi = none := by
        unfold numberIn
        rw [S_list, if_neg]
        intro c
        unfold numOk at c
        simp only [Bool.and_eq_true, decide_eq_true_eq] at c
        rw [c.2.2.1] at hb
        simp [c.1, c.2.1] at hb
      rw [e] at k
      exact k H3 ((e1.trans e2).trans e3)
    · rw [Bool.or_eq_false_iff] at hb
      obtain ⟨hb1, hb2⟩ := hb
      have hb3 : 1 ≤ (digs l).length ∧ (digs l).length ≤ 3 := by simpa using hb1
      have hb4 : (digs l).all isD = true := by simpa using hb2
      obtain ⟨c0, r0, hc⟩ : ∃ c0 r0, digs l = c0 :: r0 := by
        match hd : digs l, hb3 with
        | c0 :: r0, _ => exact ⟨c0, r0, rfl⟩
      refine q_when (b := decide ((digs l).head? = some 48) && !decide (l = [48])) (et_and (et_test (ev_is (ev_op (ev_op (ev_var rfl) ev_c (rv_ixS (c := c0) (by rw [S_len]; omega) (by rw [S_list, hc]; exact atI_nat (show (c0 :: r0)[0]? = some c0 from rfl)))) ev_c (rv_eq rfl)) ?_)) (fun _ => et_test (ev_is (ev_op (ev_var rfl) ev_c (rv_ne rfl)) ?_))) (fun hb H3 e3 => ?_) (fun hb H3 e3 => ?_)
      · rw [hc]
        have : (decide (V.str (S [c0]) = V.str (S [48]))) = decide ([c0] = [48]) := S_dec _ _
        exact congrArg V.bl (this.trans (decide_eq_decide.mpr (by simp)))
      · have : (decide (V.str (S l) = V.str (S [48]))) = decide (l = [48]) := S_dec _ _
        exact congrArg (fun b => V.bl (!b)) this
      · refine s_ret ev_c fun H4 e4 => ?_
        have e : numberIn (S l) lo hi = none := by
          unfold numberIn
          rw [S_list, if_neg]
          intro c
          unfold numOk at c
          simp only [Bool.and_eq_true] at c
          rw [hb] at c
          exact absurd c.2.2.2 (by decide)
        rw [e] at k
        exact k H4 (((e1.trans e2).trans e3).trans e4)
      · have hok : numOk l = true := by
          unfold numOk
          simp only [Bool.and_eq_true, decide_eq_true_eq]
          exact ⟨hb3.1, hb3.2, hb4, by rw [hb]; rfl⟩
        obtain ⟨m, hm, ht, hr1, hr2⟩ := num_val hok
        have hl4 : l.length ≤ 4 := by
          have : (digs l).length = l.length ∨ (digs l).length = l.length - 1 := by unfold digs; split <;> simp
          omega
        refine q_asg (ev_cb (ea_cons (ev_var rfl) ea_nil) (rc_intS hm (by rw [S_len]; omega))) fun H4 e4 => ?_
        have e : numberIn (S l) lo hi = if lo ≤ m ∧ m ≤ hi then some m else none := by
          unfold numberIn
          rw [S_list, if_pos hok, hm]
          rfl
        rw [e] at k
        refine s_ret (v := optI (if lo ≤ m ∧ m ≤ hi then some m else none)) (ev_if (b := decide (lo ≤ m ∧ m ≤ hi)) (et_test (ev_is (ev_chain (ev_var rfl) (ev_var rfl) rv_I0 (fun _ => ev_var rfl) (fun _ => rv_I0)) ?_)) (fun hb => ev_is (ev_var rfl) ?_) (fun hb => ev_is ev_c ?_)) fun H5 e5 => k H5 ((((e1.trans e2).trans e3).trans e4).trans e5)
        · exact congrArg V.bl (by rw [← Bool.decide_and])
        · rw [if_pos (of_decide_eq_true hb)] <;> rfl
        · rw [if_neg (of_decide_eq_false hb)] <;> rfl
end
end K83
end

section
set_option Elab.async false
set_option linter.all false
set_option maxRecDepth 100000
set_option maxHeartbeats 2000000
namespace K83
open PySem PySem.Spec PyProof.Rows L2 Ov Evl Num TxM
abbrev Pt : Type := Int × Int × Int × Int
def fits (p w o l : Option Int) : Option Pt := match p, w, o, l with
  | some p, some w, some o, some l => if o + l ≤ 8 then some (p, w, o, l) else none
  | _, _, _, _ => none
def partIn (z : Str) : Option Pt := fits (numberIn (part1 58 z).1 0 119) (numberIn (part1 43 (part1 58 z).2.2).1 0 5)
  (numberIn (part1 42 (part1 43 (part1 58 z).2.2).2.2).1 0 7) (numberIn (part1 42 (part1 43 (part1 58 z).2.2).2.2).2.2 1 8)
def tupV (p : Pt) : List V := [.int p.1, .int p.2.1, .int p.2.2.1, .int p.2.2.2]
def RetT (xs : List V) (H : Hp) (Q : VK) : Prop := ∀ t H', H t = none → Ex H H' → H' t = some (.tup xs) → Q (.ref t) H'
def spPartIn : Sp := fun vs H Q _ => ∃ z : Str, vs = [.str z] ∧ z.length ≤ 5000 ∧ match partIn z with
  | none => RetV .non H Q
  | some p => RetT (tupV p) H Q
section
variable {P : Program} {w : World} {K : PySem.W.Frag} {mg : Str → Option Value} {bh : Heap}
theorem D_num (W : Wr K mg "number_in" s_number_in) (T : Txt K mg) : Dn P w K mg bh CX0 1 "number_in" ["word", "least", "most"] spNumberIn := Dn.mk' W b_number_in fun _ _ F => ok_number_in F T
theorem inV_opt {a b c d : Option Int} : inV .non [optI a, optI b, optI c, optI d] = (a.isNone || (b.isNone || (c.isNone || d.isNone))) := by
  cases a <;> cases b <;> cases c <;> cases d <;> rfl
theorem ok_part_in {f : Addr} {fd : FuncData} (F : Fun K "part_in" "part_in" s_part_in f fd) (T : Txt K mg) (D_number_in : Dn P w K mg bh CX0 1 "number_in" ["word", "least", "most"] spNumberIn) : FnOk P w K mg bh CX0 2 f fd ["text"] spPartIn := by
  refine F.ok sc_part_in (fun vs H Q E h => ?_) (fun cdv A outer s H vs Q E hr1 h => ?_)
  · obtain ⟨z, rfl, _⟩ := h
    rfl
  · obtain ⟨z, rfl, hz, k⟩ := h
    refine ⟨_, (pss_cons (ps_asg (pe_partition (pv 0) pe_str) (pg_tup rfl (pgs_cons (pg_name (i := 1) sc_part_in.nd rfl (.inl rfl)) (pgs_cons (pg_name (i := 2) sc_part_in.nd rfl (.inl rfl)) (pgs_cons (pg_name (i := 3) sc_part_in.nd rfl (.inl rfl)) pgs_nil)))))
  (pss_cons (ps_asg (pe_partition (pv 3) pe_str) (pg_tup rfl (pgs_cons (pg_name (i := 4) sc_part_in.nd rfl (.inl rfl)) (pgs_cons (pg_name (i := 5) sc_part_in.nd rfl (.inl rfl)) (pgs_cons (pg_name (i := 3) sc_part_in.nd rfl (.inl rfl)) pgs_nil)))))
  (pss_cons (ps_asg (pe_partition (pv 3) pe_str) (pg_tup rfl (pgs_cons (pg_name (i := 6) sc_part_in.nd rfl (.inl rfl)) (pgs_cons (pg_name (i := 7) sc_part_in.nd rfl (.inl rfl)) (pgs_cons (pg_name (i := 8) sc_part_in.nd rfl (.inl rfl)) pgs_nil)))))
  (pss_cons (ps_set (i := 9) sc_part_in.nd rfl (Or.inl rfl) (pe_tup (pa_cons (pe_d D_number_in hr1 pass0 (pa_cons (pv 1) (pa_cons pe_int (pa_cons (pe_op op_sub (pe_gi T.c_MOST_PARTS) pe_int) pa_nil)))) (pa_cons (pe_d D_number_in hr1 pass0 (pa_cons (pv 4) (pa_cons pe_int (pa_cons (pe_op op_sub (pe_gi T.c_MOST_WORDS) pe_int) pa_nil)))) pa_nil))))
  (pss_cons (ps_aug (i := 9) sc_part_in.nd rfl (Or.inl rfl) (pe_tup (pa_cons (pe_d D_number_in hr1 pass0 (pa_cons (pv 6) (pa_cons pe_int (pa_cons (pe_op op_sub (pe_gi T.c_MOST_WIDTH) pe_int) pa_nil)))) (pa_cons (pe_d D_number_in hr1 pass0 (pa_cons (pv 8) (pa_cons pe_int (pa_cons (pe_gi T.c_MOST_WIDTH) pa_nil)))) pa_nil))) ip_addT)
  (pss_cons (ps_if (PW.pt (pw_or (pt_cmpR op_in_seq pe_non (pv 9) rfl) (pw_or1 (pt_cmpR op_gt (pe_op op_add (pe_ix (ix_tup : IxR _ (rIxT K)) (pv 9) pe_int (fun _ _ => rfl)) (pe_ix (ix_tup : IxR _ (rIxT K)) (pv 9) pe_int (fun _ _ => rfl))) (pe_gi T.c_MOST_WIDTH) (nomark _)))))
   (pss_one (ps_ret pe_non))
   pss_nil)
  (pss_one (ps_ret (pv 9))))))))), ?_⟩
    have hp1 := partition_one (c := 58) (y := ":") (by decide +kernel) z
    obtain ⟨l1, l2⟩ := part1_len 58 z
    refine q_un3 (a := .str (part1 58 z).1) (b := .str (part1 58 z).2.1) (c := .str (part1 58 z).2.2) (by
      rw [← hp1]
      exact eu_partition (ev_var rfl) ev_c (by decide +kernel) (by omega)) fun H1 e1 => ?_
    unfold partIn at k
    generalize part1 58 z = q1 at k l1 l2
    have hp2 := partition_one (c := 43) (y := "+") (by decide +kernel) q1.2.2
    obtain ⟨l3, l4⟩ := part1_len 43 q1.2.2
    refine q_un3 (a := .str (part1 43 q1.2.2).1) (b := .str (part1 43 q1.2.2).2.1) (c := .str (part1 43 q1.2.2).2.2) (by
      rw [← hp2]
      exact eu_partition (ev_var rfl) ev_c (by decide +kernel) (by omega)) fun H2 e2 => ?_
    generalize part1 43 q1.2.2 = q2 at k l3 l4
    have hp3 := partition_one (c := 42) (y := "*") (by decide +kernel) q2.2.2
    obtain ⟨l5, l6⟩ := part1_len 42 q2.2.2
    refine q_un3 (a := .str (part1 42 q2.2.2).1) (b := .str (part1 42 q2.2.2).2.1) (c := .str (part1 42 q2.2.2).2.2) (by
      rw [← hp3]
      exact eu_partition (ev_var rfl) ev_c (by decide +kernel) (by omega)) fun H3 e3 => ?_
    generalize part1 42 q2.2.2 = q3 at k l5 l6
    have e03 := (e1.trans e2).trans e3
    refine q_asgU (eu_tup (ea_cons (ev_call' (z := optI (numberIn q1.1 0 119)) (ea_cons (ev_var rfl) (ea_cons ev_c (ea_cons (ev_op ev_c ev_c rv_I0) ea_nil))) fun H2 _ Q' q' => ⟨_, _, _, rfl, by omega, q'⟩)
      (ea_cons (ev_call' (z := optI (numberIn q2.1 0 5)) (ea_cons (ev_var rfl) (ea_cons ev_c (ea_cons (ev_op ev_c ev_c rv_I0) ea_nil))) fun H2 _ Q' q' => ⟨_, _, _, rfl, by omega, q'⟩) ea_nil)) (by show 2 ≤ 100000; decide)) fun t1 H4 ht1 e4 h4 => ?_
    refine q_augT (xs := [optI (numberIn q1.1 0 119), optI (numberIn q2.1 0 5)]) (ys := [optI (numberIn q3.1 0 7), optI (numberIn q3.2.2 1 8)]) rfl (st_of h4) (eu_tup (ea_cons (ev_call' (z := optI (numberIn q3.1 0 7)) (ea_cons (ev_var rfl) (ea_cons ev_c (ea_cons (ev_op ev_c ev_c rv_I0) ea_nil))) fun H2 _ Q' q' => ⟨_, _, _, rfl, by omega, q'⟩)
      (ea_cons (ev_call' (z := optI (numberIn q3.2.2 1 8)) (ea_cons (ev_var rfl) (ea_cons ev_c (ea_cons ev_c ea_nil))) fun H2 _ Q' q' => ⟨_, _, _, rfl, by omega, q'⟩) ea_nil)) (by show 2 ≤ 100000; decide)) (by simp) (by simp) (by show 2 + 2 ≤ 90000; decide) fun t H5 ht e5 h5 => ?_
    have h5' : H5 t = some (.tup [optI (numberIn q1.1 0 119), optI (numberIn q2.1 0 5), optI (numberIn q3.1 0 7), optI (numberIn q3.2.2 1 8)]) := h5
    have e05 := (e03.trans e4).trans e5
    have ht0 := fresh_back (e03.trans e4) ht
    generalize numberIn q1.1 0 119 = a at k h5'
    generalize numberIn q2.1 0 5 = b at k h5'
    generalize numberIn q3.1 0 7 = c at k h5'
    generalize numberIn q3.2.2 1 8 = d at k h5'
    have hin : RV (rIn K false) .non (.ref t) H5 (.bl (inV .non [optI a, optI b, optI c, optI d])) := rv_isT (st_of h5') rfl (by cases a <;> cases b <;> cases c <;> cases d <;> rfl)
    by_cases hn : (a.isNone || (b.isNone || (c.isNone || d.isNone))) = true
    · have hk : fits a b c d = none := by
        cases a <;> cases b <;> cases c <;> cases d <;> first | rfl | cases hn
      rw [hk] at k
      refine q_when (b := true) (et_is (et_or (a := true) (b := true) (et_test (ev_is (ev_op ev_c (ev_var rfl) hin) (by rw [inV_opt, hn]))) fun z => by cases z) rfl) (fun _ H6 e6 => ?_) (fun z => by cases z)
      exact s_ret ev_c fun H7 e7 => k H7 ((e05.trans e6).trans e7)
    · match a, b, c, d, hn, hk : fits a b c d with
      | some a, some b, some c, some d, _, hk =>
        have k : match (if c + d ≤ 8 then some (a, b, c, d) else none : Option Pt) with
          | none => RetV .non H Q
          | some p => RetT (tupV p) H Q := k
        have h5' : H5 t = some (.tup [.int a, .int b, .int c, .int d]) := h5'
        refine q_when (b := decide (8 < c + d)) (et_is (et_or (a := false) (b := decide (8 < c + d)) (et_test (ev_is (ev_op ev_c (ev_var rfl) hin) rfl)) fun _ => et_test (ev_is (ev_op (ev_op (ev_op (ev_var rfl) ev_c (rv_ixT (v := .int c) (st_of h5') (atI_nat (j := 2) rfl))) (ev_op (ev_var rfl) ev_c (rv_ixT (v := .int d) (st_of h5') (atI_nat (j := 3) rfl))) rv_I0) ev_c rv_I0) rfl)) rfl) (fun hb H6 e6 => ?_) (fun hb H6 e6 => ?_)
        · have hb2 : ¬ c + d ≤ 8 := by
            have := of_decide_eq_true hb
            omega
          rw [if_neg hb2] at k
          exact s_ret ev_c fun H7 e7 => k H7 ((e05.trans e6).trans e7)
        · have hb2 : c + d ≤ 8 := by
            have := of_decide_eq_false hb
            omega
          rw [if_pos hb2] at k
          exact s_ret (ev_var rfl) fun H7 e7 => k t H7 ht0 ((e05.trans e6).trans e7) (e7 _ _ (e6 _ _ h5'))
      | none, _, _, _, hn, _ => exact absurd rfl hn
      | some _, none, _, _, hn, _ => exact absurd rfl hn
      | some _, some _, none, _, hn, _ => exact absurd rfl hn
      | some _, some _, some _, none, hn, _ => exact absurd rfl hn
end
end K83
end

section
set_option Elab.async false
set_option linter.all false
set_option maxRecDepth 100000
set_option maxHeartbeats 2000000
namespace K83
open PySem PySem.Spec PyProof.Rows L2 Ov Evl
/-! ### the draws -/
theorem bits_le {i : Int} {n : Nat} (h0 : 0 ≤ i) (h : i < 2 ^ n) : Builtin.Int.intBits i ≤ n := by
  unfold Builtin.Int.intBits
  by_cases e : i = 0
  · rw [if_pos (by rw [e]; rfl)]
    exact Nat.zero_le _
  · rw [if_neg (by simpa using e)]
    have hn : i.natAbs ≠ 0 := by omega
    have h2 : i.natAbs < 2 ^ n := by
      have : ((i.natAbs : Nat) : Int) < ((2 ^ n : Nat) : Int) := by
        rw [Int.natAbs_of_nonneg h0]
        simpa using h
      exact Int.ofNat_lt.mp this
    exact (Nat.log2_lt hn).mpr h2
theorem powB {i j : Int} (h0 : 0 ≤ i) (h : i < 2 ^ 200) (hj0 : 0 ≤ j) (hj : j ≤ 100) : CPowB i j := by
  refine ⟨hj0, ?_⟩
  have hb := bits_le (n := 200) h0 h
  have h1 : (Builtin.Int.intBits i : Int) ≤ 200 := by omega
  have h2 : (Builtin.Int.intBits i : Int) * j ≤ 200 * 100 := Int.mul_le_mul h1 hj hj0 (by decide)
  exact Int.le_trans h2 (by decide)
theorem p18 : (10 : Int) ^ (18 : Int).toNat = 1000000000000000000 := by decide +kernel
theorem p38 : (10 : Int) ^ (38 : Int).toNat = 100000000000000000000000000000000000000 := by decide +kernel
theorem p39 : (10 : Int) ^ (39 : Int).toNat = 1000000000000000000000000000000000000000 := by decide +kernel
theorem p41 : (10 : Int) ^ (41 : Int).toNat = 100000000000000000000000000000000000000000 := by decide +kernel
section
variable {P : Program} {w : World} {K : PySem.W.Frag} {mg : Str → Option Value} {bh : Heap}
theorem ok_law_vat {f : Addr} {fd : FuncData} (F : Fun K "_law_vat" "_law_vat" s__law_vat f fd) (T : Txt K mg) : FnOk P w K mg bh CX0 1 f fd ["script", "k"] (spVat K) := by
  refine F.ok sc__law_vat (fun vs H Q E h => ?_) (fun cdv A outer s H vs Q E hr h => ?_)
  · obtain ⟨a, ns, k, rfl, _⟩ := h
    rfl
  · obtain ⟨a, ns, k, rfl, hS, hl, hk0, hk1, q⟩ := h
    refine ⟨_, (pss_cons (ps_set (i := 2) sc__law_vat.nd rfl (Or.inl rfl) (pe_ifExp (pt_cmpR op_lt (pv 1) (pe_callB call_len_seq rfl T.f_len (by decide +kernel) (pa_cons (pv 0) pa_nil)) (nomark _)) (pe_callB call_abs rfl T.f_abs (by decide +kernel) (pa_cons (pe_ix ix_list (pv 0) (pv 1) (fun _ _ => rfl)) pa_nil)) pe_int))
  (pss_one (ps_ret (pe_lst (pa_cons (pe_callB (call_max2 rfl) rfl T.f_max (by decide +kernel) (pa_cons pe_int (pa_cons (pe_op op_sub (pv 2) (pe_op op_powB pe_int pe_int)) pa_nil))) (pa_cons (pe_op op_add (pe_op op_mul (pe_op op_mod (pv 2) (pe_op op_add (pe_op op_powB pe_int pe_int) pe_int)) pe_int) (pv 1)) (pa_cons pe_int pa_nil))))))), ?_⟩
    obtain ⟨x, hx0, hx⟩ : ∃ x : Int, 0 ≤ x ∧ ∀ H1, Ex H H1 → Ev (tIf (tTest (tOp (rI0 fun i j => V.bl (decide (i < j))) (tVar 1) (tCB (rLenS K) (tCons (tVar 0) tNil))))
        (tCB (fun xs H Q => ∃ i, xs = [V.int i] ∧ Q (V.int (if i < 0 then -i else i)) H) (tCons (tOp (rIxL K) (tVar 0) (tVar 1)) tNil)) (tC (V.int 0))) (L2.start ["script", "k", "cell"] [V.ref a, V.int k]) H1 (.int x) := by
      by_cases hk : k < ns.length
      · obtain ⟨i, rfl⟩ : ∃ i : Nat, k = i := ⟨k.toNat, by omega⟩
        have hi : i < ns.length := by omega
        refine ⟨if ns[i] < 0 then -ns[i] else ns[i], by split <;> omega, fun H1 e => ?_⟩
        refine ev_if (b := true) (et_test (ev_is (ev_op (ev_var rfl) (ev_len (ev_var rfl) (ex_l e hS)) rv_I0) ?_)) (fun _ => ev_cb (ea_cons (ev_op (ev_var rfl) (ev_var rfl) (rv_ixL (v := .int ns[i]) (ex_l e hS) (atI_nat (by simp [hi])))) ea_nil) (fun H2 _ _ q => ⟨_, rfl, q H2 (Ex.refl H2)⟩)) (fun z => by cases z)
        rw [List.length_map, decide_eq_true hk]
      · refine ⟨0, Int.le_refl 0, fun H1 e => ?_⟩
        refine ev_if (b := false) (et_test (ev_is (ev_op (ev_var rfl) (ev_len (ev_var rfl) (ex_l e hS)) rv_I0) ?_)) (fun z => by cases z) (fun _ => ev_c)
        rw [List.length_map, decide_eq_false hk]
    refine q_asg (v := .int x) (hx H (Ex.refl H)) fun H1 e1 => ?_
    refine s_retL (el_lst (ea_cons (ev_cb (ea_cons ev_c (ea_cons (ev_op (ev_var rfl) (ev_op ev_c ev_c (rv_I (powB (by decide) (by decide) (by decide) (by decide)))) rv_I0) ea_nil)) (fun H2 _ _ q => ⟨_, _, rfl, q H2 (Ex.refl H2)⟩))
      (ea_cons (ev_op (ev_op (ev_op (ev_var rfl) (ev_op (ev_op ev_c ev_c (rv_I (powB (by decide) (by decide) (by decide) (by decide)))) ev_c rv_I0) (rv_I (by rw [p39]; decide))) ev_c (rv_I (.inr (by decide)))) (ev_var rfl) rv_I0) (ea_cons ev_c ea_nil))) (by show 3 ≤ 100000; decide)) fun p H2 hp e2 h2 => ?_
    refine q p H2 (e1.free hp) (e1.trans e2) ⟨_, _, _, h2, ?_, ?_, ?_, Int.le_refl 0, by decide⟩
    · split <;> omega
    · rw [p39]
      omega
    · rw [p39]
      have : x % (1000000000000000000000000000000000000000 + 3) < 1000000000000000000000000000000000000003 := Int.emod_lt_of_pos _ (by decide)
      have e10 : (10 : Int) ^ 43 = 10000000000000000000000000000000000000000000 := by decide +kernel
      rw [e10]
      omega
theorem ok_law_sip {f : Addr} {fd : FuncData} (F : Fun K "_law_sip" "_law_sip" s__law_sip f fd) (T : Txt K mg) : FnOk P w K mg bh CX0 1 f fd ["vat", "size"] spSip := by
  refine F.ok sc__law_sip (fun vs H Q E h => ?_) (fun cdv A outer s H vs Q E hr h => ?_)
  · obtain ⟨G, v, n, size, rfl, _⟩ := h
    rfl
  · obtain ⟨G, v, n, size, rfl, hw, h0, h1, q⟩ := h
    refine ⟨_, (pss_cons (ps_if (pt_cmpR op_gt (pe_ix ix_list (pv 0) pe_int (fun _ _ => rfl)) pe_int (nomark _))
   (pss_cons (ps_set (i := 2) sc__law_sip.nd rfl (Or.inl rfl) (pe_op op_mod (pe_ix ix_list (pv 0) pe_int (fun _ _ => rfl)) (pv 1)))
  (pss_cons (ps_asg (pe_op op_fdiv (pe_ix ix_list (pv 0) pe_int (fun _ _ => rfl)) (pv 1)) (pg_sub (pv 0) pe_int set_list))
  (pss_one (ps_ret (pv 2)))))
   pss_nil)
  (pss_cons (ps_asg (pe_op op_add (pe_ix ix_list (pv 0) pe_int (fun _ _ => rfl)) pe_int) (pg_sub (pv 0) pe_int set_list))
  (pss_cons (ps_set (i := 3) sc__law_sip.nd rfl (Or.inl rfl) (pe_op op_mod (pe_op op_powB (pe_op op_add (pe_ix ix_list (pv 0) pe_int (fun _ _ => rfl)) (pe_op op_mul pe_int (pe_ix ix_list (pv 0) pe_int (fun _ _ => rfl)))) pe_int) (pe_op op_add (pe_op op_powB pe_int pe_int) pe_int)))
  (pss_cons (ps_set (i := 3) sc__law_sip.nd rfl (Or.inl rfl) (pe_op op_mod (pe_op op_powB (pe_op op_add (pv 3) (pe_op op_mul pe_int (pe_ix ix_list (pv 0) pe_int (fun _ _ => rfl)))) pe_int) (pe_op op_add (pe_op op_powB pe_int pe_int) pe_int)))
  (pss_one (ps_ret (pe_op op_mod (pe_op op_fdiv (pv 3) pe_int) (pv 1)))))))), ?_⟩
    obtain ⟨d, m, c, hv, hd, hm0, hm1, hc0, hc1⟩ := hw.vat
    have e43 : (10 : Int) ^ 43 = 10000000000000000000000000000000000000000000 := by decide +kernel
    rw [e43] at hm1
    refine q_when (b := decide (0 < d)) (et_test (ev_op (ev_op (ev_var rfl) ev_c (rv_ixL (sq_of hv) rfl)) ev_c rv_I0)) (fun hb H1 e1 => ?_) (fun hb H1 e1 => ?_)
    · have hv1 := e1 _ _ hv
      refine q_asg (ev_op (ev_op (ev_var rfl) ev_c (rv_ixL (sq_of hv1) rfl)) (ev_var rfl) (rv_I h0)) fun H2 e2 => ?_
      have hv2 := e2 _ _ hv1
      refine q_setL hv2 (j := 0) (ev_op (ev_op (ev_var rfl) ev_c (rv_ixL (sq_of hv2) rfl)) (ev_var rfl) (rv_I ⟨h0, by omega⟩)) (ev_var rfl) ev_c (by show 0 < 3; decide) fun H3 e3 => ?_
      refine s_ret (ev_var rfl) fun H4 e4 => q (d % size) H4 (Int.emod_nonneg _ (by omega)) (Int.emod_lt_of_pos _ h0) ⟨hw.no, ?_, ?_⟩
      · exact (Evl.Ex.mut (hw.ex.trans ((e1.trans e2).trans e3)) hw.no).trans e4
      · exact ⟨d / size, m, c, e4 _ _ upd_same, Int.ediv_nonneg hd (by omega), hm0, by rw [e43]; exact hm1, hc0, by omega⟩
    · have hv1 := e1 _ _ hv
      refine q_setL hv1 (j := 2) (ev_op (ev_op (ev_var rfl) ev_c (rv_ixL (sq_of hv1) rfl)) ev_c rv_I0) (ev_var rfl) ev_c (by show 2 < 3; decide) fun H2 e2 => ?_
      have hv2 : (upd H2 v (.lst [.int d, .int m, .int (c + 1)])) v = some (.lst [.int d, .int m, .int (c + 1)]) := upd_same
      have ex2 : Ex G (upd H2 v (.lst [.int d, .int m, .int (c + 1)])) := Evl.Ex.mut (hw.ex.trans (e1.trans e2)) hw.no
      show tSeq _ _ _ _ (upd H2 v (.lst [.int d, .int m, .int (c + 1)]))
      generalize upd H2 v (.lst [.int d, .int m, .int (c + 1)]) = H3 at hv2 ex2
      have hA : (0 : Int) < (10 ^ (41 : Int).toNat + 37) := by rw [p41]; decide
      have hB : (0 : Int) < (10 ^ (38 : Int).toNat + 133) := by rw [p38]; decide
      refine q_asg (ev_op (ev_op (ev_op (ev_op (ev_var rfl) ev_c (rv_ixL (sq_of hv2) rfl)) (ev_op ev_c (ev_op (ev_var rfl) ev_c (rv_ixL (sq_of hv2) rfl)) (rv_I (.inl (by decide)))) rv_I0) ev_c (rv_I (powB (by omega) (by omega) (by decide) (by decide))))
        (ev_op (ev_op ev_c ev_c (rv_I (powB (by decide) (by decide) (by decide) (by decide)))) ev_c rv_I0) (rv_I hA)) fun H4 e4 => ?_
      have hv4 := e4 _ _ hv2
      generalize hx : (m + 49979693 * (c + 1)) ^ (3 : Int).toNat % (10 ^ (41 : Int).toNat + 37) = x
      have hx0 : 0 ≤ x := by rw [← hx]; exact Int.emod_nonneg _ (by omega)
      have hx1 : x < 10 ^ (41 : Int).toNat + 37 := by rw [← hx]; exact Int.emod_lt_of_pos _ hA
      rw [p41] at hx1
      refine q_asg (ev_op (ev_op (ev_op (ev_var rfl) (ev_op ev_c (ev_op (ev_var rfl) ev_c (rv_ixL (sq_of hv4) rfl)) (rv_I (.inl (by decide)))) rv_I0) ev_c (rv_I (powB (by omega) (by omega) (by decide) (by decide))))
        (ev_op (ev_op ev_c ev_c (rv_I (powB (by decide) (by decide) (by decide) (by decide)))) ev_c rv_I0) (rv_I hB)) fun H5 e5 => ?_
      refine s_ret (ev_op (ev_op (ev_var rfl) ev_c (rv_I ⟨by decide, by decide⟩)) (ev_var rfl) (rv_I h0)) fun H6 e6 => q _ H6 (Int.emod_nonneg _ (by omega)) (Int.emod_lt_of_pos _ h0) ⟨hw.no, ex2.trans ((e4.trans e5).trans e6), ?_⟩
      exact ⟨d, m, c + 1, e6 _ _ (e5 _ _ hv4), hd, hm0, by rw [e43]; exact hm1, by omega, by omega⟩
end
end K83
end

section
set_option Elab.async false
set_option linter.all false
set_option maxRecDepth 100000
set_option maxHeartbeats 2000000
namespace K83
open PySem PySem.Spec PyProof.Rows L2 Ov Evl Num TxM
section
variable {P : Program} {w : World} {K : PySem.W.Frag} {mg : Str → Option Value} {bh : Heap}
def ptI (p : Pt) : List Int := [p.1, p.2.1, p.2.2.1, p.2.2.2]
def ptD (p : Pt) : PyData := .tuple ((ptI p).map PyData.int)
def ptsD (ps : List Pt) : PyData := .list (ps.map ptD)
def back1 (w o l : Int) : Str := (toString w : Str) ++ "+" ++ (toString o : Str) ++ "*" ++ (toString l : Str)
def word4 (p : Pt) : Str := (toString p.1 : Str) ++ ":" ++ (toString p.2.1 : Str) ++ "+" ++ (toString p.2.2.1 : Str) ++ "*" ++ (toString p.2.2.2 : Str)
def codePt (ps : List Pt) : Str := Txt.join " " (ps.map word4)
def smallI (i : Int) : Prop := -1000 ≤ i ∧ i ≤ 1000
def okP (p : Pt) : Prop := smallI p.1 ∧ smallI p.2.1 ∧ smallI p.2.2.1 ∧ smallI p.2.2.2
def okPts (ps : List Pt) : Prop := ps.length ≤ 300 ∧ ∀ p ∈ ps, okP p
def spWrite (K : PySem.W.Frag) : Sp := fun vs H Q _ => ∃ (v : V) (ps : List Pt), vs = [v] ∧ Dp K H v (ptsD ps) ∧ okPts ps ∧ RetV (.str (codePt ps)) H Q
theorem small {i : Int} (h : smallI i) : i.natAbs < 1048576 ∧ i.natAbs.log2 < 1920 := by
  obtain ⟨h0, h1⟩ := h
  have h : i.natAbs < 2 ^ 1920 := Nat.lt_of_le_of_lt (show i.natAbs ≤ 1000 by omega) (by decide +kernel)
  refine ⟨by omega, ?_⟩
  by_cases e : i.natAbs = 0
  · rw [e]; decide
  · exact (Nat.log2_lt e).mpr h
theorem toString_len {i : Int} (h : smallI i) : (toString i : Str).length ≤ 5 := by
  obtain ⟨h0, h1⟩ := h
  have : ∀ j : Nat, j < 2001 → (toString ((j : Int) - 1000) : Str).length ≤ 5 := by decide +kernel
  have := this (i + 1000).toNat (by omega)
  have e : (((i + 1000).toNat : Nat) : Int) - 1000 = i := by omega
  rw [e] at this
  exact this
theorem tame_pt {p : Pt} (h : okP p) : Tame 1 84 (ptD p) := Tame.tup (ds := (ptI p).map PyData.int) (n := 0) (k := 20) fun d hd => by
  obtain ⟨i, hi, rfl⟩ := List.mem_map.mp hd
  have : smallI i := by
    unfold ptI at hi
    rcases List.mem_cons.mp hi with rfl | hi
    · exact h.1
    rcases List.mem_cons.mp hi with rfl | hi
    · exact h.2.1
    rcases List.mem_cons.mp hi with rfl | hi
    · exact h.2.2.1
    cases List.mem_singleton.mp hi
    exact h.2.2.2
  exact Tame.int (small this).1
theorem tame_pts {ps : List Pt} (h : okPts ps) : Tame 2 25500 (ptsD ps) := (Tame.list (ds := ps.map ptD) (n := 1) (k := 84) fun d hd => by
  obtain ⟨p, hp, rfl⟩ := List.mem_map.mp hd
  exact tame_pt (h.2 p hp)).mono (Nat.le_refl _) (by rw [List.length_map]; have := h.1; omega)
theorem word4_len {p : Pt} (h : okP p) : (word4 p).length ≤ 23 := by
  have h1 := toString_len h.1
  have h2 := toString_len h.2.1
  have h3 := toString_len h.2.2.1
  have h4 := toString_len h.2.2.2
  unfold word4
  rw [lenApp, lenApp, lenApp, lenApp, lenApp, lenApp]
  show _ + 1 + _ + 1 + _ + 1 + _ ≤ 23
  omega
theorem sum_le {ys : List Nat} {k : Nat} (h : ∀ y ∈ ys, y ≤ k) : ys.sum ≤ ys.length * k := by
  induction ys with
  | nil => exact Nat.zero_le _
  | cons y ys ih =>
    rw [List.sum_cons, List.length_cons, Nat.succ_mul]
    have := h y List.mem_cons_self
    have := ih fun z hz => h z (List.mem_cons_of_mem _ hz)
    omega
theorem codePt_sum {ps : List Pt} (h : okPts ps) : ((ps.map word4).map (·.length)).sum ≤ ps.length * 23 := by
  have := sum_le (ys := (ps.map word4).map (·.length)) (k := 23) fun y hy => by
    obtain ⟨z, hz, rfl⟩ := List.mem_map.mp hy
    obtain ⟨p, hp3, rfl⟩ := List.mem_map.mp hz
    exact word4_len (h.2 p hp3)
  simpa using this
theorem dp_at {ds : List PyData} {xs : List V} {H : Hp} (h : DpAll K H xs ds) {i : Nat} {d : PyData} (hd : ds[i]? = some d) : ∃ x, xs[i]? = some x ∧ Dp K H x d := (dpAll_at h).2 i d hd
/-- [f a b c d for a, b, c, d in xs] -/
theorem el_lc4 {σ : L2.St} {H : Hp} {te : TE} {a : Addr} {xs : List V} {tl : TE} {j1 j2 j3 j4 : Nat} {vs : List Nat} (f : Nat → V) (q1 q2 q3 q4 : Nat → V) (h : Ev tl σ H (.ref a)) (hx : SqL K H a xs) (hz : xs.length ≤ 40000)
    (hi : ∀ i, i < xs.length → ∃ t, xs[i]? = some (.ref t) ∧ SqT K H t [q1 i, q2 i, q3 i, q4 i]) (hw : ∀ x y z u, wipe (((((wipe σ vs).set j1 (some x)).set j2 (some y)).set j3 (some z)).set j4 (some u)) vs = wipe σ vs)
    (he : ∀ i H1, Ex H H1 → i < xs.length → Ev te (((((wipe σ vs).set j1 (some (q1 i))).set j2 (some (q2 i))).set j3 (some (q3 i))).set j4 (some (q4 i))) H1 (f i)) :
    EvL (tLc (iList K tl) (gTup K 4 (gCons (gName j1) (gCons (gName j2) (gCons (gName j3) (gCons (gName j4) gNil))))) tYes te vs) σ H ((List.range xs.length).map f) := fun H0 e Q q => h H0 e _ fun H1 e1 => ⟨a, rfl, ⟨xs, ex_l (e.trans e1) hx⟩,
  lcG (walk_list (K := K) (a := a) (xs := xs)) (fun H' e' => ex_l ((e.trans e1).trans e') hx) (fun i => (List.range i).map f) rfl (fun i hi => by rw [List.length_map, List.length_range]; omega) (fun i x H2 H3 hi2 e2 hy => by
    obtain ⟨rfl, hxi⟩ := hy
    obtain ⟨t, ht, hs⟩ := hi i hi2
    rw [ht] at hxi
    cases hxi
    refine ⟨Evl.Ex.refl _, _, fun R r => ⟨t, _, rfl, ex_t ((e.trans e1).trans e2) hs, rfl, _, _, rfl, _, _, rfl, _, _, rfl, _, _, rfl, rfl, r H3 (Evl.Ex.refl _)⟩, hw _ _ _ _, .inl ⟨fun H4 _ _ q => q H4 (Evl.Ex.refl _), f i, he i H3 ((e.trans e1).trans e2) hi2, by rw [List.range_succ, List.map_append] <;> rfl⟩⟩)
    (fun p H2 hp e2 h2 => q p H2 (e1.free hp) (e1.trans e2) h2)⟩
theorem ok_write_parts {f : Addr} {fd : FuncData} (F : Fun K "write_parts" "write_parts" s_write_parts f fd) (T : Txt K mg) : FnOk P w K mg bh CX0 1 f fd ["parts"] (spWrite K) := by
  refine F.ok sc_write_parts (fun vs H Q E h => ?_) (fun cdv A outer s H vs Q E hr h => ?_)
  · obtain ⟨v, ps, rfl, _⟩ := h
    rfl
  · obtain ⟨v, ps, rfl, hd, hok, k⟩ := h
    refine ⟨_, (pss_one (ps_ret (pe_join pe_str (pe_lc (own := [("place", 1), ("word", 2), ("offset", 3), ("length", 4)]) (g := gTup K 4 (gCons (gName 1) (gCons (gName 2) (gCons (gName 3) (gCons (gName 4) gNil))))) (tt := tYes) (by rfl) sc_write_parts.nd (pi_list (pv 0)) (blkOk_by (own := [("place", 1), ("word", 2), ("offset", 3), ("length", 4)]) (N := ["parts", "place", "word", "offset", "length"]) (sc := defScope s_write_parts) (by decide +kernel)) (fun _ _ _ _ _ => pg_tup rfl (pgs_cons (pg_name (i := 1) sc_write_parts.nd rfl (.inl rfl)) (pgs_cons (pg_name (i := 2) sc_write_parts.nd rfl (.inl rfl)) (pgs_cons (pg_name (i := 3) sc_write_parts.nd rfl (.inl rfl)) (pgs_cons (pg_name (i := 4) sc_write_parts.nd rfl (.inl rfl)) pgs_nil))))) (fun _ _ _ _ _ => pts_nil) (fun _ _ _ _ _ => (pe_joined (PJ.cons (pe_fmt (pv 1)) (PJ.cons pe_str (PJ.cons (pe_fmt (pv 2)) (PJ.cons pe_str (PJ.cons (pe_fmt (pv 3)) (PJ.cons pe_str (PJ.cons (pe_fmt (pv 4)) PJ.nil))))))))))))), ?_⟩
    obtain ⟨a, xs, rfl, hs, hp⟩ := dp_list hd
    have hl : xs.length = ps.length := by rw [(dpAll_at hp).1, List.length_map]
    have hn : ps.length ≤ 300 := hok.1
    let g : Nat → Pt := fun i => ps.getD i (0, 0, 0, 0)
    have hg : ∀ i, (hi : i < ps.length) → g i = ps[i] := fun i hi => by show ps.getD i _ = _; rw [List.getD_eq_getElem?_getD, List.getElem?_eq_getElem hi] <;> rfl
    have hm : (List.range xs.length).map (fun i => V.str (word4 (g i))) = (ps.map word4).map V.str := by
      refine List.ext_getElem (by simp [hl]) fun i h1 h2 => ?_
      simp only [List.getElem_map, List.getElem_range]
      rw [hg i (by simpa using h2)]
    have hsum := codePt_sum hok
    refine s_ret (ev_join (ys := ps.map word4) ev_c (hm ▸ el_lc4 (fun i => V.str (word4 (g i))) (fun i => .int (g i).1) (fun i => .int (g i).2.1) (fun i => .int (g i).2.2.1) (fun i => .int (g i).2.2.2) (ev_var rfl) hs (by omega) (fun i hi => ?_) (fun x y z u => rfl) (fun i H1 e1 hi => ?_)) ?_) fun H3 e3 => k H3 e3
    · have h2 : i < ps.length := by omega
      obtain ⟨x, hx, hdx⟩ := dp_at hp (i := i) (d := ptD ps[i]) (by rw [List.getElem?_map, List.getElem?_eq_getElem h2] <;> rfl)
      obtain ⟨t, rfl, ht⟩ := dp_tupI (ns := ptI ps[i]) hdx
      exact ⟨t, hx, by rw [hg i h2]; exact ht⟩
    · have h2 : i < ps.length := by omega
      have hp2 := hok.2 _ (List.getElem_mem h2)
      rw [hg i h2]
      have l1 := toString_len hp2.1
      have l2 := toString_len hp2.2.1
      have l3 := toString_len hp2.2.2.1
      have l4 := toString_len hp2.2.2.2
      have hj : word4 ps[i] = [(toString (ps[i]).1 : Str), ":", (toString (ps[i]).2.1 : Str), "+", (toString (ps[i]).2.2.1 : Str), "*", (toString (ps[i]).2.2.2 : Str)].foldl (· ++ ·) Str.empty := by
        show _ = ((((((Str.empty ++ _) ++ _) ++ _) ++ _) ++ _) ++ _) ++ _
        rw [show ∀ x : Str, Str.empty ++ x = x from fun x => congrArg Str.mk (Array.empty_append ..)] <;> rfl
      rw [hj]
      refine ev_js (.cons (ev_fmtI (ev_var rfl) (small hp2.1).2) (.cons ev_c (.cons (ev_fmtI (ev_var rfl) (small hp2.2.1).2) (.cons ev_c (.cons (ev_fmtI (ev_var rfl) (small hp2.2.2.1).2) (.cons ev_c (.cons (ev_fmtI (ev_var rfl) (small hp2.2.2.2).2) .nil))))))) ?_
      show (toString (ps[i]).1 : Str).length + (1 + ((toString (ps[i]).2.1 : Str).length + (1 + ((toString (ps[i]).2.2.1 : Str).length + (1 + ((toString (ps[i]).2.2.2 : Str).length + 0)))))) ≤ _
      omega
    · rw [List.length_map, show (" " : Str).length = 1 from rfl]
      omega
end
end K83
end

section
set_option Elab.async false
set_option linter.all false
set_option maxRecDepth 100000
set_option maxHeartbeats 2000000
namespace K83
open PySem PySem.Spec PyProof.Rows L2 Ov Evl Num TxM
/-! ### what a code is the code of -/
def late (last : Option Int) (p : Pt) : Bool := match last with
  | none => false
  | some l => decide (p.1 ≤ l)
def readW : Nat → Option Int → List Str → Except Nat (List Pt)
  | _, _, [] => .ok []
  | n, last, z :: zs => match partIn z with
    | none => .error n
    | some p => if (decide (n = 120) || late last p) = true then .error n else match readW (n + 1) (some p.1) zs with
      | .ok ps => .ok (p :: ps)
      | .error m => .error m
theorem readW_cons (n : Nat) (last : Option Int) (z : Str) (zs : List Str) : readW n last (z :: zs) = match partIn z with
    | none => .error n
    | some p => if (decide (n = 120) || late last p) = true then .error n else match readW (n + 1) (some p.1) zs with
      | .ok ps => .ok (p :: ps)
      | .error m => .error m := rfl
def readPt (z : Str) : Except Nat (List Pt) := readW 0 none (wds z)
def inR (p : Pt) : Prop := 0 ≤ p.1 ∧ p.1 ≤ 119 ∧ 0 ≤ p.2.1 ∧ p.2.1 ≤ 5 ∧ 0 ≤ p.2.2.1 ∧ p.2.2.1 ≤ 7 ∧ 1 ≤ p.2.2.2 ∧ p.2.2.2 ≤ 8 ∧ p.2.2.1 + p.2.2.2 ≤ 8
theorem fits_some {a b c d : Option Int} {p : Pt} (h : fits a b c d = some p) : a = some p.1 ∧ b = some p.2.1 ∧ c = some p.2.2.1 ∧ d = some p.2.2.2 ∧ p.2.2.1 + p.2.2.2 ≤ 8 := by
  unfold fits at h
  split at h
  · split at h
    · cases h
      exact ⟨rfl, rfl, rfl, rfl, by assumption⟩
    · cases h
  · cases h
theorem part_inR {z : Str} {p : Pt} (h : partIn z = some p) : inR p := by
  obtain ⟨h1, h2, h3, h4, h5⟩ := fits_some h
  have := (numberIn_text h1).2
  have := (numberIn_text h2).2
  have := (numberIn_text h3).2
  have := (numberIn_text h4).2
  unfold inR
  omega
theorem inR_ok {p : Pt} (h : inR p) : okP p := by
  obtain ⟨h1, h2, h3, h4, h5, h6, h7, h8, h9⟩ := h
  exact ⟨⟨by omega, by omega⟩, ⟨by omega, by omega⟩, ⟨by omega, by omega⟩, ⟨by omega, by omega⟩⟩
theorem unsnoc {K : PySem.W.Frag} {H : Hp} {d : PyData} : ∀ {ds : List PyData} {xs : List V}, DpAll K H xs (ds ++ [d]) → ∃ xs' x, xs = xs' ++ [x] ∧ Dp K H x d
  | [], _, h => by
    cases h with
    | cons h1 h2 =>
      cases h2
      exact ⟨[], _, rfl, h1⟩
  | e :: ds, _, h => by
    cases h with
    | cons h1 h2 =>
      obtain ⟨xs', x, rfl, hx⟩ := unsnoc (ds := ds) h2
      exact ⟨_ :: xs', x, rfl, hx⟩
/-- the parts read so far, and the last place -/
def Lasts (last : Option Int) (ps : List Pt) : Prop := match last with
  | none => ps = []
  | some l => ∃ ps' pl, ps = ps' ++ [pl] ∧ pl.1 = l
theorem hide_sub {H : Hp} {p : Addr} : Ex (hideV H p) H := fun b o hb => by
  unfold hideV at hb
  split at hb
  · cases hb
  · exact hb
abbrev s_init : Stmt := inClass (top 12) 0
theorem sc_init : FnScope ["self", "at"] ["self", "at"] (defScope s_init) := ⟨rfl, rfl, rfl, by decide +kernel, rfl, by decide +kernel, by decide +kernel⟩
section
variable {P : Program} {w : World} {K : PySem.W.Frag} {mg : Str → Option Value} {bh : Heap}
/-- found != [] and x <= found[-1][0] -/
theorem et_late {σ : L2.St} {H : Hp} {i : Nat} {tx : TE} {p : Addr} {xs : List V} {ps : List Pt} {last : Option Int} {pt : Pt} (hv : σ[i]? = some (some (.ref p))) (hp : H p = some (.lst xs)) (hd : DpAll K (hideV H p) xs (ps.map ptD)) (hok : okPts ps) (hl : Lasts last ps) (hx : Ev tx σ H (.int pt.1)) :
    EvT (tAnd (tTest (tOp (rNeD K) (tVar i) (tLst tNil))) (tTest (tOp (rI0 fun i j => V.bl (decide (i ≤ j))) tx (tOp (rIxT K) (tOp (rIxL K) (tVar i) (tUn (rU fun i => .int (-i)) (tC (.int 1)))) (tC (.int 0)))))) σ H (late last pt) := by
  have hd' := DpAll.ex hide_sub _ hd
  have t0 : Tame 2 25500 (.list []) := (Tame.list (ds := []) (n := 1) (k := 0) fun d z => by cases z).mono (Nat.le_refl _) (by decide)
  have hne : EvT (tTest (tOp (rNeD K) (tVar i) (tLst tNil))) σ H (!PyData.eqv (ptsD ps) (.list [])) := et_test (ev_opL (ev_var hv) (el_lst ea_nil (Nat.zero_le _)) fun q H1 h1 e1 => rv_neD (Dp.ex e1 _ (dp_lst hp hd')) (dp_lst h1 .nil) (tame_pts hok) t0 (by decide))
  cases last with
  | none =>
    have : ps = [] := hl
    subst this
    exact et_is (et_and (a := false) (b := false) hne fun z => by cases z) rfl
  | some l =>
    obtain ⟨ps', pl, rfl, hpl⟩ := hl
    have e1 : (!PyData.eqv (ptsD (ps' ++ [pl])) (.list [])) = true := by cases ps' <;> rfl
    rw [e1] at hne
    rw [List.map_append] at hd'
    obtain ⟨xs', x, rfl, hxd⟩ := unsnoc hd'
    obtain ⟨t, rfl, ht⟩ := dp_tupI (ns := ptI pl) hxd
    refine et_is (et_and (a := true) (b := decide (pt.1 ≤ l)) hne fun _ => et_test (ev_op hx (ev_op (ev_op (ev_var hv) (ev_un ev_c ru_neg) (rv_ixL (v := .ref t) (sq_of hp) (atI_last xs' _))) ev_c (rv_ixT (v := .int l) ht (by rw [← hpl]; exact atI_nat (j := 0) rfl))) rv_I0)) rfl
theorem ok_init {f Ca : Addr} {fd : FuncData} (F : Fun K "__init__" "InvalidCode.__init__" s_init f fd) (B : BaseI K mg "StampError") (TC : OexC K Ca) (hno : PySem.W.findIn K (.ref Ca) "at" = some none) : FnOk P w K mg bh CX0 1 f fd ["self", "at"] (spAt K Ca "at") := by
  refine F.ok sc_init (fun vs H Q E h => ?_) (fun cdv A outer s H vs Q E hr h => ?_)
  · obtain ⟨a, v, rfl, _⟩ := h
    rfl
  · obtain ⟨a, v, rfl, ha, q⟩ := h
    refine ⟨_, (pss_cons (ps_expr (pe_binit B (pa_cons (pv 0) (pa_cons pe_str pa_nil)))) (pss_one (ps_ost (pv 0) (pv 1)))), ?_⟩
    refine ⟨_, rfl, a, Ca, _, rfl, (by show 1 ≤ 1000; decide), TC, ha, ?_⟩
    refine ⟨v, rfl, .ref a, rfl, a, Ca, rfl, TC, hno, .inl ⟨ha, fun dx hdx hne => ?_⟩⟩
    refine q dx _ hdx hne upd_same (by rw [upd_ne hne]; exact upd_same) fun b o hb hbo => ?_
    rw [upd_ne hb, upd_ne (ne_of_none hbo hdx)]
    exact hbo
def spRead (K : PySem.W.Frag) (Ca : Addr) : Sp := fun vs H Q E => ∃ z : Str, vs = [.str z] ∧ z.length ≤ 5000 ∧ match readPt z with
  | .ok ps => ∀ t xs H', H t = none → Ex H H' → H' t = some (.lst xs) → DpAll K H' xs (ps.map ptD) → Q (.ref t) H'
  | .error n => ∀ dd H', Ex H H' → H dd = none → H' dd = some (.xd [("at", .int (n : Int))]) → E (.ref Ca) (some dd) H'
/-- what stands in the midst of a reading -/
def Mid (K : PySem.W.Frag) (G : Hp) (p : Addr) (z : Str) (i : Nat) (H' : Hp) : Prop := i ≤ 120 ∧ Ex G H' ∧ ∃ xs ps last, H' p = some (.lst xs) ∧ DpAll K (hideV H' p) xs (ps.map ptD) ∧ ps.length = i ∧ (∀ u ∈ ps, inR u) ∧ Lasts last ps ∧
  readW 0 none (wds z) = match readW i last ((wds z).drop i) with
    | .ok qs => .ok (ps ++ qs)
    | .error m => .error m
theorem turn' {G H4 H7 : Hp} {p t : Addr} {z : Str} {i : Nat} {xs : List V} {ps : List Pt} {last : Option Int} {pr : Pt} (hil : i < (wds z).length) (hG : G p = none) (hx : Ex G H7) (e : Ex H4 H7) (hd : DpAll K (hideV H4 p) xs (ps.map ptD)) (hl : ps.length = i) (hin : ∀ u ∈ ps, inR u)
    (hs : partIn (wds z)[i] = some pr) (hb : (decide (i = 120) || late last pr) = false) (hi : i ≤ 120) (ht : t ≠ p) (h7 : H7 t = some (.tup (tupV pr)))
    (hr : readW 0 none (wds z) = match readW i last ((wds z).drop i) with
      | .ok qs => .ok (ps ++ qs)
      | .error m => .error m) : i + 1 ≤ 120 ∧ Ex G (upd H7 p (.lst (xs ++ [.ref t]))) ∧ ∃ xs' ps', upd H7 p (.lst (xs ++ [.ref t])) p = some (.lst xs') ∧ DpAll K (hideV (upd H7 p (.lst (xs ++ [.ref t]))) p) xs' (ps'.map ptD) ∧ ps'.length = i + 1 ∧ (∀ u ∈ ps', inR u) ∧ Lasts (some pr.1) ps' ∧
    readW 0 none (wds z) = match readW (i + 1) (some pr.1) ((wds z).drop (i + 1)) with
      | .ok qs => .ok (ps' ++ qs)
      | .error m => .error m := by
  have h120 : i ≠ 120 := fun k => by
    rw [decide_eq_true k] at hb
    cases hb
  refine ⟨by omega, Evl.Ex.mut hx hG, xs ++ [.ref t], ps ++ [pr], upd_same, ?_, by simp [hl], fun u hu => ?_, ⟨ps, pr, rfl, rfl⟩, ?_⟩
  · rw [List.map_append]
    refine DpAll.snoc (DpAll.ex (fun b o hb => ?_) _ hd) (.tup (SqT.of (xs := tupV pr) ?_) (dpAll_of (ns := ptI pr)))
    · unfold hideV at hb ⊢
      split at hb
      · cases hb
      · rename_i hne
        rw [if_neg hne, upd_ne hne]
        exact e _ _ hb
    · rw [hide_ne ht, upd_ne ht]
      exact h7
  · rcases List.mem_append.mp hu with hu | hu
    · exact hin u hu
    · cases List.mem_singleton.mp hu
      exact part_inR hs
  · rw [List.drop_eq_getElem_cons hil, readW_cons, hs] at hr
    dsimp only at hr
    rw [hb, if_neg (by decide)] at hr
    rw [hr]
    cases readW (i + 1) (some pr.1) ((wds z).drop (i + 1)) with
    | ok qs => simp
    | error m => rfl
theorem Mid.turn {G H4 H7 : Hp} {p t : Addr} {z : Str} {i : Nat} {xs : List V} {ps : List Pt} {last : Option Int} {pr : Pt} (hil : i < (wds z).length) (hG : G p = none) (hx : Ex G H7) (e : Ex H4 H7) (hd : DpAll K (hideV H4 p) xs (ps.map ptD)) (hl : ps.length = i) (hin : ∀ u ∈ ps, inR u)
    (hs : partIn (wds z)[i] = some pr) (hb : (decide (i = 120) || late last pr) = false) (hi : i ≤ 120) (ht : t ≠ p) (h7 : H7 t = some (.tup (tupV pr)))
    (hr : readW 0 none (wds z) = match readW i last ((wds z).drop i) with
      | .ok qs => .ok (ps ++ qs)
      | .error m => .error m) : Mid K G p z (i + 1) (upd H7 p (.lst (xs ++ [.ref t]))) := by
  obtain ⟨a, b, xs', ps', c⟩ := turn' (H4 := H4) hil hG hx e hd hl hin hs hb hi ht h7 hr
  exact ⟨a, b, xs', ps', some pr.1, c⟩
theorem ok_read_parts {f fI Ca : Addr} {fd fdI : FuncData} (F : Fun K "read_parts" "read_parts" s_read_parts f fd) (T : Txt K mg) (D_part_in : Dn P w K mg bh CX0 2 "part_in" ["text"] spPartIn)
    (terr : ErrI K "InvalidCode" Ca fI) (FI : FnOk P w K mg bh CX0 1 fI fdI ["self", "at"] (spAt K Ca "at")) (bI : Binds K fdI ["self", "at"] []) (kI : mg "InvalidCode" = some (.ref Ca)) :
    FnOk P w K mg bh (L2N.CX P w) 3 f fd ["code"] (spRead K Ca) := by
  refine okC F sc_read_parts (fun vs H Q E h => ?_) (fun cdv A outer s H vs Q E hr1 h => ?_)
  · obtain ⟨z, rfl, _⟩ := h
    rfl
  · obtain ⟨z, rfl, hz, q⟩ := h
    have hr := hr1
    refine ⟨_, (pss_cons (ps_set (i := 1) sc_read_parts.nd rfl (Or.inl rfl) (pe_lst pa_nil))
  (pss_cons (ps_for (passes_of rfl) rfl (pi_enum rfl T.f_enumerate (pa_cons (pe_split (pv 0) pe_str) pa_nil)) (pg_tup rfl (pgs_cons (pg_name (i := 2) sc_read_parts.nd rfl (.inl rfl)) (pgs_cons (pg_name (i := 3) sc_read_parts.nd rfl (.inl rfl)) pgs_nil)))
   (pss_cons (ps_set (i := 4) sc_read_parts.nd rfl (Or.inl rfl) (pe_d D_part_in hr1 pass0 (pa_cons (pv 3) pa_nil)))
  (pss_cons (ps_if (PW.pt (pw_or (pt_cmpR op_isN (pv 4) pe_non (nomark _)) (pw_or (pt_cmpR op_eq (pv 2) (pe_gi T.c_MOST_PARTS) (nomark _)) (pw_or1 (PW.pt (pw_and (pt_cmpR (op_neD hr.units) (pv 1) (pe_lst pa_nil) (nomark _)) (pw_and1 (pt_cmpR op_le (pe_ix (ix_tup : IxR _ (rIxT K)) (pv 4) pe_int (fun _ _ => rfl)) (pe_ix (ix_tup : IxR _ (rIxT K)) (pe_ix ix_list (pv 1) (pe_un un_neg pe_int) (fun _ _ => rfl)) pe_int (fun _ _ => rfl)) (nomark _)))))))))
   (pss_one (L2N.ps_raise rfl (L2N.takes_of rfl rfl rfl rfl) (pmk_err terr FI hr1 bI pass0 kI (pa_cons (pv 2) pa_nil))))
   pss_nil)
  (pss_one (ps_expr (pe_bm PySem.F.plainAttrs_list PySem.F.slot_list_append PySem.F.type_list_append mt_append (pv 1) (pa_cons (pv 4) pa_nil)))))))
  (pss_one (ps_ret (pv 1))))), ?_⟩
    have hlw := wds_len z
    unfold readPt at q
    refine q_asgL (el_lst ea_nil (Nat.zero_le _)) fun p H1 hp e1 h1 => ?_
    refine q_forEnL (xs := (wds z).map V.str) (by rw [← split_wds]; exact el_split (ev_var rfl) ev_c (by decide +kernel) (by omega)) fun a H2 ha0 e2 ha => ?_
    have hap : a ≠ p := fun k => by
      rw [k, h1] at ha0
      cases ha0
    have ha00 : H a = none := fresh_back e1 ha0
    have eG : Ex H (upd H a (.lst ((wds z).map V.str))) := Evl.Ex.new ha00
    have hGp : upd H a (.lst ((wds z).map V.str)) p = none := by rw [upd_ne (fun k => hap k.symm)]; exact hp
    have hGa : upd H a (.lst ((wds z).map V.str)) a = some (.lst ((wds z).map V.str)) := upd_same
    have eG2 : Ex (upd H a (.lst ((wds z).map V.str))) H2 := fun b o hb => by
      by_cases hba : b = a
      · subst hba
        rw [upd_same] at hb
        cases hb
        exact ha
      · rw [upd_ne hba] at hb
        exact (e1.trans e2) _ _ hb
    generalize upd H a (.lst ((wds z).map V.str)) = G at eG hGp hGa eG2
    refine q_forEn (a := a) (xs := (wds z).map V.str) (ea_cons ev_c ea_nil) (sq_of ha) (fun i σ' H' => (∃ x2 x3 x4, σ' = [some (.str z), some (.ref p), x2, x3, x4]) ∧ Mid K G p z i H') (fun H4 e4 => ⟨⟨_, _, _, rfl⟩, Nat.zero_le _, eG2.trans e4, [], [], none, e4 _ _ (e2 _ _ h1), .nil, rfl, (fun u hu => by cases hu), rfl, ?_⟩)
      (fun i σ' H' _ hP => sq_of (hP.2.2.1 _ _ hGa)) (fun i x σ' H' hi hP H4 e4 => ?_) (fun σ' H' hP => ?_)
    · rw [List.drop_zero]
      cases readW 0 none (wds z) <;> rfl
    · obtain ⟨⟨x2, x3, x4, rfl⟩, hi2, hxG, xs, ps, last, hpx, hdp, hl, hin, hla, hrd⟩ := hP
      have hx := eG.trans hxG
      obtain ⟨hil, hxi⟩ := List.getElem?_eq_some_iff.mp hi
      rw [List.length_map] at hil
      obtain rfl : x = .str (wds z)[i] := by rw [← hxi, List.getElem_map]
      have hwl : ((wds z)[i]).length ≤ 5000 := Nat.le_trans (wds_mem (List.getElem_mem hil)) hz
      have hrd0 := hrd
      rw [List.drop_eq_getElem_cons hil, readW_cons] at hrd
      have hpx4 := e4 _ _ hpx
      have hxl : xs.length = i := by rw [(dpAll_at hdp).1, List.length_map, hl]
      have hoks : okPts ps := ⟨by omega, fun u hu => inR_ok (hin u hu)⟩
      have hd4 : DpAll K (hideV H4 p) xs (ps.map ptD) := DpAll.ex (fun b o hb => by
        unfold hideV at hb ⊢
        split at hb
        · cases hb
        · rename_i hne
          rw [if_neg hne]
          exact e4 _ _ hb) _ hdp
      cases hs : partIn (wds z)[i] with
      | none =>
        rw [hs] at hrd
        refine q_asg (v := .non) (ev_call' (z := .non) (ea_cons (ev_var rfl) ea_nil) fun H5 _ Q' q' => ⟨_, rfl, hwl, by rw [hs]; exact q'⟩) fun H5 e5 => ?_
        refine q_when (b := true) (et_is (et_or (a := true) (b := true) (et_test (ev_is (ev_op (ev_var rfl) ev_c rv_isN) rfl)) fun z => by cases z) rfl) (fun _ H6 e6 => ?_) (fun z => by cases z)
        rw [hrd] at q
        exact mk_at (ea_cons (ev_var rfl) ea_nil) fun dd H7 e7 hdd h7 => q dd H7 ((((hx.trans e4).trans e5).trans e6).trans e7) (fresh_back (((hx.trans e4).trans e5).trans e6) hdd) h7
      | some pr =>
        have hcall : EvU (tCall (spPartIn) [] E0 (tCons (tVar 3) tNil)) [some (.str z), some (.ref p), some (.int (i : Int)), some (.str (wds z)[i]), x4] H4 (tupV pr) := fun H5 e5 Q' q' => by
          refine ⟨_, rfl, _, rfl, hwl, ?_⟩
          rw [hs]
          exact fun t H6 ht e6 h6 => q' t H6 ht e6 h6
        refine q_asgU hcall fun t H5 ht e5 h5 => ?_
        have hpx5 := e5 _ _ hpx4
        have hd5 : DpAll K (hideV H5 p) xs (ps.map ptD) := DpAll.ex (fun b o hb => by
          unfold hideV at hb ⊢
          split at hb
          · cases hb
          · rename_i hne
            rw [if_neg hne]
            exact e5 _ _ hb) _ hd4
        have htp : t ≠ p := fun z => by
          rw [z, hpx4] at ht
          cases ht
        refine q_when (b := decide (i = 120) || late last pr) (et_is (et_or (a := false) (b := decide (i = 120) || late last pr) (et_test (ev_is (ev_op (ev_var rfl) ev_c rv_isN) rfl)) fun _ => et_or (et_test (ev_is (ev_op (ev_var rfl) ev_c (rv_eq rfl)) (by
            refine congrArg V.bl (decide_eq_decide.mpr ⟨fun z => ?_, fun z => ?_⟩)
            · injection z with z
              omega
            · rw [z] <;> rfl))) fun _ => et_late rfl hpx5 hd5 hoks hla (ev_op (ev_var rfl) ev_c (rv_ixT (v := .int pr.1) (st_of h5) (atI_nat (j := 0) rfl)))) rfl) (fun hb H6 e6 => ?_) (fun hb H6 e6 => ?_)
        · rw [hs] at hrd
          dsimp only at hrd
          rw [if_pos hb] at hrd
          rw [hrd] at q
          exact mk_at (ea_cons (ev_var rfl) ea_nil) fun dd H7 e7 hdd h7 => q dd H7 ((((hx.trans e4).trans e5).trans e6).trans e7) (fresh_back (((hx.trans e4).trans e5).trans e6) hdd) h7
        · exact s_app (e6 _ _ hpx5) (ev_var rfl) (ev_var rfl) (by omega) fun H7 e7 => ⟨⟨_, _, _, rfl⟩, Mid.turn hil hGp ((((hxG.trans e4).trans e5).trans e6).trans e7) (((e5.trans e6).trans e7)) hd4 hl hin hs hb hi2 htp (e7 _ _ (e6 _ _ h5)) hrd0⟩
    · obtain ⟨⟨x2, x3, x4, rfl⟩, hi2, hxG, xs, ps, last, hpx, hdp, hl, hin, hla, hrd⟩ := hP
      have hx := eG.trans hxG
      have hdr : (wds z).drop (((wds z).map V.str).length) = [] := by rw [List.length_map]; exact List.drop_length
      rw [hdr] at hrd
      rw [hrd] at q
      refine s_ret (ev_var rfl) fun H4 e4 => q p xs H4 hp (hx.trans e4) (e4 _ _ hpx) ?_
      rw [List.append_nil]
      exact DpAll.ex (hide_sub.trans e4) _ hdp
end
end K83
end

section
set_option Elab.async false
set_option linter.all false
set_option maxRecDepth 100000
set_option maxHeartbeats 2000000
namespace K83
open PySem PySem.Spec PyProof.Rows L2 Ov Evl Num TxM
/-- what the module says of the error classes -/
structure TxX (K : PySem.W.Frag) (mg : Str → Option Value) (Ca : Addr) : Prop where
  k_InvalidCode : mg "InvalidCode" = some (.ref Ca)
  k_InvalidName : mg "InvalidName" = some (.ref (ad mg "InvalidName"))
  k_InvalidNumber : mg "InvalidNumber" = some (.ref (ad mg "InvalidNumber"))
  k_InvalidOrder : mg "InvalidOrder" = some (.ref (ad mg "InvalidOrder"))
  k_InvalidParts : mg "InvalidParts" = some (.ref (ad mg "InvalidParts"))
  k_InvalidStamping : mg "InvalidStamping" = some (.ref (ad mg "InvalidStamping"))
  k_InvalidStamps : mg "InvalidStamps" = some (.ref (ad mg "InvalidStamps"))
  k_InvalidStrip : mg "InvalidStrip" = some (.ref (ad mg "InvalidStrip"))
  k_InvalidText : mg "InvalidText" = some (.ref (ad mg "InvalidText"))
  k_NotPossible : mg "NotPossible" = some (.ref (ad mg "NotPossible"))
  k_NothingToUndo : mg "NothingToUndo" = some (.ref (ad mg "NothingToUndo"))
  k_StampError : mg "StampError" = some (.ref (ad mg "StampError"))
  no1 : PySem.W.kitAny K (.ref Ca) [.ref (ad mg "InvalidName"), .ref (ad mg "InvalidNumber"), .ref (ad mg "InvalidOrder"), .ref (ad mg "InvalidParts"), .ref (ad mg "InvalidStamping"), .ref (ad mg "InvalidStamps")] = some false
  no2 : PySem.W.kitAny K (.ref Ca) [.ref (ad mg "InvalidStrip"), .ref (ad mg "InvalidText"), .ref (ad mg "NotPossible"), .ref (ad mg "NothingToUndo")] = some false
  isV : PySem.W.kitOne K (.ref Ca) (.type "ValueError") = some true
  isC : PySem.W.kitOne K (.ref Ca) (.ref Ca) = some true
  exS : PySem.W.exmOne K (.ref Ca) (.ref (ad mg "StampError")) = some true
  noat : PySem.W.findIn K (.ref Ca) "at" = some none
  ex : ExK K Ca
def spReadAt (Ca : Addr) : SpE := fun a cls d vs H Q _ => vs = [.ref a] ∧ ∃ (dd : Addr) (n : Int), cls = .ref Ca ∧ d = some dd ∧ H dd = some (.xd [("at", .int n)]) ∧ ∀ t H', H t = none → Ex H H' → H' t = some (.tup [.str "at", .int n]) → Q (.ref t) H'
section
variable {P : Program} {w : World} {K : PySem.W.Frag} {mg : Str → Option Value} {bh : Heap}
theorem ok_law_read_at {f Ca : Addr} {fd : FuncData} (F : Fun K "_law_read_at" "_law_read_at" s__law_read_at f fd) (T : Txt K mg) (X : TxX K mg Ca) : FnE P w K mg bh CX0 1 f fd ["e"] (spReadAt Ca) := by
  refine FnE.fun_ F sc__law_read_at (fun a cls d vs H Q E h => ?_) (fun cdv A outer s H vs Q E p cls d hot hz hr h => ?_)
  · obtain ⟨rfl, _⟩ := h
    rfl
  · obtain ⟨a, oe⟩ := p
    obtain ⟨rfl, dd, n, rfl, rfl, hd, q⟩ := h
    have hf : ∃ vs, oe.data = .fields vs := ⟨hot.2.choose, hot.2.choose_spec.1⟩
    have hp : (a, oe) ∈ [(a, oe)] := List.mem_singleton_self _
    have EX := X.ex
    refine ⟨_, (pss_cons (ps_set (i := 1) sc__law_read_at.nd rfl (Or.inl rfl) (pe_callB (call_isPT EX hp hz hf) rfl T.f_isinstance (by decide +kernel) (pa_cons (pv 0) (pa_cons (pe_tup (pa_cons (pe_gr X.k_InvalidName) (pa_cons (pe_gr X.k_InvalidNumber) (pa_cons (pe_gr X.k_InvalidOrder) (pa_cons (pe_gr X.k_InvalidParts) (pa_cons (pe_gr X.k_InvalidStamping) (pa_cons (pe_gr X.k_InvalidStamps) pa_nil))))))) pa_nil))))
  (pss_cons (ps_set (i := 1) sc__law_read_at.nd rfl (Or.inl rfl) (pe_or (pv 1) (pe_one (pe_callB (call_isPT EX hp hz hf) rfl T.f_isinstance (by decide +kernel) (pa_cons (pv 0) (pa_cons (pe_tup (pa_cons (pe_gr X.k_InvalidStrip) (pa_cons (pe_gr X.k_InvalidText) (pa_cons (pe_gr X.k_NotPossible) (pa_cons (pe_gr X.k_NothingToUndo) pa_nil))))) pa_nil))))))
  (pss_cons (ps_if (PW.pt (pw_or (pt_val (pv 1)) (pw_or1 (pt_not (pt_val (pe_callB (call_isP EX hp hz hf) rfl T.f_isinstance (by decide +kernel) (pa_cons (pv 0) (pa_cons (pe_ty (T := "ValueError") T.f_ValueError (by decide +kernel)) pa_nil))))))))
   (pss_one (ps_ret pe_str))
   pss_nil)
  (pss_one (ps_ret (pe_ifExp (pt_val (pe_callB (call_isP EX hp hz hf) rfl T.f_isinstance (by decide +kernel) (pa_cons (pv 0) (pa_cons (pe_gr X.k_InvalidCode) pa_nil)))) (pe_tup (pa_cons pe_str (pa_cons (pe_xp EX X.noat hp hz hf (pv 0)) pa_nil))) pe_str)))))), ?_⟩
    have hx : XdAt H (some dd) := ⟨_, hd⟩
    refine q_asg (ev_isPT (ev_var rfl) (ea_cons ev_c (ea_cons ev_c (ea_cons ev_c (ea_cons ev_c (ea_cons ev_c (ea_cons ev_c ea_nil)))))) (.cons (.own _) (.cons (.own _) (.cons (.own _) (.cons (.own _) (.cons (.own _) (.cons (.own _) .nil)))))) (by show 6 ≤ 100; decide) hx X.no1) fun H1 e1 => ?_
    have hx1 := hx.ex e1
    refine q_asg (ev_orV (b := false) (ev_var rfl) fun _ => ev_isPT (ev_var rfl) (ea_cons ev_c (ea_cons ev_c (ea_cons ev_c (ea_cons ev_c ea_nil)))) (.cons (.own _) (.cons (.own _) (.cons (.own _) (.cons (.own _) .nil)))) (by show 4 ≤ 100; decide) hx1 X.no2) fun H2 e2 => ?_
    have hx2 := hx1.ex e2
    refine q_when (b := false) (et_is (et_or (a := false) (b := false) (et_test (ev_var rfl)) fun _ => et_is (et_not (a := true) (et_test (ev_isP (ev_var rfl) ev_c (.ty _) hx2 X.isV))) rfl) rfl) (fun z => by cases z) fun _ H3 e3 => ?_
    have hx3 := hx2.ex e3
    have hd3 := e3 _ _ (e2 _ _ (e1 _ _ hd))
    refine s_retU (xs := [.str "at", .int n]) (fun H4 e4 Q' q' => ?_) fun t H4 ht e4 h4 => q t H4 (fresh_back ((e1.trans e2).trans e3) ht) (((e1.trans e2).trans e3).trans e4) h4
    refine et_test (ev_isP (ev_var rfl) ev_c (.own _) hx3 X.isC) H4 e4 _ fun H5 e5 => ?_
    exact eu_tup (ea_cons ev_c (ea_cons (ev_xp (v := .int n) (ev_var rfl) hd3 rfl) ea_nil)) (by show 2 ≤ 100000; decide) H5 (e4.trans e5) _ fun t H6 ht e6 h6 => q' t H6 (fresh_back e5 ht) (e5.trans e6) h6
def rD (z : Str) : PyData := match readPt z with
  | .ok ps => ptsD ps
  | .error n => .tuple [.str "at", .int (n : Int)]
/-- what is told: a new object with these data -/
def RetN (K : PySem.W.Frag) (z : Str) (H : Hp) (Q : VK) : Prop := match readPt z with
  | .ok ps => ∀ t xs H', H t = none → Ex H H' → H' t = some (.lst xs) → DpAll K H' xs (ps.map ptD) → Q (.ref t) H'
  | .error n => ∀ t H', H t = none → Ex H H' → H' t = some (.tup [.str "at", .int (n : Int)]) → Q (.ref t) H'
def spTold (K : PySem.W.Frag) : Sp := fun vs H Q _ => ∃ (z : Str) (b : Bool), vs = [.str z, .bl b] ∧ z.length ≤ 5000 ∧ RetN K z H Q
theorem ok_law_told {f Ca : Addr} {fd : FuncData} (F : Fun K "_law_told" "_law_told" s__law_told f fd) (T : Txt K mg) (X : TxX K mg Ca)
    (D_read_parts : Dn P w K mg bh (L2N.CX P w) 3 "read_parts" ["code"] (spRead K Ca)) (DK_read_parts : DnK P w K mg bh (L2N.CX P w) 3 "read_parts" ["code"] ["code"] [0] (spRead K Ca))
    (D__law_read_at : DnE P w K mg bh CX0 1 "_law_read_at" ["e"] (spReadAt Ca)) : FnOk P w K mg bh CX0 4 f fd ["given", "named"] (spTold K) := by
  refine okC F sc__law_told (fun vs H Q E h => ?_) (fun cdv A outer s H vs Q E hr1 h => ?_)
  · obtain ⟨z, b, rfl, _⟩ := h
    rfl
  · obtain ⟨z, b, rfl, hz0, q⟩ := h
    refine ⟨_, (pss_one (L2N.ps_try_as (i := 2) (Wout := fun _ _ _ _ => False) rfl rfl sc__law_told.nd rfl rfl ⟨rfl, rfl, .inl X.k_StampError⟩ tkNo (fun W pn xe tk _ => by exact (pss_one (ps_ret (pe_ifExp (pt_val (pv 1)) (pe_k0 DK_read_parts hr1 (fun σ => L2N.passAt tk σ) (pk_cons (pv 0) pk_nil)) (pe_dS D_read_parts hr1 (fun σ => L2N.passAt tk σ) (pa_cons (pv 0) pa_nil)))))) (fun a oe cls d pn hz hf => by exact (pss_one (ps_ret (pe_e D__law_read_at (roomM hr1 (by decide)) (hot_of hz hf rfl) (List.mem_cons_self) hz.zc (passes_at pass0) (pa_cons (pv 2) pa_nil))))))), ?_⟩
    have key : ∀ (b : Bool) H1, Ex H H1 → spRead K Ca [.str z] H1 Q (WE (wAs K (.ref (ad mg "StampError")) 2 (fun a cls d => tRet (tCall (spReadAt Ca a cls d) [] E0 (tCons (tVar 2) tNil))) (fun _ _ _ _ => False)
        { nx := fun _ H' => Q .non H', rt := Q }) (L2.start ["given", "named", "e"] [.str z, .bl b])) := fun b H1 e1 => by
      refine ⟨z, rfl, hz0, ?_⟩
      unfold RetN at q
      cases hr : readPt z with
      | ok ps =>
        rw [hr] at q
        exact fun t xs H2 ht e2 h2 hd => q t xs H2 (fresh_back e1 ht) (e1.trans e2) h2 hd
      | error n =>
        rw [hr] at q
        exact fun dd H2 e2 _ h2 => ⟨true, X.exS, fun _ a ha => ⟨.ref a, rfl, rfl, dd, n, rfl, rfl, h2, fun t H3 ht e3 h3 => q t H3 (fresh_back (e1.trans e2) ht) ((e1.trans e2).trans e3) h3⟩, fun z => by cases z⟩
    cases b with
    | true => exact r_if (b := true) (et_B (ev_var rfl)) (fun _ H1 e1 => ⟨.str z, rfl, key true H1 e1⟩) (fun z => by cases z)
    | false => exact r_if (b := false) (et_B (ev_var rfl)) (fun z => by cases z) (fun _ H1 e1 => ⟨.str z, rfl, key false H1 e1⟩)
end
end K83
end

section
set_option Elab.async false
set_option linter.all false
set_option maxRecDepth 100000
set_option maxHeartbeats 2000000
namespace K83
open PySem PySem.Spec PyProof.Rows L2 Ov Evl Num TxM
/-! ### what stands behind the colon -/
abbrev Bk : Type := Int × Int × Int
def fits3 (w o l : Option Int) : Option Bk := match w, o, l with
  | some w, some o, some l => if o + l ≤ 8 then some (w, o, l) else none
  | _, _, _ => none
def backIn (y : Str) : Option Bk := fits3 (numberIn (part1 43 y).1 0 5) (numberIn (part1 42 (part1 43 y).2.2).1 0 7) (numberIn (part1 42 (part1 43 y).2.2).2.2 1 8)
theorem part_back (z : Str) : partIn z = match numberIn (part1 58 z).1 0 119, backIn (part1 58 z).2.2 with
    | some p, some b => some (p, b)
    | _, _ => none := by
  unfold partIn backIn
  generalize numberIn (part1 58 z).1 0 119 = a
  generalize numberIn (part1 43 (part1 58 z).2.2).1 0 5 = b
  generalize numberIn (part1 42 (part1 43 (part1 58 z).2.2).2.2).1 0 7 = c
  generalize numberIn (part1 42 (part1 43 (part1 58 z).2.2).2.2).2.2 1 8 = d
  cases a <;> cases b <;> cases c <;> cases d <;> first | rfl | (unfold fits fits3; dsimp only; split <;> rfl)
def inB (b : Bk) : Prop := 0 ≤ b.1 ∧ b.1 ≤ 5 ∧ 0 ≤ b.2.1 ∧ b.2.1 ≤ 7 ∧ 1 ≤ b.2.2 ∧ b.2.2 ≤ 8 ∧ b.2.1 + b.2.2 ≤ 8
def backW (b : Bk) : Str := back1 b.1 b.2.1 b.2.2
theorem fits3_some {b c d : Option Int} {p : Bk} (h : fits3 b c d = some p) : b = some p.1 ∧ c = some p.2.1 ∧ d = some p.2.2 ∧ p.2.1 + p.2.2 ≤ 8 := by
  unfold fits3 at h
  split at h
  · split at h
    · cases h
      exact ⟨rfl, rfl, rfl, by assumption⟩
    · cases h
  · cases h
theorem no_empty (lo hi : Int) : numberIn Str.empty lo hi = none := by
  unfold numberIn
  rw [if_neg (by decide +kernel)]
theorem back_text {y : Str} {b : Bk} (h : backIn y = some b) : y = backW b ∧ inB b := by
  obtain ⟨h1, h2, h3, h4⟩ := fits3_some h
  obtain ⟨e1, b1, b2⟩ := numberIn_text h1
  obtain ⟨e2, b3, b4⟩ := numberIn_text h2
  obtain ⟨e3, b5, b6⟩ := numberIn_text h3
  refine ⟨?_, b1, b2, b3, b4, b5, b6, h4⟩
  rcases part1_join 43 y with h0 | h0
  · rw [h0] at h2
    have : part1 42 Str.empty = (Str.empty, Str.empty, Str.empty) := rfl
    rw [this, no_empty] at h2
    cases h2
  rcases part1_join 42 (part1 43 y).2.2 with h5 | h5
  · rw [h5, no_empty] at h3
    cases h3
  · rw [h0, h5, e1, e2, e3]
    unfold backW back1
    show _ ++ ("+" : Str) ++ (_ ++ ("*" : Str) ++ _) = _
    simp only [app_assoc]
theorem in_backs : ((List.range 6).all fun i => (List.range 8).all fun j => (List.range 8).all fun k => decide (8 ≤ j + k) || decide (backIn (backW ((i : Int), (j : Int), (k : Int) + 1)) = some ((i : Int), (j : Int), (k : Int) + 1))) = true := by decide +kernel
theorem in_back {i j k : Nat} (hi : i < 6) (hj : j < 8) (hk : j + k < 8) : backIn (backW ((i : Int), (j : Int), (k : Int) + 1)) = some ((i : Int), (j : Int), (k : Int) + 1) := by
  have h1 := List.all_eq_true.mp in_backs i (List.mem_range.mpr hi)
  have h2 := List.all_eq_true.mp h1 j (List.mem_range.mpr hj)
  have h3 := List.all_eq_true.mp h2 k (List.mem_range.mpr (by omega))
  rw [decide_eq_false (by omega), Bool.false_or] at h3
  exact of_decide_eq_true h3
theorem in_back1 {b : Bk} (h : inB b) : backIn (backW b) = some b := by
  obtain ⟨a, o, l⟩ := b
  obtain ⟨h1, h2, h3, h4, h5, h6, h7⟩ := h
  dsimp only at h1 h2 h3 h4 h5 h6 h7
  have := in_back (i := a.toNat) (j := o.toNat) (k := (l - 1).toNat) (by omega) (by omega) (by omega)
  rw [show ((a.toNat : Nat) : Int) = a by omega, show ((o.toNat : Nat) : Int) = o by omega, show (((l - 1).toNat : Nat) : Int) + 1 = l by omega] at this
  exact this
/-! ### the table -/
def Wh (H : Hp) (kvs : List (Key × V)) (Dn : Bk → Prop) : Prop := ∀ z : Str, (∃ b : Bk, Dn b ∧ backW b = z ∧ ∃ t, valV kvs (.inr z) = some (.ref t) ∧ H t = some (.tup [.int b.1, .int b.2.1, .int b.2.2])) ∨ ((∀ b, Dn b → backW b ≠ z) ∧ valV kvs (.inr z) = none)
theorem Wh.mono {H H' : Hp} {kvs : List (Key × V)} {Dn Dn' : Bk → Prop} (h : Wh H kvs Dn) (e : ∀ t xs, H t = some (.tup xs) → H' t = some (.tup xs)) (hd : ∀ b, Dn b ↔ Dn' b) : Wh H' kvs Dn' := fun z => by
  rcases h z with ⟨b, h1, h2, t, h3, h4⟩ | ⟨h1, h2⟩
  · exact .inl ⟨b, (hd b).mp h1, h2, t, h3, e _ _ h4⟩
  · exact .inr ⟨fun b h => h1 b ((hd b).mpr h), h2⟩
theorem Wh.put {H H' : Hp} {kvs : List (Key × V)} {Dn Dn' : Bk → Prop} {b : Bk} {t : Addr} (h : Wh H kvs Dn) (e : ∀ t xs, H t = some (.tup xs) → H' t = some (.tup xs)) (ht : H' t = some (.tup [.int b.1, .int b.2.1, .int b.2.2]))
    (hd : ∀ c, Dn' c ↔ Dn c ∨ c = b) : Wh H' (putK kvs (.inr (backW b)) (.ref t)) Dn' := fun z => by
  rw [valV_put]
  by_cases hz : (Sum.inr z : Key) = .inr (backW b)
  · rw [if_pos hz]
    injection hz with hz
    exact .inl ⟨b, (hd b).mpr (.inr rfl), hz.symm, t, rfl, ht⟩
  · rw [if_neg hz]
    have hz' : z ≠ backW b := fun k => hz (by rw [k])
    rcases h z with ⟨c, h1, h2, t, h3, h4⟩ | ⟨h1, h2⟩
    · exact .inl ⟨c, (hd c).mpr (.inl h1), h2, t, h3, e _ _ h4⟩
    · exact .inr ⟨fun c h => by
        rcases (hd c).mp h with h | rfl
        · exact h1 c h
        · exact hz'.symm, h2⟩
def Whole (H : Hp) (wh : Addr) : Prop := ∃ kvs, H wh = some (.dK kvs) ∧ Wh H kvs inB
theorem Whole.ex {H H' : Hp} {wh : Addr} (h : Whole H wh) (e : Ex H H') : Whole H' wh := by
  obtain ⟨kvs, h1, h2⟩ := h
  exact ⟨kvs, e _ _ h1, h2.mono (fun t xs => e _ _) fun _ => Iff.rfl⟩
theorem whole_get {H : Hp} {wh : Addr} (h : Whole H wh) : ∃ kvs, H wh = some (.dK kvs) ∧ ∀ z : Str, match backIn z with
    | none => valV kvs (.inr z) = none
    | some p => ∃ t, valV kvs (.inr z) = some (.ref t) ∧ H t = some (.tup [.int p.1, .int p.2.1, .int p.2.2]) := by
  obtain ⟨kvs, hk, hw⟩ := h
  refine ⟨kvs, hk, fun z => ?_⟩
  cases hz : backIn z with
  | none =>
    rcases hw z with ⟨b, h1, h2, _⟩ | ⟨_, h2⟩
    · rw [← h2, in_back1 h1] at hz
      cases hz
    · exact h2
  | some p =>
    obtain ⟨hw1, hr⟩ := back_text hz
    rcases hw z with ⟨b, h1, h2, t, h3, h4⟩ | ⟨h1, _⟩
    · rw [← h2, in_back1 h1] at hz
      cases hz
      exact ⟨t, h3, h4⟩
    · exact (h1 p hr hw1.symm).elim
def spBacks : Sp := fun vs H Q _ => vs = [] ∧ ∀ t H', H t = none → Ex H H' → Whole H' t → Q (.ref t) H'
def spWord (K : PySem.W.Frag) : Sp := fun vs H Q _ => ∃ (t : Addr) (p : Pt), vs = [.ref t] ∧ SqT K H t (tupV p) ∧ okP p ∧ RetV (.str (word4 p)) H Q
section
variable {P : Program} {w : World} {K : PySem.W.Frag} {mg : Str → Option Value} {bh : Heap}
theorem ok_law_word {f : Addr} {fd : FuncData} (F : Fun K "_law_word" "_law_word" s__law_word f fd) (T : Txt K mg) : FnOk P w K mg bh CX0 1 f fd ["one"] (spWord K) := by
  refine F.ok sc__law_word (fun vs H Q E h => ?_) (fun cdv A outer s H vs Q E hr h => ?_)
  · obtain ⟨t, p, rfl, _⟩ := h
    rfl
  · obtain ⟨t, p, rfl, ht, hp, q⟩ := h
    refine ⟨_, (pss_one (ps_ret (pe_op op_add_str (pe_op op_add_str (pe_op op_add_str (pe_op op_add_str (pe_op op_add_str (pe_op op_add_str (pe_callTy call_str_int rfl T.f_str (by decide +kernel) (pa_cons (pe_ix (ix_tup : IxR _ (rIxT K)) (pv 0) pe_int (fun _ _ => rfl)) pa_nil)) pe_str) (pe_callTy call_str_int rfl T.f_str (by decide +kernel) (pa_cons (pe_ix (ix_tup : IxR _ (rIxT K)) (pv 0) pe_int (fun _ _ => rfl)) pa_nil))) pe_str) (pe_callTy call_str_int rfl T.f_str (by decide +kernel) (pa_cons (pe_ix (ix_tup : IxR _ (rIxT K)) (pv 0) pe_int (fun _ _ => rfl)) pa_nil))) pe_str) (pe_callTy call_str_int rfl T.f_str (by decide +kernel) (pa_cons (pe_ix (ix_tup : IxR _ (rIxT K)) (pv 0) pe_int (fun _ _ => rfl)) pa_nil))))), ?_⟩
    have l1 := toString_len hp.1
    have l2 := toString_len hp.2.1
    have l3 := toString_len hp.2.2.1
    have l4 := toString_len hp.2.2.2
    refine s_ret (v := .str (word4 p)) (ev_op (ev_op (ev_op (ev_op (ev_op (ev_op (ev_cb (ea_cons (ev_op (ev_var rfl) ev_c (rv_ixT ht (atI_nat (j := 0) rfl))) ea_nil) (rc_strI (small hp.1).2)) ev_c (rv_addS ?_)) (ev_cb (ea_cons (ev_op (ev_var rfl) ev_c (rv_ixT ht (atI_nat (j := 1) rfl))) ea_nil) (rc_strI (small hp.2.1).2)) (rv_addS ?_)) ev_c (rv_addS ?_))
      (ev_cb (ea_cons (ev_op (ev_var rfl) ev_c (rv_ixT ht (atI_nat (j := 2) rfl))) ea_nil) (rc_strI (small hp.2.2.1).2)) (rv_addS ?_)) ev_c (rv_addS ?_)) (ev_cb (ea_cons (ev_op (ev_var rfl) ev_c (rv_ixT ht (atI_nat (j := 3) rfl))) ea_nil) (rc_strI (small hp.2.2.2).2)) (rv_addS ?_)) fun H1 e1 => q H1 e1
    all_goals
      try simp only [lenApp]
      rw [show (":" : Str).length = 1 from rfl]
      first | omega | (rw [show ("+" : Str).length = 1 from rfl]; first | omega | (rw [show ("*" : Str).length = 1 from rfl]; omega))
theorem ok_law_backs {f : Addr} {fd : FuncData} (F : Fun K "_law_backs" "_law_backs" s__law_backs f fd) (T : Txt K mg) : FnOk P w K mg bh CX0 1 f fd [] spBacks := by
  refine F.ok sc__law_backs (fun vs H Q E h => ?_) (fun cdv A outer s H vs Q E hr h => ?_)
  · obtain ⟨rfl, _⟩ := h
    rfl
  · obtain ⟨rfl, q⟩ := h
    have hu1 := units1 hr
    refine ⟨_, (pss_cons (ps_set (i := 0) sc__law_backs.nd rfl (Or.inl rfl) pe_dnewK)
  (pss_cons (ps_for PassesOwn.never rfl (pi_range1 rfl T.f_range (pa_cons pe_int pa_nil)) (pg_name (i := 1) sc__law_backs.nd rfl (.inl rfl))
   (pss_one (ps_for PassesOwn.never rfl (pi_range1 rfl T.f_range (pa_cons pe_int pa_nil)) (pg_name (i := 2) sc__law_backs.nd rfl (.inl rfl))
   (pss_one (ps_for PassesOwn.never rfl (pi_range2 rfl T.f_range (pa_cons pe_int (pa_cons (pe_op op_sub pe_int (pv 2)) pa_nil))) (pg_name (i := 3) sc__law_backs.nd rfl (.inl rfl))
   (pss_one (ps_dput hu1 (pv 0) (pe_op op_add_str (pe_op op_add_str (pe_op op_add_str (pe_op op_add_str (pe_callTy call_str_int rfl T.f_str (by decide +kernel) (pa_cons (pv 1) pa_nil)) pe_str) (pe_callTy call_str_int rfl T.f_str (by decide +kernel) (pa_cons (pv 2) pa_nil))) pe_str) (pe_callTy call_str_int rfl T.f_str (by decide +kernel) (pa_cons (pv 3) pa_nil))) (pe_tup (pa_cons (pv 1) (pa_cons (pv 2) (pa_cons (pv 3) pa_nil)))) rfl)))))))
  (pss_one (ps_ret (pv 0))))), ?_⟩
    refine fun p hp => ?_
    have e0 := Evl.Ex.new (o := .dK []) hp
    show tSeq _ _ _ _ (upd H p (.dK []))
    have h0 : upd H p (.dK []) p = some (.dK []) := upd_same
    generalize upd H p (.dK []) = H0 at e0 h0
    refine q_forR1 (ea_cons ev_c ea_nil) (by decide) (fun i σ' H' => (∃ x1 x2 x3, σ' = [some (.ref p), x1, x2, x3]) ∧ Ex H H' ∧ ∃ kvs, H' p = some (.dK kvs) ∧ kvs.length ≤ i * 64 ∧ Wh H' kvs (fun b => inB b ∧ b.1 < (i : Int)))
      (fun H1 e1 => ⟨⟨_, _, _, rfl⟩, e0.trans e1, [], e1 _ _ h0, Nat.le_refl _, fun z => .inr ⟨fun b h => by unfold inB at h; omega, rfl⟩⟩) (fun i σ' H' hi hP => ?_) (fun σ' H' hP => ?_)
    · obtain ⟨⟨x1, x2, x3, rfl⟩, hx, kvs, hk, hkl, hw⟩ := hP
      refine s_forR1 (ea_cons ev_c ea_nil) (by decide) (fun j σ' H' => (∃ x2 x3, σ' = [some (.ref p), some (.int (i : Int)), x2, x3]) ∧ Ex H H' ∧ ∃ kvs, H' p = some (.dK kvs) ∧ kvs.length ≤ i * 64 + j * 8 ∧ Wh H' kvs (fun b => inB b ∧ (b.1 < (i : Int) ∨ b.1 = (i : Int) ∧ b.2.1 < (j : Int))))
        (fun H1 e1 => ⟨⟨_, _, rfl⟩, hx.trans e1, kvs, e1 _ _ hk, by omega, hw.mono (fun t xs => e1 _ _) fun b => by unfold inB; omega⟩) (fun j σ' H' hj hP => ?_) (fun σ' H' hP => ?_)
      · obtain ⟨⟨x2, x3, rfl⟩, hx, kvs, hk, hkl, hw⟩ := hP
        refine s_forR2N (lo := 1) (n := 9 - (j : Int)) (ea_cons ev_c (ea_cons (ev_op ev_c (ev_var rfl) rv_I0) ea_nil)) (by omega) (fun k σ' H' => (∃ x3, σ' = [some (.ref p), some (.int (i : Int)), some (.int (j : Int)), x3]) ∧ Ex H H' ∧ ∃ kvs, H' p = some (.dK kvs) ∧ kvs.length ≤ i * 64 + j * 8 + k ∧
            Wh H' kvs (fun b => inB b ∧ (b.1 < (i : Int) ∨ b.1 = (i : Int) ∧ (b.2.1 < (j : Int) ∨ b.2.1 = (j : Int) ∧ b.2.2 < 1 + (k : Int)))))
          (fun H1 e1 => ⟨⟨_, rfl⟩, hx.trans e1, kvs, e1 _ _ hk, by omega, hw.mono (fun t xs => e1 _ _) fun b => by unfold inB; omega⟩) (fun k σ' H' hk3 hP => ?_) (fun σ' H' hP => ?_)
        · obtain ⟨⟨x3, rfl⟩, hx, kvs, hk, hkl, hw⟩ := hP
          have s1 : smallI (i : Int) := ⟨by omega, by omega⟩
          have s2 : smallI (j : Int) := ⟨by omega, by omega⟩
          have s3 : smallI (1 + (k : Int)) := ⟨by omega, by omega⟩
          have hl1 := toString_len s1
          have hl2 := toString_len s2
          have hl3 := toString_len s3
          refine eu_tup (vs := [.int (i : Int), .int (j : Int), .int (1 + (k : Int))]) (ea_cons (ev_var rfl) (ea_cons (ev_var rfl) (ea_cons (ev_var rfl) ea_nil))) (by show 3 ≤ 100000; decide) H' (Evl.Ex.refl _) _ fun t H1 ht e1 h1 => ?_
          refine ev_var rfl H1 e1 _ fun H2 e2 => ?_
          refine ev_op (ev_op (ev_op (ev_op (ev_cb (ea_cons (ev_var rfl) ea_nil) (rc_strI (small s1).2)) ev_c (rv_addS ?_)) (ev_cb (ea_cons (ev_var rfl) ea_nil) (rc_strI (small s2).2)) (rv_addS ?_)) ev_c (rv_addS ?_)) (ev_cb (ea_cons (ev_var rfl) ea_nil) (rc_strI (small s3).2)) (rv_addS ?_) H2 (e1.trans e2) _ fun H3 e3 => ?_
          · show (toString (i : Int) : Str).length + 1 ≤ 100000
            omega
          · rw [lenApp]
            show (toString (i : Int) : Str).length + 1 + (toString (j : Int) : Str).length ≤ 100000
            omega
          · rw [lenApp, lenApp]
            show (toString (i : Int) : Str).length + 1 + (toString (j : Int) : Str).length + 1 ≤ 100000
            omega
          · rw [lenApp, lenApp, lenApp]
            show (toString (i : Int) : Str).length + 1 + (toString (j : Int) : Str).length + 1 + (toString (1 + (k : Int)) : Str).length ≤ 100000
            omega
          have hi6 : i < 6 := by omega
          refine ⟨p, _, rfl, DPut.k (k := .inr (backW ((i : Int), (j : Int), 1 + (k : Int)))) (e3 _ _ (e2 _ _ (e1 _ _ hk))) (sz_lt (by omega)), ⟨_, rfl⟩, Evl.Ex.mut (((hx.trans e1).trans e2).trans e3) hp, _, upd_same, Nat.le_trans (length_putK ..) (by omega), ?_⟩
          have htp : t ≠ p := fun z => by
            rw [z, hk] at ht
            cases ht
          refine hw.put (b := ((i : Int), (j : Int), 1 + (k : Int))) (fun u xs hu => ?_) (t := t) ?_ (fun c => ?_)
          · have hup : u ≠ p := fun z => by
              rw [z, hk] at hu
              cases hu
            rw [upd_ne hup]
            exact e3 _ _ (e2 _ _ (e1 _ _ hu))
          · rw [upd_ne htp]
            exact e3 _ _ (e2 _ _ h1)
          · obtain ⟨c1, c2, c3⟩ := c
            unfold inB
            simp only [Prod.mk.injEq]
            omega
        · obtain ⟨⟨x3, rfl⟩, hx, kvs, hk, hkl, hw⟩ := hP
          exact ⟨⟨_, _, rfl⟩, hx, kvs, hk, by omega, hw.mono (fun t xs h => h) fun b => by unfold inB; omega⟩
      · obtain ⟨⟨x2, x3, rfl⟩, hx, kvs, hk, hkl, hw⟩ := hP
        have e8 : ((8 : Int).toNat : Int) = 8 := rfl
        have e8' : (8 : Int).toNat = 8 := rfl
        rw [e8'] at hkl
        exact ⟨⟨_, _, _, rfl⟩, hx, kvs, hk, by omega, hw.mono (fun t xs h => h) fun b => by unfold inB; omega⟩
    · obtain ⟨⟨x1, x2, x3, rfl⟩, hx, kvs, hk, hkl, hw⟩ := hP
      exact s_ret (ev_var rfl) fun H1 e1 => q p H1 hp (hx.trans e1) ⟨kvs, e1 _ _ hk, hw.mono (fun t xs => e1 _ _) fun b => by
        have : ((6 : Int).toNat : Int) = 6 := rfl
        unfold inB
        omega⟩
end
end K83
end

section
set_option Elab.async false
set_option linter.all false
set_option maxRecDepth 100000
set_option maxHeartbeats 2000000
namespace K83
open PySem PySem.Spec PyProof.Rows L2 Ov Evl Num TxM
/-! ### the table of places -/
def spotKV : List (Key × V) := (List.range 120).map fun (i : Nat) => (.inr (toString (i : Int) : Str), .int (i : Int))
def Spots (H : Hp) (p : Addr) : Prop := H p = some (.dK (mergeK [] spotKV))
theorem merge_from : ∀ (l acc : List (Key × V)) (k : Key), valV (mergeK acc l) k ≠ none → valV acc k ≠ none ∨ ∃ kv ∈ l, kv.1 = k
  | [], acc, k, h => .inl h
  | kv :: l, acc, k, h => by
    rcases merge_from l (putK acc kv.1 kv.2) k h with h | ⟨u, hu, hk⟩
    · rw [valV_put] at h
      by_cases e : k = kv.1
      · exact .inr ⟨kv, List.mem_cons_self, e.symm⟩
      · rw [if_neg e] at h
        exact .inl h
    · exact .inr ⟨u, List.mem_cons_of_mem _ hu, hk⟩
theorem spots_yes : ((List.range 120).all fun (i : Nat) => decide (valV (mergeK [] spotKV) (.inr (toString (i : Int) : Str)) = some (.int (i : Int))) && decide (numberIn (toString (i : Int) : Str) 0 119 = some (i : Int))) = true := by decide +kernel
theorem spots_get (f : Str) : valV (mergeK [] spotKV) (.inr f) = match numberIn f 0 119 with
    | some n => some (.int n)
    | none => none := by
  cases h : numberIn f 0 119 with
  | some n =>
    obtain ⟨e, h1, h2⟩ := numberIn_text h
    have := List.all_eq_true.mp spots_yes n.toNat (List.mem_range.mpr (by omega))
    rw [Bool.and_eq_true] at this
    have h3 := of_decide_eq_true this.1
    rw [show ((n.toNat : Nat) : Int) = n by omega, ← e] at h3
    exact h3
  | none =>
    cases hv : valV (mergeK [] spotKV) (.inr f) with
    | none => rfl
    | some v =>
      rcases merge_from spotKV [] (.inr f) (by rw [hv]; simp) with hn | ⟨kv, hm, hk⟩
      · exact absurd rfl hn
      · obtain ⟨i, hi, rfl⟩ := List.mem_map.mp hm
        have h2 := List.all_eq_true.mp spots_yes i hi
        rw [Bool.and_eq_true] at h2
        have h3 := of_decide_eq_true h2.2
        injection hk with hk
        rw [hk, h] at h3
        cases h3
def spDue (K : PySem.W.Frag) : Sp := fun vs H Q _ => ∃ (z : Str) (wh : Addr), vs = [.str z, .ref wh] ∧ z.length ≤ 5000 ∧ Whole H wh ∧ RetN K z H Q
/-- the places ascend -/
def Asc (last : Option Int) (i : Nat) : Prop := match last with
  | none => i = 0
  | some l => (i : Int) - 1 ≤ l
theorem asc_late {last : Option Int} {i : Nat} {pr : Pt} (h : Asc last i) (hr : inR pr) (hl : late last pr = false) : i ≠ 120 ∧ Asc (some pr.1) (i + 1) := by
  unfold inR at hr
  cases last with
  | none =>
    have : i = 0 := h
    exact ⟨by omega, show (((i + 1 : Nat)) : Int) - 1 ≤ pr.1 by omega⟩
  | some l =>
    have h1 : (i : Int) - 1 ≤ l := h
    have h2 : ¬ pr.1 ≤ l := of_decide_eq_false hl
    exact ⟨by omega, show (((i + 1 : Nat)) : Int) - 1 ≤ pr.1 by omega⟩
section
variable {P : Program} {w : World} {K : PySem.W.Frag} {mg : Str → Option Value} {bh : Heap}
theorem pair_kv {α : Type} {H : Hp} : ∀ {l : List Nat} {ps : List Addr}, Paired (fun t xs => H t = some (.tup xs)) ps (l.map fun (i : Nat) => [V.str (toString (i : Int) : Str), V.int (i : Int)]) →
    Paired (fun p (kv : Key × V) => SqT K H p [kV kv.1, kv.2]) ps (l.map fun (i : Nat) => ((.inr (toString (i : Int) : Str), .int (i : Int)) : Key × V))
  | [], _, h => by
    cases h
    exact .nil
  | i :: l, _, h => by
    cases h with
    | cons h1 h2 => exact .cons (st_of h1) (pair_kv (α := α) h2)
theorem ok_law_due {f : Addr} {fd : FuncData} (F : Fun K "_law_due" "_law_due" s__law_due f fd) (T : Txt K mg) : FnOk P w K mg bh CX0 1 f fd ["given", "backs"] (spDue K) := by
  refine F.ok sc__law_due (fun vs H Q E h => ?_) (fun cdv A outer s H vs Q E hr h => ?_)
  · obtain ⟨z, wh, rfl, _⟩ := h
    rfl
  · obtain ⟨z, wh, rfl, hz, hW, q⟩ := h
    have hu1 := units1 hr
    refine ⟨_, (pss_cons (ps_par (i := 2) (j := 3) rfl sc__law_due.nd rfl rfl (by decide) rfl rfl (pa_cons (pe_callTy (call_dictP rfl) rfl T.f_dict (by decide +kernel) (pa_cons (pe_lc (own := [("spot", 8)]) (g := gName 8) (tt := tYes) (by rfl) sc__law_due.nd (pi_range1 rfl T.f_range (pa_cons pe_int pa_nil)) (blkOk_by (own := [("spot", 8)]) (N := ["given", "backs", "spots", "found", "at", "word", "front", "back", "spot"]) (sc := defScope s__law_due) (by decide +kernel)) (fun _ _ _ _ _ => pg_name (i := 8) sc__law_due.nd rfl (.inl rfl)) (fun _ _ _ _ _ => pts_nil) (fun _ _ _ _ _ => (pe_tup (pa_cons (pe_callTy call_str_int rfl T.f_str (by decide +kernel) (pa_cons (pv 8) pa_nil)) (pa_cons (pv 8) pa_nil))))) pa_nil)) (pa_cons (pe_lst pa_nil) pa_nil)) rfl)
  (pss_cons (ps_for PassesOwn.never rfl (pi_enum rfl T.f_enumerate (pa_cons (pe_split (pv 0) pe_str) pa_nil)) (pg_tup rfl (pgs_cons (pg_name (i := 4) sc__law_due.nd rfl (.inl rfl)) (pgs_cons (pg_name (i := 5) sc__law_due.nd rfl (.inl rfl)) pgs_nil)))
   (pss_cons (ps_par (i := 6) (j := 7) rfl sc__law_due.nd rfl rfl (by decide) rfl rfl (pa_cons (pe_ix ix_list (pe_split (pv 5) pe_str) pe_int (fun _ _ => rfl)) (pa_cons (pe_join pe_str (pe_slice sl_list (pe_split (pv 5) pe_str) (po_some pe_int) po_none)) pa_nil)) rfl)
  (pss_cons (ps_if (PW.pt (pw_or (pt_cmpR op_notIn_sign pe_str (pv 5) rfl) (pw_or (pt_cmp (pc_dnotin hu1 (pv 6) (pv 2)) rfl) (pw_or1 (pt_cmp (pc_dnotin hu1 (pv 7) (pv 1)) rfl)))))
   (pss_one (ps_ret (pe_tup (pa_cons pe_str (pa_cons (pv 4) pa_nil)))))
   pss_nil)
  (pss_cons (ps_if (PW.pt (pw_and (pt_cmpR (op_neD hr.units) (pv 3) (pe_lst pa_nil) (nomark _)) (pw_and1 (pt_cmpR op_le (pe_dget hu1 (pv 2) (pv 6) (fun _ _ => rfl)) (pe_ix (ix_tup : IxR _ (rIxT K)) (pe_ix ix_list (pv 3) (pe_un un_neg pe_int) (fun _ _ => rfl)) pe_int (fun _ _ => rfl)) (nomark _)))))
   (pss_one (ps_ret (pe_tup (pa_cons pe_str (pa_cons (pv 4) pa_nil)))))
   pss_nil)
  (pss_one (ps_expr (pe_bm PySem.F.plainAttrs_list PySem.F.slot_list_append PySem.F.type_list_append mt_append (pv 3) (pa_cons (pe_tup (pa_cons (pe_dget hu1 (pv 2) (pv 6) (fun _ _ => rfl)) (pa_cons (pe_ix (ix_tup : IxR _ (rIxT K)) (pe_dget hu1 (pv 1) (pv 7) (fun _ _ => rfl)) pe_int (fun _ _ => rfl)) (pa_cons (pe_ix (ix_tup : IxR _ (rIxT K)) (pe_dget hu1 (pv 1) (pv 7) (fun _ _ => rfl)) pe_int (fun _ _ => rfl)) (pa_cons (pe_ix (ix_tup : IxR _ (rIxT K)) (pe_dget hu1 (pv 1) (pv 7) (fun _ _ => rfl)) pe_int (fun _ _ => rfl)) pa_nil))))) pa_nil))))))))
  (pss_one (ps_ret (pv 3))))), ?_⟩
    have hlw := wds_len z
    obtain ⟨kvs, hk, hget⟩ := whole_get hW
    refine q_parNL (P := Spots) (ys := []) (fun H1 e1 Q' q' => ?_) (el_lst ea_nil (Nat.zero_le _)) fun p2 p H1 H2 hp20 e1 hp2 hp e2 h2 => ?_
    · refine r_cb1 ?_
      refine lcRU (n := 120) (fun i => [V.str (toString (i : Int) : Str), V.int (i : Int)]) (ea_cons ev_c ea_nil) (by decide) (fun x => rfl) (fun i H2 e2 hi => eu_tup (ea_cons (ev_cb (ea_cons (ev_var rfl) ea_nil) (rc_strI (small ⟨by omega, by omega⟩).2)) (ea_cons (ev_var rfl) ea_nil)) (by show 2 ≤ 100000; decide)) e1 fun l ps H2 hl e2 hl2 hps => ?_
      exact ⟨l, ps, spotKV, rfl, sq_of hl2, pair_kv (α := Unit) hps, fun q hq => q' q _ (fresh_back e2 hq) (e2.trans (Evl.Ex.new hq)) upd_same⟩
    refine q_forEnL (xs := (wds z).map V.str) (by rw [← split_wds]; exact el_split (ev_var rfl) ev_c (by decide +kernel) (by omega)) fun a H3 ha0 e3 ha => ?_
    have hap : a ≠ p := fun k => by
      rw [k, h2] at ha0
      cases ha0
    have ha1 : H1 a = none := fresh_back e2 ha0
    have eG : Ex H1 (upd H1 a (.lst ((wds z).map V.str))) := Evl.Ex.new ha1
    have hGp : upd H1 a (.lst ((wds z).map V.str)) p = none := by rw [upd_ne (fun k => hap k.symm)]; exact hp
    have hGa : upd H1 a (.lst ((wds z).map V.str)) a = some (.lst ((wds z).map V.str)) := upd_same
    have eG3 : Ex (upd H1 a (.lst ((wds z).map V.str))) H3 := fun b o hb => by
      by_cases hba : b = a
      · subst hba
        rw [upd_same] at hb
        cases hb
        exact ha
      · rw [upd_ne hba] at hb
        exact (e2.trans e3) _ _ hb
    generalize upd H1 a (.lst ((wds z).map V.str)) = G at eG hGp hGa eG3
    have hGs : G p2 = some (.dK (mergeK [] spotKV)) := eG _ _ hp2
    have hGk : G wh = some (.dK kvs) := eG _ _ (e1 _ _ hk)
    have e0G : Ex H G := e1.trans eG
    unfold RetN readPt at q
    refine q_forEn (a := a) (xs := (wds z).map V.str) (ea_cons ev_c ea_nil) (sq_of ha) (fun i σ' H' => (∃ x4 x5 x6 x7 x8, σ' = [some (.str z), some (.ref wh), some (.ref p2), some (.ref p), x4, x5, x6, x7, x8]) ∧ i ≤ 120 ∧ Ex G H' ∧ ∃ xs ps last, H' p = some (.lst xs) ∧ DpAll K (hideV H' p) xs (ps.map ptD) ∧ ps.length = i ∧ (∀ u ∈ ps, inR u) ∧ Lasts last ps ∧ Asc last i ∧
        readW 0 none (wds z) = match readW i last ((wds z).drop i) with
          | .ok qs => .ok (ps ++ qs)
          | .error m => .error m) (fun H4 e4 => ⟨⟨_, _, _, _, _, rfl⟩, Nat.zero_le _, eG3.trans e4, [], [], none, e4 _ _ (e3 _ _ h2), .nil, rfl, (fun u hu => by cases hu), rfl, rfl, ?_⟩)
      (fun i σ' H' _ hP => sq_of (hP.2.2.1 _ _ hGa)) (fun i x σ' H' hi hP H4 e4 => ?_) (fun σ' H' hP => ?_)
    · rw [List.drop_zero]
      cases readW 0 none (wds z) <;> rfl
    · obtain ⟨⟨x4, x5, x6, x7, x8, rfl⟩, hi2, hxG, xs, ps, last, hpx, hdp, hl, hin, hla, hasc, hrd⟩ := hP
      have hx := e0G.trans hxG
      obtain ⟨hil, hxi⟩ := List.getElem?_eq_some_iff.mp hi
      rw [List.length_map] at hil
      obtain rfl : x = .str (wds z)[i] := by rw [← hxi, List.getElem_map]
      have hwl : ((wds z)[i]).length ≤ 5000 := Nat.le_trans (wds_mem (List.getElem_mem hil)) hz
      have hrd0 := hrd
      rw [List.drop_eq_getElem_cons hil, readW_cons] at hrd
      generalize hword : (wds z)[i] = word at hrd hwl
      have hpx4 := e4 _ _ hpx
      have hxl : xs.length = i := by rw [(dpAll_at hdp).1, List.length_map, hl]
      have hoks : okPts ps := ⟨by omega, fun u hu => inR_ok (hin u hu)⟩
      have hd4 : DpAll K (hideV H4 p) xs (ps.map ptD) := DpAll.ex (fun b o hb => by
        unfold hideV at hb ⊢
        split at hb
        · cases hb
        · rename_i hne
          rw [if_neg hne]
          exact e4 _ _ hb) _ hdp
      obtain ⟨u, us, hus⟩ : ∃ u us, wdc word = u :: us := by
        cases hw : wdc word with
        | nil => exact (wdc_ne word hw).elim
        | cons u us => exact ⟨u, us, rfl⟩
      have hsum := wdc_sum word
      rw [hus, List.map_cons, List.sum_cons, List.length_cons] at hsum
      have hspl : ∀ {σ : L2.St} {H : Hp} {t1 : TE}, Ev t1 σ H (.str word) → EvL (tM1 rSplitT t1 (tC (.str ":"))) σ H ((u :: us).map V.str) := fun h => by
        rw [← hus, ← split_wdc]
        exact el_split h ev_c (by decide +kernel) (by omega)
      refine q_par (a := .str u) (b := .str (Txt.join ":" us)) (ea_cons (ev_opL1 (hspl (ev_var rfl)) (fun H5 e5 => ev_c) fun l H5 hl5 e5 => rv_ixL (v := .str u) (sq_of hl5) (atI_nat (j := 0) rfl)) (ea_cons (ev_join ev_c (el_is (el_slN (hspl (ev_var rfl)) (eo_some ev_c) eo_none) (by
          rw [show (1 : Int) = ((1 : Nat) : Int) from rfl, cutV_from] <;> rfl)) (by rw [show (":" : Str).length = 1 from rfl]; omega)) ea_nil)) fun H5 e5 => ?_
      have hs5 := (hxG.trans e4).trans e5
      by_cases hcol : 58 ∈ word.cps.toList
      · obtain ⟨us', h1', h2'⟩ := wdc_yes hcol
        rw [hus] at h1'
        injection h1' with hu' hus'
        rw [← hus'] at h2'
        have hpb := part_back word
        rw [← hu', ← h2'] at hpb
        generalize Txt.join ":" us = bk at hpb
        have hsp := spots_get u
        have hbk := hget bk
        cases hnu : numberIn u 0 119 with
        | none =>
          rw [hnu] at hsp hpb
          have hpn : partIn word = none := hpb
          rw [hpn] at hrd
          refine q_when (b := true) (et_is (et_or (a := false) (b := true) (et_test (ev_is (ev_op (ev_is ev_c (by decide +kernel : V.str ":" = V.str ⟨#[58]⟩)) (ev_var rfl) rv_notInSign) (by rw [decide_eq_true hcol] <;> rfl))) fun _ => et_is (et_or (a := true) (b := true) (et_B (ev_is (ev_dni (ev_var rfl) (ev_var rfl) (hs5 _ _ hGs)) (by rw [hsp] <;> rfl))) fun z => by cases z) rfl) rfl) (fun _ H6 e6 => ?_) (fun z => by cases z)
          rw [hrd] at q
          exact s_retU (xs := [.str "at", .int (i : Int)]) (eu_tup (ea_cons ev_c (ea_cons (ev_var rfl) ea_nil)) (by show 2 ≤ 100000; decide)) fun t H7 ht e7 h7 => q t H7 (fresh_back (((hx.trans e4).trans e5).trans e6) ht) ((((hx.trans e4).trans e5).trans e6).trans e7) h7
        | some n =>
          rw [hnu] at hsp hpb
          cases hbi : backIn bk with
          | none =>
            rw [hbi] at hbk hpb
            have hpn : partIn word = none := hpb
            rw [hpn] at hrd
            refine q_when (b := true) (et_is (et_or (a := false) (b := true) (et_test (ev_is (ev_op (ev_is ev_c (by decide +kernel : V.str ":" = V.str ⟨#[58]⟩)) (ev_var rfl) rv_notInSign) (by rw [decide_eq_true hcol] <;> rfl))) fun _ => et_is (et_or (a := false) (b := true) (et_B (ev_is (ev_dni (ev_var rfl) (ev_var rfl) (hs5 _ _ hGs)) (by rw [hsp] <;> rfl))) fun _ => et_B (ev_is (ev_dni (ev_var rfl) (ev_var rfl) (hs5 _ _ hGk)) (by rw [hbk] <;> rfl))) rfl) rfl) (fun _ H6 e6 => ?_) (fun z => by cases z)
            rw [hrd] at q
            exact s_retU (xs := [.str "at", .int (i : Int)]) (eu_tup (ea_cons ev_c (ea_cons (ev_var rfl) ea_nil)) (by show 2 ≤ 100000; decide)) fun t H7 ht e7 h7 => q t H7 (fresh_back (((hx.trans e4).trans e5).trans e6) ht) ((((hx.trans e4).trans e5).trans e6).trans e7) h7
          | some b =>
            rw [hbi] at hbk hpb
            obtain ⟨tb, hvb, htb⟩ := hbk
            have hpn : partIn word = some (n, b) := hpb
            have htbG : G tb = some (.tup [.int b.1, .int b.2.1, .int b.2.2]) := e0G _ _ htb
            refine q_when (b := false) (et_is (et_or (a := false) (b := false) (et_test (ev_is (ev_op (ev_is ev_c (by decide +kernel : V.str ":" = V.str ⟨#[58]⟩)) (ev_var rfl) rv_notInSign) (by rw [decide_eq_true hcol] <;> rfl))) fun _ => et_is (et_or (a := false) (b := false) (et_B (ev_is (ev_dni (ev_var rfl) (ev_var rfl) (hs5 _ _ hGs)) (by rw [hsp] <;> rfl))) fun _ => et_B (ev_is (ev_dni (ev_var rfl) (ev_var rfl) (hs5 _ _ hGk)) (by rw [hvb] <;> rfl))) rfl) rfl) (fun z => by cases z) (fun _ H6 e6 => ?_)
            have hs6 := hs5.trans e6
            have e46 := e5.trans e6
            have hpx6 := e46 _ _ hpx4
            have hd6 : DpAll K (hideV H6 p) xs (ps.map ptD) := DpAll.ex (fun b o hb => by
              unfold hideV at hb ⊢
              split at hb
              · cases hb
              · rename_i hne
                rw [if_neg hne]
                exact e46 _ _ hb) _ hd4
            refine q_when (b := late last (n, b)) (et_late (pt := (n, b)) rfl hpx6 hd6 hoks hla (ev_dget (ev_var rfl) (ev_var rfl) (hs6 _ _ hGs) hsp)) (fun hb H7 e7 => ?_) (fun hb H7 e7 => ?_)
            · rw [hpn] at hrd
              dsimp only at hrd
              rw [if_pos (by rw [hb, Bool.or_true])] at hrd
              rw [hrd] at q
              exact s_retU (xs := [.str "at", .int (i : Int)]) (eu_tup (ea_cons ev_c (ea_cons (ev_var rfl) ea_nil)) (by show 2 ≤ 100000; decide)) fun t H8 ht e8 h8 => q t H8 (fresh_back (e0G.trans (hs6.trans e7)) ht) ((e0G.trans (hs6.trans e7)).trans e8) h8
            · have hs7 := hs6.trans e7
              obtain ⟨h120, hasc2⟩ := asc_late hasc (part_inR hpn) hb
              have ix : ∀ (j : Nat) (v : V), [V.int b.1, .int b.2.1, .int b.2.2][j]? = some v → Ev (tOp (rIxT K) (tDGet (tVar 1) (tVar 7)) (tC (.int (j : Int)))) [some (.str z), some (.ref wh), some (.ref p2), some (.ref p), some (.int (i : Int)), some (.str word), some (.str u), some (.str bk), x8] H7 v := fun j v hv =>
                ev_op (ev_dget (ev_var rfl) (ev_var rfl) (hs7 _ _ hGk) hvb) ev_c (rv_ixT (st_of (hs7 _ _ htbG)) (atI_nat hv))
              refine s_appU (ys := tupV (n, b)) (e7 _ _ hpx6) (ev_var rfl) (eu_tup (ea_cons (ev_dget (ev_var rfl) (ev_var rfl) (hs7 _ _ hGs) hsp) (ea_cons (ix 0 _ rfl) (ea_cons (ix 1 _ rfl) (ea_cons (ix 2 _ rfl) ea_nil)))) (by show 4 ≤ 100000; decide)) (by omega) fun t H8 ht e8 h8 => ?_
              have htp : t ≠ p := fun z => by
                rw [z, e7 _ _ hpx6] at ht
                cases ht
              have M := turn' (H4 := H4) hil hGp (hs7.trans e8) ((e46.trans e7).trans e8) hd4 hl hin (by rw [hword]; exact hpn) (by rw [decide_eq_false h120, hb] <;> rfl) hi2 htp h8 hrd0
              obtain ⟨m1, m2, xs2, ps2, m3, m4, m5, m6, m7, m8⟩ := M
              exact ⟨⟨_, _, _, _, _, rfl⟩, m1, m2, xs2, ps2, some n, m3, m4, m5, m6, m7, hasc2, m8⟩
      · have hpn : partIn word = none := by
          rw [part_back, wdc_no hcol]
          have : backIn Str.empty = none := by decide +kernel
          rw [show ((word, Str.empty, Str.empty) : Str × Str × Str).2.2 = Str.empty from rfl, this]
          cases numberIn word 0 119 <;> rfl
        rw [hpn] at hrd
        refine q_when (b := true) (et_is (et_or (a := true) (b := true) (et_test (ev_is (ev_op (ev_is ev_c (by decide +kernel : V.str ":" = V.str ⟨#[58]⟩)) (ev_var rfl) rv_notInSign) (by rw [decide_eq_false hcol] <;> rfl))) fun z => by cases z) rfl) (fun _ H6 e6 => ?_) (fun z => by cases z)
        rw [hrd] at q
        exact s_retU (xs := [.str "at", .int (i : Int)]) (eu_tup (ea_cons ev_c (ea_cons (ev_var rfl) ea_nil)) (by show 2 ≤ 100000; decide)) fun t H7 ht e7 h7 => q t H7 (fresh_back (((hx.trans e4).trans e5).trans e6) ht) ((((hx.trans e4).trans e5).trans e6).trans e7) h7
    · obtain ⟨⟨x4, x5, x6, x7, x8, rfl⟩, hi2, hxG, xs, ps, last, hpx, hdp, hl, hin, hla, hasc, hrd⟩ := hP
      have hdr : (wds z).drop (((wds z).map V.str).length) = [] := by rw [List.length_map]; exact List.drop_length
      rw [hdr] at hrd
      rw [hrd] at q
      refine s_ret (ev_var rfl) fun H4 e4 => q p xs H4 (fresh_back e1 hp) ((e0G.trans hxG).trans e4) (e4 _ _ hpx) ?_
      rw [List.append_nil]
      exact DpAll.ex (hide_sub.trans e4) _ hdp
end
end K83
end

section
set_option Elab.async false
set_option linter.all false
set_option maxRecDepth 100000
set_option maxHeartbeats 2000000
namespace K83
open PySem PySem.Spec PyProof.Rows L2 Ov Evl Num TxM
/-! ### a code and what it is the code of -/
theorem part_text {z : Str} {p : Pt} (h : partIn z = some p) : z = word4 p := by
  rw [part_back] at h
  cases h1 : numberIn (part1 58 z).1 0 119 with
  | none => rw [h1] at h; cases h
  | some n =>
    cases h2 : backIn (part1 58 z).2.2 with
    | none => rw [h1, h2] at h; cases h
    | some b =>
      rw [h1, h2] at h
      cases h
      obtain ⟨e1, _⟩ := numberIn_text h1
      obtain ⟨e2, _⟩ := back_text h2
      rcases part1_join 58 z with h0 | h0
      · rw [h0] at h2
        have : backIn Str.empty = none := by decide +kernel
        rw [this] at h2
        cases h2
      · rw [h0, e1, e2]
        unfold backW back1 word4
        show _ ++ (":" : Str) ++ _ = _
        simp only [app_assoc]
theorem readW_ok : ∀ {zs : List Str} {n : Nat} {last : Option Int} {ps : List Pt}, n ≤ 120 → readW n last zs = .ok ps → ps.map word4 = zs ∧ ps.length + n ≤ 120 ∧ ∀ p ∈ ps, inR p
  | [], n, last, ps, hn, h => by
    cases h
    exact ⟨rfl, by simpa using hn, fun p z => by cases z⟩
  | z :: zs, n, last, ps, hn, h => by
    rw [readW_cons] at h
    cases hs : partIn z with
    | none => rw [hs] at h; cases h
    | some p =>
      rw [hs] at h
      dsimp only at h
      by_cases h2 : (decide (n = 120) || late last p) = true
      · rw [if_pos h2] at h
        cases h
      · rw [if_neg h2] at h
        have hn2 : n ≠ 120 := fun k => h2 (by rw [decide_eq_true k] <;> rfl)
        cases hr : readW (n + 1) (some p.1) zs with
        | error m => rw [hr] at h; cases h
        | ok qs =>
          rw [hr] at h
          cases h
          obtain ⟨a, b, c⟩ := readW_ok (by omega) hr
          refine ⟨by rw [List.map_cons, a, ← part_text hs], by simp; omega, fun u hu => ?_⟩
          rcases List.mem_cons.mp hu with rfl | hu
          · exact part_inR hs
          · exact c u hu
theorem readW_err : ∀ {zs : List Str} {n m : Nat} {last : Option Int}, n ≤ 120 → readW n last zs = .error m → m ≤ 120
  | [], n, m, last, hn, h => by cases h
  | z :: zs, n, m, last, hn, h => by
    rw [readW_cons] at h
    cases hs : partIn z with
    | none =>
      rw [hs] at h
      cases h
      exact hn
    | some p =>
      rw [hs] at h
      dsimp only at h
      by_cases h2 : (decide (n = 120) || late last p) = true
      · rw [if_pos h2] at h
        cases h
        exact hn
      · rw [if_neg h2] at h
        have hn2 : n ≠ 120 := fun k => h2 (by rw [decide_eq_true k] <;> rfl)
        cases hr : readW (n + 1) (some p.1) zs with
        | error k =>
          rw [hr] at h
          cases h
          exact readW_err (by omega) hr
        | ok qs => rw [hr] at h; cases h
theorem readPt_ok {z : Str} {ps : List Pt} (h : readPt z = .ok ps) : codePt ps = z ∧ ps.length ≤ 200 ∧ ∀ p ∈ ps, inR p := by
  obtain ⟨a, b, c⟩ := readW_ok (by decide) h
  refine ⟨?_, by omega, c⟩
  rw [codePt, a, join_wds]
theorem readPt_err {z : Str} {m : Nat} (h : readPt z = .error m) : m ≤ 200 := Nat.le_trans (readW_err (by decide) h) (by decide)
theorem ok_of {ps : List Pt} (h : ps.length ≤ 200 ∧ ∀ p ∈ ps, inR p) : okPts ps := ⟨by omega, fun p hp => inR_ok (h.2 p hp)⟩
theorem low_ints : ((List.range 120).all fun (i : Nat) => (toString (i : Int) : Str).cps.toList.all (· < 128)) = true := by decide +kernel
theorem low_int {i : Int} (h0 : 0 ≤ i) (h1 : i < 120) : ∀ c ∈ (toString i : Str).cps.toList, c < 128 := fun c hc => by
  have h := List.all_eq_true.mp low_ints i.toNat (List.mem_range.mpr (by omega))
  rw [show ((i.toNat : Nat) : Int) = i by omega] at h
  exact of_decide_eq_true (List.all_eq_true.mp h c hc)
theorem low_app {a b : Str} (ha : ∀ c ∈ a.cps.toList, c < 128) (hb : ∀ c ∈ b.cps.toList, c < 128) : ∀ c ∈ (a ++ b : Str).cps.toList, c < 128 := fun c hc => by
  rw [Str.cps_append, Array.toList_append] at hc
  rcases List.mem_append.mp hc with h | h
  · exact ha c h
  · exact hb c h
theorem low_code {ps : List Pt} (h : ∀ p ∈ ps, inR p) : ∀ c ∈ (codePt ps).cps.toList, c < 128 := by
  intro c hc
  rcases join_mem hc with hc | ⟨y, hy, hc⟩
  · have : ∀ c ∈ (" " : Str).cps.toList, c < 128 := by decide +kernel
    exact this c hc
  · obtain ⟨p, hp, rfl⟩ := List.mem_map.mp hy
    obtain ⟨h1, h2, h3, h4, h5, h6, h7, h8, h9⟩ := h p hp
    exact low_app (low_app (low_app (low_app (low_app (low_app (low_int h1 (by omega)) (by decide +kernel)) (low_int h3 (by omega))) (by decide +kernel)) (low_int h5 (by omega))) (by decide +kernel)) (low_int (by omega) (by omega)) c hc
theorem tame_low {z : Str} (h : ∀ c ∈ z.cps.toList, c < 128) (hl : z.length ≤ 5000) : Tame 0 5000 (.str z) :=
  Tame.str (by
    show z.cps.all (· < 0x110000) = true
    rw [← Array.all_toList]
    exact List.all_eq_true.mpr fun c hc => decide_eq_true (by have := h c hc; omega)) (fun c hc => by have := h c hc; omega) hl
theorem tame_rD (z : Str) : Tame 2 25500 (rD z) := by
  unfold rD
  cases h : readPt z with
  | ok ps => exact tame_pts (ok_of ⟨(readPt_ok h).2.1, (readPt_ok h).2.2⟩)
  | error n =>
    have hn := readPt_err h
    exact (Tame.tup (ds := [.str "at", .int (n : Int)]) (n := 0) (k := 20) fun d hd => by
      rcases List.mem_cons.mp hd with rfl | hd
      · exact (Tame.str (k := 2) (by decide +kernel) (by decide +kernel) (by decide +kernel)).mono (Nat.le_refl _) (by decide)
      · cases List.mem_singleton.mp hd
        exact Tame.int (by omega)).mono (by decide) (by show 2 * (20 + 1) ≤ 25500; decide)
theorem tame_two {n k : Nat} {d e : PyData} (h1 : Tame n k d) (h2 : Tame n k e) : Tame (n + 1) (2 * (k + 1)) (.list [d, e]) := Tame.list (ds := [d, e]) fun x hx => by
  rcases List.mem_cons.mp hx with rfl | hx
  · exact h1
  · cases List.mem_singleton.mp hx
    exact h2
/-- a new object: what a code is the code of -/
def Nd (K : PySem.W.Frag) (z : Str) (H : Hp) (t : Addr) : Prop := Dp K H (.ref t) (rD z) ∧ match readPt z with
  | .ok ps => ∃ xs, H t = some (.lst xs) ∧ DpAll K H xs (ps.map ptD)
  | .error n => ∃ xs, H t = some (.tup xs)
theorem RetN.of {K : PySem.W.Frag} {z : Str} {H : Hp} {Q : VK} (q : ∀ t H', H t = none → Ex H H' → Nd K z H' t → Q (.ref t) H') : RetN K z H Q := by
  unfold RetN
  cases h : readPt z with
  | ok ps => exact fun t xs H' ht e h1 h2 => q t H' ht e ⟨by rw [rD, h]; exact dp_lst h1 h2, by rw [h]; exact ⟨xs, h1, h2⟩⟩
  | error n => exact fun t H' ht e h1 => q t H' ht e ⟨by rw [rD, h]; exact dp_tupN h1 (.cons (.str _) (.cons (.int _) .nil)), by rw [h]; exact ⟨_, h1⟩⟩
def spRight : Sp := fun vs H Q _ => ∃ (z : Str) (wh : Addr), vs = [.str z, .ref wh] ∧ z.length ≤ 5000 ∧ Whole H wh ∧ RetV (.bl true) H Q
section
variable {P : Program} {w : World} {K : PySem.W.Frag} {mg : Str → Option Value} {bh : Heap}
theorem ok_law_right {f Ca : Addr} {fd : FuncData} (F : Fun K "_law_right" "_law_right" s__law_right f fd) (T : Txt K mg)
    (D__law_due : Dn P w K mg bh CX0 4 "_law_due" ["given", "backs"] (spDue K)) (D__law_told : Dn P w K mg bh CX0 4 "_law_told" ["given", "named"] (spTold K))
    (D_read_parts : Dn P w K mg bh (L2N.CX P w) 4 "read_parts" ["code"] (spRead K Ca)) (D_write_parts : Dn P w K mg bh CX0 4 "write_parts" ["parts"] (spWrite K)) (DK_write_parts : DnK P w K mg bh CX0 4 "write_parts" ["parts"] ["parts"] [0] (spWrite K)) :
    FnG P w K mg bh CX0 5 f fd ["given", "backs"] spRight := by
  refine FnG.fun_ F sc__law_right (fun vs H Q E h => ?_) (fun cdv A outer s H vs Q E hgu hr1 h => ?_)
  · obtain ⟨z, wh, rfl, _⟩ := h
    rfl
  · obtain ⟨z, wh, rfl, hz, hW, q⟩ := h
    have hr := hr1
    refine ⟨_, (pss_cons (ps_set (i := 2) sc__law_right.nd rfl (Or.inl rfl) (pe_d D__law_due hr1 pass0 (pa_cons (pv 0) (pa_cons (pv 1) pa_nil))))
  (pss_cons (ps_set (i := 3) sc__law_right.nd rfl (Or.inl rfl) (pe_lst (pa_cons (pe_d D__law_told hr1 pass0 (pa_cons (pv 0) (pa_cons pe_bl pa_nil))) (pa_cons (pe_d D__law_told hr1 pass0 (pa_cons (pv 0) (pa_cons pe_bl pa_nil))) pa_nil))))
  (pss_cons (ps_if (pt_cmpR op_ne (pe_callB (call_reprD hgu hr.units) rfl T.f_repr (by decide +kernel) (pa_cons (pv 3) pa_nil)) (pe_callB (call_reprD hgu hr.units) rfl T.f_repr (by decide +kernel) (pa_cons (pe_lst (pa_cons (pv 2) (pa_cons (pv 2) pa_nil))) pa_nil)) (nomark _))
   (pss_one (ps_ret pe_bl))
   pss_nil)
  (pss_cons (ps_if (pt_val (pe_callB call_isi rfl T.f_isinstance (by decide +kernel) (pa_cons (pv 2) (pa_cons (pe_ty (T := "list") T.f_list (by decide +kernel)) pa_nil))))
   (pss_cons (ps_set (i := 4) sc__law_right.nd rfl (Or.inl rfl) (pe_ix ix_list (pv 3) pe_int (fun _ _ => rfl)))
  (pss_cons (ps_expr (pe_bm PySem.F.plainAttrs_list PySem.F.slot_list_append PySem.F.type_list_append mt_append (pv 4) (pa_cons pe_int pa_nil)))
  (pss_cons (ps_if (pt_cmpR op_ne (pe_callB (call_reprD hgu hr.units) rfl T.f_repr (by decide +kernel) (pa_cons (pe_lst (pa_cons (pe_ix ix_list (pv 3) pe_int (fun _ _ => rfl)) (pa_cons (pe_d D_read_parts hr1 passLN (pa_cons (pv 0) pa_nil)) pa_nil))) pa_nil)) (pe_callB (call_reprD hgu hr.units) rfl T.f_repr (by decide +kernel) (pa_cons (pe_lst (pa_cons (pv 2) (pa_cons (pv 2) pa_nil))) pa_nil)) (nomark _))
   (pss_one (ps_ret pe_bl))
   pss_nil)
  (pss_cons (ps_set (i := 5) sc__law_right.nd rfl (Or.inl rfl) (pe_callB (call_reprD hgu hr.units) rfl T.f_repr (by decide +kernel) (pa_cons (pv 2) pa_nil)))
  (pss_one (ps_if (PW.pt (pw_or (pt_cmpR (op_neD hr.units) (pe_lst (pa_cons (pe_d D_write_parts hr1 pass0 (pa_cons (pv 2) pa_nil)) (pa_cons (pe_k0 DK_write_parts hr1 (passes_at pass0) (pk_cons (pv 2) pk_nil)) pa_nil))) (pe_lst (pa_cons (pv 0) (pa_cons (pv 0) pa_nil))) (nomark _)) (pw_or1 (pt_cmpR op_ne (pe_callB (call_reprD hgu hr.units) rfl T.f_repr (by decide +kernel) (pa_cons (pv 2) pa_nil)) (pv 5) (nomark _)))))
   (pss_one (ps_ret pe_bl))
   pss_nil))))))
   pss_nil)
  (pss_one (ps_ret pe_bl)))))), ?_⟩
    have tD := tame_rD z
    refine q_asgN (P := Nd K z) (en_call (ea_cons (ev_var rfl) (ea_cons (ev_var rfl) ea_nil)) fun H1 e1 Q' q' => ⟨z, wh, rfl, hz, hW.ex e1, RetN.of q'⟩) fun t0 H1 h0 e1 hN0 => ?_
    refine q_asg2N (P1 := Nd K z) (P2 := Nd K z) (en_call (ea_cons (ev_var rfl) (ea_cons ev_c ea_nil)) fun H1 e1 Q' q' => ⟨z, false, rfl, hz, RetN.of q'⟩) (en_call (ea_cons (ev_var rfl) (ea_cons ev_c ea_nil)) fun H1 e1 Q' q' => ⟨z, true, rfl, hz, RetN.of q'⟩)
      fun t1 t2 l Ha Hb Hc ht1 ea hN1 ht2 eb hN2 hl ec hll => ?_
    have D0 : Dp K Hc (.ref t0) (rD z) := Dp.ex ((ea.trans eb).trans ec) _ hN0.1
    have D1 : Dp K Hc (.ref t1) (rD z) := Dp.ex (eb.trans ec) _ hN1.1
    have D2 : Dp K Hc (.ref t2) (rD z) := Dp.ex ec _ hN2.1
    refine q_when (b := false) (et_test (ev_is (ev_op (ev_repr (ev_var rfl) (dp_lst hll (.cons D1 (.cons D2 .nil))) (tame_two tD tD) (by decide) (by decide)) (ev_reprL (el_lst (ea_cons (ev_var rfl) (ea_cons (ev_var rfl) ea_nil)) (by show 2 ≤ 100000; decide)) (.cons D0 (.cons D0 .nil)) (tame_two tD tD) (by decide) (by decide)) (rv_ne rfl)) (by rw [decide_eq_true rfl] <;> rfl))) (fun z => by cases z) fun _ Hd ed => ?_
    cases hrd : readPt z with
    | error n =>
      have h2 := hN0.2
      rw [hrd] at h2
      obtain ⟨xs, hx⟩ := h2
      refine q_when (b := false) (et_test (ev_isiT (ev_var rfl) ((((ea.trans eb).trans ec).trans ed) _ _ hx))) (fun z => by cases z) fun _ He ee => ?_
      exact s_ret ev_c fun Hf ef => q Hf ((((((e1.trans ea).trans eb).trans ec).trans ed).trans ee).trans ef)
    | ok ps =>
      obtain ⟨hcode, hplen, hpin⟩ := readPt_ok hrd
      have hok := ok_of ⟨hplen, hpin⟩
      have h2 := hN0.2
      rw [hrd] at h2
      obtain ⟨xs0, hx0, hd0⟩ := h2
      have h21 := hN1.2
      rw [hrd] at h21
      obtain ⟨xs1, hx1, hd1⟩ := h21
      have h22 := hN2.2
      rw [hrd] at h22
      obtain ⟨xs2, hx2, hd2⟩ := h22
      have rde : rD z = ptsD ps := by rw [rD, hrd]
      refine q_when (b := true) (et_test (ev_isiL (ev_var rfl) ((((ea.trans eb).trans ec).trans ed) _ _ hx0))) (fun _ He ee => ?_) (fun z => by cases z)
      have hlle := ee _ _ (ed _ _ hll)
      have hx1e : He t1 = some (.lst xs1) := ee _ _ (ed _ _ (ec _ _ (eb _ _ hx1)))
      refine q_asg (ev_op (ev_var rfl) ev_c (rv_ixL (v := .ref t1) (sq_of hlle) (atI_nat (j := 0) rfl))) fun Hf ef => ?_
      have hx1f := ef _ _ hx1e
      have hxl : xs1.length ≤ 200 := by rw [(dpAll_at hd1).1, List.length_map]; exact hplen
      refine q_app (xs := xs1) hx1f (ev_var rfl) ev_c (by omega) fun Hg eg => ?_
      have n21 : t2 ≠ t1 := fun z => by rw [z, hx1] at ht2; cases ht2
      have nl1 : l ≠ t1 := fun z => by rw [z] at hl; rw [eb _ _ hx1] at hl; cases hl
      have eFG : Ex Hc Hg := ((ed.trans ee).trans ef).trans eg
      have hx1c : Hc t1 = some (.lst xs1) := ec _ _ (eb _ _ hx1)
      have hx2c : Hc t2 = some (.lst xs2) := ec _ _ hx2
      have EX1 : Ex H1 (upd Hg t1 (.lst (xs1 ++ [.int 0]))) := Evl.Ex.mut (((ea.trans eb).trans ec).trans eFG) ht1
      have D2' : Dp K (upd Hg t1 (.lst (xs1 ++ [.int 0]))) (.ref t2) (rD z) := by
        rw [rde]
        refine dp_lst (by rw [upd_ne n21]; exact eFG _ _ hx2c) (DpAll.ex (ex_hide_upd eFG) _ (tupsI_hide (f := ptI) hx1c (DpAll.ex ec _ hd2)))
      have D0' := Dp.ex EX1 _ hN0.1
      have hlH : (upd Hg t1 (.lst (xs1 ++ [.int 0]))) l = some (.lst [.ref t1, .ref t2]) := by
        rw [upd_ne nl1]
        exact eFG _ _ hll
      show tSeq _ _ _ _ (upd Hg t1 (.lst (xs1 ++ [.int 0])))
      generalize upd Hg t1 (.lst (xs1 ++ [.int 0])) = Hh at EX1 D2' D0' hlH
      refine q_when (b := false) (et_test (ev_is (ev_op (ev_reprVN (P := Nd K z) (ev_op (ev_var rfl) ev_c (rv_ixL (v := .ref t2) (sq_of hlH) (atI_nat (j := 1) rfl))) (en_call (ea_cons (ev_var rfl) ea_nil) fun H3 e3 Q' q' => ⟨z, rfl, hz, ?_⟩) D2' (fun H' p _ hN => hN.1) (tame_two tD tD) (by decide) (by decide))
        (ev_reprL (el_lst (ea_cons (ev_var rfl) (ea_cons (ev_var rfl) ea_nil)) (by show 2 ≤ 100000; decide)) (.cons D0' (.cons D0' .nil)) (tame_two tD tD) (by decide) (by decide)) (rv_ne rfl)) (by rw [decide_eq_true rfl] <;> rfl))) (fun z => by cases z) fun _ Hi ei => ?_
      · have := RetN.of q'
        unfold RetN at this
        rw [hrd] at this ⊢
        exact this
      have D0i := Dp.ex ei _ D0'
      refine q_asg (ev_repr (ev_var rfl) D0i tD (by decide) (by decide)) fun Hj ej => ?_
      have D0j := Dp.ex ej _ D0i
      have zlow : ∀ c ∈ z.cps.toList, c < 128 := by rw [← hcode]; exact low_code hpin
      have tz : Tame 1 (2 * 5001) (.list [.str z, .str z]) := tame_two (tame_low zlow hz) (tame_low zlow hz)
      have wr : ∀ H3, Ex Hj H3 → ∀ Q : VK, RetV (.str z) H3 Q → spWrite K [.ref t0] H3 Q E0 := fun H3 e3 Q' q' => ⟨_, ps, rfl, by rw [← rde]; exact Dp.ex e3 _ D0j, hok, by rw [hcode]; exact q'⟩
      refine q_when (b := false) (et_is (et_or (a := false) (b := false) (et_test (ev_is (ev_opLL (xs := [.str z, .str z]) (ys := [.str z, .str z]) (el_lst (ea_cons (ev_call' (z := .str z) (ea_cons (ev_var rfl) ea_nil) wr) (ea_cons (ev_callKS (z := .str z) (vs := [.ref t0]) (ea_cons (ev_var rfl) ea_nil) wr) ea_nil)) (by show 2 ≤ 100000; decide))
        (el_lst (ea_cons (ev_var rfl) (ea_cons (ev_var rfl) ea_nil)) (by show 2 ≤ 100000; decide)) fun p1 p2 H3 hp1 hp2 e3 => rv_neD (d := .list [.str z, .str z]) (e := .list [.str z, .str z]) (dp_lst hp1 (.cons (.str z) (.cons (.str z) .nil))) (dp_lst hp2 (.cons (.str z) (.cons (.str z) .nil))) tz tz (by decide)) ?_)) fun _ =>
          et_test (ev_is (ev_op (ev_repr (ev_var rfl) D0j tD (by decide) (by decide)) (ev_var rfl) (rv_ne rfl)) (by rw [decide_eq_true rfl] <;> rfl))) rfl) (fun z => by cases z) fun _ Hk ek => ?_
      · show V.bl (!PyData.eqv (.list [.str z, .str z]) (.list [.str z, .str z])) = V.bl false
        simp [PyData.eqv, PyData.eqvAll]
      exact s_ret ev_c fun Hm em => q Hm ((e1.trans EX1).trans (((ei.trans ej).trans ek).trans em))
end
end K83
end

section
set_option Elab.async false
set_option linter.all false
set_option maxRecDepth 100000
set_option maxHeartbeats 4000000
namespace K83
open PySem PySem.Spec PyProof.Rows L2 Ov Evl TxM
def spBent (K : PySem.W.Frag) : Sp := fun vs H Q _ => ∃ (G : Hp) (v o : Addr) (n : Nat) (z : Str) (ss : List Str), vs = [.ref v, .str z, .ref o] ∧ Wd G v (n + 11) H ∧ G o = some (.lst (ss.map V.str)) ∧ 0 < ss.length ∧ ss.length ≤ 100 ∧ (∀ s ∈ ss, s.length ≤ 100) ∧ z.length ≤ 4500 ∧
  ∀ (r : Str) H', r.length ≤ 4000 → Wd G v n H' → Q (.str r) H'
def bound (i : Nat) : Nat := if i = 0 then 4500 else if i = 1 then 9300 else 19000
theorem map_str_inj : ∀ {us vs : List Str}, us.map V.str = vs.map V.str → us = vs
  | [], [], _ => rfl
  | [], _ :: _, h => by cases h
  | _ :: _, [], h => by cases h
  | u :: us, v :: vs, h => by
    rw [List.map_cons, List.map_cons, List.cons.injEq] at h
    obtain ⟨h1, h2⟩ := h
    injection h1 with h1
    rw [h1, map_str_inj h2]
section
variable {P : Program} {w : World} {K : PySem.W.Frag} {mg : Str → Option Value} {bh : Heap}
theorem ok_law_bent {f : Addr} {fd : FuncData} (F : Fun K "_law_bent" "_law_bent" s__law_bent f fd) (T : Txt K mg) (D__law_sip : Dn P w K mg bh CX0 1 "_law_sip" ["vat", "size"] spSip) : FnOk P w K mg bh CX0 2 f fd ["vat", "given", "odd"] (spBent K) := by
  refine F.ok sc__law_bent (fun vs H Q E h => ?_) (fun cdv A outer s H vs Q E hr1 h => ?_)
  · obtain ⟨G, v, o, n, z, ss, rfl, _⟩ := h
    rfl
  · obtain ⟨G, v, o, n, z, ss, rfl, hw, ho, hs0, hs1, hs2, hz, q⟩ := h
    refine ⟨_, (pss_cons (ps_for PassesOwn.never rfl (pi_range1 rfl T.f_range (pa_cons (pe_op op_add pe_int (pe_d D__law_sip hr1 pass0 (pa_cons (pv 0) (pa_cons pe_int pa_nil)))) pa_nil)) (pg_name (i := 3) sc__law_bent.nd rfl (.inl rfl))
   (pss_cons (ps_set (i := 4) sc__law_bent.nd rfl (Or.inl rfl) (pe_split (pv 1) pe_str))
  (pss_cons (ps_par (i := 5) (j := 6) rfl sc__law_bent.nd rfl rfl (by decide) rfl rfl (pa_cons (pe_d D__law_sip hr1 pass0 (pa_cons (pv 0) (pa_cons (pe_callB call_len_seq rfl T.f_len (by decide +kernel) (pa_cons (pv 4) pa_nil)) pa_nil))) (pa_cons (pe_d D__law_sip hr1 pass0 (pa_cons (pv 0) (pa_cons pe_int pa_nil))) pa_nil)) rfl)
  (pss_cons (ps_set (i := 7) sc__law_bent.nd rfl (Or.inl rfl) (pe_ix ix_list (pv 2) (pe_d D__law_sip hr1 pass0 (pa_cons (pv 0) (pa_cons (pe_callB call_len_seq rfl T.f_len (by decide +kernel) (pa_cons (pv 2) pa_nil)) pa_nil))) (fun _ _ => rfl)))
  (pss_cut (ps_if (pt_cmpR op_eq (pv 6) pe_int (nomark _))
   (pss_one (ps_set (i := 4) sc__law_bent.nd rfl (Or.inl rfl) (pe_op op_cat (pe_op op_cat (pe_slice sl_list (pv 4) po_none (po_some (pv 5))) (pe_lst (pa_cons (pv 7) pa_nil))) (pe_slice sl_list (pv 4) (po_some (pe_op op_add (pv 5) pe_int)) po_none))))
   (pss_one (ps_if (pt_cmpR op_eq (pv 6) pe_int (nomark _))
   (pss_one (ps_set (i := 4) sc__law_bent.nd rfl (Or.inl rfl) (pe_op op_cat (pe_op op_cat (pe_slice sl_list (pv 4) po_none (po_some (pv 5))) (pe_lst (pa_cons (pv 7) pa_nil))) (pe_slice sl_list (pv 4) (po_some (pv 5)) po_none))))
   (pss_one (ps_if (PW.pt (pw_and (pt_cmpR op_eq (pv 6) pe_int (nomark _)) (pw_and1 (pt_cmpR op_gt (pe_callB call_len_seq rfl T.f_len (by decide +kernel) (pa_cons (pv 4) pa_nil)) pe_int (nomark _)))))
   (pss_one (ps_set (i := 4) sc__law_bent.nd rfl (Or.inl rfl) (pe_op op_cat (pe_slice sl_list (pv 4) po_none (po_some (pv 5))) (pe_slice sl_list (pv 4) (po_some (pe_op op_add (pv 5) pe_int)) po_none))))
   (pss_one (ps_if (pt_cmpR op_eq (pv 6) pe_int (nomark _))
   (pss_one (ps_set (i := 4) sc__law_bent.nd rfl (Or.inl rfl) (pe_op op_cat (pe_op op_cat (pe_slice sl_list (pv 4) po_none (po_some (pv 5))) (pe_lst (pa_cons (pe_ix ix_list (pv 4) (pv 5) (fun _ _ => rfl)) pa_nil))) (pe_slice sl_list (pv 4) (po_some (pv 5)) po_none))))
   pss_nil)))))))
  (pss_cons (ps_set (i := 1) sc__law_bent.nd rfl (Or.inl rfl) (pe_join pe_str (pv 4)))
  (pss_cons (ps_set (i := 8) sc__law_bent.nd rfl (Or.inl rfl) (pe_d D__law_sip hr1 pass0 (pa_cons (pv 0) (pa_cons (pe_op op_add (pe_callB call_len_str rfl T.f_len (by decide +kernel) (pa_cons (pv 1) pa_nil)) pe_int) pa_nil))))
  (pss_one (ps_if (pt_cmpR op_eq (pv 6) pe_int (nomark _))
   (pss_one (ps_set (i := 1) sc__law_bent.nd rfl (Or.inl rfl) (pe_op op_add_str (pe_op op_add_str (pe_slice sl_str (pv 1) po_none (po_some (pv 8))) (pe_ix ix_list (pe_lst (pa_cons pe_str (pa_cons pe_str (pa_cons pe_str (pa_cons pe_str (pa_cons pe_str (pa_cons pe_str (pa_cons pe_str (pa_cons pe_str pa_nil))))))))) (pe_d D__law_sip hr1 pass0 (pa_cons (pv 0) (pa_cons pe_int pa_nil))) (fun _ _ => rfl))) (pe_slice sl_str (pv 1) (po_some (pv 8)) po_none))))
   (pss_one (ps_if (pt_cmpR op_eq (pv 6) pe_int (nomark _))
   (pss_one (ps_set (i := 1) sc__law_bent.nd rfl (Or.inl rfl) (pe_op op_add_str (pe_slice sl_str (pv 1) po_none (po_some (pv 8))) (pe_slice sl_str (pv 1) (po_some (pe_op op_add (pv 8) pe_int)) po_none))))
   (pss_one (ps_if (pt_cmpR op_eq (pv 6) pe_int (nomark _))
   (pss_one (ps_set (i := 1) sc__law_bent.nd rfl (Or.inl rfl) (pe_ix ix_list (pe_lst (pa_cons (pe_op op_add_str (pv 1) pe_str) (pa_cons (pe_op op_add_str pe_str (pv 1)) (pa_cons (pe_op op_add_str (pe_op op_add_str (pv 1) pe_str) (pv 7)) pa_nil)))) (pe_d D__law_sip hr1 pass0 (pa_cons (pv 0) (pa_cons pe_int pa_nil))) (fun _ _ => rfl))))
   pss_nil)))))))))))))
  (pss_one (ps_ret (pe_slice sl_str (pv 1) po_none (po_some pe_int))))), ?_⟩
    refine q_forR1W (P := fun x => ∃ r : Int, x = .int r ∧ 1 ≤ r ∧ r ≤ 2) hw (evw_opR ev_c (evw_sip (n := n + 10) (ev_var rfl) ev_c (by decide) (by decide)) fun y hy => ?_) (fun x hx => ⟨hx.choose, hx.choose_spec.1⟩) fun r H1 hr w1 => ?_
    · obtain ⟨r, rfl, r0, r1⟩ := hy
      exact ⟨_, ⟨_, rfl, by omega, by omega⟩, rv_I0⟩
    obtain ⟨r', hr', r1, r2⟩ := hr
    cases hr'
    refine q_forR1 (ea_cons ev_c ea_nil) (by omega) (fun i σ' H' => (∃ (z : Str) (x3 x4 x5 x6 x7 x8 : Option V), σ' = [some (.ref v), some (.str z), some (.ref o), x3, x4, x5, x6, x7, x8] ∧ z.length ≤ bound i) ∧ Wd G v (n + 10 - 5 * i) H') (fun H2 e2 => ⟨⟨z, _, _, _, _, _, _, rfl, hz⟩, w1.mono e2⟩) (fun i σ' H' hi hP => ?_) (fun σ' H' hP => ?_)
    · obtain ⟨⟨z, x3, x4, x5, x6, x7, x8, rfl, hz⟩, wi⟩ := hP
      have hi2 : i ≤ 1 := by omega
      obtain ⟨m, hm, hnm⟩ : ∃ m : Nat, n + 10 - 5 * i = m + 5 ∧ m = n + 10 - 5 * (i + 1) := ⟨n + 5 - 5 * i, by omega, by omega⟩
      rw [← hnm]
      rw [hm] at wi
      have hb : z.length ≤ 9300 ∧ z.length + z.length + 205 ≤ bound (i + 1) := by
        rcases (show i = 0 ∨ i = 1 by omega) with rfl | rfl
        · have : z.length ≤ 4500 := hz
          exact ⟨by omega, by show _ ≤ 9300; omega⟩
        · have : z.length ≤ 9300 := hz
          exact ⟨by omega, by show _ ≤ 19000; omega⟩
      obtain ⟨hb1, hb2⟩ := hb
      have hlw := wds_len z
      refine q_asgL (xs := (wds z).map V.str) (by rw [← split_wds]; exact el_split (ev_var rfl) ev_c (by decide +kernel) (by omega)) fun p H2 hp e2 h2 => ?_
      obtain ⟨w2, eG, hpG⟩ := wi.new hp e2 h2
      generalize hGG : upd G p (.lst ((wds z).map V.str)) = G2 at w2 eG hpG
      have hoG : G2 o = some (.lst (ss.map V.str)) := eG _ _ ho
      have hlw0 : 0 < (wds z).length := List.length_pos_iff.mpr (wds_ne z)
      refine q_parW w2 (evw_sip (ev_var rfl) (ev_is (ev_len (ev_var rfl) (sq_of hpG)) (w := .int ((wds z).length : Int)) (by rw [List.length_map])) (by omega) (by omega)) (evw_sip (ev_var rfl) ev_c (by decide) (by decide)) fun xa xw H3 hxa hxw w3 => ?_
      obtain ⟨a5, rfl, at0, at1⟩ := hxa
      obtain ⟨way, rfl, way0, way1⟩ := hxw
      refine q_asgW (P := fun x => ∃ s ∈ ss, x = V.str s) w3 (evw_opR (ev_var rfl) (evw_sip (n := m + 2) (ev_var rfl) (ev_is (ev_len (ev_var rfl) (sq_of hoG)) (w := .int (ss.length : Int)) (by rw [List.length_map])) (by omega) (by omega)) fun y hy => ?_) fun xo H4 hxo w4 => ?_
      · obtain ⟨r, rfl, r0, r1⟩ := hy
        obtain ⟨j, rfl⟩ : ∃ j : Nat, r = j := ⟨r.toNat, by omega⟩
        have hj : j < ss.length := by omega
        exact ⟨_, ⟨_, List.getElem_mem hj, rfl⟩, rv_ixL (sq_of hoG) (atI_nat (by rw [List.getElem?_map, List.getElem?_eq_getElem hj] <;> rfl))⟩
      obtain ⟨one, hone, rfl⟩ := hxo
      have hol := hs2 one hone
      have htz := tot_wds z
      refine q_cut (M := fun σ' H' => ∃ (q : Addr) (ws : List Str) (G3 : Hp), σ' = [some (.ref v), some (.str z), some (.ref o), some (.int (i : Int)), some (.ref q), some (.int a5), some (.int way), some (.str one), x8] ∧ Ex G2 G3 ∧ Wd G3 v (m + 2) H' ∧ G3 q = some (.lst (ws.map V.str)) ∧ tot ws ≤ 2 * (z.length + 1) + 101) ?_ fun σ' H5 hM => ?_
      · -- the words are changed
        have fin : ∀ (ws : List Str) (q : Addr) (H5 H6 : Hp), Ex H4 H5 → H5 q = none → Ex H5 H6 → H6 q = some (.lst (ws.map V.str)) → tot ws ≤ 2 * (z.length + 1) + 101 → ∃ (q' : Addr) (ws : List Str) (G3 : Hp), [some (V.ref v), some (V.str z), some (V.ref o), some (V.int (i : Int)), some (V.ref q), some (V.int a5), some (V.int way), some (V.str one), x8] =
            [some (V.ref v), some (V.str z), some (V.ref o), some (V.int (i : Int)), some (V.ref q'), some (V.int a5), some (V.int way), some (V.str one), x8] ∧ Ex G2 G3 ∧ Wd G3 v (m + 2) H6 ∧ G3 q' = some (.lst (ws.map V.str)) ∧ tot ws ≤ 2 * (z.length + 1) + 101 := fun ws q H5 H6 e5 hq e6 h6 ht => by
          obtain ⟨w7, eG3, hq3⟩ := (w4.mono e5).new hq e6 h6
          exact ⟨q, ws, _, rfl, eG3, w7, hq3, ht⟩
        have stay : ∀ H5, Ex H4 H5 → ∃ (q' : Addr) (ws : List Str) (G3 : Hp), [some (V.ref v), some (V.str z), some (V.ref o), some (V.int (i : Int)), some (V.ref p), some (V.int a5), some (V.int way), some (V.str one), x8] =
            [some (V.ref v), some (V.str z), some (V.ref o), some (V.int (i : Int)), some (V.ref q'), some (V.int a5), some (V.int way), some (V.str one), x8] ∧ Ex G2 G3 ∧ Wd G3 v (m + 2) H5 ∧ G3 q' = some (.lst (ws.map V.str)) ∧ tot ws ≤ 2 * (z.length + 1) + 101 := fun H5 e5 =>
          ⟨p, wds z, G2, rfl, Evl.Ex.refl _, w4.mono e5, hpG, by omega⟩
        have hlen : ∀ {us : List Str}, us.Sublist (wds z) → us.length ≤ 9301 := fun h => Nat.le_trans h.length_le (by omega)
        refine s_if (et_test (ev_op (ev_var rfl) ev_c (rv_eq rfl))) (fun _ H5 e5 => ?_) (fun _ H5 e5 => ?_)
        · have hp5 := e5 _ _ (w4.ex _ _ hpG)
          obtain ⟨u1, c1, s1⟩ := cut_words (wds z) none (some a5)
          obtain ⟨u2, c2, s2⟩ := cut_words (wds z) (some (a5 + 1)) none
          have l1 := hlen s1
          have l2 := hlen s2
          have t1 := tot_sub s1
          have t2 := tot_sub s2
          refine s_asgL (xs := (u1 ++ [one] ++ u2).map V.str) ((show cutV ((wds z).map V.str) none (some a5) ++ [V.str one] ++ cutV ((wds z).map V.str) (some (a5 + 1)) none = (u1 ++ [one] ++ u2).map V.str by rw [c1, c2]; simp) ▸ el_cat (el_cat (el_sl (ev_var rfl) eo_none (eo_some (ev_var rfl)) (sq_of hp5)) (el_lst (ea_cons (ev_var rfl) ea_nil) (by show 1 ≤ 100000; decide)) ?_) (el_sl (ev_var rfl) (eo_some (ev_op (ev_var rfl) ev_c rv_I0)) eo_none (sq_of hp5)) ?_) fun q H6 hq e6 h6 => fin _ q H5 H6 e5 hq e6 h6 ?_
          · rw [c1, List.length_map]
            show _ + 1 ≤ _
            omega
          · rw [c1, c2, List.length_append, List.length_map, List.length_map]
            show _ + 1 + _ ≤ _
            omega
          · rw [tot_app, tot_app, tot_one]
            omega
        refine s_if (et_test (ev_op (ev_var rfl) ev_c (rv_eq rfl))) (fun _ H6 e6 => ?_) (fun _ H6 e6 => ?_)
        · have hp5 := (e5.trans e6) _ _ (w4.ex _ _ hpG)
          obtain ⟨u1, c1, s1⟩ := cut_words (wds z) none (some a5)
          obtain ⟨u2, c2, s2⟩ := cut_words (wds z) (some a5) none
          have l1 := hlen s1
          have l2 := hlen s2
          have t1 := tot_sub s1
          have t2 := tot_sub s2
          refine s_asgL (xs := (u1 ++ [one] ++ u2).map V.str) ((show cutV ((wds z).map V.str) none (some a5) ++ [V.str one] ++ cutV ((wds z).map V.str) (some a5) none = (u1 ++ [one] ++ u2).map V.str by rw [c1, c2]; simp) ▸ el_cat (el_cat (el_sl (ev_var rfl) eo_none (eo_some (ev_var rfl)) (sq_of hp5)) (el_lst (ea_cons (ev_var rfl) ea_nil) (by show 1 ≤ 100000; decide)) ?_) (el_sl (ev_var rfl) (eo_some (ev_var rfl)) eo_none (sq_of hp5)) ?_) fun q H7 hq e7 h7 => fin _ q H6 H7 (e5.trans e6) hq e7 h7 ?_
          · rw [c1, List.length_map]
            show _ + 1 ≤ _
            omega
          · rw [c1, c2, List.length_append, List.length_map, List.length_map]
            show _ + 1 + _ ≤ _
            omega
          · rw [tot_app, tot_app, tot_one]
            omega
        refine s_if (et_and (et_test (ev_op (ev_var rfl) ev_c (rv_eq rfl))) (fun _ => et_test (ev_op (ev_len (ev_var rfl) (sq_of ((e5.trans e6) _ _ (w4.ex _ _ hpG)))) ev_c rv_I0))) (fun _ H7 e7 => ?_) (fun _ H7 e7 => ?_)
        · have hp5 := ((e5.trans e6).trans e7) _ _ (w4.ex _ _ hpG)
          obtain ⟨u1, c1, s1⟩ := cut_words (wds z) none (some a5)
          obtain ⟨u2, c2, s2⟩ := cut_words (wds z) (some (a5 + 1)) none
          have l1 := hlen s1
          have l2 := hlen s2
          have t1 := tot_sub s1
          have t2 := tot_sub s2
          refine s_asgL (xs := (u1 ++ u2).map V.str) ((show cutV ((wds z).map V.str) none (some a5) ++ cutV ((wds z).map V.str) (some (a5 + 1)) none = (u1 ++ u2).map V.str by rw [c1, c2]; simp) ▸ el_cat (el_sl (ev_var rfl) eo_none (eo_some (ev_var rfl)) (sq_of hp5)) (el_sl (ev_var rfl) (eo_some (ev_op (ev_var rfl) ev_c rv_I0)) eo_none (sq_of hp5)) ?_) fun q H8 hq e8 h8 => fin _ q H7 H8 ((e5.trans e6).trans e7) hq e8 h8 ?_
          · rw [c1, c2, List.length_map, List.length_map]
            omega
          · rw [tot_app]
            omega
        refine s_when (et_test (ev_op (ev_var rfl) ev_c (rv_eq rfl))) (fun _ H8 e8 => ?_) (fun _ H8 e8 => stay H8 (((e5.trans e6).trans e7).trans e8))
        · have hp5 := (((e5.trans e6).trans e7).trans e8) _ _ (w4.ex _ _ hpG)
          obtain ⟨u1, c1, s1⟩ := cut_words (wds z) none (some a5)
          obtain ⟨u2, c2, s2⟩ := cut_words (wds z) (some a5) none
          have l1 := hlen s1
          have l2 := hlen s2
          have t1 := tot_sub s1
          have t2 := tot_sub s2
          obtain ⟨j, rfl⟩ : ∃ j : Nat, a5 = j := ⟨a5.toNat, by omega⟩
          have hj : j < (wds z).length := by omega
          have tm := tot_mem (List.getElem_mem hj)
          have h12 : tot u1 + tot u2 ≤ z.length + 1 := by
            have e1 : cutV ((wds z).map V.str) none (some (j : Int)) = ((wds z).take j).map V.str := by rw [Num.cutV_to, List.map_take]
            have e2 : cutV ((wds z).map V.str) (some (j : Int)) none = ((wds z).drop j).map V.str := by rw [Num.cutV_from, List.map_drop]
            have i1 : u1 = (wds z).take j := map_str_inj (c1.symm.trans e1)
            have i2 : u2 = (wds z).drop j := map_str_inj (c2.symm.trans e2)
            rw [i1, i2, ← tot_app, List.take_append_drop]
            omega
          refine s_asgL (xs := (u1 ++ [(wds z)[j]] ++ u2).map V.str) ((show cutV ((wds z).map V.str) none (some (j : Int)) ++ [V.str (wds z)[j]] ++ cutV ((wds z).map V.str) (some (j : Int)) none = (u1 ++ [(wds z)[j]] ++ u2).map V.str by rw [c1, c2]; simp) ▸ el_cat (el_cat (el_sl (ev_var rfl) eo_none (eo_some (ev_var rfl)) (sq_of hp5)) (el_lst (ea_cons (ev_op (ev_var rfl) (ev_var rfl) (rv_ixL (sq_of hp5) (atI_nat (by rw [List.getElem?_map, List.getElem?_eq_getElem hj] <;> rfl)))) ea_nil) (by show 1 ≤ 100000; decide)) (by
            rw [c1, List.length_map]
            show _ + 1 ≤ _
            omega)) (el_sl (ev_var rfl) (eo_some (ev_var rfl)) eo_none (sq_of hp5)) (by
            rw [c1, c2, List.length_append, List.length_map, List.length_map]
            show _ + 1 + _ ≤ _
            omega)) fun q H9 hq e9 h9 => fin _ q H8 H9 (((e5.trans e6).trans e7).trans e8) hq e9 h9 ?_
          rw [tot_app, tot_app, tot_one]
          omega
      obtain ⟨q', ws, G3, rfl, e3, w5, hq', hws⟩ := hM
      have htl := tot_len ws
      have hjl := tot_join ws
      refine q_asg (ev_joinL ev_c (ev_var rfl) (sq_of (w5.ex _ _ hq')) (by have : (ws.map (·.length)).sum + ws.length ≤ 2 * (z.length + 1) + 101 := hws; rw [show (" " : Str).length = 1 from rfl]; omega)) fun H6 e6 => ?_
      have w6 := w5.mono e6
      generalize hzz : Txt.join " " ws = z2 at hjl
      have hz2 : z2.length ≤ 2 * (z.length + 1) + 101 := by omega
      refine q_asgW (P := isI ((z2.length : Int) + 1)) w6 (evw_sip (n := m + 1) (ev_var rfl) (ev_op (ev_cb (ea_cons (ev_var rfl) ea_nil) (rc_lenS (by omega))) ev_c rv_I0) (by omega) (by omega)) fun xs H7 hxs w7 => ?_
      obtain ⟨spot, rfl, sp0, sp1⟩ := hxs
      obtain ⟨j, rfl⟩ : ∃ j : Nat, spot = j := ⟨spot.toNat, by omega⟩
      have eGG := eG.trans e3
      have fin : ∀ (z3 : Str) (k : Nat) H8, z3.length ≤ bound (i + 1) → m ≤ k → Wd G3 v k H8 → (∃ (z' : Str) (y3 y4 y5 y6 y7 y8 : Option V), [some (V.ref v), some (V.str z3), some (V.ref o), some (V.int (i : Int)), some (V.ref q'), some (V.int a5), some (V.int way), some (V.str one), some (V.int (j : Int))] =
          [some (V.ref v), some (V.str z'), some (V.ref o), y3, y4, y5, y6, y7, y8] ∧ z'.length ≤ bound (i + 1)) ∧ Wd G v m H8 := fun z3 k H8 h3 hk w8 => ⟨⟨z3, _, _, _, _, _, _, rfl, h3⟩, (w8.sub eGG).le hk⟩
      have hcut : (cutS z2 none (some (j : Int))).length + (cutS z2 (some (j : Int)) none).length ≤ z2.length := by
        rw [Num.cut_to, Num.cut_from, Num.S_len, Num.S_len, List.length_take, List.length_drop]
        have : z2.cps.toList.length = z2.length := Array.length_toList
        omega
      refine s_if (et_test (ev_op (ev_var rfl) ev_c (rv_eq rfl))) (fun _ H8 e8 => ?_) (fun _ H8 e8 => ?_)
      · refine s_asgW (P := fun x => ∃ r : Str, x = .str r ∧ r.length ≤ z2.length + 1) (w7.mono e8) (evw_opL (P := fun x => ∃ r : Str, x = .str r ∧ r.length + (cutS z2 (some (j : Int)) none).length ≤ z2.length + 1) (evw_opR (P := fun x => ∃ r : Str, x = .str r ∧ r.length ≤ 1) (ev_slS (ev_var rfl) eo_none (eo_some (ev_var rfl)) (by omega))
            (evw_imp (evw_pick (ea_cons ev_c (ea_cons ev_c (ea_cons ev_c (ea_cons ev_c (ea_cons ev_c (ea_cons ev_c (ea_cons ev_c (ea_cons ev_c ea_nil)))))))) (by show 8 ≤ 1000; decide) fun G' eG' => evw_sip (n := m) (ev_var rfl) ev_c (by decide) (by decide)) fun x hx => ?_) fun y hy => ?_) (ev_slS (ev_var rfl) (eo_some (ev_var rfl)) eo_none (by omega)) fun x hx => ?_) fun x H9 hx w9 => ?_
        · rcases List.mem_cons.mp hx with rfl | hx
          · exact ⟨_, rfl, by decide⟩
          rcases List.mem_cons.mp hx with rfl | hx
          · exact ⟨_, rfl, by decide⟩
          rcases List.mem_cons.mp hx with rfl | hx
          · exact ⟨_, rfl, by decide⟩
          rcases List.mem_cons.mp hx with rfl | hx
          · exact ⟨_, rfl, by decide⟩
          rcases List.mem_cons.mp hx with rfl | hx
          · exact ⟨_, rfl, by decide⟩
          rcases List.mem_cons.mp hx with rfl | hx
          · exact ⟨_, rfl, by decide⟩
          rcases List.mem_cons.mp hx with rfl | hx
          · exact ⟨_, rfl, by decide⟩
          cases List.mem_singleton.mp hx
          exact ⟨_, rfl, by decide⟩
        · obtain ⟨r, rfl, hr⟩ := hy
          exact ⟨_, ⟨_, rfl, by rw [lenApp]; omega⟩, rv_addS (by omega)⟩
        · obtain ⟨r, rfl, hr⟩ := hx
          exact ⟨_, ⟨_, rfl, by rw [lenApp]; omega⟩, rv_addS (by omega)⟩
        · obtain ⟨r, rfl, hr⟩ := hx
          exact fin r _ H9 (by omega) (Nat.le_refl _) w9
      refine s_if (et_test (ev_op (ev_var rfl) ev_c (rv_eq rfl))) (fun _ H9 e9 => ?_) (fun _ H9 e9 => ?_)
      · have hcut2 := cutS_len z2 (some ((j : Int) + 1)) none
        have hcut1 : (cutS z2 none (some (j : Int))).length + (cutS z2 (some ((j : Int) + 1)) none).length ≤ z2.length := by
          rw [show ((j : Int) + 1) = ((j + 1 : Nat) : Int) from rfl, Num.cut_to, Num.cut_from, Num.S_len, Num.S_len, List.length_take, List.length_drop]
          have : z2.cps.toList.length = z2.length := Array.length_toList
          omega
        exact s_asg (ev_op (ev_slS (ev_var rfl) eo_none (eo_some (ev_var rfl)) (by omega)) (ev_slS (ev_var rfl) (eo_some (ev_op (ev_var rfl) ev_c rv_I0)) eo_none (by omega)) (rv_addS (by omega))) fun HA eA => fin _ _ HA (by rw [lenApp]; omega) (Nat.le_succ _) (w7.mono ((e8.trans e9).trans eA))
      refine s_when (et_test (ev_op (ev_var rfl) ev_c (rv_eq rfl))) (fun _ HA eA => ?_) (fun _ HA eA => fin z2 _ HA (by omega) (Nat.le_succ _) (w7.mono ((e8.trans e9).trans eA)))
      refine s_asgW (w7.mono ((e8.trans e9).trans eA)) (evw_pick (ea_cons (ev_op (ev_var rfl) ev_c (rv_addS ?_)) (ea_cons (ev_op ev_c (ev_var rfl) (rv_addS ?_)) (ea_cons (ev_op (ev_op (ev_var rfl) ev_c (rv_addS ?_)) (ev_var rfl) (rv_addS ?_)) ea_nil))) (by show 3 ≤ 1000; decide) fun G' eG' => evw_sip (n := m) (ev_var rfl) ev_c (show (0 : Int) < 3 by decide) (show (3 : Int) < 1000000 by decide)) fun x HB hx wB => ?_
      · show _ + 1 ≤ _
        omega
      · show 1 + _ ≤ _
        omega
      · show _ + 2 ≤ _
        omega
      · rw [lenApp]
        show _ + 2 + _ ≤ _
        omega
      · rcases List.mem_cons.mp hx with rfl | hx
        · exact fin _ _ HB (by rw [lenApp]; show _ + 1 ≤ _; omega) (Nat.le_refl _) wB
        rcases List.mem_cons.mp hx with rfl | hx
        · exact fin _ _ HB (by rw [lenApp]; show 1 + _ ≤ _; omega) (Nat.le_refl _) wB
        cases List.mem_singleton.mp hx
        exact fin _ _ HB (by rw [lenApp, lenApp]; show _ + 2 + _ ≤ _; omega) (Nat.le_refl _) wB
    · obtain ⟨⟨z, x3, x4, x5, x6, x7, x8, rfl, hz⟩, wi⟩ := hP
      refine s_ret (ev_slS (ev_var rfl) eo_none (eo_some ev_c) ?_) fun H2 e2 => q _ H2 ?_ ((wi.mono e2).le (by omega))
      · have : bound r.toNat ≤ 19000 := by
          unfold bound
          split
          · decide
          · split <;> decide
        omega
      · have e4 : (4000 : Int) = ((4000 : Nat) : Int) := rfl
        rw [e4, Num.cut_to, Num.S_len, List.length_take]
        exact Nat.min_le_left _ _
end
end K83
end

section
set_option Elab.async false
set_option linter.all false
set_option maxRecDepth 100000
set_option maxHeartbeats 2000000
namespace K83
open PySem PySem.Spec PyProof.Rows L2 Ov Evl Num TxM
def spSome (K : PySem.W.Frag) : Sp := fun vs H Q _ => ∃ (G : Hp) (v : Addr) (n : Nat) (many : Int), vs = [.ref v, .int many] ∧ Wd G v (n + 600) H ∧ 1 ≤ many ∧ many ≤ 120 ∧
  ∀ (t : Addr) (xs : List V) (ps : List Pt) (G' H' : Hp), Ex G G' → Wd G' v n H' → G' t = some (.lst xs) → DpAll K G' xs (ps.map ptD) → ps.length ≤ 120 → (∀ p ∈ ps, inR p) → Q (.ref t) H'
section
variable {P : Program} {w : World} {K : PySem.W.Frag} {mg : Str → Option Value} {bh : Heap}
theorem ok_law_some {f : Addr} {fd : FuncData} (F : Fun K "_law_some" "_law_some" s__law_some f fd) (T : Txt K mg) (D__law_sip : Dn P w K mg bh CX0 1 "_law_sip" ["vat", "size"] spSip) : FnOk P w K mg bh CX0 2 f fd ["vat", "many"] (spSome K) := by
  refine F.ok sc__law_some (fun vs H Q E h => ?_) (fun cdv A outer s H vs Q E hr1 h => ?_)
  · obtain ⟨G, v, n, many, rfl, _⟩ := h
    rfl
  · obtain ⟨G, v, n, many, rfl, hw, hm0, hm1, q⟩ := h
    refine ⟨_, (pss_cons (ps_set (i := 2) sc__law_some.nd rfl (Or.inr rfl) (pe_listRg rfl rfl T.f_list (prg_1 rfl T.f_range pe_int)))
  (pss_cons (ps_set (i := 3) sc__law_some.nd rfl (Or.inl rfl) (pe_callB cr_sortedI rfl T.f_sorted (by decide +kernel) (pa_cons (pe_lc (te := tBM K "list" rPopAt (tVar 2) (tCons (tCall spSip [] E0 (tCons (tVar 0) (tCons (tCB (rLenS K) (tCons (tVar 2) tNil)) tNil))) tNil)) (own := [("turn", 7)]) (g := gName 7) (tt := tYes) (by rfl) sc__law_some.nd (pi_range1 rfl T.f_range (pa_cons (pv 1) pa_nil)) (blkOk_by (own := [("turn", 7)]) (N := ["vat", "many", "left", "spots", "found", "spot", "begin", "turn"]) (sc := defScope s__law_some) (by decide +kernel)) (fun _ _ _ _ _ => pg_name (i := 7) sc__law_some.nd rfl (.inl rfl)) (fun _ _ _ _ _ => pts_nil) (fun _ _ _ _ _ => (pe_bm PySem.F.plainAttrs_list PySem.F.slot_list_pop PySem.F.type_list_pop mt_popAt (pv 2) (pa_cons (pe_d D__law_sip hr1 pass0 (pa_cons (pv 0) (pa_cons (pe_callB call_len_seq rfl T.f_len (by decide +kernel) (pa_cons (pv 2) pa_nil)) pa_nil))) pa_nil)))) pa_nil)))
  (pss_cons (ps_set (i := 4) sc__law_some.nd rfl (Or.inl rfl) (pe_lst pa_nil))
  (pss_cons (ps_for PassesOwn.never rfl (pi_list (pv 3)) (pg_name (i := 5) sc__law_some.nd rfl (.inl rfl))
   (pss_cons (ps_set (i := 6) sc__law_some.nd rfl (Or.inl rfl) (pe_d D__law_sip hr1 pass0 (pa_cons (pv 0) (pa_cons pe_int pa_nil))))
  (pss_one (ps_expr (pe_bm PySem.F.plainAttrs_list PySem.F.slot_list_append PySem.F.type_list_append mt_append (pv 4) (pa_cons (pe_tup (pa_cons (pv 5) (pa_cons (pe_d D__law_sip hr1 pass0 (pa_cons (pv 0) (pa_cons pe_int pa_nil))) (pa_cons (pv 6) (pa_cons (pe_op op_add pe_int (pe_d D__law_sip hr1 pass0 (pa_cons (pv 0) (pa_cons (pe_op op_sub pe_int (pv 6)) pa_nil)))) pa_nil))))) pa_nil))))))
  (pss_one (ps_ret (pv 4))))))), ?_⟩
    refine q_asgL (xs := rgV 0 120) (el_rg ev_c (by decide) (by decide)) fun L H1 hL e1 h1 => ?_
    have w1 := hw.mono e1
    have hGL : G L = none := fresh_back hw.ex hL
    have hvL : v ≠ L := by
      obtain ⟨u, hu⟩ := hw.vat.is
      exact ne_of_none hu hL
    have hrg : rgV 0 120 = ((List.range 120).map fun (i : Nat) => (i : Int)).map V.int := by decide +kernel
    rw [hrg] at h1
    have hB : ∀ x ∈ (List.range 120).map fun (i : Nat) => (i : Int), 0 ≤ x ∧ x < 120 := fun x hx => by
      obtain ⟨i, hi, rfl⟩ := List.mem_map.mp hx
      have := List.mem_range.mp hi
      omega
    have w2 : Wd G v ((n + 3 * 120 + 1) + many.toNat) H1 := w1.le (by omega)
    refine q_asgSort (lcPop (B := 120) hGL hvL w2 h1 hB (by omega) (by rw [List.length_map, List.length_range]; omega) (by decide) (ev_var rfl) (fun x => rfl) (fun x => rfl) (fun x => rfl) fun l ys H2 hys hyl w3 hl2 => ⟨l, ys, rfl, sq_of hl2, fun zs p hperm _ hp => ?_⟩)
    have hzs : ∀ y ∈ zs, 0 ≤ y ∧ y < 120 := fun y hy => hys y (hperm.mem_iff.mp hy)
    have hzl : zs.length = many.toNat := by rw [hperm.length_eq, hyl]
    obtain ⟨w4, eG1, hpG⟩ := w3.new hp (Evl.Ex.new hp) (o := .lst (zs.map V.int)) upd_same
    show tSeq _ _ _ _ (upd H2 p (.lst (zs.map V.int)))
    generalize upd H2 p (.lst (zs.map V.int)) = H3 at w4
    generalize upd G p (.lst (zs.map V.int)) = G1 at w4 eG1 hpG
    refine q_asgL (el_lst ea_nil (Nat.zero_le _)) fun f H4 hf e4 h4 => ?_
    have w5 := w4.mono e4
    have hGf : G1 f = none := fresh_back w4.ex hf
    have hvf : v ≠ f := by
      obtain ⟨u, hu⟩ := w4.vat.is
      exact ne_of_none hu hf
    refine q_forLn (xs := zs.map V.int) (ev_var rfl) (sq_of (w5.ex _ _ hpG)) (fun i σ' H' => (∃ x5 x6 x7, σ' = [some (.ref v), some (.int many), some (.ref L), some (.ref p), some (.ref f), x5, x6, x7]) ∧ ∃ (Gi : Hp) (xs : List V) (ps : List Pt), Ex G1 Gi ∧ Gi f = none ∧ Wd Gi v (n + 3 * (120 - i) + 1) H' ∧ H' f = some (.lst xs) ∧ DpAll K Gi xs (ps.map ptD) ∧ ps.length = i ∧ ∀ u ∈ ps, inR u)
      (fun H5 e5 => ⟨⟨_, _, _, rfl⟩, G1, [], [], Evl.Ex.refl _, hGf, w5.mono e5, e5 _ _ h4, .nil, rfl, fun u hu => by cases hu⟩) (fun i σ' H' _ ⟨_, Gi, _, _, eGi, _, wi, _⟩ => sq_of (wi.ex _ _ (eGi _ _ hpG))) (fun i x σ' H' hi hP => ?_) (fun σ' H' hP => ?_)
    · obtain ⟨⟨x5, x6, x7, rfl⟩, Gi, xs, ps, eGi, hgf, wi, hfx, hdp, hpl, hin⟩ := hP
      rw [List.getElem?_map, Option.map_eq_some_iff] at hi
      obtain ⟨sp, hsp, rfl⟩ := hi
      have hspB := hzs sp (List.mem_of_getElem? hsp)
      have hi120 : i < 120 := by
        have := (List.getElem?_eq_some_iff.mp hsp).1
        omega
      have wf := wd_add wi hvf hfx
      have hwk : n + 3 * (120 - i) + 1 = (n + 3 * (120 - (i + 1)) + 1) + 3 := by omega
      rw [hwk] at wf
      refine q_asgW wf (evw_sip (size := 8) (ev_var rfl) ev_c (by decide) (by decide)) fun xb H5 hxb w6 => ?_
      obtain ⟨bg, rfl, b0, b1⟩ := hxb
      have hf6 : (upd Gi f (.lst xs)) f = some (.lst xs) := upd_same
      refine ⟨_, rfl, Or.inl ⟨rfl, _, sq_of (w6.ex _ _ hf6)⟩, ?_⟩
      refine ⟨_, rfl, ?_⟩
      refine evw_sip (size := 6) (ev_var rfl) ev_c (by decide) (by decide) H5 w6 _ fun y1 H6 hy1 w7 => ?_
      refine ⟨_, rfl, ?_⟩
      refine evw_opR (G := upd Gi f (.lst xs)) (P := isI (8 - bg)) (P2 := fun x => ∃ r : Int, x = .int r ∧ 1 ≤ r ∧ r ≤ 8 - bg) ev_c (evw_sip (size := 8 - bg) (ev_var rfl) (ev_op ev_c (ev_var rfl) rv_I0) (by omega) (by omega)) (fun x hx => ?_) H6 w7 _ fun y2 H7 hy2 w8 => ?_
      · obtain ⟨r, rfl, r0, r1⟩ := hx
        exact ⟨_, ⟨_, rfl, by omega, by omega⟩, rv_I0⟩
      obtain ⟨c1, rfl, c10, c11⟩ := hy1
      obtain ⟨c2, rfl, c20, c21⟩ := hy2
      refine ⟨sz_of (by show 4 ≤ 100000; decide), fun t ht => ?_⟩
      obtain ⟨w9, eG9, ht9⟩ := w8.new ht (Evl.Ex.new ht) (o := .tup [.int sp, .int c1, .int bg, .int c2]) upd_same
      have hf9 := eG9 _ _ hf6
      have hpr : inR (sp, c1, bg, c2) := by
        unfold inR
        dsimp only
        omega
      have hxl : xs.length = i := by rw [(dpAll_at hdp).1, List.length_map, hpl]
      refine ⟨f, xs, _, rfl, rfl, w9.ex _ _ hf9, sz_lt (by omega), ?_⟩
      obtain ⟨wA, hfA⟩ := hide_wd2 (zs := xs ++ [.ref t]) w9 hf9
      have eA : Ex Gi (hideV (upd (upd Gi f (.lst xs)) t (.tup [.int sp, .int c1, .int bg, .int c2])) f) := fun b o hb => by
        have hbf : b ≠ f := ne_of_none hb hgf
        rw [hide_ne hbf]
        exact eG9 _ _ (by rw [upd_ne hbf]; exact hb)
      have htf : t ≠ f := fun z => by
        rw [z, w8.ex _ _ hf6] at ht
        cases ht
      refine ⟨⟨_, _, _, rfl⟩, _, xs ++ [.ref t], ps ++ [(sp, c1, bg, c2)], eGi.trans eA, hfA, wA, upd_same, ?_, by simp [hpl], fun u hu => ?_⟩
      · rw [List.map_append]
        exact DpAll.snoc (DpAll.ex eA _ hdp) (.tup (SqT.of (xs := tupV (sp, c1, bg, c2)) (by rw [hide_ne htf]; exact ht9)) (dpAll_of (ns := ptI (sp, c1, bg, c2))))
      · rcases List.mem_append.mp hu with hu | hu
        · exact hin u hu
        · cases List.mem_singleton.mp hu
          exact hpr
    · obtain ⟨⟨x5, x6, x7, rfl⟩, Gi, xs, ps, eGi, hgf, wi, hfx, hdp, hpl, hin⟩ := hP
      rw [List.length_map] at hpl
      have wf := wd_add wi hvf hfx
      refine s_ret (ev_var rfl) fun H5 e5 => q f xs ps _ H5 ((eG1.trans eGi).trans (Evl.Ex.new hgf)) ((wf.mono e5).le (by omega)) upd_same (DpAll.ex (Evl.Ex.new hgf) _ hdp) (by omega) hin
end
end K83
end

section
set_option Elab.async false
set_option linter.all false
set_option maxRecDepth 100000
set_option maxHeartbeats 4000000
set_option profiler true
set_option profiler.threshold 2000
namespace K83
open PySem PySem.Spec PyProof.Rows L2 Ov Evl TxM
def odd1 : List Str := ["", "-", "0:0+0*1", "119:5+7*1", "119:0+0*8", "120:0+0*1", "-1:0+0*1", "0:6+0*1", "0:0+8*1"]
def odd2 : List Str := ["0:0+0*0", "0:0+0*9", "0:0+7*2", "0:0+1*8", "00:0+0*1", "0:0+0*01", "0:0+0", "0:0*1", "0:0+0*1*1"]
def odd3 : List Str := [":0+0*1", "0:+0*1", "0:0+*1", "0:0-0*1", "5:1+1*1:2", "0:0+0*-1", "0:0+0*1_", "0@1", "0:0+-0*1"]
def odd4 : List Str := [repS "9" (60 : Int).toNat ++ ":0+0*1", "0+0:0*1", "1:0+0*1\n"]
def odd : List Str := odd1 ++ odd2 ++ odd3 ++ odd4
def wholeL : List Str := (List.range 120).map fun (i : Nat) => (toString (i : Int) : Str) ++ ":0+0*1"
def wholeS : Str := Txt.join " " wholeL
def more1 (W : Str) : List Str := [W, W ++ " 120:0+0*1", W ++ " 119:0+0*1", "5:0+0*1 5:1+0*1", " ", "1:0+0*1 "]
def more2 : List Str := ["5:0+0*1 4:0+0*1"]
theorem odd_ok : 0 < odd.length ∧ odd.length ≤ 100 ∧ ∀ s ∈ odd, s.length ≤ 100 := by decide +kernel
theorem wholeL_ok : (wholeL.map (·.length)).sum + wholeL.length * 1 ≤ 4000 := by decide +kernel
theorem whole_len : wholeS.length ≤ 4000 := Nat.le_trans (join_len " " wholeL) (by
  rw [show (" " : Str).length = 1 from rfl]
  exact wholeL_ok)
theorem moreV (W : Str) : (odd ++ more1 W ++ more2).map V.str = (odd ++ more1 W).map V.str ++ [.str "5:0+0*1 4:0+0*1"] := List.map_append
theorem more_len (W : Str) : ((odd ++ more1 W ++ more2).map V.str).length = 37 := rfl
theorem more_ok {W : Str} (hw : W.length ≤ 4000) : ∀ s ∈ odd ++ more1 W ++ more2, s.length ≤ 5000 := fun s hs => by
  rcases List.mem_append.mp hs with hs | hs
  · rcases List.mem_append.mp hs with hs | hs
    · have := odd_ok.2.2 s hs
      omega
    · rcases List.mem_cons.mp hs with rfl | hs
      · omega
      rcases List.mem_cons.mp hs with rfl | hs
      · rw [lenApp]
        show _ + 10 ≤ 5000
        omega
      rcases List.mem_cons.mp hs with rfl | hs
      · rw [lenApp]
        show _ + 10 ≤ 5000
        omega
      rcases List.mem_cons.mp hs with rfl | hs
      · decide +kernel
      rcases List.mem_cons.mp hs with rfl | hs
      · decide +kernel
      cases List.mem_singleton.mp hs
      decide +kernel
  · cases List.mem_singleton.mp hs
    decide +kernel
def spLaw (K : PySem.W.Frag) : Sp := fun vs H Q _ => ∃ (a : Addr) (ns : List Int), vs = [.ref a] ∧ SqL K H a (ns.map V.int) ∧ ns.length ≤ 63 ∧ RetV (.bl true) H Q
section
variable {P : Program} {w : World} {K : PySem.W.Frag} {mg : Str → Option Value} {bh : Heap}
theorem ok_law {f : Addr} {fd : FuncData} (F : Fun K "law" "law" s_law f fd) (T : Txt K mg) (D__law_backs : Dn P w K mg bh CX0 5 "_law_backs" [] spBacks) (D__law_vat : Dn P w K mg bh CX0 5 "_law_vat" ["script", "k"] (spVat K))
    (D__law_sip : Dn P w K mg bh CX0 5 "_law_sip" ["vat", "size"] spSip) (D__law_bent : Dn P w K mg bh CX0 5 "_law_bent" ["vat", "given", "odd"] (spBent K)) (D__law_right : DnG P w K mg bh CX0 5 "_law_right" ["given", "backs"] spRight)
    (D_write_parts : Dn P w K mg bh CX0 5 "write_parts" ["parts"] (spWrite K)) (D__law_some : Dn P w K mg bh CX0 5 "_law_some" ["vat", "many"] (spSome K)) (D__law_word : Dn P w K mg bh CX0 5 "_law_word" ["one"] (spWord K)) : FnG P w K mg bh CX0 6 f fd ["script"] (spLaw K) := by
  refine FnG.fun_ F sc_law (fun vs H Q E h => ?_) (fun cdv A outer s H vs Q E hgu hr1 h => ?_)
  · obtain ⟨a, ns, rfl, _⟩ := h
    rfl
  · obtain ⟨a, ns, rfl, hS, hl, q⟩ := h
    have hr := hr1
    refine ⟨_, (pss_cons (ps_set (i := 1) sc_law.nd rfl (Or.inr rfl) (pe_d0 D__law_backs hr1 pass0))
  (pss_cons (ps_set (i := 2) sc_law.nd rfl (Or.inl rfl) (pe_lst (pa_cons pe_str (pa_cons pe_str (pa_cons pe_str (pa_cons pe_str (pa_cons pe_str (pa_cons pe_str (pa_cons pe_str (pa_cons pe_str (pa_cons pe_str pa_nil)))))))))))
  (pss_cons (ps_set (i := 2) sc_law.nd rfl (Or.inl rfl) (pe_op op_cat (pv 2) (pe_lst (pa_cons pe_str (pa_cons pe_str (pa_cons pe_str (pa_cons pe_str (pa_cons pe_str (pa_cons pe_str (pa_cons pe_str (pa_cons pe_str (pa_cons pe_str pa_nil))))))))))))
  (pss_cons (ps_set (i := 2) sc_law.nd rfl (Or.inl rfl) (pe_op op_cat (pv 2) (pe_lst (pa_cons pe_str (pa_cons pe_str (pa_cons pe_str (pa_cons pe_str (pa_cons pe_str (pa_cons pe_str (pa_cons pe_str (pa_cons pe_str (pa_cons pe_str pa_nil))))))))))))
  (pss_cons (ps_set (i := 2) sc_law.nd rfl (Or.inl rfl) (pe_op op_cat (pv 2) (pe_lst (pa_cons (pe_op op_add_str (pe_op op_repS pe_str pe_int) pe_str) (pa_cons pe_str (pa_cons pe_str pa_nil))))))
  (pss_cons (ps_for (passes_of rfl) rfl (pi_range1 rfl T.f_range (pa_cons (pe_callB (call_max2 rfl) rfl T.f_max (by decide +kernel) (pa_cons pe_int (pa_cons (pe_callB (call_min2 rfl) rfl T.f_min (by decide +kernel) (pa_cons pe_int (pa_cons (pe_callB call_len_seq rfl T.f_len (by decide +kernel) (pa_cons (pv 0) pa_nil)) pa_nil))) pa_nil))) pa_nil)) (pg_name (i := 3) sc_law.nd rfl (.inl rfl))
   (pss_cons (ps_set (i := 4) sc_law.nd rfl (Or.inl rfl) (pe_d D__law_vat hr1 pass0 (pa_cons (pv 0) (pa_cons (pv 3) pa_nil))))
  (pss_one (ps_for (passes_of rfl) rfl (pi_list (pe_lst (pa_cons (pe_op op_add pe_int (pe_d D__law_sip hr1 pass0 (pa_cons (pv 4) (pa_cons pe_int pa_nil)))) (pa_cons (pe_ix ix_list (pe_lst (pa_cons pe_int (pa_cons pe_int (pa_cons pe_int (pa_cons (pe_op op_add pe_int (pe_d D__law_sip hr1 pass0 (pa_cons (pv 4) (pa_cons pe_int pa_nil)))) pa_nil))))) (pe_d D__law_sip hr1 pass0 (pa_cons (pv 4) (pa_cons pe_int pa_nil))) (fun _ _ => rfl)) pa_nil)))) (pg_name (i := 5) sc_law.nd rfl (.inl rfl))
   (pss_cons (ps_set (i := 6) sc_law.nd rfl (Or.inl rfl) (pe_d D__law_some hr1 pass0 (pa_cons (pv 4) (pa_cons (pv 5) pa_nil))))
  (pss_cons (ps_set (i := 7) sc_law.nd rfl (Or.inl rfl) (pe_join pe_str (pe_lc (own := [("one", 10)]) (g := gName 10) (tt := tYes) (by rfl) sc_law.nd (pi_list (pv 6)) (blkOk_by (own := [("one", 10)]) (N := ["script", "backs", "odd", "k", "vat", "many", "some", "given", "step", "whole", "one", "spot"]) (sc := defScope s_law) (by decide +kernel)) (fun _ _ _ _ _ => pg_name (i := 10) sc_law.nd rfl (.inl rfl)) (fun _ _ _ _ _ => pts_nil) (fun _ _ _ _ _ => (pe_d D__law_word hr1 pass0 (pa_cons (pv 10) pa_nil))))))
  (pss_cons (ps_if (PW.pt (pw_or (pt_cmpR op_ne (pe_d D_write_parts hr1 pass0 (pa_cons (pv 6) pa_nil)) (pv 7) (nomark _)) (pw_or1 (pt_not (pt_val (pe_dg D__law_right hgu hr1 (passes_at pass0) (pa_cons (pv 7) (pa_cons (pv 1) pa_nil))))))))
   (pss_one (ps_ret pe_bl))
   pss_nil)
  (pss_one (ps_for (passes_of rfl) rfl (pi_range1 rfl T.f_range (pa_cons pe_int pa_nil)) (pg_name (i := 8) sc_law.nd rfl (.inl rfl))
   (pss_one (ps_if (pt_not (pt_val (pe_dg D__law_right hgu hr1 (passes_at pass0) (pa_cons (pe_d D__law_bent hr1 pass0 (pa_cons (pv 4) (pa_cons (pv 7) (pa_cons (pv 2) pa_nil)))) (pa_cons (pv 1) pa_nil)))))
   (pss_one (ps_ret pe_bl))
   pss_nil)))))))))))
  (pss_cons (ps_set (i := 9) sc_law.nd rfl (Or.inl rfl) (pe_join pe_str (pe_lc (own := [("spot", 11)]) (g := gName 11) (tt := tYes) (by rfl) sc_law.nd (pi_range1 rfl T.f_range (pa_cons pe_int pa_nil)) (blkOk_by (own := [("spot", 11)]) (N := ["script", "backs", "odd", "k", "vat", "many", "some", "given", "step", "whole", "one", "spot"]) (sc := defScope s_law) (by decide +kernel)) (fun _ _ _ _ _ => pg_name (i := 11) sc_law.nd rfl (.inl rfl)) (fun _ _ _ _ _ => pts_nil) (fun _ _ _ _ _ => (pe_op op_add_str (pe_callTy call_str_int rfl T.f_str (by decide +kernel) (pa_cons (pv 11) pa_nil)) pe_str)))))
  (pss_cons (ps_set (i := 6) sc_law.nd rfl (Or.inl rfl) (pe_op op_cat (pv 2) (pe_lst (pa_cons (pv 9) (pa_cons (pe_op op_add_str (pv 9) pe_str) (pa_cons (pe_op op_add_str (pv 9) pe_str) (pa_cons pe_str (pa_cons pe_str (pa_cons pe_str pa_nil)))))))))
  (pss_cons (ps_expr (pe_bm PySem.F.plainAttrs_list PySem.F.slot_list_append PySem.F.type_list_append mt_append (pv 6) (pa_cons pe_str pa_nil)))
  (pss_one (ps_ret (pe_cmpR (op_eqD hr.units) (pe_lc (own := [("given", 7)]) (g := gName 7) (by rfl) sc_law.nd (pi_list (pv 6)) (blkOk_by (own := [("given", 7)]) (N := ["script", "backs", "odd", "k", "vat", "many", "some", "given", "step", "whole", "one", "spot"]) (sc := defScope s_law) (by decide +kernel)) (fun _ _ _ _ _ => pg_name (i := 7) sc_law.nd rfl (.inl rfl)) (fun _ _ _ _ _ => pts_one (pt_not (pt_val (pe_dg D__law_right hgu hr1 (passes_at pass0) (pa_cons (pv 7) (pa_cons (pv 1) pa_nil)))))) (fun _ _ _ _ _ => (pv 7))) (pe_lst pa_nil) (nomark _))))))))))))), ?_⟩
    refine q_asgN (P := fun H p => Whole H p) (fun H1 e1 Q' q' => ⟨rfl, fun t H2 ht e2 hW => q' t H2 ht e2 hW⟩) fun wh H1 h0 e1 hW => ?_
    refine q_asgL (xs := odd1.map V.str) (el_lst (ea_cons ev_c (ea_cons ev_c (ea_cons ev_c (ea_cons ev_c (ea_cons ev_c (ea_cons ev_c (ea_cons ev_c (ea_cons ev_c (ea_cons ev_c ea_nil))))))))) (by show 9 ≤ 100000; decide)) fun p1 H2 hp1 e2 h2 => ?_
    refine q_asgL (xs := (odd1 ++ odd2).map V.str) (el_catV (xs := odd1.map V.str) (ys := odd2.map V.str) (ev_var rfl) h2 (el_lst (ea_cons ev_c (ea_cons ev_c (ea_cons ev_c (ea_cons ev_c (ea_cons ev_c (ea_cons ev_c (ea_cons ev_c (ea_cons ev_c (ea_cons ev_c ea_nil))))))))) (by show 9 ≤ 100000; decide)) (by show 9 + 9 ≤ 100000; decide)) fun p2 H3 hp2 e3 h3 => ?_
    refine q_asgL (xs := (odd1 ++ odd2 ++ odd3).map V.str) (el_catV (xs := (odd1 ++ odd2).map V.str) (ys := odd3.map V.str) (ev_var rfl) h3 (el_lst (ea_cons ev_c (ea_cons ev_c (ea_cons ev_c (ea_cons ev_c (ea_cons ev_c (ea_cons ev_c (ea_cons ev_c (ea_cons ev_c (ea_cons ev_c ea_nil))))))))) (by show 9 ≤ 100000; decide)) (by show 18 + 9 ≤ 100000; decide)) fun p3 H3b hp3 e3b h3b => ?_
    refine q_asgL (xs := odd.map V.str) (el_catV (xs := (odd1 ++ odd2 ++ odd3).map V.str) (ys := odd4.map V.str) (ev_var rfl) h3b (el_lst (ea_cons (ev_op (ev_op ev_c ev_c (rv_repS (by decide) (by decide) (by decide +kernel) (by decide +kernel))) ev_c (rv_addS (by decide +kernel))) (ea_cons ev_c (ea_cons ev_c ea_nil))) (by show 3 ≤ 100000; decide)) (by show 27 + 3 ≤ 100000; decide)) fun o H4 hp4 e4 h4 => ?_
    have e14 := ((e2.trans e3).trans e3b).trans e4
    have hW4 : Whole H4 wh := hW.ex e14
    have e04 := e1.trans e14
    have hS4 := ex_l e04 hS
    clear h2 h3 h3b hp1 hp2 hp3 hp4
    refine q_forR1 (n := if (if (ns.length : Int) < 4 then (ns.length : Int) else 4) > 1 then (if (ns.length : Int) < 4 then (ns.length : Int) else 4) else 1) (ea_cons (ev_cb (ea_cons ev_c (ea_cons (ev_cb (ea_cons ev_c (ea_cons (ev_is (ev_len (ev_var rfl) hS4) (by rw [List.length_map])) ea_nil)) (fun H1 _ _ q => ⟨_, _, rfl, q H1 (Evl.Ex.refl _)⟩)) ea_nil)) (fun H1 _ _ q => ⟨_, _, rfl, q H1 (Evl.Ex.refl _)⟩)) ea_nil) (by
        constructor
        · split
          · split <;> omega
          · omega
        · split
          · split <;> omega
          · omega) (fun i σ' H' => (∃ x3 x4 x5 x6 x7 x8 x9 x10 x11, σ' = [some (.ref a), some (.ref wh), some (.ref o), x3, x4, x5, x6, x7, x8, x9, x10, x11]) ∧ Ex H4 H') (fun H5 e5 => ⟨⟨_, _, _, _, _, _, _, _, _, rfl⟩, e5⟩) (fun i σ' H' hi hP => ?_) (fun σ' H' hP => ?_)
    · obtain ⟨⟨x3, x4, x5, x6, x7, x8, x9, x10, x11, rfl⟩, hx⟩ := hP
      have hik : (i : Int) < 64 := by
        refine Int.lt_of_lt_of_le hi ?_
        split
        · split <;> omega
        · omega
      refine q_asgN (P := fun H p => VatN H p 900000000) (en_call (ea_cons (ev_var rfl) (ea_cons (ev_var rfl) ea_nil)) fun H5 e5 Q' q' => ⟨a, ns, _, rfl, ex_l (hx.trans e5) hS4, hl, by omega, hik, fun p H6 hp e6 hv => q' p H6 hp e6 hv⟩) fun v H5 hv0 e5 hv => ?_
      have w0 : Wd H' v 2003 H5 := (⟨hv0, e5, hv⟩ : Wd H' v 900000000 H5).le (by decide)
      have one : ∀ (B : Int) (y : V), isI B y → ∃ z, (∃ r : Int, z = .int r ∧ 1 ≤ r ∧ r ≤ B) ∧ RV (rI0 fun i j => V.int (i + j)) (.int 1) y H' z := fun B y hy => by
        obtain ⟨r, rfl, r0, r1⟩ := hy
        exact ⟨_, ⟨_, rfl, by omega, by omega⟩, rv_I0⟩
      refine s_forL2W w0 (evw_opR ev_c (evw_sip (n := 2002) (ev_var rfl) ev_c (by decide) (by decide)) (one 5)) (evw_pickW ev_c ev_c ev_c (evw_opR ev_c (evw_sip (n := 2001) (ev_var rfl) ev_c (by decide) (by decide)) (one 120)) fun G' eG' => evw_sip (n := 2000) (ev_var rfl) ev_c (by decide) (by decide)) fun y1 y2 l G1 H6 hy1 hy2 eG1 hlG w1 => ?_
      have hys : ∀ (j : Nat) (y : V), [y1, y2][j]? = some y → ∃ r : Int, y = .int r ∧ 1 ≤ r ∧ r ≤ 120 := fun j y hj => by
        have hm : y ∈ [y1, y2] := List.mem_of_getElem? hj
        rcases List.mem_cons.mp hm with rfl | hm
        · obtain ⟨r, rfl, r0, r1⟩ := hy1
          exact ⟨r, rfl, r0, by omega⟩
        · cases List.mem_singleton.mp hm
          rcases hy2 with rfl | rfl | rfl | ⟨r, rfl, r0, r1⟩
          · exact ⟨_, rfl, by decide, by decide⟩
          · exact ⟨_, rfl, by decide, by decide⟩
          · exact ⟨_, rfl, by decide, by decide⟩
          · exact ⟨r, rfl, r0, by omega⟩
      have eH4 : Ex H4 G1 := hx.trans eG1
      have hW1 := hW4.ex eH4
      have ho1 : G1 o = some (.lst (odd.map V.str)) := eH4 _ _ h4
      refine s_forLn (xs := [y1, y2]) ev_c (sq_of (w1.ex _ _ hlG)) (fun j σ' H' => (∃ x5 x6 x7 x8 x9 x10 x11, σ' = [some (.ref a), some (.ref wh), some (.ref o), some (.int (i : Int)), some (.ref v), x5, x6, x7, x8, x9, x10, x11]) ∧ Wd G1 v (2000 - 1000 * j) H') (fun H7 e7 => ⟨⟨_, _, _, _, _, _, _, rfl⟩, w1.mono e7⟩) (fun j σ' H' _ ⟨_, w⟩ => sq_of (w.ex _ _ hlG)) (fun j y σ' H' hj hP => ?_) (fun σ' H' hP => ?_)
      · obtain ⟨⟨x5, x6, x7, x8, x9, x10, x11, rfl⟩, w⟩ := hP
        obtain ⟨r, rfl, r0, r1⟩ := hys j y hj
        have hj2 : j < 2 := (List.getElem?_eq_some_iff.mp hj).1
        have w2 : Wd G1 v ((2000 - 1000 * (j + 1) + 11 * 4) + 600) H' := w.le (by omega)
        refine q_asgR (r_call (ea_cons (ev_var rfl) (ea_cons (ev_var rfl) ea_nil)) fun H7 e7 => ⟨G1, v, _, r, rfl, w2.mono e7, r0, r1, fun p xs ps G2 H8 eG2 w3 hxs hxd hpl hpin => ?_⟩)
        have hsome : Dp K G2 (.ref p) (ptsD ps) := dp_lst hxs hxd
        have hoks := ok_of ⟨by omega, hpin⟩
        have hclen : (codePt ps).length ≤ 4000 := by
          have h1 := join_len " " (ps.map word4)
          have h2 := codePt_sum hoks
          rw [List.length_map, show (" " : Str).length = 1 from rfl] at h1
          unfold codePt
          omega
        have hlxs : xs.length = ps.length := by rw [(dpAll_at hxd).1, List.length_map]
        let g : Nat → Pt := fun i => ps.getD i (0, 0, 0, 0)
        have hg : ∀ i, (hi : i < ps.length) → g i = ps[i] := fun i hi => by show ps.getD i _ = _; rw [List.getD_eq_getElem?_getD, List.getElem?_eq_getElem hi] <;> rfl
        have hm : given xs.length (fun _ => true) (fun i => V.str (word4 (g i))) = (ps.map word4).map V.str := by
          rw [given_all]
          refine List.ext_getElem (by simp [hlxs]) fun i h1 h2 => ?_
          simp only [List.getElem_map, List.getElem_range]
          rw [hg i (by simpa using h2)]
        have hsum := codePt_sum hoks
        refine q_asg (v := .str (codePt ps)) (ev_join (ys := ps.map word4) ev_c (hm ▸ el_lcL (xs := xs) (fun _ => true) (fun i => V.str (word4 (g i))) (ev_var rfl) (sq_of (w3.ex _ _ hxs)) (by omega) (fun _ => rfl) (fun i x H8 e8 hi Hq eq Q' q' => q' _ (Evl.Ex.refl _)) (fun i x H8 e8 hi _ => ?_)) ?_) fun H8 e8 => ?_
        · have h2 : i < ps.length := by
            have := (List.getElem?_eq_some_iff.mp hi).1
            omega
          obtain ⟨y, hy, hdy⟩ := dp_at hxd (i := i) (d := ptD ps[i]) (by rw [List.getElem?_map, List.getElem?_eq_getElem h2] <;> rfl)
          rw [hi] at hy
          cases hy
          obtain ⟨t, rfl, ht⟩ := dp_tupI (ns := ptI ps[i]) hdy
          have ht8 := ex_t (w3.ex.trans e8) ht
          rw [hg i h2]
          exact ev_call' (z := .str (word4 ps[i])) (ea_cons (ev_var rfl) ea_nil) fun H9 e9 Q' q' => ⟨t, ps[i], rfl, ex_t e9 ht8, hoks.2 _ (List.getElem_mem h2), q'⟩
        · rw [List.length_map, show (" " : Str).length = 1 from rfl]
          omega
        have w4 := w3.mono e8
        have wr : ∀ H9, Ex G2 H9 → ∀ Q : VK, RetV (.str (codePt ps)) H9 Q → spWrite K [.ref p] H9 Q E0 := fun H9 e9 Q' q' => ⟨_, ps, rfl, Dp.ex e9 _ hsome, hoks, q'⟩
        have hW2 := hW1.ex eG2
        refine q_when (b := false) (et_is (et_or (a := false) (b := false) (et_test (ev_is (ev_op (ev_call' (z := .str (codePt ps)) (ea_cons (ev_var rfl) ea_nil) fun H9 e9 => wr H9 (w4.ex.trans e9)) (ev_var rfl) (rv_ne rfl)) (by rw [decide_eq_true rfl] <;> rfl))) fun _ =>
            et_is (et_not (a := true) (et_test (ev_call' (z := .bl true) (ea_cons (ev_var rfl) (ea_cons (ev_var rfl) ea_nil)) fun H9 e9 Q' q' => ⟨codePt ps, wh, rfl, by omega, hW2.ex (w4.ex.trans e9), q'⟩))) rfl) rfl) (fun z => by cases z) fun _ H9 e9 => ?_
        have w5 := w4.mono e9
        refine s_forR1 (n := 4) (ea_cons ev_c ea_nil) (by decide) (fun j2 σ' H' => (∃ x8 x9 x10 x11, σ' = [some (.ref a), some (.ref wh), some (.ref o), some (.int (i : Int)), some (.ref v), some (.int r), some (.ref p), some (.str (codePt ps)), x8, x9, x10, x11]) ∧ Wd G2 v (2000 - 1000 * (j + 1) + 11 * (4 - j2)) H') (fun HA eA => ⟨⟨_, _, _, _, rfl⟩, w5.mono eA⟩) (fun j2 σ' H' hj3 hP => ?_) (fun σ' H' hP => ?_)
        · obtain ⟨⟨x8, x9, x10, x11, rfl⟩, w6⟩ := hP
          have hbud : 2000 - 1000 * (j + 1) + 11 * (4 - j2) = (2000 - 1000 * (j + 1) + 11 * (4 - (j2 + 1))) + 11 := by omega
          rw [hbud] at w6
          refine s_whenW (m := 2000 - 1000 * (j + 1) + 11 * (4 - (j2 + 1))) w6 (evw_call2 (z := .bl true) (P1 := fun x => ∃ u : Str, x = .str u ∧ u.length ≤ 4000) (fun HB wB Q' q' => ?_) (ev_var rfl) fun x HB hx wB Q' q' => ?_) fun HB wB => ?_
          · exact r_call (ea_cons (ev_var rfl) (ea_cons (ev_var rfl) (ea_cons (ev_var rfl) ea_nil))) fun HE eE => ⟨G2, v, o, _, codePt ps, odd, rfl, wB.mono eE, eG2 _ _ ho1, odd_ok.1, odd_ok.2.1, odd_ok.2.2, by omega, fun u HF hu wF => q' _ HF ⟨u, rfl, hu⟩ wF⟩
          · obtain ⟨u, rfl, hu⟩ := hx
            exact ⟨u, wh, rfl, by omega, hW2.ex wB.ex, q'⟩
          · exact ⟨⟨_, _, _, _, rfl⟩, wB⟩
        · obtain ⟨⟨x8, x9, x10, x11, rfl⟩, w6⟩ := hP
          exact ⟨⟨_, _, _, _, _, _, _, rfl⟩, (w6.sub eG2).le (by omega)⟩
      · obtain ⟨⟨x5, x6, x7, x8, x9, x10, x11, rfl⟩, w⟩ := hP
        exact ⟨⟨_, _, _, _, _, _, _, _, _, rfl⟩, eH4.trans w.ex⟩
    · obtain ⟨⟨x3, x4, x5, x6, x7, x8, x9, x10, x11, rfl⟩, hx⟩ := hP
      refine q_asg (v := .str wholeS) (ev_join (ys := wholeL) ev_c (el_is (el_lcR1 (n := 120) (fun _ => true) (fun i => V.str ((toString (i : Int) : Str) ++ ":0+0*1")) (ea_cons ev_c ea_nil) (by decide) (fun _ => rfl) (fun i H5 e5 hi Hq eq Q' q' => q' _ (Evl.Ex.refl _)) (fun i H5 e5 hi _ => ?_)) (by rw [given_all]; unfold wholeL; rw [List.map_map]; rfl)) (by
          have := wholeL_ok
          rw [show (" " : Str).length = 1 from rfl]
          omega)) fun H5 e5 => ?_
      · have hs : smallI (i : Int) := ⟨by omega, by omega⟩
        have hl5 := toString_len hs
        exact ev_op (ev_cb (ea_cons (ev_var rfl) ea_nil) (rc_strI (small hs).2)) ev_c (rv_addS (by
          show (toString (i : Int) : Str).length + 6 ≤ 100000
          omega))
      have hWl := whole_len
      show tSeq _ _ _ (List.set _ 9 (some (.str wholeS))) _
      generalize wholeS = W at hWl
      refine q_asgL (xs := (odd ++ more1 W).map V.str) (el_catV (xs := odd.map V.str) (ys := (more1 W).map V.str) (ev_var rfl) ((hx.trans e5) _ _ h4) (el_lst (ea_cons (ev_var rfl) (ea_cons (ev_op (ev_var rfl) ev_c (rv_addS (by show W.length + 10 ≤ 100000; omega))) (ea_cons (ev_op (ev_var rfl) ev_c (rv_addS (by show W.length + 10 ≤ 100000; omega))) (ea_cons ev_c (ea_cons ev_c (ea_cons ev_c ea_nil)))))) (by show 6 ≤ 100000; decide)) (by show 30 + 6 ≤ 100000; decide)) fun p5 H6 hp5 e6 h6 => ?_
      refine q_app h6 (ev_var rfl) ev_c (by show 36 < 100000; decide) fun H7 e7 => ?_
      have hW7 : Whole (upd H7 p5 (.lst ((odd ++ more1 W).map V.str ++ [.str "5:0+0*1 4:0+0*1"]))) wh := by
        have := (((hW4.ex hx).ex e5))
        exact this.ex (Evl.Ex.mut (e6.trans e7) hp5)
      have h7 : upd H7 p5 (.lst ((odd ++ more1 W).map V.str ++ [.str "5:0+0*1 4:0+0*1"])) p5 = some (.lst ((odd ++ more1 W ++ more2).map V.str)) := by
        rw [upd_same, moreV]
      have e07 : Ex H (upd H7 p5 (.lst ((odd ++ more1 W).map V.str ++ [.str "5:0+0*1 4:0+0*1"]))) := ((e04.trans hx).trans e5).trans (Evl.Ex.mut (e6.trans e7) hp5)
      generalize upd H7 p5 (.lst ((odd ++ more1 W).map V.str ++ [.str "5:0+0*1 4:0+0*1"])) = H8 at hW7 h7 e07
      have hlm := more_len W
      refine s_ret (v := .bl true) (ev_opLL (el_lcL (xs := (odd ++ more1 W ++ more2).map V.str) (fun _ => false) (fun _ => .non) (ev_var rfl) (sq_of h7) (by rw [hlm]; decide) (fun _ => rfl) (fun j x H9 e9 hj => ?_) (fun j x H9 e9 hj z => by cases z)) (el_lst ea_nil (Nat.zero_le _)) fun q1 q2 H9 hq1 hq2 e9 => ?_) fun H9 e9 => q H9 (e07.trans e9)
      · rw [List.getElem?_map, Option.map_eq_some_iff] at hj
        obtain ⟨u, hu, rfl⟩ := hj
        exact et_is (et_not (a := true) (et_test (ev_call' (z := .bl true) (ea_cons (ev_var rfl) (ea_cons (ev_var rfl) ea_nil)) fun HA eA Q' q' => ⟨u, wh, rfl, more_ok hWl u (List.mem_of_getElem? hu), hW7.ex (e9.trans eA), q'⟩))) rfl
      · rw [given_non] at hq1
        have t0 : Tame 1 0 (.list []) := Tame.list (ds := []) (n := 0) (k := 0) fun d z => by cases z
        exact rv_eqD (d := .list []) (e := .list []) (dp_lst hq1 .nil) (dp_lst hq2 .nil) t0 t0 (by decide)
end
end K83
end

section
set_option Elab.async false
set_option linter.all false
set_option maxRecDepth 100000
set_option maxHeartbeats 0
namespace K83
open PySem PySem.Spec PyProof.Rows L2 Ov Evl
abbrev s_InvalidCode___init__ : Stmt := s_init
/-! ### the head -/
def d_number_in : He.DefD := ⟨("number_in", none), "number_in", "number_in", defArgs s_number_in, defBody s_number_in, defScope s_number_in, [], []⟩
def d_write_parts : He.DefD := ⟨("write_parts", none), "write_parts", "write_parts", defArgs s_write_parts, defBody s_write_parts, defScope s_write_parts, [], []⟩
def d_part_in : He.DefD := ⟨("part_in", none), "part_in", "part_in", defArgs s_part_in, defBody s_part_in, defScope s_part_in, [], []⟩
def d_read_parts : He.DefD := ⟨("read_parts", none), "read_parts", "read_parts", defArgs s_read_parts, defBody s_read_parts, defScope s_read_parts, [], []⟩
def d__law_vat : He.DefD := ⟨("_law_vat", none), "_law_vat", "_law_vat", defArgs s__law_vat, defBody s__law_vat, defScope s__law_vat, [], []⟩
def d__law_sip : He.DefD := ⟨("_law_sip", none), "_law_sip", "_law_sip", defArgs s__law_sip, defBody s__law_sip, defScope s__law_sip, [], []⟩
def d__law_read_at : He.DefD := ⟨("_law_read_at", none), "_law_read_at", "_law_read_at", defArgs s__law_read_at, defBody s__law_read_at, defScope s__law_read_at, [], []⟩
def d__law_bent : He.DefD := ⟨("_law_bent", none), "_law_bent", "_law_bent", defArgs s__law_bent, defBody s__law_bent, defScope s__law_bent, [], []⟩
def d__law_word : He.DefD := ⟨("_law_word", none), "_law_word", "_law_word", defArgs s__law_word, defBody s__law_word, defScope s__law_word, [], []⟩
def d__law_backs : He.DefD := ⟨("_law_backs", none), "_law_backs", "_law_backs", defArgs s__law_backs, defBody s__law_backs, defScope s__law_backs, [], []⟩
def d__law_due : He.DefD := ⟨("_law_due", none), "_law_due", "_law_due", defArgs s__law_due, defBody s__law_due, defScope s__law_due, [], []⟩
def d__law_told : He.DefD := ⟨("_law_told", none), "_law_told", "_law_told", defArgs s__law_told, defBody s__law_told, defScope s__law_told, [], []⟩
def d__law_right : He.DefD := ⟨("_law_right", none), "_law_right", "_law_right", defArgs s__law_right, defBody s__law_right, defScope s__law_right, [], []⟩
def d__law_some : He.DefD := ⟨("_law_some", none), "_law_some", "_law_some", defArgs s__law_some, defBody s__law_some, defScope s__law_some, [], []⟩
def d_law : He.DefD := ⟨("law", none), "law", "law", defArgs s_law, defBody s_law, defScope s_law, [], []⟩
def d_InvalidCode___init__ : He.DefD := ⟨("InvalidCode", some "__init__"), "__init__", "InvalidCode.__init__", defArgs s_InvalidCode___init__, defBody s_InvalidCode___init__, defScope s_InvalidCode___init__, [], []⟩
def fn : List He.DefD := [d_number_in, d_write_parts, d_part_in, d_read_parts, d__law_vat, d__law_sip, d__law_read_at, d__law_bent, d__law_word, d__law_backs, d__law_due, d__law_told, d__law_right, d__law_some, d_law, d_InvalidCode___init__]
def loose0 : List Str := ["StampError", "InvalidStamps", "InvalidText", "InvalidStrip", "InvalidParts", "InvalidStamping", "InvalidOrder", "InvalidName", "InvalidNumber", "NotPossible", "NothingToUndo", "InvalidCode", "DIGITS", "NOTHING", "MOST_WORDS", "MOST_WIDTH", "MOST_PARTS", "MOST_DIGITS", "number_in", "write_parts", "part_in", "read_parts", "_law_vat", "_law_sip", "_law_read_at", "_law_bent", "_law_word", "_law_backs", "_law_due", "_law_told"]
def loose1 : List Str := ["_law_right", "_law_some"]
def loose : List Str := loose0 ++ loose1
def fa : List He.Fa := [.free "ValueError", .free "abs", .free "all", .free "dict", .free "enumerate", .free "int", .free "isinstance", .free "len", .free "list", .free "max", .free "min", .free "range", .free "repr", .free "sorted", .free "str", .str "DIGITS" "0123456789", .int "MOST_DIGITS" 3, .int "MOST_PARTS" 120, .int "MOST_WIDTH" 8, .int "MOST_WORDS" 6, .str "NOTHING" "-", .glo "number_in", .glo "write_parts", .glo "part_in", .glo "read_parts", .glo "_law_vat", .glo "_law_sip", .glo "_law_read_at", .glo "_law_bent", .glo "_law_word", .glo "_law_backs", .glo "_law_due", .glo "_law_told", .glo "_law_right", .glo "_law_some", .glo "law", .glo "InvalidCode", .glo "InvalidName", .glo "InvalidNumber", .glo "InvalidOrder", .glo "InvalidParts", .glo "InvalidStamping", .glo "InvalidStamps", .glo "InvalidStrip", .glo "InvalidText", .glo "NotPossible", .glo "NothingToUndo", .glo "StampError"]
abbrev R : PySem.W.OpenRow := PySem.W.OpenLaw.row PySem.Challenge.rw_overstamps_k83_codes_of_parts
def others1 (K : PySem.W.Frag) : List Value := [.ref (He.ga K "InvalidName"), .ref (He.ga K "InvalidNumber"), .ref (He.ga K "InvalidOrder"), .ref (He.ga K "InvalidParts"), .ref (He.ga K "InvalidStamping"), .ref (He.ga K "InvalidStamps")]
def others2 (K : PySem.W.Frag) : List Value := [.ref (He.ga K "InvalidStrip"), .ref (He.ga K "InvalidText"), .ref (He.ga K "NotPossible"), .ref (He.ga K "NothingToUndo")]
def exB (K : PySem.W.Frag) : Bool := ownB K "InvalidCode" "StampError" "at" && (decide (PySem.W.kitAny K (.ref (He.ga K "InvalidCode")) (others1 K) = some false) && decide (PySem.W.kitAny K (.ref (He.ga K "InvalidCode")) (others2 K) = some false))
abbrev hk : PySem.W.Hook := hookB 4 fa fn exB
abbrev ob (s : PySem.W.SharedT) : He.AlD × Bool := obB 4 fa fn exB s
theorem run (w : World) : HandSHeadRun.RunEq R (PySem.W.view R.prog [35]) hk ob 20000 loose w := by
  intro os
  kernel_rfl
theorem txt_of {K : PySem.W.Frag} {h : Heap} {mg : Str → Option Value} (X : K.In h) (G : h.Ns mainGlobals mg) (c : He.SaysD fa fn K) : Txt K mg :=
  ⟨He.free_ok X G (c.fact 0 rfl), He.free_ok X G (c.fact 1 rfl), He.free_ok X G (c.fact 2 rfl), He.free_ok X G (c.fact 3 rfl), He.free_ok X G (c.fact 4 rfl), He.free_ok X G (c.fact 5 rfl), He.free_ok X G (c.fact 6 rfl), He.free_ok X G (c.fact 7 rfl), He.free_ok X G (c.fact 8 rfl), He.free_ok X G (c.fact 9 rfl), He.free_ok X G (c.fact 10 rfl), He.free_ok X G (c.fact 11 rfl), He.free_ok X G (c.fact 12 rfl), He.free_ok X G (c.fact 13 rfl), He.free_ok X G (c.fact 14 rfl), He.str_ok X G (c.fact 15 rfl), He.int_ok X G (c.fact 16 rfl), He.int_ok X G (c.fact 17 rfl), He.int_ok X G (c.fact 18 rfl), He.int_ok X G (c.fact 19 rfl), He.str_ok X G (c.fact 20 rfl)⟩
theorem wr_number_in {K : PySem.W.Frag} {h : Heap} {mg : Str → Option Value} (X : K.In h) (G : h.Ns mainGlobals mg) (c : He.SaysD fa fn K) : Wr K mg "number_in" s_number_in := by
  obtain ⟨fd, F⟩ := c.def_ 0 (d := d_number_in) rfl
  exact ⟨_, fd, He.glo_ok X G (c.fact 21 (f := .glo "number_in") rfl), fun_of F⟩
theorem wr_write_parts {K : PySem.W.Frag} {h : Heap} {mg : Str → Option Value} (X : K.In h) (G : h.Ns mainGlobals mg) (c : He.SaysD fa fn K) : Wr K mg "write_parts" s_write_parts := by
  obtain ⟨fd, F⟩ := c.def_ 1 (d := d_write_parts) rfl
  exact ⟨_, fd, He.glo_ok X G (c.fact 22 (f := .glo "write_parts") rfl), fun_of F⟩
theorem wr_part_in {K : PySem.W.Frag} {h : Heap} {mg : Str → Option Value} (X : K.In h) (G : h.Ns mainGlobals mg) (c : He.SaysD fa fn K) : Wr K mg "part_in" s_part_in := by
  obtain ⟨fd, F⟩ := c.def_ 2 (d := d_part_in) rfl
  exact ⟨_, fd, He.glo_ok X G (c.fact 23 (f := .glo "part_in") rfl), fun_of F⟩
theorem wr_read_parts {K : PySem.W.Frag} {h : Heap} {mg : Str → Option Value} (X : K.In h) (G : h.Ns mainGlobals mg) (c : He.SaysD fa fn K) : Wr K mg "read_parts" s_read_parts := by
  obtain ⟨fd, F⟩ := c.def_ 3 (d := d_read_parts) rfl
  exact ⟨_, fd, He.glo_ok X G (c.fact 24 (f := .glo "read_parts") rfl), fun_of F⟩
theorem wr__law_vat {K : PySem.W.Frag} {h : Heap} {mg : Str → Option Value} (X : K.In h) (G : h.Ns mainGlobals mg) (c : He.SaysD fa fn K) : Wr K mg "_law_vat" s__law_vat := by
  obtain ⟨fd, F⟩ := c.def_ 4 (d := d__law_vat) rfl
  exact ⟨_, fd, He.glo_ok X G (c.fact 25 (f := .glo "_law_vat") rfl), fun_of F⟩
theorem wr__law_sip {K : PySem.W.Frag} {h : Heap} {mg : Str → Option Value} (X : K.In h) (G : h.Ns mainGlobals mg) (c : He.SaysD fa fn K) : Wr K mg "_law_sip" s__law_sip := by
  obtain ⟨fd, F⟩ := c.def_ 5 (d := d__law_sip) rfl
  exact ⟨_, fd, He.glo_ok X G (c.fact 26 (f := .glo "_law_sip") rfl), fun_of F⟩
theorem wr__law_read_at {K : PySem.W.Frag} {h : Heap} {mg : Str → Option Value} (X : K.In h) (G : h.Ns mainGlobals mg) (c : He.SaysD fa fn K) : Wr K mg "_law_read_at" s__law_read_at := by
  obtain ⟨fd, F⟩ := c.def_ 6 (d := d__law_read_at) rfl
  exact ⟨_, fd, He.glo_ok X G (c.fact 27 (f := .glo "_law_read_at") rfl), fun_of F⟩
theorem wr__law_bent {K : PySem.W.Frag} {h : Heap} {mg : Str → Option Value} (X : K.In h) (G : h.Ns mainGlobals mg) (c : He.SaysD fa fn K) : Wr K mg "_law_bent" s__law_bent := by
  obtain ⟨fd, F⟩ := c.def_ 7 (d := d__law_bent) rfl
  exact ⟨_, fd, He.glo_ok X G (c.fact 28 (f := .glo "_law_bent") rfl), fun_of F⟩
theorem wr__law_word {K : PySem.W.Frag} {h : Heap} {mg : Str → Option Value} (X : K.In h) (G : h.Ns mainGlobals mg) (c : He.SaysD fa fn K) : Wr K mg "_law_word" s__law_word := by
  obtain ⟨fd, F⟩ := c.def_ 8 (d := d__law_word) rfl
  exact ⟨_, fd, He.glo_ok X G (c.fact 29 (f := .glo "_law_word") rfl), fun_of F⟩
theorem wr__law_backs {K : PySem.W.Frag} {h : Heap} {mg : Str → Option Value} (X : K.In h) (G : h.Ns mainGlobals mg) (c : He.SaysD fa fn K) : Wr K mg "_law_backs" s__law_backs := by
  obtain ⟨fd, F⟩ := c.def_ 9 (d := d__law_backs) rfl
  exact ⟨_, fd, He.glo_ok X G (c.fact 30 (f := .glo "_law_backs") rfl), fun_of F⟩
theorem wr__law_due {K : PySem.W.Frag} {h : Heap} {mg : Str → Option Value} (X : K.In h) (G : h.Ns mainGlobals mg) (c : He.SaysD fa fn K) : Wr K mg "_law_due" s__law_due := by
  obtain ⟨fd, F⟩ := c.def_ 10 (d := d__law_due) rfl
  exact ⟨_, fd, He.glo_ok X G (c.fact 31 (f := .glo "_law_due") rfl), fun_of F⟩
theorem wr__law_told {K : PySem.W.Frag} {h : Heap} {mg : Str → Option Value} (X : K.In h) (G : h.Ns mainGlobals mg) (c : He.SaysD fa fn K) : Wr K mg "_law_told" s__law_told := by
  obtain ⟨fd, F⟩ := c.def_ 11 (d := d__law_told) rfl
  exact ⟨_, fd, He.glo_ok X G (c.fact 32 (f := .glo "_law_told") rfl), fun_of F⟩
theorem wr__law_right {K : PySem.W.Frag} {h : Heap} {mg : Str → Option Value} (X : K.In h) (G : h.Ns mainGlobals mg) (c : He.SaysD fa fn K) : Wr K mg "_law_right" s__law_right := by
  obtain ⟨fd, F⟩ := c.def_ 12 (d := d__law_right) rfl
  exact ⟨_, fd, He.glo_ok X G (c.fact 33 (f := .glo "_law_right") rfl), fun_of F⟩
theorem wr__law_some {K : PySem.W.Frag} {h : Heap} {mg : Str → Option Value} (X : K.In h) (G : h.Ns mainGlobals mg) (c : He.SaysD fa fn K) : Wr K mg "_law_some" s__law_some := by
  obtain ⟨fd, F⟩ := c.def_ 13 (d := d__law_some) rfl
  exact ⟨_, fd, He.glo_ok X G (c.fact 34 (f := .glo "_law_some") rfl), fun_of F⟩
theorem wr_law {K : PySem.W.Frag} {h : Heap} {mg : Str → Option Value} (X : K.In h) (G : h.Ns mainGlobals mg) (c : He.SaysD fa fn K) : Wr K mg "law" s_law := by
  obtain ⟨fd, F⟩ := c.def_ 14 (d := d_law) rfl
  exact ⟨_, fd, He.glo_ok X G (c.fact 35 (f := .glo "law") rfl), fun_of F⟩
theorem kl_InvalidCode {K : PySem.W.Frag} {h : Heap} {mg : Str → Option Value} (X : K.In h) (G : h.Ns mainGlobals mg) (c : He.SaysD fa fn K) : mg "InvalidCode" = some (.ref (ad mg "InvalidCode")) ∧ ad mg "InvalidCode" = He.ga K "InvalidCode" := ad_glo X G (c.fact 36 (f := .glo "InvalidCode") rfl)
theorem kl_InvalidName {K : PySem.W.Frag} {h : Heap} {mg : Str → Option Value} (X : K.In h) (G : h.Ns mainGlobals mg) (c : He.SaysD fa fn K) : mg "InvalidName" = some (.ref (ad mg "InvalidName")) ∧ ad mg "InvalidName" = He.ga K "InvalidName" := ad_glo X G (c.fact 37 (f := .glo "InvalidName") rfl)
theorem kl_InvalidNumber {K : PySem.W.Frag} {h : Heap} {mg : Str → Option Value} (X : K.In h) (G : h.Ns mainGlobals mg) (c : He.SaysD fa fn K) : mg "InvalidNumber" = some (.ref (ad mg "InvalidNumber")) ∧ ad mg "InvalidNumber" = He.ga K "InvalidNumber" := ad_glo X G (c.fact 38 (f := .glo "InvalidNumber") rfl)
theorem kl_InvalidOrder {K : PySem.W.Frag} {h : Heap} {mg : Str → Option Value} (X : K.In h) (G : h.Ns mainGlobals mg) (c : He.SaysD fa fn K) : mg "InvalidOrder" = some (.ref (ad mg "InvalidOrder")) ∧ ad mg "InvalidOrder" = He.ga K "InvalidOrder" := ad_glo X G (c.fact 39 (f := .glo "InvalidOrder") rfl)
theorem kl_InvalidParts {K : PySem.W.Frag} {h : Heap} {mg : Str → Option Value} (X : K.In h) (G : h.Ns mainGlobals mg) (c : He.SaysD fa fn K) : mg "InvalidParts" = some (.ref (ad mg "InvalidParts")) ∧ ad mg "InvalidParts" = He.ga K "InvalidParts" := ad_glo X G (c.fact 40 (f := .glo "InvalidParts") rfl)
theorem kl_InvalidStamping {K : PySem.W.Frag} {h : Heap} {mg : Str → Option Value} (X : K.In h) (G : h.Ns mainGlobals mg) (c : He.SaysD fa fn K) : mg "InvalidStamping" = some (.ref (ad mg "InvalidStamping")) ∧ ad mg "InvalidStamping" = He.ga K "InvalidStamping" := ad_glo X G (c.fact 41 (f := .glo "InvalidStamping") rfl)
theorem kl_InvalidStamps {K : PySem.W.Frag} {h : Heap} {mg : Str → Option Value} (X : K.In h) (G : h.Ns mainGlobals mg) (c : He.SaysD fa fn K) : mg "InvalidStamps" = some (.ref (ad mg "InvalidStamps")) ∧ ad mg "InvalidStamps" = He.ga K "InvalidStamps" := ad_glo X G (c.fact 42 (f := .glo "InvalidStamps") rfl)
theorem kl_InvalidStrip {K : PySem.W.Frag} {h : Heap} {mg : Str → Option Value} (X : K.In h) (G : h.Ns mainGlobals mg) (c : He.SaysD fa fn K) : mg "InvalidStrip" = some (.ref (ad mg "InvalidStrip")) ∧ ad mg "InvalidStrip" = He.ga K "InvalidStrip" := ad_glo X G (c.fact 43 (f := .glo "InvalidStrip") rfl)
theorem kl_InvalidText {K : PySem.W.Frag} {h : Heap} {mg : Str → Option Value} (X : K.In h) (G : h.Ns mainGlobals mg) (c : He.SaysD fa fn K) : mg "InvalidText" = some (.ref (ad mg "InvalidText")) ∧ ad mg "InvalidText" = He.ga K "InvalidText" := ad_glo X G (c.fact 44 (f := .glo "InvalidText") rfl)
theorem kl_NotPossible {K : PySem.W.Frag} {h : Heap} {mg : Str → Option Value} (X : K.In h) (G : h.Ns mainGlobals mg) (c : He.SaysD fa fn K) : mg "NotPossible" = some (.ref (ad mg "NotPossible")) ∧ ad mg "NotPossible" = He.ga K "NotPossible" := ad_glo X G (c.fact 45 (f := .glo "NotPossible") rfl)
theorem kl_NothingToUndo {K : PySem.W.Frag} {h : Heap} {mg : Str → Option Value} (X : K.In h) (G : h.Ns mainGlobals mg) (c : He.SaysD fa fn K) : mg "NothingToUndo" = some (.ref (ad mg "NothingToUndo")) ∧ ad mg "NothingToUndo" = He.ga K "NothingToUndo" := ad_glo X G (c.fact 46 (f := .glo "NothingToUndo") rfl)
theorem kl_StampError {K : PySem.W.Frag} {h : Heap} {mg : Str → Option Value} (X : K.In h) (G : h.Ns mainGlobals mg) (c : He.SaysD fa fn K) : mg "StampError" = some (.ref (ad mg "StampError")) ∧ ad mg "StampError" = He.ga K "StampError" := ad_glo X G (c.fact 47 (f := .glo "StampError") rfl)
theorem kb_read_parts : KBindsTxt "read_parts" s_read_parts ["code"] ["code"] [0] := fun _ _ _ _ _ _ us ws hl => match us, ws, hl with
  | [], _ :: _, _ => rfl
  | [_], [], _ => rfl
  | [], [], h => by simp [gIn] at h
  | [_], _ :: _, h => by simp [gIn] at h
  | _ :: _ :: _, _, h => by simp [gIn] at h
theorem kb_write_parts : KBindsTxt "write_parts" s_write_parts ["parts"] ["parts"] [0] := fun _ _ _ _ _ _ us ws hl => match us, ws, hl with
  | [], _ :: _, _ => rfl
  | [_], [], _ => rfl
  | [], [], h => by simp [gIn] at h
  | [_], _ :: _, h => by simp [gIn] at h
  | _ :: _ :: _, _, h => by simp [gIn] at h
theorem txx_of {K : PySem.W.Frag} {h : Heap} {mg : Str → Option Value} (X : K.In h) (G : h.Ns mainGlobals mg) (c : He.SaysD fa fn K) (e : exB K = true) : TxX K mg (He.ga K "InvalidCode") := by
  obtain ⟨e1, e⟩ := He.ba e
  obtain ⟨e2, e3⟩ := He.ba e
  have O := ownB_ok (mg := mg) e1
  have e2 := of_decide_eq_true e2
  have e3 := of_decide_eq_true e3
  unfold others1 at e2
  unfold others2 at e3
  exact {
    k_InvalidCode := by rw [← (kl_InvalidCode X G c).2]; exact (kl_InvalidCode X G c).1
    k_InvalidName := (kl_InvalidName X G c).1
    k_InvalidNumber := (kl_InvalidNumber X G c).1
    k_InvalidOrder := (kl_InvalidOrder X G c).1
    k_InvalidParts := (kl_InvalidParts X G c).1
    k_InvalidStamping := (kl_InvalidStamping X G c).1
    k_InvalidStamps := (kl_InvalidStamps X G c).1
    k_InvalidStrip := (kl_InvalidStrip X G c).1
    k_InvalidText := (kl_InvalidText X G c).1
    k_NotPossible := (kl_NotPossible X G c).1
    k_NothingToUndo := (kl_NothingToUndo X G c).1
    k_StampError := (kl_StampError X G c).1
    no1 := by
      rw [(kl_InvalidName X G c).2, (kl_InvalidNumber X G c).2, (kl_InvalidOrder X G c).2, (kl_InvalidParts X G c).2, (kl_InvalidStamping X G c).2, (kl_InvalidStamps X G c).2]
      exact e2
    no2 := by
      rw [(kl_InvalidStrip X G c).2, (kl_InvalidText X G c).2, (kl_NotPossible X G c).2, (kl_NothingToUndo X G c).2]
      exact e3
    isV := O.isV
    isC := O.isC
    exS := by
      rw [(kl_StampError X G c).2]
      exact O.exS
    noat := O.nof
    ex := O.exk }
theorem facts {P : Program} {w : World} {K : PySem.W.Frag} {h : Heap} {mg : Str → Option Value} {f : Addr} (X : K.In h) (G : h.Ns mainGlobals mg) (hfa : mg ("law" : Str) = some (.ref f)) (c : He.SaysD fa fn K) (e : exB K = true) :
    ∃ fd : FuncData, (∀ (s : Shared) (u : Value), BindsTo s fd ⟨[u], []⟩ [("script", u)]) ∧ ∀ base : Heap, K.In base → base.Ns mainGlobals mg → FnG P w K mg base CX0 6 f fd ["script"] (spLaw K) := by
  have T := txt_of X G c
  have XX := txx_of X G c e
  have O := ownB_ok (mg := mg) (He.ba e).1
  obtain ⟨fdI, FI⟩ := c.def_ 15 (d := d_InvalidCode___init__) rfl
  obtain ⟨fd, FL⟩ := c.def_ 14 (d := d_law) rfl
  have ef := hfa.symm.trans (He.glo_ok X G (c.fact 35 (f := .glo "law") rfl))
  cases ef
  have FI' : Fun K "__init__" "InvalidCode.__init__" s_init (He.ma K (He.ga K "InvalidCode") "__init__") fdI := fun_of FI
  have bI : Binds K fdI ["self", "at"] [] := FI'.binds fun _ _ _ _ _ _ us hl => match us, hl with | [_, _], _ => rfl
  have bL := FunD.bindsA (ps := ["script"]) FL fun _ _ _ _ _ _ us hl => match us, hl with | [_], _ => rfl
  refine ⟨fd, fun s u => bL s [u] rfl, fun base _ _ => ?_⟩
  · have DI := ok_init (P := P) (w := w) (bh := base) FI' (O.base (by rw [← (kl_StampError X G c).2]; exact XX.k_StampError)) O.err.o O.nof
    have Dnum : Dn P w K mg base CX0 1 "number_in" ["word", "least", "most"] spNumberIn := D_num (wr_number_in X G c) T
    have Dstin : Dn P w K mg base CX0 2 "part_in" ["text"] spPartIn := Dn.mk' (wr_part_in X G c) b_part_in fun _ _ F => ok_part_in F T Dnum
    have rd := fun f fd (F : Fun K "read_parts" "read_parts" s_read_parts f fd) => ok_read_parts (P := P) (w := w) (bh := base) F T Dstin O.err DI bI XX.k_InvalidCode
    have Dread := Dn.mk' (wr_read_parts X G c) b_read_parts rd
    have DKread := DnK.mk' (ps := ["code"]) (ks := ["code"]) (js := [0]) (wr_read_parts X G c) kb_read_parts rd
    have Dat : DnE P w K mg base CX0 1 "_law_read_at" ["e"] (spReadAt _) := DnE.mk' (wr__law_read_at X G c) b__law_read_at fun _ _ F => ok_law_read_at F T XX
    have Dtold := Dn.mk' (wr__law_told X G c) b__law_told fun _ _ F => ok_law_told (P := P) (w := w) (bh := base) F T XX Dread DKread Dat
    have wr := fun f fd (F : Fun K "write_parts" "write_parts" s_write_parts f fd) => ok_write_parts (P := P) (w := w) (bh := base) F T
    have Dwrite := Dn.mk' (wr_write_parts X G c) b_write_parts wr
    have DKwrite := DnK.mk' (ps := ["parts"]) (ks := ["parts"]) (js := [0]) (wr_write_parts X G c) kb_write_parts wr
    have Ddue := Dn.mk' (wr__law_due X G c) b__law_due fun _ _ F => ok_law_due (P := P) (w := w) (bh := base) F T
    have Dright := DnG.mk' (wr__law_right X G c) b__law_right fun _ _ F => ok_law_right (P := P) (w := w) (bh := base) (Ca := He.ga K "InvalidCode") F T (Ddue.up (by decide)) Dtold (Dread.up (by decide)) (Dwrite.up (by decide)) (DKwrite.up (by decide))
    have Dbacks := Dn.mk' (wr__law_backs X G c) b__law_backs fun _ _ F => ok_law_backs (P := P) (w := w) (bh := base) F T
    have Dword := Dn.mk' (wr__law_word X G c) b__law_word fun _ _ F => ok_law_word (P := P) (w := w) (bh := base) F T
    have Dvat := Dn.mk' (wr__law_vat X G c) b__law_vat fun _ _ F => ok_law_vat (P := P) (w := w) (bh := base) F T
    have Dsip := Dn.mk' (wr__law_sip X G c) b__law_sip fun _ _ F => ok_law_sip (P := P) (w := w) (bh := base) F T
    have Dbent := Dn.mk' (wr__law_bent X G c) b__law_bent fun _ _ F => ok_law_bent (P := P) (w := w) (bh := base) F T Dsip
    have Dsome := Dn.mk' (wr__law_some X G c) b__law_some fun _ _ F => ok_law_some (P := P) (w := w) (bh := base) F T Dsip
    exact ok_law (fun_of FL) T (Dbacks.up (by decide)) (Dvat.up (by decide)) (Dsip.up (by decide)) (Dbent.up (by decide)) Dright (Dwrite.up (by decide)) (Dsome.up (by decide)) (Dword.up (by decide))

end K83
open PySem PySem.W PySem.Calls PyProof.Rows
theorem PySem.Challenge.cw_overstamps_k83_codes_of_parts_holds : PySem.Challenge.rw_overstamps_k83_codes_of_parts.Holds := by
  w_on; o_law
  refine HandSHeadRun.head_any (r := OpenLaw.row PySem.Challenge.rw_overstamps_k83_codes_of_parts) (q := view (OpenLaw.row PySem.Challenge.rw_overstamps_k83_codes_of_parts).prog [35]) (H := K83.hk) (ob := K83.ob) (M := 20000) (loose := K83.loose) (d := HandSHeadRun.topDef (OpenLaw.row PySem.Challenge.rw_overstamps_k83_codes_of_parts).prog 35) (kwd := []) Ov.obB_eq
    (by kernel_rfl) (fun s => by kernel_rfl) K83.run (by kernel_rfl) (by kernel_rfl) (by kernel_rfl) (by rfl) (by first | assumption | decide +kernel) (by decide +kernel) ⟨rfl, rfl, rfl, rfl, rfl, by decide +kernel⟩ ?hw ?hc
  case hw => w_witness2
  case hc =>
    refine Ov.walkG (l := PySem.Challenge.rw_overstamps_k83_codes_of_parts) (n := 63) (k := 6) (x := "script") (CX := L2.CX0) rfl (by decide) (by kernel_rfl) ⟨rfl, by decide, by decide⟩ ?F (fun _ _ _ _ z => z)
    intro w mg fa h Y G hmg0
    obtain ⟨K, KX, c, ce⟩ := Y
    have hmg : mg ("law" : PySem.Str) = some (.ref fa) := by
      have e : (HandSHeadRun.topDef (OpenLaw.row PySem.Challenge.rw_overstamps_k83_codes_of_parts).prog 35).name = ("law" : PySem.Str) := by kernel_rfl
      rw [← e]
      exact hmg0
    obtain ⟨fd, hb, hF⟩ := K83.facts (P := (PySem.Challenge.rw_overstamps_k83_codes_of_parts).prog) (w := w) KX G hmg c ce
    exact ⟨K, fd, K83.spLaw K, KX, hb, fun H a ns hl hS => ⟨a, ns, rfl, hS, hl, fun _ _ => rfl⟩, hF⟩
end
