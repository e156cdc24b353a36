import PyProof.Rows.All
import Wide.All
import OpenK.AllK
import Wide.FinOn
import HandS.ForMost
import HandS.Exc
import HandS.ExcOwn
import HandS.ExcCtx
import HandS.ExcInit
import HandS.Hot
import HandS.HotCalls
import HandS.Wide
import HandS.Evl
import HandS.FStr
import HandS.IsInst
import HandS.Defaults
import HandS.Star
import HandS.TryOnly
import HandS.WordsExc
import HandS.RaiseMore
import HandS.HeadHook2
import HandS.HeadHook4
import HandS.Head2
import HandS.HeadEnd
import KE.KExcIs
import KE.KIsAll
import HandS.Walk
import HandS.Text
import HandS.SortInts
import HandS.Conv
import HandS.ClsMeth
import HandS.Property
import OpenK.KOps
import HandS.Strs
import PySem.Challenge.RW_overstamps_k81_codes_of_stamps

section
set_option Elab.async false
set_option linter.all false
set_option maxRecDepth 100000
set_option maxHeartbeats 2000000
namespace Ov
open PySem PySem.Spec PyProof.Rows L2
abbrev St := L2.St

/-- a def's promise in a place where nothing is being shown: the guards are known to be none -/
structure FnG (P : Program) (w : World) (K : PySem.W.Frag) (mg : Str → Option Value) (bh : Heap) (C : CXT) (k : Nat) (f : Addr) (fd : FuncData) (ps : List Str) (sp : Sp) : Prop where
  num : ∀ vs H Q E, sp vs H Q E → vs.length = ps.length
  go : ∀ (A : Around) (out : List Env) (s : Shared) (H : Hp) (ar : Args) (us : List Value) (vs : List V) (Q : VK) (E : XK), A.guards = some [] → Room k A →
    Env0 P w K mg bh A out s H → BindsTo s fd ar (ps.zip us) → Vals vs us → sp vs H Q E → codeAny (model P w) A (.call (.ref f) ar) (CR C out P w H s Q E) s

section
variable {P : Program} {w : World} {K : PySem.W.Frag} {mg : Str → Option Value} {bh : Heap} {C : CXT} {k : Nat} {f : Addr} {fd : FuncData} {ps : List Str} {sp : Sp}
theorem FnG.ofOk (F : FnOk P w K mg bh C k f fd ps sp) : FnG P w K mg bh C k f fd ps sp :=
  ⟨F.len, fun A out s H ar us vs Q E _ => F.run A out s H ar us vs Q E⟩
theorem FnG.up {j : Nat} (F : FnG P w K mg bh C j f fd ps sp) (h : j ≤ k) : FnG P w K mg bh C k f fd ps sp :=
  ⟨F.num, fun A out s H ar us vs Q E g r => F.go A out s H ar us vs Q E g (r.mono h)⟩

/-- the rule for such a def -/
theorem FnG.of {name qual : Str} {params : Arguments} {body : List Stmt} {sc : Scope} {dV kV dc pm cdv ct oc : Value} {an od : Option Addr} {osl : Array (Option Value)} {N : List Str}
    (lk : K.lookup f = some ⟨oc, od, .func (PySem.W.fnOf name qual params body sc dV kV dc pm an cdv ct), osl⟩) (hcd : PySem.W.codeIn K cdv qual = true) (S : FnScope N ps sc)
    (num : ∀ vs H Q E, sp vs H Q E → vs.length = ps.length)
    (hb : ∀ (A : Around) (out : List Env) (s : Shared) (H : Hp) (vs : List V) (Q : VK) (E : XK), A.guards = some [] → Room k (A.deeper (envOfC qual sc s.heap.objs.size f cdv)) → sp vs H Q E →
      ∃ t, PSs (cxOf C P w K mg bh N qual sc f cdv A out s H E) body t ∧ t { nx := fun _ H' => Q .non H', rt := Q } (start N vs) H) :
    FnG P w K mg bh C (k + 1) f (PySem.W.fnOf name qual params body sc dV kV dc pm an cdv ct) ps sp := by
  refine ⟨num, fun A out s H ar us vs Q E hgu hr e0 hbd rv hsp => ?_⟩
  have hlen := num _ _ _ _ hsp
  have KX : K.In s.heap := e0.mod.kin.keeps fun b o z => (e0.bs b o z).1
  have nl : s.heap.NoLimit := e0.mod.nolimit.keeps fun b o z => (e0.bs b o z).1
  have kinds : ∀ y ∈ ps.zip us, sc.names.lookup y.1 = some .local ∨ (sc.names.lookup y.1 = some .cell ∧ ((cellsFrom (s.heap.objs.size + 1) sc.names []).lookup y.1).isSome = true) := by
    rintro ⟨n, v⟩ hy
    exact (S.par n (List.of_mem_zip hy).1).imp id fun z => ⟨z, PySem.W.cellsFrom_some _ _ _ (.inl z)⟩
  refine codeAny_call_function hr.depth (KX _ _ lk) rfl S.co S.gen rfl (PySem.W.codeRec_of KX hcd) (hbd _ _ _ _ ?_)
  refine wpAny_newFunctionEnv_cells S.kind kinds fun ev hev s1 ic => ?_
  subst hev
  refine ⟨nl.keeps ic.toInCall.keep, codeAny_func ?_⟩
  obtain ⟨t, dt, rt⟩ := hb A out s H vs Q E hgu (hr.deeper _) hsp
  have I0 : Inv (cxOf C P w K mg bh N qual sc f cdv A out s H E) [] (start N vs) H s1 := inv_start S hr.hd e0 hlen rv ic
  refine wpAny_mono (dt.run [] s1 (start N vs) H _ I0 rt) (fun fl s2 z => ?_) fun _ _ z => z
  cases fl with
  | next =>
    obtain ⟨_, H2, J, q⟩ := z
    exact ⟨.non, H2, J.os, J.bare, J.base, J.hok, rfl, q⟩
  | ret u =>
    obtain ⟨v, _, H2, J, r2, q⟩ := z
    exact ⟨v, H2, J.os, J.bare, J.base, J.hok, r2, q⟩
  | brk => exact z.elim fun _ z => z.elim fun _ z => False.elim z.2
  | cont => exact z.elim fun _ z => z.elim fun _ z => False.elim z.2
end

section
variable {X : Cx} {C : CXT} {k : Nat} {f : Addr} {fd : FuncData} {ps : List Str} {sp : Sp} {E : XK} {x : Str} {p pos : Pos} {e : Expr} {es : List Expr} {t : TA}
theorem FnG.call {pins : List (Addr × Obj)} {σ : St} {H : Hp} {s : Shared} {Q : VK} {us : List Value} {vs : List V} (F : FnG X.prog X.w X.K X.mg X.base C k f fd ps sp) (hgu : X.A.guards = some []) (hr : Room k X.A)
    (hb : Binds X.K fd ps []) (hx : PassesAt C X σ E) (I : Inv X pins σ H s) (rv : Vals vs us) (h : sp vs H Q E) : wpAny (model X.prog X.w) X.A (call (.ref f) us) (EP X pins σ Q) X.xe s := by
  have hl : us.length = ps.length := by rw [← rv.length]; exact F.num _ _ _ _ h
  have hb2 := hb s us I.kIn (by rw [List.append_nil]; exact hl)
  rw [List.append_nil] at hb2
  refine wpAny_call (codeAny_mono (F.go X.A X.stack s H ⟨us, []⟩ us vs Q E hgu hr I.env0 hb2 rv h) fun res s2 z => ?_)
  match res, z with
  | .error er, z => exact hx pins H s er s2 I z
  | .ok (.ret u), z => exact I.after z
  | .ok .next, z => exact False.elim z
  | .ok .brk, z => exact False.elim z
  | .ok .cont, z => exact False.elim z
/-- f(e, ..) of such a def -/
theorem pe_g (F : FnG X.prog X.w X.K X.mg X.base C k f fd ps sp) (hgu : X.A.guards = some []) (hr : Room k X.A) (hm : X.mg x = some (.ref f)) (hk : PySem.W.keepIn X.K (.ref f) = true) (hb : Binds X.K fd ps [])
    (hx : ∀ σ, PassesAt C X σ E) (ha : PA X (e :: es) t) (hg : Gl X x := by rfl) (hdb : (x == ("__debug__" : Str)) = false := by decide)
    (he : starEach (e :: es) X.env = (false, eval e X.env) :: starEach es X.env := by rfl) (hpl : (backTo pos (starEach es X.env)).any (·.1) = false := by rfl) :
    PE X (.Call (.Name x p) (e :: es) [] pos) (tCall sp [] E t) := by
  refine ⟨fun pins s σ H Q I h => wpAny_Call_Name_kw (ld_glob I hg hm ?_ hdb)⟩
  refine PySem.W.callWith_K (h₀ := X.base) I.ok.mod.kin hk (thn (ha.run pos pins s σ H _ I h) fun us s1 z => ?_) he hpl
  obtain ⟨vs, H1, I1, rv, q⟩ := z
  rw [List.append_nil] at q
  exact ⟨I1.kIn, F.call hgu hr hb (hx σ) I1 rv q⟩
end

/-! ### the module's defs by their names -/
/-- the module's name x is the def st of the text -/
structure Wr (K : PySem.W.Frag) (mg : Str → Option Value) (x : Str) (st : Stmt) : Prop where
  ex : ∃ f fd, mg x = some (.ref f) ∧ Fun K x x st f fd
/-- the module's def x keeps the promise sp -/
structure Dn (P : Program) (w : World) (K : PySem.W.Frag) (mg : Str → Option Value) (bh : Heap) (C : CXT) (k : Nat) (x : Str) (ps : List Str) (sp : Sp) : Prop where
  ex : ∃ f fd, mg x = some (.ref f) ∧ PySem.W.keepIn K (.ref f) = true ∧ Binds K fd ps [] ∧ FnOk P w K mg bh C k f fd ps sp
structure DnG (P : Program) (w : World) (K : PySem.W.Frag) (mg : Str → Option Value) (bh : Heap) (C : CXT) (k : Nat) (x : Str) (ps : List Str) (sp : Sp) : Prop where
  ex : ∃ f fd, mg x = some (.ref f) ∧ PySem.W.keepIn K (.ref f) = true ∧ Binds K fd ps [] ∧ FnG P w K mg bh C k f fd ps sp
section
variable {P : Program} {w : World} {K : PySem.W.Frag} {mg : Str → Option Value} {bh : Heap} {C : CXT} {k : Nat} {x : Str} {st : Stmt} {ps : List Str} {sp : Sp}
abbrev BindsTxt (x : Str) (st : Stmt) (ps : List Str) : Prop := ∀ (kV dc pm : Value) (an : Option Addr) (cdv ct : Value) (us : List Value), us.length = ps.length →
  bindArgs (PySem.W.fnOf x x (defArgs st) (defBody st) (defScope st) .none kV dc pm an cdv ct) ⟨us, []⟩ = pure (ps.zip us)
theorem Dn.mk' (W : Wr K mg x st) (hb : BindsTxt x st ps) (h : ∀ f fd, Fun K x x st f fd → FnOk P w K mg bh C k f fd ps sp) : Dn P w K mg bh C k x ps sp := by
  obtain ⟨f, fd, g, F⟩ := W.ex
  exact ⟨f, fd, g, F.kp, F.binds hb, h f fd F⟩
theorem DnG.mk' (W : Wr K mg x st) (hb : BindsTxt x st ps) (h : ∀ f fd, Fun K x x st f fd → FnG P w K mg bh C k f fd ps sp) : DnG P w K mg bh C k x ps sp := by
  obtain ⟨f, fd, g, F⟩ := W.ex
  exact ⟨f, fd, g, F.kp, F.binds hb, h f fd F⟩
theorem FnG.fun_ {qual : Str} {f : Addr} {fd : FuncData} {N : List Str} (F : Fun K x qual st f fd) (S : FnScope N ps (defScope st)) (num : ∀ vs H Q E, sp vs H Q E → vs.length = ps.length)
    (hb : ∀ (cdv : Value) (A : Around) (out : List Env) (s : Shared) (H : Hp) (vs : List V) (Q : VK) (E : XK), A.guards = some [] → Room k (A.deeper (envOfC qual (defScope st) s.heap.objs.size f cdv)) → sp vs H Q E →
      ∃ t, PSs (cxOf C P w K mg bh N qual (defScope st) f cdv A out s H E) (defBody st) t ∧ t { nx := fun _ H' => Q .non H', rt := Q } (start N vs) H) : FnG P w K mg bh C (k + 1) f fd ps sp := by
  obtain ⟨oc, od, kV, dc, pm, an, cdv, ct, osl, rfl, lk, hcd⟩ := F.ex
  exact FnG.of lk hcd S num fun A out s H vs Q E hg hr hsp => hb cdv A out s H vs Q E hg hr hsp
end
section
variable {X : Cx} {C : CXT} {k : Nat} {ps : List Str} {sp : Sp} {E : XK} {x : Str} {p pos : Pos} {e : Expr} {es : List Expr} {t : TA}
/-- f(e, ..) of a def of the module -/
theorem pe_d (D : Dn X.prog X.w X.K X.mg X.base C k x ps sp) (hr : Room k X.A) (hx : Passes C X E) (ha : PA X (e :: es) t) (hg : Gl X x := by rfl) (hdb : (x == ("__debug__" : Str)) = false := by decide)
    (he : starEach (e :: es) X.env = (false, eval e X.env) :: starEach es X.env := by rfl) (hpl : (backTo pos (starEach es X.env)).any (·.1) = false := by rfl) :
    PE X (.Call (.Name x p) (e :: es) [] pos) (tCall sp [] E t) := by
  obtain ⟨f, fd, hm, hk, hb, F⟩ := D.ex
  exact pe_call F hr hg hm hk hb .nil hx ha hdb he hpl
theorem pe_d0 (D : Dn X.prog X.w X.K X.mg X.base C k x ps sp) (hr : Room k X.A) (hx : Passes C X E) (hg : Gl X x := by rfl) (hdb : (x == ("__debug__" : Str)) = false := by decide) :
    PE X (.Call (.Name x p) [] [] pos) (tCall sp [] E tNil) := by
  obtain ⟨f, fd, hm, hk, hb, F⟩ := D.ex
  exact pe_call0 F hr hg hm hk hb .nil hx hdb
theorem pe_dg (D : DnG X.prog X.w X.K X.mg X.base C k x ps sp) (hgu : X.A.guards = some []) (hr : Room k X.A) (hx : ∀ σ, PassesAt C X σ E) (ha : PA X (e :: es) t) (hg : Gl X x := by rfl) (hdb : (x == ("__debug__" : Str)) = false := by decide)
    (he : starEach (e :: es) X.env = (false, eval e X.env) :: starEach es X.env := by rfl) (hpl : (backTo pos (starEach es X.env)).any (·.1) = false := by rfl) :
    PE X (.Call (.Name x p) (e :: es) [] pos) (tCall sp [] E t) := by
  obtain ⟨f, fd, hm, hk, hb, F⟩ := D.ex
  exact pe_g F hgu hr hm hk hb hx ha hg hdb he hpl
end
end Ov
end

section
set_option Elab.async false
set_option linter.all false
set_option maxRecDepth 100000
set_option maxHeartbeats 2000000
namespace Ov
open PySem PySem.Spec PyProof.Rows L2

/-! ### powers and products of large ints -/
def CPowB (i j : Int) : Prop := 0 ≤ j ∧ (Builtin.Int.intBits i : Int) * j ≤ 2 ^ 27
theorem op_powB {X : Cx} : OpR X (binaryOp .Pow) (rI CPowB fun i j => .int (i ^ j.toNat)) := opI fun _ _ _ _ _ _ _ hc q => pow_int hc.1 hc.2 q

/-! ### what repr gives of data -/
/-- repr(x), x a list, a tuple or an int; its text is told by the data -/
def rRepr (K : PySem.W.Frag) : List V → Hp → VK → Prop := fun xs H Q => ∃ x d, xs = [x] ∧ Dp K H x d ∧ d.showable = true ∧ d.canLay0 = true ∧ d.depth ≤ 60 ∧ d.shown.length ≤ sizeLine ∧ (∃ a, x = .ref a) ∧ Q (.str d.shown) H
theorem call_reprD {X : Cx} (hgu : X.A.guards = some []) (hu : X.A.units + 64 < cLine) : CallR X (.builtin "repr") (rRepr X.K) := by
  intro pins s σ H xs us Q I rv h
  obtain ⟨x, d, rfl, hd, hs, hc, hdep, hl, ⟨a, rfl⟩, q⟩ := h
  cases rv with
  | cons r rr =>
    cases rr
    obtain ⟨as, rd⟩ := Dp.reads I d _ _ hd r
    obtain rfl := r
    refine repr_of_reads' rd hs (PyData.noDict_hsm (PyData.hasDict_of_canLay d hc)) hgu (by omega) (fun _ _ z => z) (fun h' u tk k => ?_) hl
    exact ⟨.str d.shown, H, I.kept k, ⟨_, rfl⟩, q⟩
end Ov
end

section
set_option Elab.async false
set_option linter.all false
set_option maxRecDepth 100000
set_option maxHeartbeats 2000000
namespace Ov
open PySem PySem.Spec PyProof.Rows L2

/-! ### an own error whose base is an own class over ValueError -/
/-- what the written part says of a class that is named as a base in an __init__ -/
structure BaseI (K : PySem.W.Frag) (mg : Str → Option Value) (x : Str) : Prop where
  ex : ∃ CS mc, mg x = some (.ref CS) ∧ PySem.W.specialIn K (.ref CS) "__getattribute__" = some (some (.builtin "type.__getattribute__")) ∧ PySem.W.readsIn K CS mc = true ∧
    PySem.W.findCls K (.ref CS) mc "__init__" = some (.val (.builtin "ValueError.__init__"))
section
variable {X : Cx} {e : Expr} {es : List Expr} {ta : TA} {p1 p2 pos : Pos} {x : Str}
/-- S.__init__(self, ..), S such a class -/
theorem pe_binit {pl : Sem Bool} (B : BaseI X.K X.mg x) (ha : PA X (e :: es) ta) (hg : Gl X x := by rfl) (hdb : (x == ("__debug__" : Str)) = false := by decide)
    (hc : eval (.Call (.Attribute (.Name x p1) "__init__" p2) (e :: es) [] pos) X.env = (do
      let ov ← eval (.Name x p1) X.env
      standAt p2.atName
      let (f, first) ← holding [ov] (getMethod ov "__init__" pl)
      callWith pos f first (backTo pos (starEach (e :: es) X.env)) (backToKw pos (keywordEach [] X.env))) := by rfl)
    (he : starEach (e :: es) X.env = (false, eval e X.env) :: starEach es X.env := by rfl) (hpl : (backTo pos (starEach es X.env)).any (·.1) = false := by rfl) :
    PE X (.Call (.Attribute (.Name x p1) "__init__" p2) (e :: es) [] pos) (tVeI X.K ta) := by
  obtain ⟨CS, mc, hm, hsp, hrd, hf⟩ := B.ex
  refine ⟨fun pins s σ H Q I h => ?_⟩
  refine PySem.W.methodCall_KW (ld_glob I hg hm ?_ hdb) hc
  refine PySem.W.method_cls I.kIn hsp (PySem.W.cls_value I.kIn hrd hf (by decide +kernel) ?_)
  show wpAny _ _ (callWith pos (Value.builtin "ValueError.__init__") [] (backTo pos (starEach (e :: es) X.env)) []) _ _ _
  refine PyProof.Rows.callWith_method1 (thn (ha.run pos pins _ σ H _ (I.tok _) h) fun us s1 z => ?_) he hpl
  obtain ⟨vs, H1, I1, r1, a, C, ws, rfl, hl, T, ea, q⟩ := z
  cases r1 with
  | cons ra rw' =>
    rename_i u0 ur
    obtain rfl : u0 = Value.ref a := ra
    exact oinit_ok T I1 ea (by rw [← Paired.length rw', sizeLine_eq]; omega) fun s' J => ⟨.non, H1, J, rfl, q⟩
end

/-! ### such an error made where nothing is handled; its context is None -/
section
variable {X : Cx} {e : Expr} {es : List Expr} {ta : TA} {p pos : Pos} {x : Str}
/-- what the module says of the error class x and of its __init__ -/
structure ErrI (K : PySem.W.Frag) (x : Str) (Cx0 fI : Addr) : Prop where
  o : OexC K Cx0
  iC : PySem.W.findIn K (.ref Cx0) "__init__" = some (some (.ref fI))
  tI : PySem.W.typeIn K (.ref fI) = some (.type "function")
theorem pmk_err {C : CXT} {Ca fI : Addr} {k : Nat} {fd : FuncData} {ps : List Str} {sp : Sp} (T : ErrI X.K x Ca fI) (F1 : FnOk X.prog X.w X.K X.mg X.base C k fI fd ps sp) (hr : Room (k + 1) X.A) (hb : Binds X.K fd ps [])
    (hx : Passes C X (fun _ _ _ => False)) (hm : X.mg x = some (.ref Ca)) (ha : PA X (e :: es) ta) (hg : Gl X x := by rfl) (hdb : (x == ("__debug__" : Str)) = false := by decide)
    (he : starEach (e :: es) X.env = (false, eval e X.env) :: starEach es X.env := by rfl) (hpl : (backTo pos (starEach es X.env)).any (·.1) = false := by rfl) :
    L2N.PMk X (.Call (.Name x p) (e :: es) [] pos) (tMkO Ca sp [] ta) := by
  intro pins s σ H Q I h
  have TC := T.o
  obtain ⟨nm, q, N, bs, bm, sn, sub, ab, col, dd, k0, k1, k2, k3, k5, hC, hbm⟩ := TC.cls
  refine wpAny_Call_Name_kw (ld_glob I hg hm ?_ hdb)
  refine PySem.W.callWith_K (h₀ := X.base) I.ok.mod.kin TC.kC (thn (ha.run pos pins s σ H _ I h) fun us s1 z => ?_) he hpl
  obtain ⟨vs, H1, I1, rv, hz, q1⟩ := z
  refine ⟨I1.kIn, ?_⟩
  show wpAny _ _ (call (.ref Ca) us) _ _ _
  obtain ⟨hp, gs, dr, tk, os⟩ := s1
  have above : hp.objs.size ≤ hp.objs.size + 1 := Nat.le_succ _
  have free1 : H1 (hp.objs.size + 1) = none := I1.hok.fresh above
  have hq := q1 (hp.objs.size + 1) free1
  rw [List.append_nil] at hq
  have keep2 : ∀ b o, hp.get? b = some o → ((hp.push (PySem.W.kdv_tup us)).push (PySem.HandSPX.excO Ca hp.objs.size)).get? b = some o := fun b o z => Heap.get?_push_of_some _ (Heap.get?_push_of_some _ z)
  have at2 : ((hp.push (PySem.W.kdv_tup us)).push (PySem.HandSPX.excO Ca hp.objs.size)).get? (hp.objs.size + 1) = some (PySem.HandSPX.excO Ca hp.objs.size) := by heap_get
  have I2 : Inv X pins σ (upd H1 (hp.objs.size + 1) (exo (hp.objs.size + 1) Ca none)) ⟨(hp.push (PySem.W.kdv_tup us)).push (PySem.HandSPX.excO Ca hp.objs.size), gs, dr, tk, os⟩ :=
    I1.laid (t' := tk) keep2 above (exo_ok at2)
  have rv2 : Vals (V.ref (hp.objs.size + 1) :: vs) (Value.ref (hp.objs.size + 1) :: us) := .cons rfl rv
  have hl : (Value.ref (hp.objs.size + 1) :: us).length = ps.length := by rw [← rv2.length]; exact F1.len _ _ _ _ hq
  have hb2 := hb ⟨(hp.push (PySem.W.kdv_tup us)).push (PySem.HandSPX.excO Ca hp.objs.size), gs, dr, tk, os⟩ (Value.ref (hp.objs.size + 1) :: us) I2.kIn (by rw [List.append_nil]; exact hl)
  rw [List.append_nil] at hb2
  have hus : us.length ≤ sizeLine := by
    rw [← Paired.length rv, sizeLine_eq]
    omega
  refine wpAny_call (PySem.HandSPX.call_own F.excBase_ValueError (fun Y => PySem.HandSPX.refsVE_contains Y bm hbm) (I1.kIn _ _ hC) (PySem.W.looks_findIn I1.kIn T.iC) (fun self => PySem.W.bind_fn I1.kIn self T.tI) hus
    (codeAny_mono (F1.run _ X.stack _ _ ⟨Value.ref (hp.objs.size + 1) :: us, []⟩ (Value.ref (hp.objs.size + 1) :: us) _ _ (fun _ _ _ => False) (hr.make Ca us []) (I2.env0.make Ca us []) hb2 rv2 hq) fun res s' z => ?_))
  match res, z with
  | .error er, z => exact hx pins σ _ _ er s' I2 z
  | .ok (.ret u), z =>
    obtain ⟨v, H2, os2, bare2, un2, hok2, r3, ev, d, fs, ea, ed, hd1, q2⟩ := z
    subst ev
    obtain ⟨h2, g2, d2, t2, os'⟩ := s'
    obtain ⟨t0, G, J, kG, gn, hoe, na⟩ := mk_end0 (d2 := d2) (t2 := t2) I1 above keep2 un2 hok2 os2 bare2 ea ed hd1
    exact ⟨r3, hp.objs.size + 1, _, _, ⟨G, g2, d2, t2, os'⟩, _, .ref Ca, some d, rfl, J, kG, gn, hoe, ⟨rfl, rfl, fun vs z => by cases z; rfl⟩, rfl, rfl, na, rfl, bare2, raises_own TC.exC TC.tyC, q2⟩
  | .ok .next, z => exact False.elim z
  | .ok .brk, z => exact False.elim z
  | .ok .cont, z => exact False.elim z
end

/-! ### the exception that is handled: as an argument, its class, its field -/
/-- what the class of such an exception must say -/
structure ExK (K : PySem.W.Frag) (D : Addr) : Prop where
  cl : (PySem.W.clsIn K D).isSome = true
  ga : PySem.W.findIn K (.ref D) "__getattribute__" = some (some (.builtin "BaseException.__getattribute__"))
  gg : PySem.W.findIn K (.ref D) "__getattr__" = some none
  be : PySem.W.subIn K (.ref D) (.type "BaseException") = some true
  hd : PySem.W.hasDictIn K D = true
  ca : PySem.W.findIn K (.ref D) "__class__" = some (some (.builtin "object.__class__"))
  cg : PySem.W.specialIn K (.builtin "object.__class__") "__get__" = some (some (.builtin "getset_descriptor.__get__"))
  ct : PySem.W.takesIn K (.builtin "object.__class__") = some true
  mo : PySem.W.mroIn K D (.type "object") = some true
/-- its dict, if it has one, is tracked -/
def XdAt (H : Hp) : Option Addr → Prop
  | none => True
  | some dd => ∃ fs, H dd = some (.xd fs)
section
variable {X : Cx} {a D : Addr} {oe : Obj} {d : Option Addr} {pins : List (Addr × Obj)} {σ : St} {H : Hp} {s : Shared}
theorem inst_pin (hp : (a, oe) ∈ X.pn) (hz : Zc (.ref D) d oe) (hf : ∃ vs, oe.data = .fields vs) (I : Inv X pins σ H s) (hx : XdAt H d) : ∃ od, PySem.W.InstAt s.heap a oe D od := by
  obtain ⟨hget, _⟩ := I.pin (a, oe) (List.mem_append_left _ hp)
  obtain ⟨fv, hv⟩ := hf
  have hno : PySem.W.notCls oe = true := by unfold PySem.W.notCls; rw [hv] <;> rfl
  cases d with
  | none => exact ⟨none, hget, hz.1, hno, by rw [hz.2]; trivial⟩
  | some dd =>
    obtain ⟨fs, hfs⟩ := hx
    obtain ⟨mA, hns, _⟩ := (show ObjOk X.prog X.w H s.heap dd (.xd fs) from I.hok dd _ hfs)
    obtain ⟨od, ho, _⟩ := lookIn_ns hns
    exact ⟨some od, hget, hz.1, hno, by rw [hz.2]; exact ho⟩
theorem kit_pin {od : Option Obj} (T : ExK X.K D) : PySem.W.KitX X.K (.ref a) (.ref D) (fun h => PySem.W.InstAt h a oe D od) :=
  PySem.W.kitx_exc T.cl T.ga T.gg T.be T.ca T.cg T.ct T.mo
/-- isinstance(e, c) -/
def rIsP (K : PySem.W.Frag) (D a : Addr) (d : Option Addr) : List V → Hp → VK → Prop := fun xs H Q => ∃ (c : V) (cv : Value) (b : Bool), xs = [.ref a, c] ∧ ClsV c cv ∧ XdAt H d ∧ PySem.W.kitOne K (.ref D) cv = some b ∧ Q (.bl b) H
/-- isinstance(e, (c1, c2, ..)) -/
def rIsPT (K : PySem.W.Frag) (D a : Addr) (d : Option Addr) : List V → Hp → VK → Prop := fun xs H Q => ∃ (tp : Addr) (cs : List V) (us : List Value) (b : Bool), xs = [.ref a, .ref tp] ∧ H tp = some (.tup cs) ∧ Paired ClsV cs us ∧ XdAt H d ∧
  PySem.W.kitAny K (.ref D) us = some b ∧ Q (.bl b) H
theorem call_isP (T : ExK X.K D) (hp : (a, oe) ∈ X.pn) (hz : Zc (.ref D) d oe) (hf : ∃ vs, oe.data = .fields vs) : CallR X (.builtin "isinstance") (rIsP X.K D a d) := by
  intro pins s σ H xs us Q I r h
  obtain ⟨c, cv, b, rfl, kc, hx, e, q⟩ := h
  obtain ⟨u1, u2, rfl, r1, r2⟩ := vals2 r
  obtain rfl : u1 = Value.ref a := r1
  obtain rfl := kc.eq r2
  obtain ⟨od, J⟩ := inst_pin hp hz hf I hx
  exact PySem.W.kia_one (kit_pin T) I.kIn J e (fun z => nomatch z) fun tk => ⟨.bl b, H, I.tok tk, rfl, q⟩
theorem call_isPT (T : ExK X.K D) (hp : (a, oe) ∈ X.pn) (hz : Zc (.ref D) d oe) (hf : ∃ vs, oe.data = .fields vs) : CallR X (.builtin "isinstance") (rIsPT X.K D a d) := by
  intro pins s σ H xs us Q I r h
  obtain ⟨tp, cs, ws, b, rfl, hT, kc, hx, e, q⟩ := h
  obtain ⟨u1, u2, rfl, r1, r2⟩ := vals2 r
  obtain rfl : u1 = Value.ref a := r1
  obtain rfl : u2 = Value.ref tp := r2
  obtain ⟨od, J⟩ := inst_pin hp hz hf I hx
  obtain ⟨_, its, rv, o, h1, h2, n, h3⟩ := (show ObjOk X.prog X.w H s.heap tp (.tup cs) from I.hok tp _ hT)
  obtain rfl := ClsV.all kc rv
  obtain ⟨oc, odd, dt, sl⟩ := o
  simp only at h2 h3
  subst h2 h3
  exact PySem.W.kia_tup (kit_pin T) I.kIn J h1 e (fun z => nomatch z) fun tk => ⟨.bl b, H, I.tok tk, rfl, q⟩
/-- e.f -/
def tXp (a : Addr) (d : Option Addr) (f : Str) (te : TE) : TE := fun σ H Q => te σ H fun x H1 => x = .ref a ∧ ∃ (dd : Addr) (fs : List (Str × V)) (v : V), d = some dd ∧ H1 dd = some (.xd fs) ∧ fs.lookup f = some v ∧ Q v H1
theorem pe_xp {e : Expr} {te : TE} {pos : Pos} {n : Str} (T : ExK X.K D) (hno : PySem.W.findIn X.K (.ref D) n = some none) (hp : (a, oe) ∈ X.pn) (hz : Zc (.ref D) d oe) (hf : ∃ vs, oe.data = .fields vs) (he : PE X e te)
    (hb : attributeBase e n X.env (eval e X.env) = eval e X.env := by rfl) : PE X (.Attribute e n pos) (tXp a d n te) := by
  refine ⟨fun pins s σ H Q I h => attr_of hb (thn (he.run pins s σ H _ I h) fun u s1 z => ?_)⟩
  obtain ⟨x, H1, I1, rx, ex, dd, fs, v, ed, ea, l, q⟩ := z
  subst ex ed
  obtain rfl : u = Value.ref a := rx
  obtain ⟨hget, _⟩ := I1.pin (a, oe) (List.mem_append_left _ hp)
  obtain ⟨fv, hv⟩ := hf
  obtain ⟨mA, hns, hrel⟩ := (show ObjOk X.prog X.w H1 s1.heap dd (.xd fs) from I1.hok dd _ ea)
  obtain ⟨od, ho, hlk⟩ := lookIn_ns hns
  obtain ⟨u, hu, ru⟩ := RelO.some_of (v := v) (o := mA n) (by rw [← l]; exact hrel n)
  have J : PySem.W.InstAt s1.heap a oe D (some od) := ⟨hget, hz.1, by unfold PySem.W.notCls; rw [hv] <;> rfl, by rw [hz.2]; exact ho⟩
  exact HandSPX.exc_get I1.kIn J T.ga T.gg T.be (PySem.W.findObj_own T.hd hno rfl (by rw [hlk, hu])) (handed_of ru) ⟨v, H1, I1.tok _, ru, q⟩
end

/-! ### a def that is called with the exception that is handled -/
abbrev SpE := Addr → Value → Option Addr → Sp
structure FnE (P : Program) (w : World) (K : PySem.W.Frag) (mg : Str → Option Value) (bh : Heap) (C : CXT) (k : Nat) (f : Addr) (fd : FuncData) (ps : List Str) (sp : SpE) : Prop where
  num : ∀ a cls d vs H Q E, sp a cls d vs H Q E → vs.length = ps.length
  go : ∀ (A : Around) (out : List Env) (s : Shared) (H : Hp) (ar : Args) (us : List Value) (vs : List V) (Q : VK) (E : XK) (p : Addr × Obj) (cls : Value) (d : Option Addr), L2H.RoomH k A → L2H.Hot1 A p → L2H.PinOk out H s p → Zc cls d p.2 →
    Env0 P w K mg bh A out s H → BindsTo s fd ar (ps.zip us) → Vals vs us → sp p.1 cls d vs H Q E → codeAny (model P w) A (.call (.ref f) ar) (CR C out P w H s Q E) s
section
variable {P : Program} {w : World} {K : PySem.W.Frag} {mg : Str → Option Value} {bh : Heap} {C : CXT} {k : Nat} {f : Addr} {fd : FuncData} {ps : List Str} {sp : SpE}
theorem FnE.of {name qual : Str} {params : Arguments} {body : List Stmt} {sc : Scope} {dV kV dc pm cdv ct oc : Value} {an od : Option Addr} {osl : Array (Option Value)} {N : List Str}
    (lk : K.lookup f = some ⟨oc, od, .func (PySem.W.fnOf name qual params body sc dV kV dc pm an cdv ct), osl⟩) (hcd : PySem.W.codeIn K cdv qual = true) (S : FnScope N ps sc)
    (num : ∀ a cls d vs H Q E, sp a cls d vs H Q E → vs.length = ps.length)
    (hb : ∀ (A : Around) (out : List Env) (s : Shared) (H : Hp) (vs : List V) (Q : VK) (E : XK) (p : Addr × Obj) (cls : Value) (d : Option Addr), L2H.Hot1 A p → Zc cls d p.2 → L2H.RoomH k (A.deeper (envOfC qual sc s.heap.objs.size f cdv)) → sp p.1 cls d vs H Q E →
      ∃ t, PSs (L2H.cxH C P w K mg bh N qual sc f cdv A out s H E p) body t ∧ t { nx := fun _ H' => Q .non H', rt := Q } (start N vs) H) :
    FnE P w K mg bh C (k + 1) f (PySem.W.fnOf name qual params body sc dV kV dc pm an cdv ct) ps sp := by
  refine ⟨num, fun A out s H ar us vs Q E p cls d hr hot hpin hz e0 hbd rv hsp => ?_⟩
  have hlen := num _ _ _ _ _ _ _ hsp
  have KX : K.In s.heap := e0.mod.kin.keeps fun b o z => (e0.bs b o z).1
  have nl : s.heap.NoLimit := e0.mod.nolimit.keeps fun b o z => (e0.bs b o z).1
  have kinds : ∀ y ∈ ps.zip us, sc.names.lookup y.1 = some .local ∨ (sc.names.lookup y.1 = some .cell ∧ ((cellsFrom (s.heap.objs.size + 1) sc.names []).lookup y.1).isSome = true) := by
    rintro ⟨n, v⟩ hy
    exact (S.par n (List.of_mem_zip hy).1).imp id fun z => ⟨z, PySem.W.cellsFrom_some _ _ _ (.inl z)⟩
  refine codeAny_call_function hr.depth (KX _ _ lk) rfl S.co S.gen rfl (PySem.W.codeRec_of KX hcd) (hbd _ _ _ _ ?_)
  refine wpAny_newFunctionEnv_cells S.kind kinds fun ev hev s1 ic => ?_
  subst hev
  refine ⟨nl.keeps ic.toInCall.keep, codeAny_func ?_⟩
  obtain ⟨t, dt, rt⟩ := hb A out s H vs Q E p cls d hot hz (hr.deeper _) hsp
  have I0 : Inv (L2H.cxH C P w K mg bh N qual sc f cdv A out s H E p) [] (start N vs) H s1 := L2H.inv_startH S hpin e0 hlen rv ic
  refine wpAny_mono (dt.run [] s1 (start N vs) H _ I0 rt) (fun fl s2 z => ?_) fun _ _ z => z
  cases fl with
  | next =>
    obtain ⟨_, H2, J, q⟩ := z
    exact ⟨.non, H2, J.os, J.bare, J.base, J.hok, rfl, q⟩
  | ret u =>
    obtain ⟨v, _, H2, J, r2, q⟩ := z
    exact ⟨v, H2, J.os, J.bare, J.base, J.hok, r2, q⟩
  | brk => exact z.elim fun _ z => z.elim fun _ z => False.elim z.2
  | cont => exact z.elim fun _ z => z.elim fun _ z => False.elim z.2
end
structure DnE (P : Program) (w : World) (K : PySem.W.Frag) (mg : Str → Option Value) (bh : Heap) (C : CXT) (k : Nat) (x : Str) (ps : List Str) (sp : SpE) : Prop where
  ex : ∃ f fd, mg x = some (.ref f) ∧ PySem.W.keepIn K (.ref f) = true ∧ Binds K fd ps [] ∧ FnE P w K mg bh C k f fd ps sp
section
variable {P : Program} {w : World} {K : PySem.W.Frag} {mg : Str → Option Value} {bh : Heap} {C : CXT} {k : Nat} {x : Str} {st : Stmt} {ps : List Str} {sp : SpE}
theorem DnE.mk' (W : Wr K mg x st) (hb : BindsTxt x st ps) (h : ∀ f fd, Fun K x x st f fd → FnE P w K mg bh C k f fd ps sp) : DnE P w K mg bh C k x ps sp := by
  obtain ⟨f, fd, g, F⟩ := W.ex
  exact ⟨f, fd, g, F.kp, F.binds hb, h f fd F⟩
theorem FnE.fun_ {qual : Str} {f : Addr} {fd : FuncData} {N : List Str} (F : Fun K x qual st f fd) (S : FnScope N ps (defScope st)) (num : ∀ a cls d vs H Q E, sp a cls d vs H Q E → vs.length = ps.length)
    (hb : ∀ (cdv : Value) (A : Around) (out : List Env) (s : Shared) (H : Hp) (vs : List V) (Q : VK) (E : XK) (p : Addr × Obj) (cls : Value) (d : Option Addr), L2H.Hot1 A p → Zc cls d p.2 → L2H.RoomH k (A.deeper (envOfC qual (defScope st) s.heap.objs.size f cdv)) → sp p.1 cls d vs H Q E →
      ∃ t, PSs (L2H.cxH C P w K mg bh N qual (defScope st) f cdv A out s H E p) (defBody st) t ∧ t { nx := fun _ H' => Q .non H', rt := Q } (start N vs) H) : FnE P w K mg bh C (k + 1) f fd ps sp := by
  obtain ⟨oc, od, kV, dc, pm, an, cdv, ct, osl, rfl, lk, hcd⟩ := F.ex
  exact FnE.of lk hcd S num fun A out s H vs Q E p cls d hot hz hr hsp => hb cdv A out s H vs Q E p cls d hot hz hr hsp
end
section
variable {X : Cx} {C : CXT} {k : Nat} {ps : List Str} {sp : SpE} {E : XK} {x : Str} {p pos : Pos} {e : Expr} {es : List Expr} {t : TA} {a : Addr} {oe : Obj} {cls : Value} {d : Option Addr}
/-- f(e, ..) in the suite that holds (a, oe) -/
theorem pe_e (D : DnE X.prog X.w X.K X.mg X.base C k x ps sp) (hr : L2H.RoomH k X.A) (hot : L2H.Hot1 X.A (a, oe)) (hp : (a, oe) ∈ X.pn) (hz : Zc cls d oe) (hx : ∀ σ, PassesAt C X σ E) (ha : PA X (e :: es) t) (hg : Gl X x := by rfl)
    (hdb : (x == ("__debug__" : Str)) = false := by decide) (he : starEach (e :: es) X.env = (false, eval e X.env) :: starEach es X.env := by rfl) (hpl : (backTo pos (starEach es X.env)).any (·.1) = false := by rfl) :
    PE X (.Call (.Name x p) (e :: es) [] pos) (tCall (sp a cls d) [] E t) := by
  obtain ⟨f, fd, hm, hk, hb, F⟩ := D.ex
  refine ⟨fun pins s σ H Q I h => wpAny_Call_Name_kw (ld_glob I hg hm ?_ hdb)⟩
  refine PySem.W.callWith_K (h₀ := X.base) I.ok.mod.kin hk (thn (ha.run pos pins s σ H _ I h) fun us s1 z => ?_) he hpl
  obtain ⟨vs, H1, I1, rv, q⟩ := z
  rw [List.append_nil] at q
  refine ⟨I1.kIn, ?_⟩
  have hl : us.length = ps.length := by rw [← rv.length]; exact F.num _ _ _ _ _ _ _ q
  have hb2 := hb s1 us I1.kIn (by rw [List.append_nil]; exact hl)
  rw [List.append_nil] at hb2
  have P1 := I1.pin (a, oe) (List.mem_append_left _ hp)
  have hpin : L2H.PinOk X.stack H1 s1 (a, oe) := ⟨P1.1, P1.2.1, fun hm => (List.mem_cons.mp (I1.stkSub a hm)).elim P1.2.2.1 P1.2.2.2.1, P1.2.2.2.2⟩
  refine wpAny_call (codeAny_mono (F.go X.A X.stack s1 H1 ⟨us, []⟩ us vs Q E (a, oe) cls d hr hot hpin hz I1.env0 hb2 rv q) fun res s2 z => ?_)
  match res, z with
  | .error er, z => exact hx σ pins H1 s1 er s2 I1 z
  | .ok (.ret u), z => exact I1.after z
  | .ok .next, z => exact False.elim z
  | .ok .brk, z => exact False.elim z
  | .ok .cont, z => exact False.elim z
end

/-! ### calls whose exception is wished for at the caller's slots -/
section
variable {X : Cx} {C : CXT} {k : Nat} {ps ks : List Str} {sp : Sp} {E : St → XK} {x : Str} {p pos : Pos} {e : Expr} {es : List Expr} {kws : List Keyword} {t tk : TA}
theorem pe_dS (D : Dn X.prog X.w X.K X.mg X.base C k x ps sp) (hr : Room k X.A) (hx : ∀ σ, PassesAt C X σ (E σ)) (ha : PA X (e :: es) t) (hg : Gl X x := by rfl) (hdb : (x == ("__debug__" : Str)) = false := by decide)
    (he : starEach (e :: es) X.env = (false, eval e X.env) :: starEach es X.env := by rfl) (hpl : (backTo pos (starEach es X.env)).any (·.1) = false := by rfl) :
    PE X (.Call (.Name x p) (e :: es) [] pos) (tCallS sp E t) := by
  obtain ⟨f, fd, hm, hk, hb, F⟩ := D.ex
  exact pe_callS F hr hg hm hk hb hx ha hdb he hpl
end
end Ov
end

section
set_option Elab.async false
set_option linter.all false
set_option maxRecDepth 100000
set_option maxHeartbeats 2000000
namespace Ov
open PySem PySem.Spec PyProof.Rows L2

/-! ### calls by keywords -/
/-- the positional values, then the keywords' values, in the order js -/
def gIn {α : Type} (js : List Nat) (us ws : List α) : List α := us ++ js.filterMap (fun j => ws[j]?)
theorem gIn_rel {js : List Nat} {vs zs : List V} {us ws : List Value} (r : Vals vs us) (q : Vals zs ws) : Vals (gIn js vs zs) (gIn js us ws) := by
  refine r.append ?_
  induction js with
  | nil => exact .nil
  | cons j js ih =>
    rw [List.filterMap_cons, List.filterMap_cons]
    cases e : zs[j]? with
    | some x =>
      obtain ⟨u, hu, ru⟩ := Vals.get q e
      rw [hu]
      exact .cons ru ih
    | none =>
      rw [Vals.none_of q e]
      exact ih
/-- the module's def x keeps the promise sp, called with the keywords ks -/
structure DnK (P : Program) (w : World) (K : PySem.W.Frag) (mg : Str → Option Value) (bh : Heap) (C : CXT) (k : Nat) (x : Str) (ps ks : List Str) (js : List Nat) (sp : Sp) : Prop where
  ex : ∃ f fd, mg x = some (.ref f) ∧ PySem.W.keepIn K (.ref f) = true ∧ KBinds K fd ps ks (gIn js) (gIn js) ∧ FnOk P w K mg bh C k f fd ps sp
abbrev KBindsTxt (x : Str) (st : Stmt) (ps ks : List Str) (js : List Nat) : Prop := ∀ (kV dc pm : Value) (an : Option Addr) (cdv ct : Value) (us ws : List Value), (gIn js us ws).length = ps.length →
  bindArgs (PySem.W.fnOf x x (defArgs st) (defBody st) (defScope st) .none kV dc pm an cdv ct) ⟨us, ks.zip ws⟩ = pure (ps.zip (gIn js us ws))
section
variable {P : Program} {w : World} {K : PySem.W.Frag} {mg : Str → Option Value} {bh : Heap} {C : CXT} {k : Nat} {x : Str} {st : Stmt} {ps ks : List Str} {js : List Nat} {sp : Sp}
theorem DnK.mk' (W : Wr K mg x st) (hb : KBindsTxt x st ps ks js) (h : ∀ f fd, Fun K x x st f fd → FnOk P w K mg bh C k f fd ps sp) : DnK P w K mg bh C k x ps ks js sp := by
  obtain ⟨f, fd, g, F⟩ := W.ex
  have FO := h f fd F
  obtain ⟨oc, od, kV, doc, pm, an, cdv, ct, osl, rfl, lk, hcd⟩ := F.ex
  exact ⟨f, _, g, F.kp, ⟨fun s us ws _ hl => .of_eq (hb kV doc pm an cdv ct us ws hl), fun r q => gIn_rel r q⟩, FO⟩
end
/-- f(e, .., k = v, ..); the exception's wish at the caller's slots -/
def tCallKS (js : List Nat) (sp : Sp) (E : St → XK) (t tk : TA) : TE := fun σ H Q => t σ H fun vs H1 => tk σ H1 fun zs H2 => sp (gIn js vs zs) H2 Q (E σ)
section
variable {X : Cx} {C : CXT} {k : Nat} {ps ks : List Str} {js : List Nat} {sp : Sp} {E : St → XK} {x : Str} {p pos : Pos} {e : Expr} {es : List Expr} {kws : List Keyword} {t tk : TA}
theorem run_ks {f : Addr} {fd : FuncData} {g : List Value → List Value → List Value} {gV : List V → List V → List V} {E : XK} {pins : List (Addr × Obj)} {σ : St} {H : Hp} {s : Shared} {Q : VK} {us ws : List Value} {vs zs : List V} (F : FnOk X.prog X.w X.K X.mg X.base C k f fd ps sp)
    (hr : Room k X.A) (hb : KBinds X.K fd ps ks g gV) (hx : PassesAt C X σ E) (I : Inv X pins σ H s) (r : Vals vs us) (rz : Vals zs ws) (h : sp (gV vs zs) H Q E) :
    wpAny (model X.prog X.w) X.A (call (.ref f) us (ks.zip ws)) (EP X pins σ Q) X.xe s := by
  have r2 := hb.rel r rz
  have hl : (g us ws).length = ps.length := r2.length.symm.trans (F.len _ _ _ _ h)
  refine wpAny_call (codeAny_mono (F.run X.A X.stack s H ⟨us, ks.zip ws⟩ (g us ws) (gV vs zs) Q E hr I.env0 (hb.to s us ws I.kIn hl) r2 h) fun res s2 z => ?_)
  match res, z with
  | .error er, z => exact hx pins H s er s2 I z
  | .ok (.ret u), z => exact I.after z
  | .ok .next, z => exact False.elim z
  | .ok .brk, z => exact False.elim z
  | .ok .cont, z => exact False.elim z
/-- f(k = v, ..) -/
theorem pe_k0 (D : DnK X.prog X.w X.K X.mg X.base C k x ps ks js sp) (hr : Room k X.A) (hx : ∀ σ, PassesAt C X σ (E σ)) (hkw : PK X kws tk) (hg : Gl X x := by rfl) (hdb : (x == ("__debug__" : Str)) = false := by decide)
    (hall : (backToKw pos (keywordEach kws X.env)).all (·.1.isSome) = true := by rfl) (hks : (backToKw pos (keywordEach kws X.env)).filterMap (·.1) = ks := by rfl)
    (hpl : ((backTo pos (starEach [] X.env)).any (·.1) || (backToKw pos (keywordEach kws X.env)).any (·.1.isNone)) = false := by rfl) :
    PE X (.Call (.Name x p) [] kws pos) (tCallKS js sp E tNil tk) := by
  obtain ⟨f, fd, hm, hk, hb, F⟩ := D.ex
  refine ⟨fun pins s σ H Q I h => wpAny_Call_Name_kw (ld_glob I hg hm ?_ hdb)⟩
  refine PySem.W.callWith_KW0 (h₀ := X.base) I.ok.mod.kin hk hall (thn (hkw.run pos pins s σ H _ I h) fun ws s2 z => ?_) hpl
  obtain ⟨zs, H2, I2, rz, q2⟩ := z
  refine ⟨I2.kIn, ?_⟩
  rw [hks]
  exact run_ks F hr hb (hx σ) I2 .nil rz q2
/-- f(e, .., k = v, ..) -/
theorem pe_k (D : DnK X.prog X.w X.K X.mg X.base C k x ps ks js sp) (hr : Room k X.A) (hx : ∀ σ, PassesAt C X σ (E σ)) (ha : PA X (e :: es) t) (hkw : PK X kws tk) (hg : Gl X x := by rfl) (hdb : (x == ("__debug__" : Str)) = false := by decide)
    (hall : (backToKw pos (keywordEach kws X.env)).all (·.1.isSome) = true := by rfl) (hks : (backToKw pos (keywordEach kws X.env)).filterMap (·.1) = ks := by rfl)
    (he : starEach (e :: es) X.env = (false, eval e X.env) :: starEach es X.env := by rfl)
    (hpl : ((backTo pos (starEach (e :: es) X.env)).any (·.1) || (backToKw pos (keywordEach kws X.env)).any (·.1.isNone)) = false := by rfl) :
    PE X (.Call (.Name x p) (e :: es) kws pos) (tCallKS js sp E t tk) := by
  obtain ⟨f, fd, hm, hk, hb, F⟩ := D.ex
  refine ⟨fun pins s σ H Q I h => wpAny_Call_Name_kw (ld_glob I hg hm ?_ hdb)⟩
  refine PySem.W.callWith_KW (h₀ := X.base) I.ok.mod.kin hk hall (thn (ha.run pos pins s σ H _ I h) fun us s1 z => ?_) hpl he
  obtain ⟨vs, H1, I1, r, q⟩ := z
  refine thn (hkw.run pos pins s1 σ H1 _ I1 q) fun ws s2 z2 => ?_
  obtain ⟨zs, H2, I2, rz, q2⟩ := z2
  refine ⟨I2.kIn, ?_⟩
  rw [hks]
  exact run_ks F hr hb (hx σ) I2 r rz q2
theorem passes_at {X : Cx} {C : CXT} {E : XK} (h : Passes C X E) : ∀ σ, PassesAt C X σ E := fun σ pins H s e s' I c => h pins σ H s e s' I c
end
end Ov
end

section
set_option Elab.async false
set_option linter.all false
set_option maxRecDepth 100000
set_option maxHeartbeats 2000000
namespace Ov
open PySem PySem.Spec PyProof.Rows L2

/-! ### names of the module that hold plain values -/
section
variable {X : Cx} {x : Str} {pos : Pos}
theorem pe_gi {i : Int} (h : ∃ t, X.mg x = some (.int i t)) (hg : Gl X x := by rfl) (hd : (x == ("__debug__" : Str)) = false := by decide) : PE X (.Name x pos) (tC (.int i)) := by
  obtain ⟨t, e⟩ := h
  exact pe_glob hg e ⟨t, rfl⟩ hd
theorem pe_gs {z : Str} (h : ∃ t, X.mg x = some (.str z t)) (hg : Gl X x := by rfl) (hd : (x == ("__debug__" : Str)) = false := by decide) : PE X (.Name x pos) (tC (.str z)) := by
  obtain ⟨t, e⟩ := h
  exact pe_glob hg e ⟨t, rfl⟩ hd
theorem pe_gr {a : Addr} (h : X.mg x = some (.ref a)) (hg : Gl X x := by rfl) (hd : (x == ("__debug__" : Str)) = false := by decide) : PE X (.Name x pos) (tC (.ref a)) := pe_glob hg h rfl hd
theorem pe_ty {T : String} (hm : X.mg x = none) (hv : bootBuiltins x = some (.type T)) (hg : Gl X x := by rfl) (hn : x ≠ "__name__" := by decide) (hd : (x == ("__debug__" : Str)) = false := by decide) : PE X (.Name x pos) (tC (.ty T)) :=
  pe_bltn hg hm hv rfl hn hd
end

/-! ### heaps: what stood stands -/
end Ov
namespace Evl
open PySem PySem.Spec PyProof.Rows L2
theorem Ex.get {H H' : Hp} {a : Addr} {o : HO} (e : Ex H H') (h : H a = some o) : H' a = some o := e a o h
theorem Ex.free {H H' : Hp} {a : Addr} (e : Ex H H') (h : H' a = none) : H a = none := fresh_back e h
end Evl
namespace Ov
open PySem PySem.Spec PyProof.Rows L2 Evl

/-! ### readings, one step each; a new object leaves a new heap of which little is known -/
section
variable {K : PySem.W.Frag} {σ : St} {H : Hp} {Q : VK} {D : Ends} {i : Nat} {v x y : V} {ta tb te : TE}
theorem r_tup {xs : List V} (hl : xs.length ≤ 100000) (h : ∀ p H', H p = none → Ex H H' → H' p = some (.tup xs) → Q (.ref p) H') : xs.length ≤ sizeLine ∧ ∀ p, H p = none → Q (.ref p) (upd H p (.tup xs)) :=
  ⟨Nat.le_trans hl (by decide), fun p hp => h p _ hp (Evl.Ex.new hp) upd_same⟩
theorem r_lst {xs : List V} (hl : xs.length ≤ 100000) (h : ∀ p H', H p = none → Ex H H' → H' p = some (.lst xs) → Q (.ref p) H') : xs.length ≤ sizeLine ∧ ∀ p, H p = none → Q (.ref p) (upd H p (.lst xs)) :=
  ⟨Nat.le_trans hl (by decide), fun p hp => h p _ hp (Evl.Ex.new hp) upd_same⟩
theorem r_new {o : HO} (h : ∀ p H', H p = none → Ex H H' → H' p = some o → Q (.ref p) H') : ∀ p, H p = none → Q (.ref p) (upd H p o) := fun p hp => h p _ hp (Evl.Ex.new hp) upd_same
end
end Ov
end

section
set_option Elab.async false
set_option linter.all false
set_option maxRecDepth 100000
set_option maxHeartbeats 2000000
namespace K81
open PySem PySem.Spec PyProof.Rows L2 Ov
def top (i : Nat) : Stmt := PySem.Challenge.pw_overstamps_k81_codes_of_stamps.main.body.getD i (.Pass ⟨0, 0, 0, 0⟩)
abbrev s_is_row : Stmt := top 19
theorem sc_is_row : FnScope ["thing", "signs", "most", "sign"] ["thing", "signs", "most"] (defScope s_is_row) := ⟨rfl, rfl, rfl, by decide +kernel, rfl, by decide +kernel, by decide +kernel⟩
theorem b_is_row : BindsTxt "is_row" s_is_row ["thing", "signs", "most"] := fun _ _ _ _ _ _ us hl => match us, hl with | [_, _, _], _ => rfl
abbrev s_are_words : Stmt := top 21
theorem sc_are_words : FnScope ["thing", "width", "word"] ["thing"] (defScope s_are_words) := ⟨rfl, rfl, rfl, by decide +kernel, rfl, by decide +kernel, by decide +kernel⟩
theorem b_are_words : BindsTxt "are_words" s_are_words ["thing"] := fun _ _ _ _ _ _ us hl => match us, hl with | [_], _ => rfl
abbrev s_write_stamps : Stmt := top 29
theorem sc_write_stamps : FnScope ["stamps"] ["stamps"] (defScope s_write_stamps) := ⟨rfl, rfl, rfl, by decide +kernel, rfl, by decide +kernel, by decide +kernel⟩
theorem b_write_stamps : BindsTxt "write_stamps" s_write_stamps ["stamps"] := fun _ _ _ _ _ _ us hl => match us, hl with | [_], _ => rfl
abbrev s_is_next_word : Stmt := top 30
theorem sc_is_next_word : FnScope ["words", "word", "letter"] ["words", "word"] (defScope s_is_next_word) := ⟨rfl, rfl, rfl, by decide +kernel, rfl, by decide +kernel, by decide +kernel⟩
theorem b_is_next_word : BindsTxt "is_next_word" s_is_next_word ["words", "word"] := fun _ _ _ _ _ _ us hl => match us, hl with | [_, _], _ => rfl
abbrev s_read_stamps : Stmt := top 31
theorem sc_read_stamps : FnScope ["code", "found", "at", "word"] ["code"] (defScope s_read_stamps) := ⟨rfl, rfl, rfl, by decide +kernel, rfl, by decide +kernel, by decide +kernel⟩
theorem b_read_stamps : BindsTxt "read_stamps" s_read_stamps ["code"] := fun _ _ _ _ _ _ us hl => match us, hl with | [_], _ => rfl
abbrev s__law_vat : Stmt := top 33
theorem sc__law_vat : FnScope ["script", "k", "cell"] ["script", "k"] (defScope s__law_vat) := ⟨rfl, rfl, rfl, by decide +kernel, rfl, by decide +kernel, by decide +kernel⟩
theorem b__law_vat : BindsTxt "_law_vat" s__law_vat ["script", "k"] := fun _ _ _ _ _ _ us hl => match us, hl with | [_, _], _ => rfl
abbrev s__law_sip : Stmt := top 34
theorem sc__law_sip : FnScope ["vat", "size", "digit", "mixed"] ["vat", "size"] (defScope s__law_sip) := ⟨rfl, rfl, rfl, by decide +kernel, rfl, by decide +kernel, by decide +kernel⟩
theorem b__law_sip : BindsTxt "_law_sip" s__law_sip ["vat", "size"] := fun _ _ _ _ _ _ us hl => match us, hl with | [_, _], _ => rfl
abbrev s__law_words : Stmt := top 35
theorem sc__law_words : FnScope ["vat", "wide", "most", "signs", "found", "turn", "word", "spot"] ["vat", "wide", "most"] (defScope s__law_words) := ⟨rfl, rfl, rfl, by decide +kernel, rfl, by decide +kernel, by decide +kernel⟩
theorem b__law_words : BindsTxt "_law_words" s__law_words ["vat", "wide", "most"] := fun _ _ _ _ _ _ us hl => match us, hl with | [_, _, _], _ => rfl
abbrev s__law_read_at : Stmt := top 36
theorem sc__law_read_at : FnScope ["e", "others"] ["e"] (defScope s__law_read_at) := ⟨rfl, rfl, rfl, by decide +kernel, rfl, by decide +kernel, by decide +kernel⟩
theorem b__law_read_at : BindsTxt "_law_read_at" s__law_read_at ["e"] := fun _ _ _ _ _ _ us hl => match us, hl with | [_], _ => rfl
abbrev s__law_bent : Stmt := top 37
theorem sc__law_bent : FnScope ["vat", "given", "odd", "turn", "words", "at", "way", "one", "spot"] ["vat", "given", "odd"] (defScope s__law_bent) := ⟨rfl, rfl, rfl, by decide +kernel, rfl, by decide +kernel, by decide +kernel⟩
theorem b__law_bent : BindsTxt "_law_bent" s__law_bent ["vat", "given", "odd"] := fun _ _ _ _ _ _ us hl => match us, hl with | [_, _, _], _ => rfl
abbrev s__law_due : Stmt := top 38
theorem sc__law_due : FnScope ["given", "found", "at", "word", "letters", "fine", "sign"] ["given"] (defScope s__law_due) := ⟨rfl, rfl, rfl, by decide +kernel, rfl, by decide +kernel, by decide +kernel⟩
theorem b__law_due : BindsTxt "_law_due" s__law_due ["given"] := fun _ _ _ _ _ _ us hl => match us, hl with | [_], _ => rfl
abbrev s__law_told : Stmt := top 39
theorem sc__law_told : FnScope ["given", "named", "one", "e"] ["given", "named"] (defScope s__law_told) := ⟨rfl, rfl, rfl, by decide +kernel, rfl, by decide +kernel, by decide +kernel⟩
theorem b__law_told : BindsTxt "_law_told" s__law_told ["given", "named"] := fun _ _ _ _ _ _ us hl => match us, hl with | [_, _], _ => rfl
abbrev s__law_right : Stmt := top 40
theorem sc__law_right : FnScope ["given", "due", "one", "other"] ["given"] (defScope s__law_right) := ⟨rfl, rfl, rfl, by decide +kernel, rfl, by decide +kernel, by decide +kernel⟩
theorem b__law_right : BindsTxt "_law_right" s__law_right ["given"] := fun _ _ _ _ _ _ us hl => match us, hl with | [_], _ => rfl
abbrev s_law : Stmt := top 41
theorem sc_law : FnScope ["script", "k", "vat", "turn", "words", "given", "odd", "step", "some"] ["script"] (defScope s_law) := ⟨rfl, rfl, rfl, by decide +kernel, rfl, by decide +kernel, by decide +kernel⟩
theorem b_law : BindsTxt "law" s_law ["script"] := fun _ _ _ _ _ _ us hl => match us, hl with | [_], _ => rfl
abbrev s_InvalidCode___init__ : Stmt := inClass (top 12) 0
theorem sc_InvalidCode___init__ : FnScope ["self", "at"] ["self", "at"] (defScope s_InvalidCode___init__) := ⟨rfl, rfl, rfl, by decide +kernel, rfl, by decide +kernel, by decide +kernel⟩
abbrev s_Stamps___init__ : Stmt := inClass (top 23) 1
theorem sc_Stamps___init__ : FnScope ["self", "words"] ["self"] (defScope s_Stamps___init__) := ⟨rfl, rfl, rfl, by decide +kernel, rfl, by decide +kernel, by decide +kernel⟩
abbrev s_Stamps_of : Stmt := inClass (top 23) 2
theorem sc_Stamps_of : FnScope ["cls", "words"] ["cls", "words"] (defScope s_Stamps_of) := ⟨rfl, rfl, rfl, by decide +kernel, rfl, by decide +kernel, by decide +kernel⟩
abbrev s_Stamps_words : Stmt := inClass (top 23) 3
theorem sc_Stamps_words : FnScope ["self"] ["self"] (defScope s_Stamps_words) := ⟨rfl, rfl, rfl, by decide +kernel, rfl, by decide +kernel, by decide +kernel⟩
abbrev s_Stamps_width : Stmt := inClass (top 23) 4
theorem sc_Stamps_width : FnScope ["self"] ["self"] (defScope s_Stamps_width) := ⟨rfl, rfl, rfl, by decide +kernel, rfl, by decide +kernel, by decide +kernel⟩
abbrev s_Stamps___len__ : Stmt := inClass (top 23) 5
theorem sc_Stamps___len__ : FnScope ["self"] ["self"] (defScope s_Stamps___len__) := ⟨rfl, rfl, rfl, by decide +kernel, rfl, by decide +kernel, by decide +kernel⟩
structure Txt (K : PySem.W.Frag) (mg : Str → Option Value) : Prop where
  f_ValueError : mg "ValueError" = none
  f_abs : mg "abs" = none
  f_all : mg "all" = none
  f_enumerate : mg "enumerate" = none
  f_int : mg "int" = none
  f_isinstance : mg "isinstance" = none
  f_len : mg "len" = none
  f_list : mg "list" = none
  f_max : mg "max" = none
  f_min : mg "min" = none
  f_range : mg "range" = none
  f_repr : mg "repr" = none
  f_set : mg "set" = none
  f_str : mg "str" = none
  c_LETTERS_codes : ∃ t, mg "LETTERS_codes" = some (.str "abcdefghijklmnopqrstuvwxyz" t)
  c_LETTERS_stamps : ∃ t, mg "LETTERS_stamps" = some (.str "abcdefghijklmnopqrstuvwxyz" t)
  c_MOST_LETTERS_codes : ∃ t, mg "MOST_LETTERS_codes" = some (.int 36 t)
  c_MOST_LETTERS_stamps : ∃ t, mg "MOST_LETTERS_stamps" = some (.int 36 t)
  c_MOST_WIDTH_codes : ∃ t, mg "MOST_WIDTH_codes" = some (.int 8 t)
  c_MOST_WIDTH_stamps : ∃ t, mg "MOST_WIDTH_stamps" = some (.int 8 t)
  c_MOST_WORDS : ∃ t, mg "MOST_WORDS" = some (.int 6 t)
end K81
end

section
set_option Elab.async false
set_option linter.all false
set_option maxRecDepth 100000
set_option maxHeartbeats 2000000
namespace Ov
open PySem PySem.Spec PyProof.Rows L2 Evl

section
variable {K : PySem.W.Frag} {σ : L2.St} {H H' : Hp} {ta tb tc te tx : TE} {t u : TT} {x y z v : V} {r r' : R2}
/-! ### what expressions evaluate to, further -/
theorem ev_slS {tl th : TO} {s : Str} {lo hi : Option Int} (h : Ev te σ H (.str s)) (h1 : EvO tl σ H lo) (h2 : EvO th σ H hi) (hz : s.length ≤ 100000) : Ev (tSl rSlS te tl th) σ H (.str (cutS s lo hi)) := fun H1 e Q q =>
  h H1 e _ fun H2 e2 => h1 H2 (e.trans e2) _ fun H3 e3 => h2 H3 ((e.trans e2).trans e3) _ fun H4 e4 => ⟨s, rfl, sz_of hz, q H4 ((e2.trans e3).trans e4)⟩
theorem ev_chain {a b : Bool} (ha : Ev ta σ H x) (hb : Ev tb σ H y) (hr : RV r x y H (.bl a)) (hc : a = true → Ev tc σ H z) (hr' : a = true → RV r' y z H (.bl b)) : Ev (tChain r r' ta tb tc) σ H (.bl (a && b)) := fun H1 e Q q =>
  ha H1 e _ fun H2 e2 => hb H2 (e.trans e2) _ fun H3 e3 => hr H3 ((e.trans e2).trans e3) _ fun H4 e4 => ⟨a, rfl, by
    cases a with
    | true => exact iteT (hc rfl H4 (((e.trans e2).trans e3).trans e4) _ fun H5 e5 => hr' rfl H5 ((((e.trans e2).trans e3).trans e4).trans e5) Q fun H6 e6 => q H6 ((((e2.trans e3).trans e4).trans e5).trans e6))
    | false => exact iteF (q H4 ((e2.trans e3).trans e4))⟩
theorem rc_lenS {s : Str} (hz : s.length ≤ 100000) : RC (fun xs H Q => ∃ z, xs = [V.str z] ∧ z.length ≤ sizeLine ∧ Q (V.int z.length) H) [.str s] H (.int s.length) := fun H1 _ _ q => ⟨s, rfl, sz_of hz, q H1 (Ex.refl H1)⟩
/-- all, any of a list of truth values -/
theorem ev_all {bs : List Bool} (h : EvL ta σ H (bs.map V.bl)) : Ev (tCB (rAll K) (tCons ta tNil)) σ H (.bl (bs.all id)) := fun H1 e Q q =>
  h H1 e _ fun p H2 _ e2 h2 => ⟨p, bs, rfl, sq_of h2, q H2 e2⟩
theorem ev_any {bs : List Bool} (h : EvL ta σ H (bs.map V.bl)) : Ev (tCB (rAny K) (tCons ta tNil)) σ H (.bl (bs.any id)) := fun H1 e Q q =>
  h H1 e _ fun p H2 _ e2 h2 => ⟨p, bs, rfl, sq_of h2, q H2 e2⟩
/-- one sign in a text -/
theorem rv_inSign {c : Nat} {s : Str} : RV (fun x y H Q => ∃ (c : Nat) (z : Str), x = .str ⟨#[c]⟩ ∧ y = .str z ∧ Q (.bl (decide (c ∈ z.cps.toList))) H) (.str ⟨#[c]⟩) (.str s) H (.bl (decide (c ∈ s.cps.toList))) := fun H1 _ _ q => ⟨c, s, rfl, rfl, q H1 (Ex.refl H1)⟩
theorem rv_notInSign {c : Nat} {s : Str} : RV (fun x y H Q => ∃ (c : Nat) (z : Str), x = .str ⟨#[c]⟩ ∧ y = .str z ∧ Q (.bl (!decide (c ∈ z.cps.toList))) H) (.str ⟨#[c]⟩) (.str s) H (.bl (!decide (c ∈ s.cps.toList))) := fun H1 _ _ q => ⟨c, s, rfl, rfl, q H1 (Ex.refl H1)⟩
theorem rv_isN : RV (fun x y H Q => y = .non ∧ Q (.bl (decide (x = .non))) H) x .non H (.bl (decide (x = .non))) := fun H1 _ _ q => ⟨rfl, q H1 (Ex.refl H1)⟩
theorem rv_addS {a b : Str} (h : a.length + b.length ≤ 100000) : RV (fun x y H Q => ∃ i j, x = .str i ∧ y = .str j ∧ i.length + j.length ≤ sizeLine ∧ Q (.str (i ++ j)) H) (.str a) (.str b) H (.str (a ++ b)) := fun H1 _ _ q => ⟨a, b, rfl, rfl, sz_of h, q H1 (Ex.refl H1)⟩
theorem rc_strI {i : Int} (h : i.natAbs.log2 < 1920) : RC (fun xs H Q => ∃ i : Int, xs = [V.int i] ∧ i.natAbs.log2 < 1920 ∧ Q (V.str (toString i)) H) [.int i] H (.str (toString i)) := fun H1 _ _ q => ⟨i, rfl, h, q H1 (Ex.refl H1)⟩
theorem rc_intS {s : Str} {n : Int} (h : PySem.intText? s = some n) (hl : s.length ≤ 640) : RC (fun xs H Q => ∃ a n, xs = [V.str a] ∧ PySem.intText? a = some n ∧ a.length ≤ 640 ∧ Q (V.int n) H) [.str s] H (.int n) := fun H1 _ _ q => ⟨s, n, rfl, h, hl, q H1 (Ex.refl H1)⟩
/-- [f c for c in s] -/
theorem el_lcS {s : Str} {tl : TE} {j : Nat} {vs : List Nat} (f : Nat → V) (h : Ev tl σ H (.str s)) (hz : s.length ≤ 40000) (hw : ∀ x, wipe ((wipe σ vs).set j (some x)) vs = wipe σ vs)
    (he : ∀ (c : Nat) H1, Ex H H1 → Ev te ((wipe σ vs).set j (some (.str ⟨#[c]⟩))) H1 (f c)) : EvL (tLc (iStr tl) (gName j) tYes te vs) σ H (s.cps.toList.map f) := fun H0 e Q q => h H0 e _ fun H1 e1 => ⟨s, rfl, fun D hD =>
  lc_it (walk_str (z := s)) (fun i H' => H1 D = none ∧ Ex H1 H' ∧ H' D = some (.lst ((s.cps.toList.take i).map f))) ⟨hD, Evl.Ex.new hD, by rw [List.take_zero]; exact upd_same⟩ (fun _ _ _ _ => trivial) (fun i x H2 H3 hi p hy => by
    obtain ⟨rfl, c, hc, rfl⟩ := hy
    obtain ⟨p1, p2, p3⟩ := p
    refine ⟨hw _, he c H3 ((e.trans e1).trans p2) H3 (Evl.Ex.refl _) _ fun H4 e4 => ?_⟩
    have hl : ((s.cps.toList.take i).map f).length < 100000 := by
      rw [List.length_map, List.length_take, Array.length_toList]
      have : s.cps.size ≤ 40000 := hz
      omega
    refine ⟨_, e4 D _ p3, sz_lt hl, p1, Evl.Ex.mut (p2.trans e4) p1, ?_⟩
    rw [upd_same]
    have ht : s.cps.toList.take (i + 1) = s.cps.toList.take i ++ [c] := by
      rw [List.take_succ, Array.getElem?_toList, hc] <;> rfl
    rw [ht, List.map_append] <;> rfl) (fun H' p => q D H' (fresh_back e1 p.1) (e1.trans p.2.1) (by
      rw [p.2.2]
      congr 3
      exact List.take_of_length_le (by rw [Array.length_toList]; exact Nat.le_refl _)))⟩
/-- (a, b, ..) as a value that is found -/
theorem eu_is {xs ys : List V} (h : EvU te σ H xs) (e : xs = ys) : EvU te σ H ys := e ▸ h
theorem el_is {xs ys : List V} (h : EvL te σ H xs) (e : xs = ys) : EvL te σ H ys := e ▸ h
theorem ev_bl {b b' : Bool} (h : Ev te σ H (.bl b)) (e : b = b') : Ev te σ H (.bl b') := e ▸ h
end
end Ov
end

section
set_option Elab.async false
set_option linter.all false
set_option maxRecDepth 100000
set_option maxHeartbeats 2000000
namespace Ov
open PySem PySem.Spec PyProof.Rows L2 Evl

/-! ### the list that the draws change -/
/-- at v: the digits left, the seed, how often was mixed; n more draws are allowed for -/
def VatN (H : Hp) (v : Addr) (n : Nat) : Prop := ∃ d m c : Int, H v = some (.lst [.int d, .int m, .int c]) ∧ 0 ≤ d ∧ 0 ≤ m ∧ m < 10 ^ 43 ∧ 0 ≤ c ∧ c + n ≤ 10 ^ 9
/-- G stands, and v is none of it -/
structure Wd (G : Hp) (v : Addr) (n : Nat) (H : Hp) : Prop where
  no : G v = none
  ex : Ex G H
  vat : VatN H v n
theorem VatN.le {H : Hp} {v : Addr} {n m : Nat} (h : VatN H v n) (k : m ≤ n) : VatN H v m := by
  obtain ⟨d, e, c, h1, h2, h3, h4, h5, h6⟩ := h
  exact ⟨d, e, c, h1, h2, h3, h4, h5, by omega⟩
theorem VatN.ex {H H' : Hp} {v : Addr} {n : Nat} (h : VatN H v n) (e : Ex H H') : VatN H' v n := by
  obtain ⟨d, m, c, h1, h2⟩ := h
  exact ⟨d, m, c, e _ _ h1, h2⟩
theorem VatN.is {H : Hp} {v : Addr} {n : Nat} (h : VatN H v n) : ∃ o, H v = some o := by
  obtain ⟨d, m, c, h1, _⟩ := h
  exact ⟨_, h1⟩
section
variable {G H H' : Hp} {v : Addr} {n m : Nat}
theorem Wd.le (h : Wd G v n H) (k : m ≤ n) : Wd G v m H := ⟨h.no, h.ex, h.vat.le k⟩
theorem Wd.mono (h : Wd G v n H) (e : Ex H H') : Wd G v n H' := ⟨h.no, h.ex.trans e, h.vat.ex e⟩
theorem Wd.sub {G' : Hp} (h : Wd G v n H) (e : Ex G' G) : Wd G' v n H := ⟨e.free h.no, e.trans h.ex, h.vat⟩
/-- something new belongs to what stands -/
theorem Wd.new {p : Addr} {o : HO} (h : Wd G v n H) (hp : H p = none) (e : Ex H H') (ho : H' p = some o) : Wd (upd G p o) v n H' ∧ Ex G (upd G p o) ∧ upd G p o p = some o := by
  have nv : v ≠ p := by
    obtain ⟨u, hu⟩ := h.vat.is
    exact ne_of_none hu hp
  refine ⟨⟨by rw [upd_ne nv]; exact h.no, fun b u hb => ?_, h.vat.ex e⟩, Evl.Ex.new (h.ex.free hp), upd_same⟩
  by_cases hbp : b = p
  · subst hbp
    rw [upd_same] at hb
    cases hb
    exact ho
  · rw [upd_ne hbp] at hb
    exact e _ _ (h.ex _ _ hb)
end
/-- all that is known, but v -/
def hideV (H : Hp) (v : Addr) : Hp := fun b => if b = v then none else H b
theorem hide_ne {H : Hp} {v b : Addr} (h : b ≠ v) : hideV H v b = H b := if_neg h
theorem hide_wd {H : Hp} {v : Addr} {n : Nat} (h : VatN H v n) : Wd (hideV H v) v n H :=
  ⟨if_pos rfl, fun b o e => by
    unfold hideV at e
    split at e
    · cases e
    · exact e, h⟩

/-! ### what an expression with draws gives -/
def EvW (te : TE) (σ : L2.St) (G : Hp) (v : Addr) (n m : Nat) (P : V → Prop) : Prop := ∀ H, Wd G v n H → ∀ Q : VK, (∀ x H', P x → Wd G v m H' → Q x H') → te σ H Q
section
variable {K : PySem.W.Frag} {σ : L2.St} {G H : Hp} {v : Addr} {n m k : Nat} {te ta tb : TE} {x y z : V} {P P' : V → Prop}
theorem Wd.ev (h : Wd G v n H) (he : Ev te σ G x) {Q : VK} (q : ∀ H', Wd G v n H' → Ex H H' → Q x H') : te σ H Q := he H h.ex Q fun H' e => q H' (h.mono e) e
theorem evw_of (he : Ev te σ G x) (hp : P x) : EvW te σ G v n n P := fun H h Q q => h.ev he fun H' h' _ => q x H' hp h'
end
/-- the script's cells -/
def spVat (K : PySem.W.Frag) : Sp := fun vs H Q _ => ∃ (a : Addr) (ns : List Int) (k : Int), vs = [.ref a, .int k] ∧ SqL K H a (ns.map V.int) ∧ ns.length ≤ 63 ∧ 0 ≤ k ∧ k < 64 ∧
  ∀ p H', H p = none → Ex H H' → VatN H' p 900000000 → Q (.ref p) H'
def spSip : Sp := fun vs H Q _ => ∃ (G : Hp) (v : Addr) (n : Nat) (size : Int), vs = [.ref v, .int size] ∧ Wd G v (n + 1) H ∧ 0 < size ∧ size < 1000000 ∧ ∀ r H', 0 ≤ r → r < size → Wd G v n H' → Q (.int r) H'
end Ov
end

section
set_option Elab.async false
set_option linter.all false
set_option maxRecDepth 100000
set_option maxHeartbeats 2000000
namespace Ov
open PySem PySem.Spec PyProof.Rows L2 Evl
section
variable {K : PySem.W.Frag} {σ : L2.St} {H H' : Hp} {ta tb tc te tx : TE} {t u : TT} {x y z v : V} {r r' : R2} {D : Ends} {tu tw tz : TS} {g : TG}
/-! ### texts that become lists and tuples -/
abbrev rPart : V → List V → Hp → VK → Prop := fun x xs H Q => ∃ a b : Str, x = .str a ∧ xs = [.str b] ∧ (b.length == 0) = false ∧ a.length ≤ sizeLine ∧ ∀ p, H p = none → Q (.ref p) (upd H p (.tup [.str (Txt.partition a b).1, .str (Txt.partition a b).2.1, .str (Txt.partition a b).2.2]))
theorem eu_partition {a b : Str} (h : Ev ta σ H (.str a)) (h2 : Ev tb σ H (.str b)) (hb : (b.length == 0) = false) (hz : a.length ≤ 100000) :
    EvU (tM1 rPart ta tb) σ H [.str (Txt.partition a b).1, .str (Txt.partition a b).2.1, .str (Txt.partition a b).2.2] := fun H1 e _ q =>
  h H1 e _ fun H2 e2 => ⟨⟨a, rfl⟩, h2 H2 (e.trans e2) _ fun H3 e3 => ⟨a, b, rfl, rfl, hb, sz_of hz, fun p hp => q p _ (fresh_back (e2.trans e3) hp) ((e2.trans e3).trans (Evl.Ex.new hp)) upd_same⟩⟩
abbrev rSplitT : V → List V → Hp → VK → Prop := fun x xs H Q => ∃ a b : Str, x = .str a ∧ xs = [.str b] ∧ (b.length == 0) = false ∧ a.length + 2 ≤ sizeLine ∧ rNewStrs (Txt.split a b) H Q
theorem el_split {a b : Str} (h : Ev ta σ H (.str a)) (h2 : Ev tb σ H (.str b)) (hb : (b.length == 0) = false) (hz : a.length ≤ 90000) : EvL (tM1 rSplitT ta tb) σ H ((Txt.split a b).map V.str) := fun H1 e _ q =>
  h H1 e _ fun H2 e2 => ⟨⟨a, rfl⟩, h2 H2 (e.trans e2) _ fun H3 e3 => ⟨a, b, rfl, rfl, hb, by have := (sz_of (n := a.length + 2) (by omega)); exact this, fun p hp => q p _ (fresh_back (e2.trans e3) hp) ((e2.trans e3).trans (Evl.Ex.new hp)) upd_same⟩⟩
abbrev rJoinT (K : PySem.W.Frag) : V → List V → Hp → VK → Prop := fun x xs H Q => ∃ (a : Str) (p : Addr), ∃ ys : List Str, x = .str a ∧ xs = [.ref p] ∧ (SqL K H p (ys.map V.str) ∨ SqT K H p (ys.map V.str)) ∧ (ys.map (·.length)).sum + ys.length * a.length ≤ 16777216 ∧ Q (.str (Txt.join a ys)) H
theorem ev_join {a : Str} {ys : List Str} (h : Ev ta σ H (.str a)) (h2 : EvL tb σ H (ys.map V.str)) (hz : (ys.map (·.length)).sum + ys.length * a.length ≤ 16777216) : Ev (tM1 (rJoinT K) ta tb) σ H (.str (Txt.join a ys)) := fun H1 e _ q =>
  h H1 e _ fun H2 e2 => ⟨⟨a, rfl⟩, h2 H2 (e.trans e2) _ fun p H3 _ e3 hp => ⟨a, p, ys, rfl, rfl, .inl (sq_of hp), hz, q H3 (e2.trans e3)⟩⟩
theorem ev_joinL {a : Str} {p : Addr} {ys : List Str} (h : Ev ta σ H (.str a)) (h2 : Ev tb σ H (.ref p)) (hp : SqL K H p (ys.map V.str)) (hz : (ys.map (·.length)).sum + ys.length * a.length ≤ 16777216) : Ev (tM1 (rJoinT K) ta tb) σ H (.str (Txt.join a ys)) := fun H1 e _ q =>
  h H1 e _ fun H2 e2 => ⟨⟨a, rfl⟩, h2 H2 (e.trans e2) _ fun H3 e3 => ⟨a, p, ys, rfl, rfl, .inl (ex_l ((e.trans e2).trans e3) hp), hz, q H3 (e2.trans e3)⟩⟩
/-! ### a tuple's items to names -/
theorem q_un2 {i j : Nat} {a b : V} (h : EvU te σ H [a, b]) (k : ∀ H1, Ex H H1 → tz D ((σ.set i (some a)).set j (some b)) H1) : tSeq (tAsg te (gTup K 2 (gCons (gName i) (gCons (gName j) gNil)))) tz D σ H :=
  h H (Evl.Ex.refl H) _ fun p H1 _ e h1 => ⟨p, _, rfl, st_of h1, rfl, _, _, rfl, _, _, rfl, rfl, k H1 e⟩
theorem q_un3 {i j l : Nat} {a b c : V} (h : EvU te σ H [a, b, c]) (k : ∀ H1, Ex H H1 → tz D (((σ.set i (some a)).set j (some b)).set l (some c)) H1) : tSeq (tAsg te (gTup K 3 (gCons (gName i) (gCons (gName j) (gCons (gName l) gNil))))) tz D σ H :=
  h H (Evl.Ex.refl H) _ fun p H1 _ e h1 => ⟨p, _, rfl, st_of h1, rfl, _, _, rfl, _, _, rfl, _, _, rfl, rfl, k H1 e⟩
theorem q_par {i j : Nat} {ta : TA} {a b : V} (h : EvA ta σ H [a, b]) (k : ∀ H1, Ex H H1 → tz D ((σ.set i (some a)).set j (some b)) H1) : tSeq (tPar i j ta) tz D σ H :=
  h H (Evl.Ex.refl H) _ fun H1 e => ⟨a, b, rfl, k H1 e⟩
/-! ### calls -/
theorem ev_callS {sp : Sp} {vs : List V} {E : L2.St → XK} {ta : TA} (h : EvA ta σ H vs) (hs : SpV sp vs H z) : Ev (tCallS sp E ta) σ H z := fun H1 e Q q =>
  h H1 e _ fun H2 e2 => hs H2 (e.trans e2) Q (fun H3 e3 => q H3 (e2.trans e3)) (E σ)
theorem spv_of {sp : Sp} {vs : List V} (h : ∀ H1, Ex H H1 → ∀ Q : VK, RetV z H1 Q → ∀ E : XK, sp vs H1 Q E) : SpV sp vs H z := fun H1 e Q q E => h H1 e Q q E
theorem ev_call' {sp : Sp} {vs : List V} {E : XK} {ta : TA} (h : EvA ta σ H vs) (hs : ∀ H1, Ex H H1 → ∀ Q : VK, RetV z H1 Q → sp vs H1 Q E) : Ev (tCall sp [] E ta) σ H z := fun H1 e Q q =>
  h H1 e _ fun H2 e2 => by
    show sp (vs ++ []) H2 Q E
    rw [List.append_nil]
    exact hs H2 (e.trans e2) Q fun H3 e3 => q H3 (e2.trans e3)
theorem scal_opt {o : Option Int} : True := trivial
end
end Ov
end

section
set_option Elab.async false
set_option linter.all false
set_option maxRecDepth 100000
set_option maxHeartbeats 2000000
namespace Ov
open PySem PySem.Spec PyProof.Rows L2 Evl
section
variable {K : PySem.W.Frag} {σ : L2.St} {H H' : Hp} {ta tb tc te tx : TE} {t u : TT} {x y z v : V} {r r' : R2} {D : Ends} {tu tw tz : TS} {g : TG}
/-- a comprehension that changes nothing, over anything that is walked -/
theorem lcG {J : It} {n : Nat} {G : Hp → Prop} {Y : Nat → Hp → V → Hp → Prop} {tt : TT} {vs : List Nat} {H1 : Hp} {Q : VK} (wk : Walk J n G Y) (hG : ∀ H', Ex H1 H' → G H') (acc : Nat → List V) (h0 : acc 0 = []) (hl : ∀ i, i ≤ n → (acc i).length ≤ 90000)
    (turn : ∀ i x H2 H3, i < n → Ex H1 H2 → Y i H2 x H3 → Ex H2 H3 ∧ ∃ σ2, (∀ R : L2.St → Hp → Prop, (∀ H4, Ex H3 H4 → R σ2 H4) → g x (wipe σ vs) H3 R) ∧ wipe σ2 vs = wipe σ vs ∧
      ((EvT tt σ2 H3 true ∧ ∃ y, Ev te σ2 H3 y ∧ acc (i + 1) = acc i ++ [y]) ∨ (EvT tt σ2 H3 false ∧ acc (i + 1) = acc i)))
    (q : ∀ p H2, H1 p = none → Ex H1 H2 → H2 p = some (.lst (acc n)) → Q (.ref p) H2) :
    ∀ D, H1 D = none → ∃ W : Nat → Nat → Hp → Prop, (∃ m, W 0 m (upd H1 D (.lst []))) ∧ ∀ i m H, W i m H →
      (J.stop i H ∧ Q (.ref D) H) ∨ (J.go i H ∧ ∃ Nx : Hp → Prop, (∀ H', Nx H' → ∃ m', m' < m ∧ W (i + 1) m' H') ∧ ∀ x H', J.yld i H x H' → g x (wipe σ vs) H' fun σ2 H2 => wipe σ2 vs = wipe σ vs ∧ tt σ2 H2 fun b H3 =>
        if b = true then te σ2 H3 fun y H4 => ∃ acc, H4 D = some (.lst acc) ∧ acc.length < sizeLine ∧ Nx (upd H4 D (.lst (acc ++ [y]))) else Nx H3) := fun D hD =>
  lc_it wk (fun i H' => H1 D = none ∧ Ex H1 H' ∧ H' D = some (.lst (acc i))) ⟨hD, Evl.Ex.new hD, by rw [h0]; exact upd_same⟩ (fun _ H' _ p => hG H' p.2.1) (fun i x H2 H3 hi p hy => by
    obtain ⟨p1, p2, p3⟩ := p
    obtain ⟨e3, σ2, hg, hw, hc⟩ := turn i x H2 H3 hi p2 hy
    refine hg _ fun H4 e4 => ⟨hw, ?_⟩
    rcases hc with ⟨ht, y, hy, ha⟩ | ⟨ht, ha⟩
    · refine ht H4 e4 _ fun H5 e5 => hy H5 (e4.trans e5) _ fun H6 e6 => ⟨_, e6 D _ (e5 D _ (e4 D _ (e3 D _ p3))), sz_lt (by have := hl i (by omega); omega), p1, Evl.Ex.mut (p2.trans (e3.trans (e4.trans (e5.trans e6)))) p1, ?_⟩
      rw [upd_same, ha]
    · refine ht H4 e4 _ fun H5 e5 => ⟨p1, p2.trans (e3.trans (e4.trans e5)), ?_⟩
      rw [ha]
      exact e5 D _ (e4 D _ (e3 D _ p3))) (fun H' p => q D H' p.1 p.2.1 p.2.2)
/-- [f x, y for x, y in xs], xs a list of pairs -/
theorem el_lcP {a : Addr} {xs : List V} {tl : TE} {j l : Nat} {vs : List Nat} (f : Nat → V) (px py : Nat → V) (h : Ev tl σ H (.ref a)) (hx : SqL K H a xs) (hz : xs.length ≤ 40000)
    (hi : ∀ i, i < xs.length → ∃ t, xs[i]? = some (.ref t) ∧ SqT K H t [px i, py i]) (hw : ∀ x y, wipe (((wipe σ vs).set j (some x)).set l (some y)) vs = wipe σ vs)
    (he : ∀ i H1, Ex H H1 → i < xs.length → Ev te (((wipe σ vs).set j (some (px i))).set l (some (py i))) H1 (f i)) :
    EvL (tLc (iList K tl) (gTup K 2 (gCons (gName j) (gCons (gName l) gNil))) tYes te vs) σ H ((List.range xs.length).map f) := fun H0 e Q q => h H0 e _ fun H1 e1 => ⟨a, rfl, ⟨xs, ex_l (e.trans e1) hx⟩,
  lcG (walk_list (K := K) (a := a) (xs := xs)) (fun H' e' => ex_l ((e.trans e1).trans e') hx) (fun i => (List.range i).map f) rfl (fun i hi => by rw [List.length_map, List.length_range]; omega) (fun i x H2 H3 hi2 e2 hy => by
    obtain ⟨rfl, hxi⟩ := hy
    obtain ⟨t, ht, hs⟩ := hi i hi2
    rw [ht] at hxi
    cases hxi
    refine ⟨Evl.Ex.refl _, _, fun R r => ⟨t, _, rfl, ex_t ((e.trans e1).trans e2) hs, rfl, _, _, rfl, _, _, rfl, rfl, r H3 (Evl.Ex.refl _)⟩, hw _ _, .inl ⟨fun H4 _ _ q => q H4 (Evl.Ex.refl _), f i, he i H3 ((e.trans e1).trans e2) hi2, by rw [List.range_succ, List.map_append] <;> rfl⟩⟩)
    (fun p H2 hp e2 h2 => q p H2 (e1.free hp) (e1.trans e2) h2)⟩
/-! ### texts made of pieces -/
theorem ev_fmtI {i : Int} (h : Ev te σ H (.int i)) (hi : i.natAbs.log2 < 1920) : Ev (tFmt te) σ H (.str (toString i)) := fun H1 e _ q => h H1 e _ fun H2 e2 => .inr ⟨i, rfl, hi, q H2 e2⟩
theorem ev_fmtS {s : Str} (h : Ev te σ H (.str s)) (hs : s.length ≤ 100000) : Ev (tFmt te) σ H (.str s) := fun H1 e _ q => h H1 e _ fun H2 e2 => .inl ⟨s, rfl, sz_of hs, q H2 e2⟩
theorem js_run {ts : List TE} {ys : List Str} (h : Paired (fun t y => Ev t σ H (.str y)) ts ys) : ∀ (acc : Str) (H1 : Hp) (Q : Str → Hp → Prop), Ex H H1 → acc.length + (ys.map (·.length)).sum ≤ 100000 → (∀ H2, Ex H1 H2 → Q (ys.foldl (· ++ ·) acc) H2) → tJs ts acc σ H1 Q := by
  induction h with
  | nil => exact fun acc H1 Q _ _ q => q H1 (Evl.Ex.refl _)
  | @cons t y ts ys h1 _ ih =>
    intro acc H1 Q e hl q
    rw [List.map_cons, List.sum_cons] at hl
    refine h1 H1 e _ fun H2 e2 => ⟨y, rfl, ?_, ?_⟩
    · have : (acc ++ y).length = acc.length + y.length := by simp [Str.length, Str.cps_append]
      rw [this]
      exact sz_of (by omega)
    · refine ih (acc ++ y) H2 Q (e.trans e2) ?_ fun H3 e3 => q H3 (e2.trans e3)
      have : (acc ++ y).length = acc.length + y.length := by simp [Str.length, Str.cps_append]
      rw [this]
      omega
theorem ev_js {ts : List TE} {ys : List Str} (h : Paired (fun t y => Ev t σ H (.str y)) ts ys) (hl : (ys.map (·.length)).sum ≤ 100000) : Ev (fun σ H Q => tJs ts Str.empty σ H fun out H1 => Q (.str out) H1) σ H (.str (ys.foldl (· ++ ·) Str.empty)) :=
  fun H1 e Q q => js_run h Str.empty H1 _ e (by show 0 + _ ≤ _; omega) q
/-! ### data -/
theorem dpAll_at {xs : List V} {ds : List PyData} (h : DpAll K H xs ds) : xs.length = ds.length ∧ ∀ (i : Nat) (d : PyData), ds[i]? = some d → ∃ x, xs[i]? = some x ∧ Dp K H x d := by
  induction ds generalizing xs with
  | nil =>
    cases h
    exact ⟨rfl, fun i d z => by simp at z⟩
  | cons d0 ds ih =>
    cases h with
    | cons h1 h2 =>
      obtain ⟨l, k⟩ := ih h2
      refine ⟨by simp [l], fun i d z => ?_⟩
      cases i with
      | zero =>
        simp only [List.getElem?_cons_zero, Option.some.injEq] at z
        subst z
        exact ⟨_, rfl, h1⟩
      | succ i => simpa using k i d (by simpa using z)
theorem dpAll_ints : ∀ {ns : List Int} {xs : List V}, DpAll K H xs (ns.map PyData.int) → xs = ns.map V.int
  | [], _, h => by cases h; rfl
  | n :: ns, _, h => by
    cases h with
    | cons h1 h2 =>
      cases h1
      rw [dpAll_ints (ns := ns) h2] <;> rfl
theorem dp_list {v : V} {ds : List PyData} (h : Dp K H v (.list ds)) : ∃ a xs, v = .ref a ∧ SqL K H a xs ∧ DpAll K H xs ds := by
  cases h with
  | lst h1 h2 => exact ⟨_, _, rfl, h1, h2⟩
theorem dp_tup {v : V} {ds : List PyData} (h : Dp K H v (.tuple ds)) : ∃ a xs, v = .ref a ∧ SqT K H a xs ∧ DpAll K H xs ds := by
  cases h with
  | tup h1 h2 => exact ⟨_, _, rfl, h1, h2⟩
theorem dp_tupI {v : V} {ns : List Int} (h : Dp K H v (.tuple (ns.map PyData.int))) : ∃ a, v = .ref a ∧ SqT K H a (ns.map V.int) := by
  obtain ⟨a, xs, rfl, h1, h2⟩ := dp_tup h
  rw [dpAll_ints h2] at h1
  exact ⟨a, rfl, h1⟩
theorem dpAll_of : ∀ {ns : List Int}, DpAll K H (ns.map V.int) (ns.map PyData.int)
  | [] => .nil
  | n :: ns => .cons (.int n) dpAll_of
theorem dpAll_strs : ∀ {ns : List Str}, DpAll K H (ns.map V.str) (ns.map PyData.str)
  | [] => .nil
  | n :: ns => .cons (.str n) dpAll_strs
mutual
theorem Dp.ex (e : Ex H H') : ∀ {v : V} (d : PyData), Dp K H v d → Dp K H' v d
  | _, .none, .non => .non
  | _, .bool _, .bl b => .bl b
  | _, .int _, .int i => .int i
  | _, .str _, .str s => .str s
  | _, .list ds, .lst h1 h2 => .lst (ex_l e h1) (DpAll.ex e ds h2)
  | _, .tuple ds, .tup h1 h2 => .tup (ex_t e h1) (DpAll.ex e ds h2)
theorem DpAll.ex (e : Ex H H') : ∀ {vs : List V} (ds : List PyData), DpAll K H vs ds → DpAll K H' vs ds
  | _, [], .nil => .nil
  | _, d :: ds, .cons h1 h2 => .cons (Dp.ex e d h1) (DpAll.ex e ds h2)
end
theorem DpAll.snoc {vs : List V} {ds : List PyData} {v : V} {d : PyData} (h : DpAll K H vs ds) (h2 : Dp K H v d) : DpAll K H (vs ++ [v]) (ds ++ [d]) := by
  induction ds generalizing vs with
  | nil =>
    cases h
    exact .cons h2 .nil
  | cons d0 ds ih =>
    cases h with
    | cons a b => exact .cons a (ih b)
end
end Ov
end

section
set_option Elab.async false
set_option linter.all false
set_option maxRecDepth 100000
set_option maxHeartbeats 2000000
namespace Ov
open PySem PySem.Spec PyProof.Rows L2 Evl
/-! ### data of no great size -/
structure Tame (n k : Nat) (d : PyData) : Prop where
  lay : d.canLay0 = true
  sh : d.showable = true
  le : d.leavesShort 13 = true
  dp : d.depth ≤ n
  wt : d.weight ≤ k
structure TameAll (n k : Nat) (ds : List PyData) : Prop where
  lay : PyData.canLayAll0 ds = true
  sh : PyData.showableAll ds = true
  le : PyData.leavesShortAll 13 ds = true
  dp : PyData.depthAll ds ≤ n
  wt : PyData.weightAll ds ≤ ds.length * (k + 1)
theorem TameAll.of {n k : Nat} : ∀ {ds : List PyData}, (∀ d ∈ ds, Tame n k d) → TameAll n k ds
  | [], _ => ⟨rfl, rfl, rfl, Nat.zero_le _, Nat.zero_le _⟩
  | d :: ds, h => by
    have a := h d List.mem_cons_self
    have b := TameAll.of (ds := ds) fun e he => h e (List.mem_cons_of_mem _ he)
    refine ⟨?_, ?_, ?_, ?_, ?_⟩
    · show (d.canLay0 && PyData.canLayAll0 ds) = true
      rw [a.lay, b.lay] <;> rfl
    · show (d.showable && PyData.showableAll ds) = true
      rw [a.sh, b.sh] <;> rfl
    · show (d.leavesShort 13 && PyData.leavesShortAll 13 ds) = true
      rw [a.le, b.le] <;> rfl
    · show max d.depth (PyData.depthAll ds) ≤ n
      exact Nat.max_le.mpr ⟨a.dp, b.dp⟩
    · show d.weight + 1 + PyData.weightAll ds ≤ (ds.length + 1) * (k + 1)
      have h1 := a.wt
      have h2 := b.wt
      rw [Nat.succ_mul]
      omega
theorem Tame.list {n k : Nat} {ds : List PyData} (h : ∀ d ∈ ds, Tame n k d) : Tame (n + 1) (ds.length * (k + 1)) (.list ds) :=
  let a := TameAll.of h
  ⟨a.lay, a.sh, a.le, Nat.succ_le_succ a.dp, a.wt⟩
theorem Tame.tup {n k : Nat} {ds : List PyData} (h : ∀ d ∈ ds, Tame n k d) : Tame (n + 1) (ds.length * (k + 1)) (.tuple ds) :=
  let a := TameAll.of h
  ⟨a.lay, a.sh, a.le, Nat.succ_le_succ a.dp, a.wt⟩
theorem Tame.int {i : Int} (h : i.natAbs < 1048576) : Tame 0 20 (.int i) := by
  have hl : i.natAbs.log2 < 20 := by
    by_cases e : i.natAbs = 0
    · rw [e]
      decide
    · exact (Nat.log2_lt e).mpr h
  refine ⟨rfl, decide_eq_true (by omega), decide_eq_true (PyData.shown_int_le (by omega)), Nat.le_refl _, ?_⟩
  show (if (i == 0) = true then 0 else i.natAbs.log2 + 1) ≤ 20
  split <;> omega
theorem Tame.mono {n k n' k' : Nat} {d : PyData} (h : Tame n k d) (h1 : n ≤ n') (h2 : k ≤ k') : Tame n' k' d := ⟨h.lay, h.sh, h.le, Nat.le_trans h.dp h1, Nat.le_trans h.wt h2⟩
theorem Tame.str {x : Str} {k : Nat} (h : PySem.PyData.strOk x = true) (h2 : ∀ c ∈ x.cps.toList, c < 16 ^ 8) (hl : x.length ≤ k) : Tame 0 k (.str x) :=
  ⟨h, rfl, List.all_eq_true.mpr fun c hc => decide_eq_true (h2 c hc), Nat.le_refl _, hl⟩
theorem Tame.bool {b : Bool} : Tame 0 0 (.bool b) := ⟨rfl, rfl, rfl, Nat.le_refl _, Nat.le_refl _⟩
theorem Tame.none : Tame 0 0 .none := ⟨rfl, rfl, rfl, Nat.le_refl _, Nat.le_refl _⟩
theorem Tame.shaped {n k : Nat} {d : PyData} (h : Tame n k d) (hn : n ≤ 64) : SeqAt.shaped d = true := by
  show (d.canLay0 && decide (d.depth ≤ 64)) = true
  rw [h.lay, decide_eq_true (Nat.le_trans h.dp hn)] <;> rfl
theorem Tame.fits {n k : Nat} {d : PyData} (h : Tame n k d) (hk : k ≤ 2 ^ 20) : d.shown.length ≤ sizeLine := PyData.shown_fits (B := 13) (by decide) (by decide) h.le (Nat.le_trans h.wt hk)
section
variable {K : PySem.W.Frag} {σ : L2.St} {H H' : Hp} {ta tb tc te tx : TE} {x y z v : V}
theorem rv_neD {d e : PyData} {n k : Nat} (hx : Dp K H x d) (hy : Dp K H y e) (td : Tame n k d) (te : Tame n k e) (hn : n ≤ 64) : RV (rNeD K) x y H (.bl (!PyData.eqv d e)) :=
  fun H1 ex _ q => ⟨d, e, Dp.ex ex d hx, Dp.ex ex e hy, td.shaped hn, te.shaped hn, q H1 (Ex.refl H1)⟩
theorem rv_eqD {d e : PyData} {n k : Nat} (hx : Dp K H x d) (hy : Dp K H y e) (td : Tame n k d) (te : Tame n k e) (hn : n ≤ 64) : RV (rEqD K) x y H (.bl (PyData.eqv d e)) :=
  fun H1 ex _ q => ⟨d, e, Dp.ex ex d hx, Dp.ex ex e hy, td.shaped hn, te.shaped hn, q H1 (Ex.refl H1)⟩
theorem rc_repr {a : Addr} {d : PyData} {n k : Nat} (hx : Dp K H (.ref a) d) (td : Tame n k d) (hn : n ≤ 60) (hk : k ≤ 2 ^ 20) : RC (rRepr K) [.ref a] H (.str d.shown) :=
  fun H1 ex _ q => ⟨_, d, rfl, Dp.ex ex d hx, td.sh, td.lay, Nat.le_trans td.dp hn, td.fits hk, ⟨a, rfl⟩, q H1 (Ex.refl H1)⟩
/-- a new list, as data -/
theorem dp_lst {p : Addr} {xs : List V} {ds : List PyData} (h : H p = some (.lst xs)) (hd : DpAll K H xs ds) : Dp K H (.ref p) (.list ds) := .lst (SqL.of h) hd
theorem dp_tupN {p : Addr} {xs : List V} {ds : List PyData} (h : H p = some (.tup xs)) (hd : DpAll K H xs ds) : Dp K H (.ref p) (.tuple ds) := .tup (SqT.of h) hd
end
end Ov
end

section
set_option Elab.async false
set_option linter.all false
set_option maxRecDepth 100000
set_option maxHeartbeats 2000000
namespace Ov
open PySem PySem.Spec PyProof.Rows L2 Evl
section
variable {P : Program} {w : World} {K : PySem.W.Frag} {mg : Str → Option Value} {bh : Heap} {C : CXT} {k : Nat} {f : Addr} {fd : FuncData} {ps N : List Str} {sp : Sp} {st : Stmt} {x qual : Str}
/-- a def by its body, whatever is said of what leaves it -/
theorem okC (F : Fun K x qual st f fd) (S : FnScope N ps (defScope st)) (len : ∀ vs H Q E, sp vs H Q E → vs.length = ps.length)
    (hbody : ∀ (cdv : Value) (A : Around) (outer : List Env) (s : Shared) (H : Hp) (vs : List V) (Q : VK) (E : XK), Room k (A.deeper (envOfC qual (defScope st) s.heap.objs.size f cdv)) → sp vs H Q E →
      ∃ t, PSs (cxOf C P w K mg bh N qual (defScope st) f cdv A outer s H E) (defBody st) t ∧ t { nx := fun _ H' => Q .non H', rt := Q } (L2.start N vs) H) : FnOk P w K mg bh C (k + 1) f fd ps sp := by
  obtain ⟨oc, od, kV, doc, pm, an, cdv, ct, osl, rfl, lk, hcd⟩ := F.ex
  exact fn_of lk hcd S len fun A outer s H vs Q E hr hsp => hbody cdv A outer s H vs Q E hr hsp
theorem passLN {X : Cx} : Passes (L2N.CX X.prog X.w) X (fun _ _ _ => False) := fun _ _ _ _ _ _ _ c => by
  obtain ⟨_, _, _, _, _, _, _, _, _, _, _, _, z⟩ := c
  exact z.elim
end
/-! ### an error with one field -/
/-- its __init__(self, at): the field n is the argument -/
def spAt (K : PySem.W.Frag) (Ca : Addr) (n : Str) : Sp := fun vs H Q _ => ∃ (a : Addr) (v : V), vs = [.ref a, v] ∧ H a = some (exo a Ca none) ∧
  ∀ dx H', H dx = none → dx ≠ a → H' a = some (exo a Ca (some dx)) → H' dx = some (exd dx [(n, v)]) → (∀ b o, b ≠ a → H b = some o → H' b = some o) → Q .non H'
section
variable {K : PySem.W.Frag} {σ : L2.St} {H H' : Hp} {ta : TA} {v : V} {D : Ends} {tu tz : TS}
theorem mk_at {Ca : Addr} {n : Str} {Q : XK} (h : EvA ta σ H [v]) (q : ∀ dd H', Ex H H' → H dd = none → H' dd = some (.xd [(n, v)]) → Q (.ref Ca) (some dd) H') : tMkO Ca (spAt K Ca n) [] ta σ H Q :=
  h H (Evl.Ex.refl H) _ fun H1 e1 => ⟨by show 1 ≤ 1000; decide, fun a ha => ⟨a, v, rfl, upd_same, fun dx H2 hdx hne h2 h3 h4 => ⟨rfl, dx, [(n, v)], h2, h3, by rw [← upd_ne (H := H1) (o := exo a Ca none) hne]; exact hdx, by
    have hdx1 : H1 dx = none := by rw [← upd_ne (H := H1) (o := exo a Ca none) hne]; exact hdx
    refine q dx _ (fun b o hb => ?_) (fresh_back e1 hdx1) upd_same
    have hb1 := e1 b o hb
    have hba : b ≠ a := ne_of_none hb1 ha
    have hbd : b ≠ dx := ne_of_none hb1 hdx1
    rw [upd_ne hbd, del_ne hba]
    exact h4 b o hba (by rw [upd_ne hba]; exact hb1)⟩⟩⟩
/-- for i, x in enumerate(xs) -/
theorem s_forEn {a : Addr} {xs : List V} {j l : Nat} (h : EvA ta σ H [.ref a]) (hx : SqL K H a xs) (Pv : Nat → L2.St → Hp → Prop) (h0 : ∀ H1, Ex H H1 → Pv 0 σ H1) (hl : ∀ i σ' H', i ≤ xs.length → Pv i σ' H' → SqL K H' a xs)
    (hs : ∀ i x σ' H', xs[i]? = some x → Pv i σ' H' → ∀ H2, Ex H' H2 → tu { D with nx := Pv (i + 1), ct := Pv (i + 1), bk := D.nx } ((σ'.set j (some (.int (i : Int)))).set l (some x)) H2) (hd : ∀ σ' H', Pv xs.length σ' H' → D.nx σ' H') :
    tFor (iEnum K ta) (gTup K 2 (gCons (gName j) (gCons (gName l) gNil))) tu D σ H := h H (Evl.Ex.refl H) _ fun H1 e1 => ⟨a, xs, rfl, ex_l e1 hx, by
  refine for_it (walk_enum (K := K) (a := a) (xs := xs)) Pv (h0 H1 e1) (fun i σ' H' hi p => hl i σ' H' hi p) (fun i x σ' H' H2 hi p hy => ?_) hd
  obtain ⟨t, x0, y0, rfl, ht, rfl, h3, h4⟩ := hy
  cases h3
  exact ⟨t, _, rfl, st_of upd_same, rfl, _, _, rfl, _, _, rfl, rfl, hs i y0 σ' H' h4 p _ (Evl.Ex.new ht)⟩⟩
theorem q_forEn {a : Addr} {xs : List V} {j l : Nat} (h : EvA ta σ H [.ref a]) (hx : SqL K H a xs) (Pv : Nat → L2.St → Hp → Prop) (h0 : ∀ H1, Ex H H1 → Pv 0 σ H1) (hl : ∀ i σ' H', i ≤ xs.length → Pv i σ' H' → SqL K H' a xs)
    (hs : ∀ i x σ' H', xs[i]? = some x → Pv i σ' H' → ∀ H2, Ex H' H2 → tu { D with nx := Pv (i + 1), ct := Pv (i + 1), bk := tz D } ((σ'.set j (some (.int (i : Int)))).set l (some x)) H2) (hd : ∀ σ' H', Pv xs.length σ' H' → tz D σ' H') :
    tSeq (tFor (iEnum K ta) (gTup K 2 (gCons (gName j) (gCons (gName l) gNil))) tu) tz D σ H := s_forEn (D := { D with nx := tz D }) h hx Pv h0 hl hs hd
end
end Ov
end

section
set_option Elab.async false
set_option linter.all false
set_option maxRecDepth 100000
set_option maxHeartbeats 2000000
namespace Ov
open PySem PySem.Spec PyProof.Rows L2 Evl
/-- what the module says of a name -/
def ad (mg : Str → Option Value) (x : Str) : Addr := match mg x with
  | some (.ref a) => a
  | _ => 0
theorem hot_of {A : Around} {a : Addr} {oe : Obj} {cls : Value} {d : Option Addr} (hz : L2N.Zn cls d oe) (hf : ∃ vs, oe.data = .fields vs) (hA : A.handled = some (.ref a)) : L2H.Hot1 A (a, oe) := by
  obtain ⟨vs, hv⟩ := hf
  exact ⟨hA, vs, hv, hz.2.2 vs hv⟩
theorem roomM {k j : Nat} {A : Around} {x : Option Value} (r : Room k A) (h : j ≤ k) : L2H.RoomH j (A.mark x) := L2H.RoomH.mono (k := k) ⟨r.dp, r.un⟩ h
theorem lenApp (a b : Str) : (a ++ b : Str).length = a.length + b.length := by simp [Str.length, Str.cps_append]
theorem units1 {k : Nat} {A : Around} (r : Room k A) : A.units + 1 < cLine := by have := r.un; omega
theorem tkNo {X : Cx} : L2N.Takes X (fun _ _ _ _ => False) := fun _ _ z => by
  obtain ⟨_, _, _, _, _, _, _, _, _, _, _, _, _, _, _, _, w⟩ := z
  exact w.elim
section
variable {K : PySem.W.Frag} {σ : L2.St} {H H' : Hp} {te : TE} {ta : TA} {a D : Addr} {d : Option Addr} {b : Bool}
theorem XdAt.ex (h : XdAt H d) (e : Ex H H') : XdAt H' d := by
  cases d with
  | none => trivial
  | some dd =>
    obtain ⟨fs, hf⟩ := h
    exact ⟨fs, e _ _ hf⟩
/-- return a if t else b -/
theorem r_if {t : TT} {ta tb : TE} {Dn : Ends} (h : EvT t σ H b) (h1 : b = true → ∀ H1, Ex H H1 → ta σ H1 Dn.rt) (h2 : b = false → ∀ H1, Ex H H1 → tb σ H1 Dn.rt) : tRet (tIf t ta tb) Dn σ H := h H (Evl.Ex.refl H) _ fun H1 e1 => by
  cases b with
  | true => exact h1 rfl H1 e1
  | false => exact h2 rfl H1 e1
theorem ev_isPT {cs : List V} {us : List Value} (h : Ev te σ H (.ref a)) (h2 : EvA ta σ H cs) (hc : Paired ClsV cs us) (hl : cs.length ≤ 100) (hx : XdAt H d) (hk : PySem.W.kitAny K (.ref D) us = some b) :
    Ev (tCB (rIsPT K D a d) (tCons te (tCons (tTup ta) tNil))) σ H (.bl b) := fun H1 e Q q =>
  h H1 e _ fun H2 e2 => eu_tup h2 (by omega) H2 (e.trans e2) _ fun p H3 hp e3 h3 => ⟨p, cs, us, b, rfl, h3, hc, hx.ex ((e.trans e2).trans e3), hk, q H3 (e2.trans e3)⟩
theorem ev_isP {c : V} {cv : Value} {tc : TE} (h : Ev te σ H (.ref a)) (h2 : Ev tc σ H c) (hc : ClsV c cv) (hx : XdAt H d) (hk : PySem.W.kitOne K (.ref D) cv = some b) :
    Ev (tCB (rIsP K D a d) (tCons te (tCons tc tNil))) σ H (.bl b) := fun H1 e Q q =>
  h H1 e _ fun H2 e2 => h2 H2 (e.trans e2) _ fun H3 e3 => ⟨c, cv, b, rfl, hc, hx.ex ((e.trans e2).trans e3), hk, q H3 (e2.trans e3)⟩
theorem ev_xp {dd : Addr} {fs : List (Str × V)} {v : V} {f : Str} (h : Ev te σ H (.ref a)) (hd : H dd = some (.xd fs)) (hl : fs.lookup f = some v) : Ev (tXp a (some dd) f te) σ H v := fun H1 e Q q =>
  h H1 e _ fun H2 e2 => ⟨rfl, dd, fs, v, rfl, e2 _ _ (e _ _ hd), hl, q H2 e2⟩
theorem q_parLL {ta tb : TE} {tz : TS} {Dn : Ends} {xs ys : List V} {i j : Nat} (h1 : EvL ta σ H xs) (h2 : EvL tb σ H ys) (k : ∀ p q H1 H2, H p = none → Ex H H1 → H1 p = some (.lst xs) → H1 q = none → Ex H1 H2 → H2 q = some (.lst ys) → tz Dn ((σ.set i (some (.ref p))).set j (some (.ref q))) H2) :
    tSeq (tPar i j (tCons ta (tCons tb tNil))) tz Dn σ H := h1 H (Evl.Ex.refl H) _ fun p H1 hp e1 hp1 => h2 H1 e1 _ fun q H2 hq e2 hq1 => ⟨_, _, rfl, k p q H1 H2 hp e1 hp1 hq e2 hq1⟩
/-- a key of a dict -/
theorem ev_dget {td ty : TE} {a : Addr} {kvs : List (Key × V)} {key : Str} {v : V} (h1 : Ev td σ H (.ref a)) (h2 : Ev ty σ H (.str key)) (hk : H a = some (.dK kvs)) (hv : valV kvs (.inr key) = some v) : Ev (tDGet td ty) σ H v := fun H1 e Q q =>
  h1 H1 e _ fun H2 e2 => h2 H2 (e.trans e2) _ fun H3 e3 => ⟨a, v, rfl, hv ▸ DGet.k (k := .inr key) (e3 _ _ (e2 _ _ (e _ _ hk))), q H3 (e2.trans e3)⟩
theorem ev_dni {td ty : TE} {a : Addr} {kvs : List (Key × V)} {key : Str} (h1 : Ev ty σ H (.str key)) (h2 : Ev td σ H (.ref a)) (hk : H a = some (.dK kvs)) : Ev (tDNotIn ty td) σ H (.bl (!(valV kvs (.inr key)).isSome)) := fun H1 e Q q =>
  h1 H1 e _ fun H2 e2 => h2 H2 (e.trans e2) _ fun H3 e3 => ⟨a, _, rfl, DGet.k (k := .inr key) (e3 _ _ (e2 _ _ (e _ _ hk))), q H3 (e2.trans e3)⟩
theorem s_forR2N {tu : TS} {Dn : Ends} {j : Nat} {lo n : Int} (h : EvA ta σ H [.int lo, .int n]) (hn : -100000 ≤ lo ∧ lo ≤ 100000 ∧ -100000 ≤ n ∧ n ≤ 100000) (Pv : Nat → L2.St → Hp → Prop) (h0 : ∀ H1, Ex H H1 → Pv 0 σ H1)
    (hs : ∀ (i : Nat) σ' H', lo + (i : Int) < n → Pv i σ' H' → tu { Dn with nx := Pv (i + 1), ct := Pv (i + 1), bk := Dn.nx } (σ'.set j (some (.int (lo + (i : Int))))) H') (hd : ∀ σ' H', Pv (n - lo).toNat σ' H' → Dn.nx σ' H') : tFor (iRng2 ta) (gName j) tu Dn σ H :=
  h H (Evl.Ex.refl H) _ fun H1 e => ⟨lo, n, rfl, ⟨by omega, by omega, by omega, by omega⟩, for_range (lo := lo) (n := (n - lo).toNat) Pv (h0 H1 e) (fun i σ' H' hi p => hs i σ' H' (by omega) p) hd⟩
end
end Ov
end

section
set_option Elab.async false
set_option linter.all false
set_option maxRecDepth 100000
set_option maxHeartbeats 2000000
namespace Ov
open PySem PySem.Spec PyProof.Rows L2 Evl
section
variable {P : Program} {w : World} {K : PySem.W.Frag} {mg : Str → Option Value} {bh : Heap} {C : CXT} {j k : Nat} {x : Str} {ps ks : List Str} {js : List Nat} {sp : Sp}
theorem okUp {f : Addr} {fd : FuncData} (F : FnOk P w K mg bh C j f fd ps sp) (h : j ≤ k) : FnOk P w K mg bh C k f fd ps sp := ⟨F.len, fun A out s H ar us vs Q E r => F.run A out s H ar us vs Q E (r.mono h)⟩
theorem Dn.up (D : Dn P w K mg bh C j x ps sp) (h : j ≤ k) : Dn P w K mg bh C k x ps sp := by
  obtain ⟨f, fd, a, b, c, F⟩ := D.ex
  exact ⟨f, fd, a, b, c, okUp F h⟩
theorem DnK.up (D : DnK P w K mg bh C j x ps ks js sp) (h : j ≤ k) : DnK P w K mg bh C k x ps ks js sp := by
  obtain ⟨f, fd, a, b, c, F⟩ := D.ex
  exact ⟨f, fd, a, b, c, okUp F h⟩
theorem DnG.up (D : DnG P w K mg bh C j x ps sp) (h : j ≤ k) : DnG P w K mg bh C k x ps sp := by
  obtain ⟨f, fd, a, b, c, F⟩ := D.ex
  exact ⟨f, fd, a, b, c, F.up h⟩
end
section
variable {K : PySem.W.Frag} {σ : L2.St} {H H' : Hp} {te ta tb : TE} {x y : V} {a t : Addr} {d d1 d2 : PyData} {n k : Nat} {P P1 P2 : Hp → Addr → Prop} {tz : TS} {D : Ends}
/-! ### a new object -/
def EvN (te : TE) (σ : L2.St) (H : Hp) (P : Hp → Addr → Prop) : Prop := ∀ H1, Ex H H1 → ∀ Q : VK, (∀ p H2, H1 p = none → Ex H1 H2 → P H2 p → Q (.ref p) H2) → te σ H1 Q
theorem en_call {sp : Sp} {vs : List V} {E : XK} {tA : TA} (h : EvA tA σ H vs) (hs : ∀ H1, Ex H H1 → ∀ Q : VK, (∀ p H2, H1 p = none → Ex H1 H2 → P H2 p → Q (.ref p) H2) → sp vs H1 Q E) : EvN (tCall sp [] E tA) σ H P := fun H1 e Q q =>
  h H1 e _ fun H2 e2 => by
    show sp (vs ++ []) H2 Q E
    rw [List.append_nil]
    exact hs H2 (e.trans e2) Q fun p H3 hp e3 hP => q p H3 (fresh_back e2 hp) (e2.trans e3) hP
theorem ev_callKS {sp : Sp} {js : List Nat} {vs : List V} {E : L2.St → XK} {tk : TA} {z : V} (h : EvA tk σ H vs) (hs : ∀ H1, Ex H H1 → ∀ Q : VK, RetV z H1 Q → sp (gIn js [] vs) H1 Q (E σ)) : Ev (tCallKS js sp E tNil tk) σ H z := fun H1 e Q q =>
  h H1 e _ fun H2 e2 => hs H2 (e.trans e2) Q fun H3 e3 => q H3 (e2.trans e3)
theorem q_asgN {i : Nat} (h : EvN te σ H P) (k : ∀ p H1, H p = none → Ex H H1 → P H1 p → tz D (σ.set i (some (.ref p))) H1) : tSeq (tAsg te (gName i)) tz D σ H := h H (Evl.Ex.refl H) _ fun p H1 hp e hP => k p H1 hp e hP
/-- x = [new, new] -/
theorem q_asg2N {i : Nat} (h1 : EvN ta σ H P1) (h2 : EvN tb σ H P2) (k : ∀ p q l H1 H2 H3, H p = none → Ex H H1 → P1 H1 p → H1 q = none → Ex H1 H2 → P2 H2 q → H2 l = none → Ex H2 H3 → H3 l = some (.lst [.ref p, .ref q]) → tz D (σ.set i (some (.ref l))) H3) :
    tSeq (tAsg (tLst (tCons ta (tCons tb tNil))) (gName i)) tz D σ H := h1 H (Evl.Ex.refl H) _ fun p H1 hp e1 hP1 => h2 H1 e1 _ fun q H2 hq e2 hP2 =>
  ⟨sz_of (by show 2 ≤ 100000; decide), fun l hl => k p q l H1 H2 _ hp e1 hP1 hq e2 hP2 hl (Evl.Ex.new hl) upd_same⟩
/-! ### what is shown -/
theorem ev_repr (h : Ev te σ H (.ref a)) (hd : Dp K H (.ref a) d) (td : Tame n k d) (hn : n ≤ 60) (hk : k ≤ 2 ^ 20) : Ev (tCB (rRepr K) (tCons te tNil)) σ H (.str d.shown) := ev_cb (ea_cons h ea_nil) (rc_repr hd td hn hk)
theorem ev_reprL {xs : List V} {ds : List PyData} (h : EvL te σ H xs) (hd : DpAll K H xs ds) (td : Tame n k (.list ds)) (hn : n ≤ 60) (hk : k ≤ 2 ^ 20) : Ev (tCB (rRepr K) (tCons te tNil)) σ H (.str (PyData.list ds).shown) := fun H1 e Q q =>
  h H1 e _ fun p H2 hp e2 h2 => rc_repr (dp_lst h2 (DpAll.ex (e.trans e2) _ hd)) td hn hk H2 (Evl.Ex.refl _) Q fun H3 e3 => q H3 (e2.trans e3)
/-- repr([x, new]) -/
theorem ev_reprVN (h1 : Ev ta σ H x) (h2 : EvN tb σ H P) (hx : Dp K H x d1) (hP : ∀ H' p, Ex H H' → P H' p → Dp K H' (.ref p) d2) (td : Tame n k (.list [d1, d2])) (hn : n ≤ 60) (hk : k ≤ 2 ^ 20) :
    Ev (tCB (rRepr K) (tCons (tLst (tCons ta (tCons tb tNil))) tNil)) σ H (.str (PyData.list [d1, d2]).shown) := fun H1 e Q q =>
  h1 H1 e _ fun H2 e2 => h2 H2 (e.trans e2) _ fun p H3 hp e3 h3 => ⟨sz_of (by show 2 ≤ 100000; decide), fun l hl =>
    rc_repr (dp_lst upd_same (.cons (Dp.ex (((e.trans e2).trans e3).trans (Evl.Ex.new hl)) _ hx) (.cons (Dp.ex (Evl.Ex.new hl) _ (hP H3 p ((e.trans e2).trans e3) h3)) .nil))) td hn hk _ (Evl.Ex.refl _) Q fun H4 e4 => q H4 (((e2.trans e3).trans (Evl.Ex.new hl)).trans e4)⟩
/-! ### isinstance(x, list) -/
theorem ev_isiL {xs : List V} (h : Ev te σ H (.ref a)) (hx : H a = some (.lst xs)) : Ev (tCB (rIsi K) (tCons te (tCons (tC (.ty "list")) tNil))) σ H (.bl true) := fun H1 e Q q =>
  h H1 e _ fun H2 e2 => ⟨_, _, _, _, true, rfl, .ty "list", .base (.lst ((e.trans e2) _ _ hx)), kit_ty (by decide +kernel), q H2 e2⟩
theorem ev_isiT {xs : List V} (h : Ev te σ H (.ref a)) (hx : H a = some (.tup xs)) : Ev (tCB (rIsi K) (tCons te (tCons (tC (.ty "list")) tNil))) σ H (.bl false) := fun H1 e Q q =>
  h H1 e _ fun H2 e2 => ⟨_, _, _, _, false, rfl, .ty "list", .base (.tup ((e.trans e2) _ _ hx)), kit_ty (by decide +kernel), q H2 e2⟩
/-! ### data that do not rest on a list -/
theorem sqT_hide {xs ys : List V} (h : SqT K H a xs) (ht : H t = some (.lst ys)) : SqT K (hideV H t) a xs := by
  rcases h with (h | ⟨o, h⟩) | h
  · have hne : a ≠ t := fun z => by
      rw [z, ht] at h
      cases h
    exact .inl (.inl (by rw [hide_ne hne]; exact h))
  · have hne : a ≠ t := fun z => by
      rw [z, ht] at h
      cases h
    exact .inl (.inr ⟨o, by rw [hide_ne hne]; exact h⟩)
  · exact .inr h
theorem tupI_hide {ns : List Int} {ys : List V} (h : Dp K H x (.tuple (ns.map PyData.int))) (ht : H t = some (.lst ys)) : Dp K (hideV H t) x (.tuple (ns.map PyData.int)) := by
  obtain ⟨a, rfl, hs⟩ := dp_tupI h
  exact .tup (sqT_hide hs ht) dpAll_of
theorem tupsI_hide {α : Type} {f : α → List Int} {ys : List V} (ht : H t = some (.lst ys)) : ∀ {ps : List α} {xs : List V}, DpAll K H xs (ps.map fun p => PyData.tuple ((f p).map PyData.int)) → DpAll K (hideV H t) xs (ps.map fun p => PyData.tuple ((f p).map PyData.int))
  | [], _, h => by
    cases h
    exact .nil
  | p :: ps, _, h => by
    cases h with
    | cons h1 h2 => exact .cons (tupI_hide h1 ht) (tupsI_hide ht h2)
/-- behind a change at t alone -/
theorem ex_hide_upd {o : HO} (e : Ex H H') : Ex (hideV H t) (upd H' t o) := fun b u hb => by
  unfold hideV at hb
  split at hb
  · cases hb
  · rename_i hne
    rw [upd_ne hne]
    exact e _ _ hb
end
end Ov
end

section
set_option Elab.async false
set_option linter.all false
set_option maxRecDepth 100000
set_option maxHeartbeats 4000000
namespace TxM
open PySem PySem.Spec PyProof.Rows L2 TL
abbrev S (l : List Nat) : Str := ⟨l.toArray⟩
/-- cut at each sign c -/
def cutAt (c : Nat) : List Nat → List Nat → List (List Nat)
  | acc, [] => [acc]
  | acc, x :: r => if x = c then acc :: cutAt c [] r else cutAt c (acc ++ [x]) r
theorem pre_one (c x : Nat) (r : List Nat) : pre [c] (x :: r) = decide (x = c) := by
  by_cases h : x = c
  · subst h
    rw [decide_eq_true rfl]
    exact pre_self [x] r
  · rw [decide_eq_false h]
    exact pre_of_head [] r h
theorem spl_cut (c : Nat) : ∀ (l acc : List Nat), spl [c] 0 acc l = cutAt c acc l
  | [], acc => spl_nil _ _ _
  | x :: r, acc => by
    unfold cutAt
    by_cases h : x = c
    · rw [if_pos h, spl_hit (by rw [pre_one, decide_eq_true h])]
      show acc :: spl [c] 0 [] r = _
      rw [spl_cut c r []]
    · rw [if_neg h, spl_miss (by rw [pre_one, decide_eq_false h]), spl_cut c r (acc ++ [x])]
theorem cutAt_ne (c : Nat) : ∀ (l acc : List Nat), cutAt c acc l ≠ []
  | [], _ => by simp [cutAt]
  | x :: r, acc => by
    unfold cutAt
    split
    · simp
    · exact cutAt_ne c r _
theorem joinL_cons {s : List Nat} {p : List Nat} {ps : List (List Nat)} (h : ps ≠ []) : joinL s (p :: ps) = p ++ (s ++ joinL s ps) := by
  cases ps with
  | nil => exact absurd rfl h
  | cons q r => rfl
theorem join_cutAt (c : Nat) : ∀ (l acc : List Nat), joinL [c] (cutAt c acc l) = acc ++ l
  | [], acc => by simp [cutAt, joinL]
  | x :: r, acc => by
    unfold cutAt
    split
    · rename_i h
      rw [joinL_cons (cutAt_ne c r []), join_cutAt c r [], h]
      rfl
    · rw [join_cutAt c r (acc ++ [x]), List.append_assoc]
      rfl
theorem cutAt_len (c : Nat) : ∀ (l acc : List Nat), (cutAt c acc l).length ≤ l.length + 1
  | [], _ => by simp [cutAt]
  | x :: r, acc => by
    unfold cutAt
    split
    · have := cutAt_len c r []
      rw [List.length_cons, List.length_cons]
      omega
    · have := cutAt_len c r (acc ++ [x])
      rw [List.length_cons]
      omega
theorem cutAt_sum (c : Nat) : ∀ (l acc : List Nat), ((cutAt c acc l).map List.length).sum + (cutAt c acc l).length = acc.length + l.length + 1
  | [], acc => by simp [cutAt]
  | x :: r, acc => by
    unfold cutAt
    split
    · have := cutAt_sum c r []
      simp only [List.map_cons, List.sum_cons, List.length_cons, List.length_nil] at this ⊢
      omega
    · have := cutAt_sum c r (acc ++ [x])
      simp only [List.length_append, List.length_cons, List.length_nil] at this ⊢
      omega
theorem mem_sum {l : List Nat} {x : Nat} (h : x ∈ l) : x ≤ l.sum := by
  induction l with
  | nil => cases h
  | cons a r ih =>
    rw [List.sum_cons]
    rcases List.mem_cons.mp h with rfl | h
    · omega
    · have := ih h
      omega
/-- the words of a text -/
def wds (w : Str) : List Str := (cutAt 32 [] (tl w)).map S
theorem split_wds (w : Str) : Txt.split w " " = wds w := by
  refine map_tl_inj ?_
  have e : tl (" " : Str) = [32] := by decide +kernel
  rw [split_spl w " " (by rw [e]; simp) (kind_ok (by decide +kernel)), e, spl_cut]
  unfold wds
  rw [List.map_map]
  exact (List.map_id _).symm
theorem wds_ne (w : Str) : wds w ≠ [] := fun h => cutAt_ne 32 _ _ (List.map_eq_nil_iff.mp h)
theorem join_wds (w : Str) : Txt.join " " (wds w) = w := by
  refine ext_tl ?_
  have e : tl (" " : Str) = [32] := by decide +kernel
  rw [join_eq, tl_join, e]
  unfold wds
  rw [List.map_map]
  have e2 : (cutAt 32 [] (tl w)).map (tl ∘ S) = cutAt 32 [] (tl w) := List.map_id _
  rw [e2, join_cutAt]
  rfl
theorem S_len (l : List Nat) : (S l).length = l.length := by show l.toArray.size = _; rw [List.size_toArray]
theorem wds_sum (w : Str) : ((wds w).map (·.length)).sum + (wds w).length = w.length + 1 := by
  have h := cutAt_sum 32 (tl w) []
  unfold wds
  rw [List.map_map, List.length_map, len_tl]
  have e : (cutAt 32 [] (tl w)).map ((fun x : Str => x.length) ∘ S) = (cutAt 32 [] (tl w)).map List.length := List.map_congr_left fun a _ => S_len a
  rw [e]
  simpa using h
theorem wds_mem {w p : Str} (h : p ∈ wds w) : p.length ≤ w.length := by
  have := wds_sum w
  have h2 := mem_sum (List.mem_map_of_mem (f := fun x : Str => x.length) h)
  have h3 : 1 ≤ (wds w).length := List.length_pos_iff.mpr (wds_ne w)
  omega
theorem wds_len (w : Str) : (wds w).length ≤ w.length + 1 := by
  have := wds_sum w
  omega
/-! ### lengths of joined texts -/
theorem joinL_len (s : List Nat) : ∀ ps : List (List Nat), (joinL s ps).length ≤ (ps.map List.length).sum + ps.length * s.length
  | [] => by simp [joinL]
  | [p] => by simp [joinL]
  | p :: q :: r => by
    have := joinL_len s (q :: r)
    rw [joinL_cons (by simp), List.length_append, List.length_append]
    simp only [List.map_cons, List.sum_cons, List.length_cons] at this ⊢
    rw [Nat.succ_mul]
    omega
theorem join_len (a : Str) (ys : List Str) : (Txt.join a ys).length ≤ (ys.map (·.length)).sum + ys.length * a.length := by
  rw [len_tl, join_eq, tl_join]
  have h := joinL_len (tl a) (ys.map tl)
  rw [List.map_map, List.length_map] at h
  have e : ys.map (List.length ∘ tl) = ys.map (·.length) := List.map_congr_left fun x _ => (len_tl x).symm
  rw [e] at h
  rw [len_tl a]
  exact h
/-! ### what stands before a sign, and behind it -/
def parC (c : Nat) : List Nat → List Nat → Option (List Nat × List Nat)
  | _, [] => none
  | acc, x :: r => if x = c then some (acc, r) else parC c (acc ++ [x]) r
theorem par_parC (c : Nat) : ∀ (l acc : List Nat), par [c] acc l = parC c acc l
  | [], acc => rfl
  | x :: r, acc => by
    unfold parC
    by_cases h : x = c
    · rw [if_pos h, par_hit (by rw [pre_one, decide_eq_true h])]
      rfl
    · rw [if_neg h, par_miss (by rw [pre_one, decide_eq_false h]), par_parC c r (acc ++ [x])]
theorem parC_some {c : Nat} : ∀ {l acc a b : List Nat}, parC c acc l = some (a, b) → acc ++ l = a ++ c :: b
  | [], _, _, _, h => by cases h
  | x :: r, acc, a, b, h => by
    unfold parC at h
    by_cases e : x = c
    · rw [if_pos e] at h
      cases h
      rw [e]
    · rw [if_neg e] at h
      have := parC_some h
      rw [← this, List.append_assoc]
      rfl
theorem parC_none {c : Nat} : ∀ {l acc : List Nat}, parC c acc l = none → c ∉ l
  | [], _, _ => by simp
  | x :: r, acc, h => by
    unfold parC at h
    by_cases e : x = c
    · rw [if_pos e] at h
      cases h
    · rw [if_neg e] at h
      have := parC_none h
      simp [this, Ne.symm e]
theorem parC_notin {c : Nat} : ∀ {l acc : List Nat}, c ∉ l → parC c acc l = none
  | [], _, _ => rfl
  | x :: r, acc, h => by
    have h1 : ¬ x = c := fun e => h (by rw [e]; exact List.mem_cons_self)
    unfold parC
    rw [if_neg h1]
    exact parC_notin fun z => h (List.mem_cons_of_mem _ z)
theorem parC_app {c : Nat} {b : List Nat} : ∀ {a acc : List Nat}, c ∉ a → parC c acc (a ++ c :: b) = some (acc ++ a, b)
  | [], acc, _ => by simp [parC]
  | x :: r, acc, h => by
    have h1 : ¬ x = c := fun e => h (by rw [e]; exact List.mem_cons_self)
    show parC c acc (x :: (r ++ c :: b)) = _
    unfold parC
    rw [if_neg h1, parC_app (a := r) fun z => h (List.mem_cons_of_mem _ z), List.append_assoc]
    rfl
/-- partition at one sign -/
def part1 (c : Nat) (w : Str) : Str × Str × Str := match parC c [] (tl w) with
  | some (a, b) => (S a, S [c], S b)
  | none => (w, Str.empty, Str.empty)
theorem partition_one {c : Nat} {y : Str} (e : tl y = [c]) (w : Str) : Txt.partition w y = part1 c w := by
  rw [partition_par w y (by rw [e]; simp), e, par_parC]
  have ey : y = S [c] := ext_tl e
  unfold part1
  cases parC c [] (tl w) with
  | none => rfl
  | some p => rw [ey]
theorem part1_len (c : Nat) (w : Str) : (part1 c w).1.length ≤ w.length ∧ (part1 c w).2.2.length ≤ w.length := by
  unfold part1
  cases h : parC c [] (tl w) with
  | none => exact ⟨Nat.le_refl _, Nat.zero_le _⟩
  | some p =>
    obtain ⟨a, b⟩ := p
    have := parC_some h
    have h2 := congrArg List.length this
    rw [List.nil_append, List.length_append, List.length_cons] at h2
    have ea := S_len a
    have eb := S_len b
    have ew := len_tl w
    show (S a).length ≤ w.length ∧ (S b).length ≤ w.length
    omega
theorem part1_join (c : Nat) (w : Str) : (part1 c w).2.2 = Str.empty ∨ w = (part1 c w).1 ++ S [c] ++ (part1 c w).2.2 := by
  unfold part1
  cases h : parC c [] (tl w) with
  | none => exact .inl rfl
  | some p =>
    obtain ⟨a, b⟩ := p
    have := parC_some h
    rw [List.nil_append] at this
    refine .inr (ext_tl ?_)
    rw [this]
    show _ = tl (S a ++ S [c] ++ S b)
    rw [tl_append, tl_append]
    simp [tl, S]
theorem joinL_mem {s : List Nat} : ∀ {ps : List (List Nat)} {c : Nat}, c ∈ joinL s ps → c ∈ s ∨ ∃ p ∈ ps, c ∈ p
  | [], _, h => by cases h
  | [p], _, h => .inr ⟨p, List.mem_singleton_self _, h⟩
  | p :: q :: r, c, h => by
    rw [joinL_cons (by simp), List.mem_append, List.mem_append] at h
    rcases h with h | h | h
    · exact .inr ⟨p, List.mem_cons_self, h⟩
    · exact .inl h
    · rcases joinL_mem h with h | ⟨u, hu, h⟩
      · exact .inl h
      · exact .inr ⟨u, List.mem_cons_of_mem _ hu, h⟩
theorem join_mem {a : Str} {ys : List Str} {c : Nat} (h : c ∈ (Txt.join a ys).cps.toList) : c ∈ a.cps.toList ∨ ∃ y ∈ ys, c ∈ y.cps.toList := by
  have h2 : c ∈ joinL (tl a) (ys.map tl) := by
    rw [← tl_join, ← join_eq]
    exact h
  rcases joinL_mem h2 with h | ⟨p, hp, h⟩
  · exact .inl h
  · obtain ⟨y, hy, rfl⟩ := List.mem_map.mp hp
    exact .inr ⟨y, hy, h⟩
end TxM
end

section
set_option Elab.async false
set_option linter.all false
set_option maxRecDepth 100000
set_option maxHeartbeats 2000000
namespace Ov
open PySem PySem.Spec PyProof.Rows L2 Evl
/-! ### draws -/
section
variable {K : PySem.W.Frag} {σ : L2.St} {G H : Hp} {v : Addr} {n m k : Nat} {te ta tb tc : TE} {x y z : V} {P P' P2 : V → Prop} {tz tu : TS} {D : Ends} {g : TG}
def isI (size : Int) : V → Prop := fun x => ∃ r : Int, x = .int r ∧ 0 ≤ r ∧ r < size
theorem evw_sip {E : XK} {tv ts : TE} {size : Int} (hv : Ev tv σ G (.ref v)) (hs : Ev ts σ G (.int size)) (h0 : 0 < size) (h1 : size < 1000000) : EvW (tCall spSip [] E (tCons tv (tCons ts tNil))) σ G v (n + 1) n (isI size) := fun H h Q q =>
  h.ev hv fun H1 w1 e1 => w1.ev hs fun H2 w2 e2 => ⟨G, v, n, size, rfl, w2, h0, h1, fun r H' a b hw => q _ H' ⟨r, rfl, a, b⟩ hw⟩
theorem evw_imp (h : EvW te σ G v n m P) (hp : ∀ x, P x → P' x) : EvW te σ G v n m P' := fun H w Q q => h H w Q fun x H' hx w' => q x H' (hp x hx) w'
theorem evw_opR {r : R2} (ha : Ev ta σ G x) (hb : EvW tb σ G v n m P) (hr : ∀ y, P y → ∃ z, P2 z ∧ RV r x y G z) : EvW (tOp r ta tb) σ G v n m P2 := fun H h Q q =>
  h.ev ha fun H1 w1 e1 => hb H1 w1 _ fun y H2 hy w2 => by
    obtain ⟨z, hz, hrv⟩ := hr y hy
    exact hrv H2 w2.ex Q fun H3 e3 => q z H3 hz (w2.mono e3)
theorem evw_opL {r : R2} (ha : EvW ta σ G v n m P) (hb : Ev tb σ G y) (hr : ∀ x, P x → ∃ z, P2 z ∧ RV r x y G z) : EvW (tOp r ta tb) σ G v n m P2 := fun H h Q q =>
  ha H h _ fun x H1 hx w1 => w1.ev hb fun H2 w2 e2 => by
    obtain ⟨z, hz, hrv⟩ := hr x hx
    exact hrv H2 w2.ex Q fun H3 e3 => q z H3 hz (w2.mono e3)
/-- [a, b, ..][a draw] -/
theorem evw_pick {tl : TA} {vs : List V} (ha : EvA tl σ G vs) (hl : vs.length ≤ 1000) (hb : ∀ G', Ex G G' → EvW tb σ G' v n m (isI vs.length)) : EvW (tOp (rIxL K) (tLst tl) tb) σ G v n m (fun x => x ∈ vs) := fun H h Q q =>
  ha H h.ex _ fun H1 e1 => ⟨sz_of (by omega), fun p hp => by
    obtain ⟨w2, eG, hp2⟩ := (h.mono e1).new hp (Evl.Ex.new hp) (o := .lst vs) upd_same
    refine hb _ eG _ w2 _ fun y H2 hy w3 => ?_
    obtain ⟨r, rfl, r0, r1⟩ := hy
    obtain ⟨i, rfl⟩ : ∃ i : Nat, r = i := ⟨r.toNat, by omega⟩
    have hi : i < vs.length := by omega
    exact rv_ixL (v := vs[i]) (sq_of (w3.ex _ _ hp2)) (atI_nat (List.getElem?_eq_getElem hi)) H2 (Evl.Ex.refl _) Q fun H3 e3 => q _ H3 (List.getElem_mem hi) ((w3.sub eG).mono e3)⟩
theorem q_asgW {i : Nat} (hw : Wd G v n H) (h : EvW te σ G v n m P) (k : ∀ x H1, P x → Wd G v m H1 → tz D (σ.set i (some x)) H1) : tSeq (tAsg te (gName i)) tz D σ H := h H hw _ fun x H1 hx w1 => k x H1 hx w1
theorem s_asgW {i : Nat} (hw : Wd G v n H) (h : EvW te σ G v n m P) (k : ∀ x H1, P x → Wd G v m H1 → D.nx (σ.set i (some x)) H1) : tAsg te (gName i) D σ H := h H hw _ fun x H1 hx w1 => k x H1 hx w1
theorem q_parW {i j : Nat} (hw : Wd G v n H) (h1 : EvW ta σ G v n m P) (h2 : EvW tb σ G v m k P2) (c : ∀ x y H1, P x → P2 y → Wd G v k H1 → tz D ((σ.set i (some x)).set j (some y)) H1) : tSeq (tPar i j (tCons ta (tCons tb tNil))) tz D σ H :=
  h1 H hw _ fun x H1 hx w1 => h2 H1 w1 _ fun y H2 hy w2 => ⟨x, y, rfl, c x y H2 hx hy w2⟩
theorem s_forR1W (hw : Wd G v n H) (h : EvW te σ G v n m P) (hP : ∀ x, P x → ∃ r : Int, x = .int r) (c : ∀ (r : Int) H1, P (.int r) → Wd G v m H1 → tFor (iRng1 (tCons (tC (.int r)) tNil)) g tu D σ H1) : tFor (iRng1 (tCons te tNil)) g tu D σ H :=
  h H hw _ fun x H1 hx w1 => by
    obtain ⟨r, rfl⟩ := hP x hx
    exact c r H1 hx w1
theorem q_forR1W (hw : Wd G v n H) (h : EvW te σ G v n m P) (hP : ∀ x, P x → ∃ r : Int, x = .int r) (c : ∀ (r : Int) H1, P (.int r) → Wd G v m H1 → tSeq (tFor (iRng1 (tCons (tC (.int r)) tNil)) g tu) tz D σ H1) : tSeq (tFor (iRng1 (tCons te tNil)) g tu) tz D σ H :=
  s_forR1W (D := { D with nx := tz D }) hw h hP c
/-! ### lists put together -/
theorem el_cat {xs ys : List V} (ha : EvL ta σ H xs) (hb : EvL tb σ H ys) (hl : xs.length + ys.length ≤ 100000) : EvL (tOp rCat ta tb) σ H (xs ++ ys) := fun H1 e Q q =>
  ha H1 e _ fun p H2 hp e2 h2 => hb H2 (e.trans e2) _ fun p3 H3 hp3 e3 h3 => ⟨p, p3, xs, ys, rfl, rfl, e3 _ _ h2, h3, sz_of hl, fun l hl => q l _ (fresh_back (e2.trans e3) hl) ((e2.trans e3).trans (Evl.Ex.new hl)) upd_same⟩
theorem el_catV {xs ys : List V} {a : Addr} (ha : Ev ta σ H (.ref a)) (hx : H a = some (.lst xs)) (hb : EvL tb σ H ys) (hl : xs.length + ys.length ≤ 100000) : EvL (tOp rCat ta tb) σ H (xs ++ ys) := fun H1 e Q q =>
  ha H1 e _ fun H2 e2 => hb H2 (e.trans e2) _ fun p3 H3 hp3 e3 h3 => ⟨a, p3, xs, ys, rfl, rfl, ((e.trans e2).trans e3) _ _ hx, h3, sz_of hl, fun l hl => q l _ (fresh_back (e2.trans e3) hl) ((e2.trans e3).trans (Evl.Ex.new hl)) upd_same⟩
end
/-! ### how long a list of words is, joined -/
def tot (ws : List Str) : Nat := (ws.map (·.length)).sum + ws.length
theorem tot_app (a b : List Str) : tot (a ++ b) = tot a + tot b := by
  unfold tot
  rw [List.map_append, List.sum_append, List.length_append]
  omega
theorem tot_one (a : Str) : tot [a] = a.length + 1 := by simp [tot]
theorem tot_cons (c : Str) (l : List Str) : tot (c :: l) = c.length + 1 + tot l := by
  unfold tot
  rw [List.map_cons, List.sum_cons, List.length_cons]
  omega
theorem tot_sub {a b : List Str} (h : a.Sublist b) : tot a ≤ tot b := by
  induction h with
  | slnil => exact Nat.le_refl _
  | cons c h ih =>
    rw [tot_cons]
    omega
  | cons_cons c h ih =>
    rw [tot_cons, tot_cons]
    omega
theorem tot_mem {a : Str} {ws : List Str} (h : a ∈ ws) : a.length + 1 ≤ tot ws := by
  rw [← tot_one]
  exact tot_sub (List.singleton_sublist.mpr h)
theorem tot_len (ws : List Str) : ws.length ≤ tot ws := Nat.le_add_left _ _
theorem tot_wds (z : Str) : tot (TxM.wds z) = z.length + 1 := TxM.wds_sum z
theorem tot_join (ws : List Str) : (Txt.join " " ws).length ≤ tot ws := by
  have := TxM.join_len " " ws
  rw [show (" " : Str).length = 1 from rfl, Nat.mul_one] at this
  exact this
theorem cut_words (ws : List Str) (lo hi : Option Int) : ∃ us : List Str, cutV (ws.map V.str) lo hi = us.map V.str ∧ us.Sublist ws := by
  unfold cutV
  rw [← List.map_drop, ← List.map_take]
  exact ⟨_, rfl, (List.take_sublist _ _).trans (List.drop_sublist _ _)⟩
theorem cutS_len (z : Str) (lo hi : Option Int) : (cutS z lo hi).length ≤ z.length := by
  unfold cutS
  show (List.toArray _).size ≤ _
  rw [List.size_toArray, List.length_take, List.length_drop]
  have : z.cps.toList.length = z.length := Array.length_toList
  omega
end Ov
end

section
set_option Elab.async false
set_option linter.all false
set_option maxRecDepth 100000
set_option maxHeartbeats 2000000
namespace Ov
open PySem PySem.Spec PyProof.Rows L2 Evl
/-! ### a text repeated -/
def repS (a : Str) (n : Nat) : Str := ⟨(List.replicate n a.cps).foldl (· ++ ·) #[]⟩
theorem foldl_size (a : Array Nat) : ∀ (n : Nat) (acc : Array Nat), ((List.replicate n a).foldl (· ++ ·) acc).size = acc.size + n * a.size
  | 0, acc => by simp
  | n + 1, acc => by
    rw [List.replicate_succ, List.foldl_cons, foldl_size a n, Array.size_append, Nat.succ_mul]
    omega
theorem repS_len (a : Str) (n : Nat) : (repS a n).length = n * a.length := by
  show ((List.replicate n a.cps).foldl (· ++ ·) #[]).size = _
  rw [foldl_size]
  simp [Str.length]
def rRepS : R2 := fun x y H Q => ∃ (a : Str) (k : Int), x = .str a ∧ y = .int k ∧ 2 ≤ k ∧ k ≤ 10000 ∧ 0 < a.length ∧ a.length * k.toNat ≤ 90000 ∧ Q (.str (repS a k.toNat)) H
theorem op_repS {X : Cx} : OpR X (binaryOp .Mult) rRepS := by
  intro pins s σ H x y v u Q I rx ry h
  obtain ⟨a, k, rfl, rfl, h1, h2, h3, h4, q⟩ := h
  obtain ⟨t, rfl⟩ := rx
  obtain ⟨t', rfl⟩ := ry
  have e1 : ¬ k < 1 := by omega
  have e2 : (k == 1 || a.length == 0) = false := by
    have a1 : (k == 1) = false := by simp; omega
    have a2 : (a.length == 0) = false := by simp; omega
    rw [a1, a2] <;> rfl
  refine PySem.P.mul_str (by
    rw [decide_eq_false (by omega), decide_eq_false (by omega)] <;> rfl) (fun _ _ => ?_) (fun _ _ => ?_) ?_
  · have hk : (10000 : Int) * k ≤ 10000 * 10000 := by omega
    have hd : (90000 : Int) ≤ (2 ^ 63 - 1) / k := by
      rw [Int.le_ediv_iff_mul_le (by omega)]
      have : (90000 : Int) * k ≤ 90000 * 10000 := by omega
      exact Int.le_trans this (by decide)
    have hl : (a.length : Int) ≤ 90000 := by
      have : a.length * 2 ≤ a.length * k.toNat := Nat.mul_le_mul_left _ (by omega)
      omega
    omega
  · unfold Builtin.Str.tooLong
    have : ((90000 : Nat) ≤ sizeLine) := by decide
    simp only [decide_eq_false_iff_not]
    omega
  · rw [if_neg e1, if_neg (by rw [e2]; decide)]
    refine ⟨?_, .str (repS a k.toNat), H, I.tok _, ⟨_, rfl⟩, q⟩
    show (repS a k.toNat).length ≤ _
    rw [repS_len, Nat.mul_comm]
    exact sz_of (by omega)
theorem rv_repS {H : Hp} {a : Str} {k : Int} (h1 : 2 ≤ k) (h2 : k ≤ 10000) (h3 : 0 < a.length) (h4 : a.length * k.toNat ≤ 90000) : RV rRepS (.str a) (.int k) H (.str (repS a k.toNat)) := fun H1 _ _ q => ⟨a, k, rfl, rfl, h1, h2, h3, h4, q H1 (Evl.Ex.refl H1)⟩
/-! ### lists made with draws -/
section
variable {K : PySem.W.Frag} {σ : L2.St} {G H : Hp} {v : Addr} {n m k c : Nat} {te ta tb : TE} {tA : TA} {P1 P2 : V → Prop} {tz tu : TS} {D : Ends} {g : TG}
theorem hide_wd2 {G' H' : Hp} {t : Addr} {ys zs : List V} (w : Wd G' v k H') (ht : G' t = some (.lst ys)) : Wd (hideV G' t) v k (upd H' t (.lst zs)) ∧ hideV G' t t = none := by
  have htv : v ≠ t := fun z => by
    have := w.no
    rw [z, ht] at this
    cases this
  refine ⟨⟨by rw [hide_ne htv]; exact w.no, ex_hide_upd w.ex, ?_⟩, if_pos rfl⟩
  obtain ⟨d, e, f, h1, h2⟩ := w.vat
  exact ⟨d, e, f, by rw [upd_ne htv]; exact h1, h2⟩
theorem wd_add {Gi H' : Hp} {t : Addr} {o : HO} (w : Wd Gi v k H') (hvt : v ≠ t) (hd : H' t = some o) : Wd (upd Gi t o) v k H' := ⟨by rw [upd_ne hvt]; exact w.no, fun b u hb => by
  by_cases hbd : b = t
  · subst hbd
    rw [upd_same] at hb
    cases hb
    exact hd
  · rw [upd_ne hbd] at hb
    exact w.ex _ _ hb, w.vat⟩
/-- [e for x in range(n)], e with draws -/
theorem lcRW {j : Nat} {vs : List Nat} {r : Int} (Pe : Hp → V → Prop) (hPe : ∀ {G : Hp} {y : V} {t : Addr} {ys : List V}, Pe G y → G t = some (.lst ys) → Pe (hideV G t) y) (mono : ∀ {G G' : Hp} {y : V}, Ex G G' → Pe G y → Pe G' y)
    (h : EvA tA σ G [.int r]) (hn : 0 ≤ r ∧ r ≤ 40000) (hwi : ∀ x, wipe ((wipe σ vs).set j (some x)) vs = wipe σ vs)
    (he : ∀ (i : Nat) (G' : Hp) (l : Nat) (H' : Hp), (i : Int) < r → Ex G G' → Wd G' v (l + c) H' → ∀ Q : VK, (∀ y G2 H2, Pe G2 y → Ex G' G2 → Wd G2 v l H2 → Q y H2) → te ((wipe σ vs).set j (some (.int (i : Int)))) H' Q)
    (hw : Wd G v (k + c * r.toNat) H) {Q : VK} (q : ∀ p ys G' H', (∀ y ∈ ys, Pe G' y) → ys.length = r.toNat → Ex G G' → Wd G' v k H' → G' p = some (.lst ys) → Q (.ref p) H') : tLc (iRng1 tA) (gName j) tYes te vs σ H Q :=
  h H hw.ex _ fun H1 e1 => ⟨r, rfl, by omega, by omega, fun Dl hD =>
    lc_range (lo := 0) (n := r.toNat) (fun i H' => ∃ (Gi : Hp) (ys : List V), Ex G Gi ∧ Gi Dl = none ∧ Wd Gi v (k + c * (r.toNat - i)) H' ∧ H' Dl = some (.lst ys) ∧ ys.length = i ∧ ∀ y ∈ ys, Pe Gi y)
      ⟨G, [], Evl.Ex.refl _, fresh_back (hw.ex.trans e1) hD, (hw.mono e1).mono (Evl.Ex.new hD), upd_same, rfl, fun y z => by cases z⟩ (fun i H' hi p => by
        have e0 : (0 : Int) + (i : Int) = (i : Int) := Int.zero_add _
        obtain ⟨Gi, ys, eG, hg, w, hd, hl, hp⟩ := p
        show wipe ((wipe σ vs).set j (some (.int ((0 : Int) + (i : Int))))) vs = wipe σ vs ∧ te ((wipe σ vs).set j (some (.int ((0 : Int) + (i : Int))))) H' fun y H4 => ∃ acc, H4 Dl = some (.lst acc) ∧ acc.length < sizeLine ∧ ∃ (Gi : Hp) (zs : List V), Ex G Gi ∧ Gi Dl = none ∧ Wd Gi v (k + c * (r.toNat - (i + 1))) (upd H4 Dl (.lst (acc ++ [y]))) ∧ upd H4 Dl (.lst (acc ++ [y])) Dl = some (.lst zs) ∧ zs.length = i + 1 ∧ ∀ y ∈ zs, Pe Gi y
        rw [e0]
        refine ⟨hwi _, ?_⟩
        have hcm : k + c * (r.toNat - i) = (k + c * (r.toNat - (i + 1))) + c := by
          rw [show r.toNat - i = (r.toNat - (i + 1)) + 1 by omega, Nat.mul_succ]
          omega
        rw [hcm] at w
        have hvd : v ≠ Dl := by
          obtain ⟨u, hu⟩ := (hw.mono e1).vat.is
          exact ne_of_none hu hD
        have w' := wd_add w hvd hd
        refine he i _ _ H' (by omega) (eG.trans (Evl.Ex.new hg)) w' _ fun y G2 H2 hy e2 w2 => ?_
        have hd2 : G2 Dl = some (.lst ys) := e2 _ _ upd_same
        obtain ⟨w3, hn3⟩ := hide_wd2 (zs := ys ++ [y]) w2 hd2
        refine ⟨ys, w2.ex _ _ hd2, sz_lt (by omega), hideV G2 Dl, ys ++ [y], fun b o hb => ?_, hn3, w3, upd_same, by simp [hl], fun u hu => ?_⟩
        · have hbd : b ≠ Dl := ne_of_none hb (fresh_back (eG.trans (Evl.Ex.refl _)) hg)
          rw [hide_ne hbd]
          exact ((eG.trans (Evl.Ex.new hg)).trans e2) _ _ hb
        · rcases List.mem_append.mp hu with hu | hu
          · exact hPe (mono ((Evl.Ex.new hg).trans e2) (hp u hu)) hd2
          · cases List.mem_singleton.mp hu
            exact hPe hy hd2) (fun H' p => by
        obtain ⟨Gi, ys, eG, hg, w, hd, hl, hp⟩ := p
        rw [Nat.sub_self, Nat.mul_zero, Nat.add_zero] at w
        have hvd : v ≠ Dl := by
          obtain ⟨u, hu⟩ := (hw.mono e1).vat.is
          exact ne_of_none hu hD
        exact q Dl ys _ H' (fun y hy => mono (Evl.Ex.new hg) (hp y hy)) hl (eG.trans (Evl.Ex.new hg)) (wd_add w hvd hd) upd_same)⟩
theorem q_lcRW {i0 j : Nat} {vs : List Nat} {r : Int} (Pe : Hp → V → Prop) (hPe : ∀ {G : Hp} {y : V} {t : Addr} {ys : List V}, Pe G y → G t = some (.lst ys) → Pe (hideV G t) y) (mono : ∀ {G G' : Hp} {y : V}, Ex G G' → Pe G y → Pe G' y)
    (hw : Wd G v (k + c * r.toNat) H) (h : EvA tA σ G [.int r]) (hn : 0 ≤ r ∧ r ≤ 40000) (hwi : ∀ x, wipe ((wipe σ vs).set j (some x)) vs = wipe σ vs)
    (he : ∀ (i : Nat) (G' : Hp) (l : Nat) (H' : Hp), (i : Int) < r → Ex G G' → Wd G' v (l + c) H' → ∀ Q : VK, (∀ y G2 H2, Pe G2 y → Ex G' G2 → Wd G2 v l H2 → Q y H2) → te ((wipe σ vs).set j (some (.int (i : Int)))) H' Q)
    (q : ∀ p ys G' H', (∀ y ∈ ys, Pe G' y) → ys.length = r.toNat → Ex G G' → Wd G' v k H' → G' p = some (.lst ys) → tz D (σ.set i0 (some (.ref p))) H') : tSeq (tAsg (tLc (iRng1 tA) (gName j) tYes te vs) (gName i0)) tz D σ H := by
  show tLc (iRng1 tA) (gName j) tYes te vs σ H fun x H' => tz D (σ.set i0 (some x)) H'
  exact lcRW Pe hPe mono h hn hwi he hw fun p ys G' H' h1 h2 h3 h4 h5 => q p ys G' H' h1 h2 h3 h4 h5
/-- for x in [a draw, a draw] -/
theorem s_forL2W (hw : Wd G v n H) (h1 : EvW ta σ G v n m P1) (h2 : EvW tb σ G v m k P2) (cc : ∀ x y l G' H', P1 x → P2 y → Ex G G' → G' l = some (.lst [x, y]) → Wd G' v k H' → tFor (iList K (tC (.ref l))) g tu D σ H') : tFor (iList K (tLst (tCons ta (tCons tb tNil)))) g tu D σ H :=
  h1 H hw _ fun x H1 hx w1 => h2 H1 w1 _ fun y H2 hy w2 => ⟨sz_of (by show 2 ≤ 100000; decide), fun l hl => by
    obtain ⟨w3, eG, hlG⟩ := w2.new hl (Evl.Ex.new hl) (o := .lst [x, y]) upd_same
    exact cc x y l _ _ hx hy eG hlG w3⟩
/-- [a, b, c, a draw][a draw] -/
theorem evw_pickW {t1 t2 t3 t4 : TE} {x1 x2 x3 : V} (h1 : Ev t1 σ G x1) (h2 : Ev t2 σ G x2) (h3 : Ev t3 σ G x3) (h4 : EvW t4 σ G v n m P1) (hb : ∀ G', Ex G G' → EvW tb σ G' v m k (isI 4)) :
    EvW (tOp (rIxL K) (tLst (tCons t1 (tCons t2 (tCons t3 (tCons t4 tNil))))) tb) σ G v n k (fun x => x = x1 ∨ x = x2 ∨ x = x3 ∨ P1 x) := fun H h Q q =>
  h.ev h1 fun H1 w1 e1 => w1.ev h2 fun H2 w2 e2 => w2.ev h3 fun H3 w3 e3 => h4 H3 w3 _ fun x4 H4 hx4 w4 => ⟨sz_of (by show 4 ≤ 100000; decide), fun p hp => by
    obtain ⟨w5, eG, hp2⟩ := w4.new hp (Evl.Ex.new hp) (o := .lst [x1, x2, x3, x4]) upd_same
    refine hb _ eG _ w5 _ fun y H5 hy w6 => ?_
    obtain ⟨r, rfl, r0, r1⟩ := hy
    obtain ⟨i, rfl⟩ : ∃ i : Nat, r = i := ⟨r.toNat, by omega⟩
    have hi : i < 4 := by omega
    have hx : [x1, x2, x3, x4][i]'(by simpa using hi) = x1 ∨ [x1, x2, x3, x4][i]'(by simpa using hi) = x2 ∨ [x1, x2, x3, x4][i]'(by simpa using hi) = x3 ∨ P1 ([x1, x2, x3, x4][i]'(by simpa using hi)) := by
      rcases (show i = 0 ∨ i = 1 ∨ i = 2 ∨ i = 3 by omega) with rfl | rfl | rfl | rfl
      · exact .inl rfl
      · exact .inr (.inl rfl)
      · exact .inr (.inr (.inl rfl))
      · exact .inr (.inr (.inr hx4))
    exact rv_ixL (v := [x1, x2, x3, x4][i]'(by simpa using hi)) (sq_of (w6.ex _ _ hp2)) (atI_nat (List.getElem?_eq_getElem _)) H5 (Evl.Ex.refl _) Q fun H6 e6 => q _ H6 hx ((w6.sub eG).mono e6)⟩
/-- if not t: .. -/
theorem s_whenW (hw : Wd G v n H) (h : EvW te σ G v n m (fun x => x = .bl true)) (c : ∀ H1, Wd G v m H1 → D.nx σ H1) : tIfS (tNot (tTest te)) tu tNext D σ H := h H hw _ fun x H1 hx w1 => by
  subst hx
  exact ⟨true, rfl, c H1 w1⟩
theorem r_call {sp : Sp} {E : XK} {vs : List V} {Q : VK} (h : EvA tA σ H vs) (c : ∀ H1, Ex H H1 → sp vs H1 Q E) : tCall sp [] E tA σ H Q := h H (Evl.Ex.refl H) _ fun H1 e1 => by
  show sp (vs ++ []) H1 Q E
  rw [List.append_nil]
  exact c H1 e1
theorem evw_call2 {sp : Sp} {E : XK} {y z : V} (h1 : EvW ta σ G v n m P1) (h2 : Ev tb σ G y) (hs : ∀ x H', P1 x → Wd G v m H' → ∀ Q : VK, RetV z H' Q → sp [x, y] H' Q E) : EvW (tCall sp [] E (tCons ta (tCons tb tNil))) σ G v n m (fun r => r = z) := fun H h Q q =>
  h1 H h _ fun x H1 hx w1 => w1.ev h2 fun H2 w2 e2 => hs x H2 hx w2 Q fun H3 e3 => q z H3 rfl (w2.mono e3)
theorem given_all (n : Nat) (w : Nat → V) : given n (fun _ => true) w = (List.range n).map w := by
  unfold given
  rw [List.filter_eq_self.mpr fun _ _ => rfl]
theorem given_non (n : Nat) (w : Nat → V) : given n (fun _ => false) w = [] := by
  unfold given
  rw [List.filter_eq_nil_iff.mpr fun _ _ => by decide] <;> rfl
end
end Ov
end

section
set_option Elab.async false
set_option linter.all false
set_option maxRecDepth 100000
set_option maxHeartbeats 400000
namespace Ov
open PySem PySem.Spec PyProof.Rows L2 Evl
/-! ### t += u, tuples, both with items -/
theorem noI_tuple_add : typeLookup (.type "tuple") (dunderI "add") = pure none := by rw [typeLookup_type, builtinLookup_eq_fast]; kernel_rfl
def rIpT (K : PySem.W.Frag) : R2 := fun x y H Q => ∃ a b xs ys, x = .ref a ∧ y = .ref b ∧ SqT K H a xs ∧ SqT K H b ys ∧ xs ≠ [] ∧ ys ≠ [] ∧ xs.length + ys.length ≤ 90000 ∧ ∀ p, H p = none → Q (.ref p) (upd H p (.tup (xs ++ ys)))
theorem ip_addT {X : Cx} : PIp X .Add (rIpT X.K) := by
  intro pins s σ H x y v u Q I rx ry h
  obtain ⟨a, b, xs, ys, rfl, rfl, ha, hb, hx, hy, hz, q⟩ := h
  cases rx
  cases ry
  obtain ⟨its, r1, p1, _⟩ := I.tuple ha
  obtain ⟨its2, r2, p2, _⟩ := I.tuple hb
  obtain ⟨⟨c1, d1, dt1, sl1⟩, o1, e1, n1, f1⟩ := id p1
  obtain ⟨⟨c2, d2, dt2, sl2⟩, o2, e2, n2, f2⟩ := id p2
  simp only at e1 f1 e2 f2
  subst e1 f1 e2 f2
  have hi : its ≠ [] := fun z => hx (r1.nil_iff.mp z)
  have hi2 : its2 ≠ [] := fun z => hy (r2.nil_iff.mp z)
  have l1 := r1.length
  have l2 := r2.length
  refine inplaceOp_concat (T := "tuple") (id := "tuple.__add__") ⟨_, o1, rfl⟩ ⟨_, o2, rfl⟩ noI_tuple_add noFill_tuple_add seq_tuple_add (PySem.call_meets PySem.F.slot_tuple_add ⟨_, o1, rfl⟩ PySem.F.entry_tuple_add (PySem.F.args_tuple_add_2 _ _)
    (tuple_addW2 a b its.toArray its2.toArray n1 n2 d1 d2 sl1 sl2 (by simpa using hi) (by simpa using hi2) (by
      rw [List.size_toArray, List.size_toArray]
      exact sz_of (by omega))) ⟨o1, o2, ?_⟩)
  have e : its.toArray ++ its2.toArray = (its ++ its2).toArray := by simp
  rw [e]
  refine ⟨.ref s.heap.objs.size, _, I.laid (t' := s.toks) (o := .tup (xs ++ ys)) (fun b ob q => Heap.get?_push_of_some _ q) (Nat.le_refl _) ?_, rfl, q _ (I.hok.fresh (Nat.le_refl _))⟩
  exact ⟨by rw [List.length_append]; exact sz_of (by omega), _, r1.append r2, IsTup.new _ _⟩
section
variable {K : PySem.W.Frag} {σ : L2.St} {H : Hp} {te : TE} {tz : TS} {D : Ends}
theorem q_augT {i : Nat} {a : Addr} {xs ys : List V} (hx : σ[i]? = some (some (.ref a))) (hs : SqT K H a xs) (h : EvU te σ H ys) (h1 : xs ≠ []) (h2 : ys ≠ []) (h3 : xs.length + ys.length ≤ 90000)
    (k : ∀ p H1, H p = none → Ex H H1 → H1 p = some (.tup (xs ++ ys)) → tz D (σ.set i (some (.ref p))) H1) : tSeq (tAug i te (rIpT K)) tz D σ H :=
  ⟨_, hx, h H (Evl.Ex.refl H) _ fun p H1 hp e1 hp1 => ⟨a, p, xs, ys, rfl, rfl, ex_t e1 hs, st_of hp1, h1, h2, h3, fun q hq => k q _ (fresh_back e1 hq) (e1.trans (Evl.Ex.new hq)) upd_same⟩⟩
/-- for i, x in enumerate(a new list) -/
theorem q_forEnL {tl : TE} {g : TG} {tu : TS} {xs : List V} (h : EvL tl σ H xs) (k : ∀ a H1, H a = none → Ex H H1 → H1 a = some (.lst xs) → tSeq (tFor (iEnum K (tCons (tC (.ref a)) tNil)) g tu) tz D σ H1) : tSeq (tFor (iEnum K (tCons tl tNil)) g tu) tz D σ H :=
  h H (Evl.Ex.refl H) _ fun a H1 ha e1 h1 => k a H1 ha e1 h1
end
end Ov
end

section
set_option Elab.async false
set_option linter.all false
set_option maxRecDepth 100000
set_option maxHeartbeats 2000000
namespace Ov
open PySem PySem.Spec PyProof.Rows L2 Evl
/-! ### the start: only the script is known -/
section
variable {P : Program} {w : World} {K : PySem.W.Frag} {mg mb : Str → Option Value} {s : Shared} {a : Addr} {vs : List Value} {ns : List Int} {H : Hp}
/-- such a world is fit for a call -/
theorem env_fit (kin : K.In s.heap) (hm : s.heap.Ns mainGlobals mg) (hb : s.heap.Ns builtinsNs mb) (hx : ∀ x : Str, x ≠ "__name__" → mb x = bootBuiltins x) (hl : s.heap.NoLimit) (hg : s.gens = #[])
    (at_a : s.heap.get? a = some { cls := .type "list", data := .seq vs.toArray }) (ok : HOk P w H s.heap) (one : ∀ b u, H b = some u → b = a ∧ K.lookup a = none) :
    K.In (hidT s.heap H) ∧ (hidT s.heap H).Ns mainGlobals mg ∧ Env0 P w K mg (hidT s.heap H) callerA [] s H := by
  have free_of : ∀ b, (b = a → False) → H b = none := fun b hne => Option.eq_none_iff_forall_not_mem.mpr fun u hu => hne (one b u hu).1
  have name_kept : ∀ (b : Addr) (m : Str → Option Value), s.heap.Ns b m → (hidT s.heap H).Ns b m := by
    rintro b m ⟨ob, es, ep, hget, hdat, rest⟩
    refine ⟨ob, es, ep, hidT_get hget (free_of b fun hba => ?_), hdat, rest⟩
    rw [hba, at_a] at hget
    injection hget with hob
    rw [← hob] at hdat
    cases hdat
  have part : K.In (hidT s.heap H) := by
    intro b ob hb'
    refine hidT_get (kin b ob hb') (Option.eq_none_iff_forall_not_mem.mpr fun u hu => ?_)
    obtain ⟨hba, hno⟩ := one b u hu
    rw [hba, hno] at hb'
    cases hb'
  obtain ⟨mc, lim1, lim2⟩ := hl
  refine ⟨part, name_kept _ _ hm, { frames := rfl, mod := ⟨part, name_kept _ _ hm, ⟨mb, name_kept _ _ hb, hx⟩, ⟨mc, name_kept _ _ lim1, lim2⟩⟩, bs := fun _ _ q => of_hidT q, bsz := Nat.le_of_eq (hidT_size _ _), funs := trivial, frf := ?_, hok := ok, bare := .of_eq hg }⟩
  intro b hb'
  exact absurd (show b ∈ ([] : List Addr) from hb') List.not_mem_nil
/-- there is such a world -/
theorem world_of (kin : K.In s.heap) (at_a : s.heap.get? a = some { cls := .type "list", data := .seq vs.toArray }) (hi : IntsAre vs ns) (hl : ns.length ≤ sizeLine) :
    ∃ H : Hp, SqL K H a (ns.map V.int) ∧ HOk P w H s.heap ∧ (∀ b u, H b = some u → b = a ∧ K.lookup a = none) ∧ Only H := by
  have vals := vals_ints hi
  have num := hi.length
  rcases Option.eq_none_or_eq_some (K.lookup a) with unknown | ⟨ob, known⟩
  · let o : Obj := { cls := .type "list", data := .seq vs.toArray }
    let Hs : Hp := fun b => if b = a then some (.frz o (.lst (ns.map V.int))) else none
    have same : Hs a = some (.frz o (.lst (ns.map V.int))) := if_pos rfl
    have only_a : ∀ b u, Hs b = some u → b = a := fun b u hu => Decidable.byContradiction fun hne => by
      have : Hs b = none := if_neg hne
      rw [this] at hu
      cases hu
    refine ⟨Hs, Or.inl (Or.inr ⟨o, same⟩), fun b u hu => ?_, fun b u hu => ⟨only_a b u hu, unknown⟩, fun b => ?_⟩
    · have hba := only_a b u hu
      subst hba
      rw [same] at hu
      injection hu with hu
      rw [← hu]
      exact ⟨at_a, by rw [List.length_map]; exact hl, vs, _, vals, at_a⟩
    · rcases Option.eq_none_or_eq_some (Hs b) with hn | ⟨u, hu⟩
      · exact .inl hn
      · have hba := only_a b u hu
        subst hba
        exact .inr ⟨_, _, same⟩
  · have its := kin a ob known
    rw [at_a] at its
    injection its with its
    subst its
    refine ⟨fun _ => none, Or.inr ⟨_, vs.toArray, _, known, rfl, rfl, rfl, ?_, ?_⟩, fun b u hu => ?_, fun b u hu => ?_, fun b => .inl rfl⟩
    · rw [List.size_toArray, num]
      exact hl
    · rw [List.toList_toArray]
      exact vals
    · exact absurd (show (none : Option HO) = some u from hu) (by simp)
    · exact absurd (show (none : Option HO) = some u from hu) (by simp)
/-- the law's call, for a promise that asks that nothing is being shown -/
theorem lawG {CX : CXT} {k : Nat} {fa : Addr} {fd : FuncData} {x : Str} {sp : Sp} (kin : K.In s.heap) (hm : s.heap.Ns mainGlobals mg) (hb : s.heap.Ns builtinsNs mb) (hx : ∀ x : Str, x ≠ "__name__" → mb x = bootBuiltins x) (hlim : s.heap.NoLimit) (hg : s.gens = #[])
    (at_a : s.heap.get? a = some { cls := .type "list", data := .seq vs.toArray }) (hi : IntsAre vs ns) (hl : ns.length ≤ sizeLine) (room : Room k callerA)
    (F : ∀ base : Heap, K.In base → base.Ns mainGlobals mg → FnG P w K mg base CX k fa fd [x] sp) (bind : ∀ (s : Shared) (u : Value), BindsTo s fd ⟨[u], []⟩ [(x, u)])
    (ask : ∀ H : Hp, SqL K H a (ns.map V.int) → sp [.ref a] H (fun v _ => v = .bl true) fun _ _ _ => False) (noCX : ∀ H e s', CX [] H s (fun _ _ _ => False) e s' → False) :
    codeAny (model P w) callerA (.call (.ref fa) ⟨[.ref a], []⟩) (fun r s' => r = .ok (.ret (.bool true)) ∧ OldK s.heap s'.heap ∧ s'.os = s.os ∧ AllBare s'.gens) s := by
  obtain ⟨H, script, ok, one, only⟩ := world_of (P := P) (w := w) kin at_a hi hl
  obtain ⟨part, names, env⟩ := env_fit kin hm hb hx hlim hg at_a ok one
  have promise := (F _ part names).go callerA [] s H ⟨[.ref a], []⟩ [.ref a] [.ref a] _ _ rfl room env (bind s (.ref a)) (.cons rfl .nil) (ask H script)
  refine codeAny_mono promise fun r s' after => ?_
  match r, after with
  | .error e, after => exact (noCX H e s' after).elim
  | .ok .next, after => exact after.elim
  | .ok .brk, after => exact after.elim
  | .ok .cont, after => exact after.elim
  | .ok (.ret u), after =>
    obtain ⟨v, H', os, bare, un, ok', rel, hv⟩ := after
    have isT : v = .bl true := hv
    subst isT
    have hu : u = Value.bool true := rel
    refine ⟨by rw [hu], OldK.of_keep fun b o hbo => ?_, os, bare⟩
    rcases only b with free | ⟨ob, xs, frozen⟩
    · exact un.keep b o hbo free (fun z => absurd (show b ∈ ([] : List Addr) from z) List.not_mem_nil) List.not_mem_nil
    · have before := (ok b _ frozen).1
      have behind := (ok' b _ (un.frzs b ob _ frozen)).1
      rw [before] at hbo
      injection hbo with hbo
      rw [← hbo]
      exact behind
end
/-! ### the head's facts, one more Bool -/
/-- what the module's names reach, and the statics -/
def asB (g : Addr → Option Obj) (n : Nat) : List Addr := cStatics :: He.asD g n
def hookB (n : Nat) (fa : List He.Fa) (fn : List He.DefD) (ex : PySem.W.Frag → Bool) : PySem.W.Hook where
  α := He.AlD × Bool
  obs := fun s => (He.obsD fa fn (He.frG s.heap.get? (asB s.heap.get? n)), ex (He.frG s.heap.get? (asB s.heap.get? n)))
  val := fun _ => (He.valD fn, true)
  says := fun _ h => ∃ K : PySem.W.Frag, K.In h ∧ He.SaysD fa fn K ∧ ex K = true
  of := fun _ _ e => ⟨_, He.frG_in, congrArg (fun z : He.AlD × Bool => z.1) e, congrArg (fun z : He.AlD × Bool => z.2) e⟩
  keeps := fun _ _ _ ⟨K, hK, c⟩ k => ⟨K, PySem.W.Frag.In.keeps hK k, c⟩
def obB (n : Nat) (fa : List He.Fa) (fn : List He.DefD) (ex : PySem.W.Frag → Bool) (s : PySem.W.SharedT) : He.AlD × Bool :=
  (He.obsD fa fn (He.frG (HandSHeadRun.getT s) (asB (HandSHeadRun.getT s) n)), ex (He.frG (HandSHeadRun.getT s) (asB (HandSHeadRun.getT s) n)))
theorem obB_eq {n : Nat} {fa : List He.Fa} {fn : List He.DefD} {ex : PySem.W.Frag → Bool} (s : PySem.W.SharedT) : obB n fa fn ex s = (hookB n fa fn ex).obs s.abs := by
  have e : HandSHeadRun.getT s = s.abs.heap.get? := funext (HandSHeadRun.getT_eq s)
  unfold obB
  rw [e] <;> rfl
/-- a def as the layer has it -/
theorem fun_of {K : PySem.W.Frag} {x qual : Str} {st : Stmt} {f : Addr} {fd : FuncData} (F : FunD K x qual (defArgs st) (defBody st) (defScope st) [] [] f fd) : Fun K x qual st f fd := by
  obtain ⟨oc, od, dV, kV, doc, pm, an, cdv, ct, osl, hfd, lk, cd, hd, _⟩ := F.ex
  have hn : dV = .none := by
    rcases hd with ⟨_, h⟩ | ⟨h, _⟩
    · exact h
    · exact absurd rfl h
  rw [hn] at hfd
  exact ⟨⟨oc, od, kV, doc, pm, an, cdv, ct, osl, hfd, lk, cd⟩, F.kp⟩
/-- the end over such a head -/
theorem walkG {l : PySem.W.OpenLaw} {n k : Nat} {q : Program} {loose : List Str} {XP : (Str → Option Value) → Heap → Prop} {YP : World → Heap → Prop} {d : DefRec} {CX : CXT} {x : Str}
    (hn : l.most = some n) (hn2 : n ≤ sizeLine) (hdf : d.params.defaults = []) (hr : Room k callerA)
    (F : ∀ (w : World) (mg : Str → Option Value) (fa : Addr) (h : Heap), YP w h → h.Ns mainGlobals mg → mg d.name = some (.ref fa) →
      ∃ (K : PySem.W.Frag) (fd : FuncData) (sp : Sp), K.In h ∧ (∀ (s : Shared) (u : Value), BindsTo s fd ⟨[u], []⟩ [(x, u)]) ∧
        (∀ (H : Hp) (a : Addr) (ns : List Int), ns.length ≤ n → SqL K H a (ns.map V.int) → sp [.ref a] H (fun v _ => v = .bl true) fun _ _ _ => False) ∧
        ∀ base : Heap, K.In base → base.Ns mainGlobals mg → FnG l.prog w K mg base CX k fa fd [x] sp)
    (hCX : ∀ (H : Hp) (s : Shared) (e : Value) (s' : Shared), CX [] H s (fun _ _ _ => False) e s' → False) :
    PySem.W.WalkO q loose XP YP l.row.toRowW d [] (fun f vs => PySem.call f vs) := by
  refine Att.attach_call hn hdf fun w s₀ s mg mb fa o pm cd doc a vs ns G Y _ _ _ hmg hobj hints hlen hg => ?_
  obtain ⟨K, fd, sp, kin, bind, ask, promise⟩ := F w mg fa _ Y G.T.g hmg
  exact lawG kin G.T.g G.T.b G.T.builtins G.T.nolimit hg hobj hints (Nat.le_trans hlen hn2) hr promise bind (fun H script => ask H a ns hlen script) fun H e s' => hCX H s e s'
end Ov
end

section
set_option Elab.async false
set_option linter.all false
set_option maxRecDepth 100000
set_option maxHeartbeats 400000
namespace Ov
open PySem PySem.Spec PyProof.Rows L2 Evl
theorem pair_imp {α β : Type} {R S : α → β → Prop} (h : ∀ a b, R a b → S a b) : ∀ {as : List α} {bs : List β}, Paired R as bs → Paired S as bs
  | _, _, .nil => .nil
  | _, _, .cons a b => .cons (h _ _ a) (pair_imp h b)
theorem pair_snoc {α β : Type} {R : α → β → Prop} {a : α} {b : β} (h : R a b) : ∀ {as : List α} {bs : List β}, Paired R as bs → Paired R (as ++ [a]) (bs ++ [b])
  | _, _, .nil => .cons h .nil
  | _, _, .cons x y => .cons x (pair_snoc h y)
section
variable {K : PySem.W.Frag} {σ : L2.St} {H : Hp} {te ta tb : TE} {tA : TA} {tz tu : TS} {D : Ends} {P : Hp → Addr → Prop}
/-- [a new tuple for i in range(n)] -/
theorem lcRU {j : Nat} {vs : List Nat} {n : Int} (g : Nat → List V) (h : EvA tA σ H [.int n]) (hn : 0 ≤ n ∧ n ≤ 40000) (hwi : ∀ x, wipe ((wipe σ vs).set j (some x)) vs = wipe σ vs)
    (he : ∀ (i : Nat) H1, Ex H H1 → (i : Int) < n → EvU te ((wipe σ vs).set j (some (.int (i : Int)))) H1 (g i)) {H1 : Hp} (e : Ex H H1) {Q : VK}
    (q : ∀ p ps H2, H1 p = none → Ex H1 H2 → H2 p = some (.lst (ps.map V.ref)) → Paired (fun t xs => H2 t = some (.tup xs)) ps ((List.range n.toNat).map g) → Q (.ref p) H2) : tLc (iRng1 tA) (gName j) tYes te vs σ H1 Q :=
  h H1 e _ fun H2 e2 => ⟨n, rfl, by omega, by omega, fun Dl hD =>
    lc_range (lo := 0) (n := n.toNat) (fun i H' => ∃ ps : List Addr, Ex H2 H' ∧ H' Dl = some (.lst (ps.map V.ref)) ∧ ps.length = i ∧ Paired (fun t xs => H' t = some (.tup xs)) ps ((List.range i).map g))
      ⟨[], Evl.Ex.new hD, upd_same, rfl, .nil⟩ (fun i H' hi p => by
        have e0 : (0 : Int) + (i : Int) = (i : Int) := Int.zero_add _
        obtain ⟨ps, ex, hd, hl, hp⟩ := p
        show wipe ((wipe σ vs).set j (some (.int ((0 : Int) + (i : Int))))) vs = wipe σ vs ∧ te ((wipe σ vs).set j (some (.int ((0 : Int) + (i : Int))))) H' fun y H4 => ∃ acc, H4 Dl = some (.lst acc) ∧ acc.length < sizeLine ∧ ∃ qs : List Addr, Ex H2 (upd H4 Dl (.lst (acc ++ [y]))) ∧ upd H4 Dl (.lst (acc ++ [y])) Dl = some (.lst (qs.map V.ref)) ∧ qs.length = i + 1 ∧ Paired (fun t xs => upd H4 Dl (.lst (acc ++ [y])) t = some (.tup xs)) qs ((List.range (i + 1)).map g)
        rw [e0]
        refine ⟨hwi _, he i H' ((e.trans e2).trans ex) (by omega) H' (Evl.Ex.refl _) _ fun t H4 ht e4 h4 => ⟨_, e4 _ _ hd, sz_lt (by rw [List.length_map]; omega), ps ++ [t], Evl.Ex.mut (ex.trans e4) hD, ?_, by simp [hl], ?_⟩⟩
        · rw [upd_same, List.map_append] <;> rfl
        · have keep : ∀ u xs, H4 u = some (.tup xs) → upd H4 Dl (.lst (ps.map V.ref ++ [.ref t])) u = some (.tup xs) := fun u xs hu => by
            have hne : u ≠ Dl := fun z => by
              rw [z, e4 _ _ hd] at hu
              cases hu
            rw [upd_ne hne]
            exact hu
          rw [List.range_succ, List.map_append]
          exact pair_snoc (R := fun u xs => upd H4 Dl (.lst (ps.map V.ref ++ [.ref t])) u = some (.tup xs)) (keep _ _ h4) (pair_imp (fun u xs hu => keep _ _ (e4 _ _ hu)) hp)) (fun H' p => by
        obtain ⟨ps, ex, hd, hl, hp⟩ := p
        exact q Dl ps H' (fresh_back e2 hD) (e2.trans ex) hd hp)⟩
theorem r_cb1 {r : List V → Hp → VK → Prop} {Q : VK} (h : te σ H fun v H' => r [v] H' Q) : tCB r (tCons te tNil) σ H Q := h
/-- a part of a new list -/
theorem el_slN {tl th : TO} {xs : List V} {lo hi : Option Int} (h : EvL te σ H xs) (h1 : EvO tl σ H lo) (h2 : EvO th σ H hi) : EvL (tSl (rSlL K) te tl th) σ H (cutV xs lo hi) := fun H1 e _ q =>
  h H1 e _ fun p H2 hp e2 hp2 => h1 H2 (e.trans e2) _ fun H3 e3 => h2 H3 ((e.trans e2).trans e3) _ fun H4 e4 =>
    ⟨p, xs, rfl, sq_of (e4 _ _ (e3 _ _ hp2)), fun p2 hp3 => q p2 _ (fresh_back ((e2.trans e3).trans e4) hp3) (((e2.trans e3).trans e4).trans (Evl.Ex.new hp3)) upd_same⟩
theorem q_parNL {ys : List V} {i j : Nat} (h1 : EvN ta σ H P) (h2 : EvL tb σ H ys) (k : ∀ p q H1 H2, H p = none → Ex H H1 → P H1 p → H1 q = none → Ex H1 H2 → H2 q = some (.lst ys) → tz D ((σ.set i (some (.ref p))).set j (some (.ref q))) H2) :
    tSeq (tPar i j (tCons ta (tCons tb tNil))) tz D σ H := h1 H (Evl.Ex.refl H) _ fun p H1 hp e1 hp1 => h2 H1 e1 _ fun q H2 hq e2 hq1 => ⟨_, _, rfl, k p q H1 H2 hp e1 hp1 hq e2 hq1⟩
theorem s_appUt {l : Addr} {xs ys : List V} (hl : H l = some (.lst xs)) (ha : Ev ta σ H (.ref l)) (h : EvU te σ H ys) (hz : xs.length < 100000) (k : ∀ p H1, H p = none → Ex H H1 → H1 p = some (.tup ys) → D.nx σ (upd H1 l (.lst (xs ++ [.ref p])))) :
    tDrop (tBM K "list" rAppend ta (tCons te tNil)) D σ H := s_appU hl ha h hz k
theorem erase_map {α β : Type} (f : α → β) : ∀ (l : List α) (i : Nat), (l.map f).eraseIdx i = (l.eraseIdx i).map f
  | [], _ => rfl
  | _ :: _, 0 => rfl
  | a :: l, i + 1 => by
    show f a :: (l.map f).eraseIdx i = f a :: (l.eraseIdx i).map f
    rw [erase_map f l i]
theorem el_rg {n : Int} (h : Ev te σ H (.int n)) (h0 : 0 ≤ n) (h1 : n ≤ 100000) : EvL (tLstRg (tRg1 te)) σ H (rgV 0 n) := fun H1 e _ q =>
  h H1 e _ fun H2 e2 => ⟨n, rfl, RgOk.of_le (by omega) (by omega) (by omega) (by omega), fun p hp => q p _ (fresh_back e2 hp) (e2.trans (Evl.Ex.new hp)) upd_same⟩
theorem Wd.mut {G H : Hp} {v t : Addr} {k : Nat} {o : HO} (w : Wd G v k H) (hg : G t = none) (hv : v ≠ t) : Wd G v k (upd H t o) := ⟨w.no, Evl.Ex.mut w.ex hg, by
  obtain ⟨d, e, f, h1, h2⟩ := w.vat
  exact ⟨d, e, f, by rw [upd_ne hv]; exact h1, h2⟩⟩
/-- [left.pop(a draw) for i in range(m)] -/
theorem lcPop {G : Hp} {v L : Addr} {k j i1 i0 : Nat} {vs : List Nat} {E : XK} {ls : List Int} {r B : Int} (hG : G L = none) (hvL : v ≠ L) (hw : Wd G v (k + r.toNat) H) (hL : H L = some (.lst (ls.map V.int))) (hB : ∀ x ∈ ls, 0 ≤ x ∧ x < B) (hr0 : 0 ≤ r) (hr : r ≤ ls.length) (hls : ls.length ≤ 1000)
    (h : Ev te σ H (.int r)) (hwi : ∀ x, wipe ((wipe σ vs).set j (some x)) vs = wipe σ vs) (hv0 : ∀ x, ((wipe σ vs).set j (some x))[i0]? = some (some (.ref v))) (hv1 : ∀ x, ((wipe σ vs).set j (some x))[i1]? = some (some (.ref L))) {Q : VK}
    (q : ∀ p (ys : List Int) H', (∀ y ∈ ys, 0 ≤ y ∧ y < B) → ys.length = r.toNat → Wd G v k H' → H' p = some (.lst (ys.map V.int)) → Q (.ref p) H') :
    tLc (iRng1 (tCons te tNil)) (gName j) tYes (tBM K "list" rPopAt (tVar i1) (tCons (tCall spSip [] E (tCons (tVar i0) (tCons (tCB (rLenS K) (tCons (tVar i1) tNil)) tNil))) tNil)) vs σ H Q :=
  h H (Evl.Ex.refl _) _ fun H1 e1 => ⟨r, rfl, by omega, by omega, fun Dl hD => by
    have w1 := hw.mono e1
    have hvD : v ≠ Dl := by
      obtain ⟨u, hu⟩ := w1.vat.is
      exact ne_of_none hu hD
    have hLD : L ≠ Dl := ne_of_none (e1 _ _ hL) hD
    have hGD : G Dl = none := fresh_back w1.ex hD
    refine lc_range (lo := 0) (n := r.toNat) (fun i H' => ∃ (ms ys : List Int), H' Dl = some (.lst (ys.map V.int)) ∧ H' L = some (.lst (ms.map V.int)) ∧ ms.length + i = ls.length ∧ (∀ x ∈ ms, 0 ≤ x ∧ x < B) ∧ (∀ y ∈ ys, 0 ≤ y ∧ y < B) ∧ ys.length = i ∧ Wd G v (k + (r.toNat - i)) H')
      ⟨ls, [], upd_same, by rw [upd_ne hLD]; exact e1 _ _ hL, by omega, hB, (fun y z => by cases z), rfl, w1.mut hGD hvD⟩ (fun i H' hi p => ?_) (fun H' p => ?_)
    · have e0 : (0 : Int) + (i : Int) = (i : Int) := Int.zero_add _
      obtain ⟨ms, ys, hd, hm, hml, hmB, hyB, hyl, w⟩ := p
      rw [e0]
      refine ⟨hwi _, ⟨_, hv1 _, ?_⟩⟩
      refine ⟨Or.inl ⟨rfl, _, sq_of hm⟩, ?_⟩
      refine ⟨.ref v, hv0 _, .ref L, hv1 _, L, _, rfl, Or.inl (sq_of hm), ?_⟩
      have hmp : 0 < ms.length := by omega
      have hwk : k + (r.toNat - i) = (k + (r.toNat - (i + 1))) + 1 := by omega
      rw [hwk] at w
      have w2 := wd_add (wd_add w hvD hd) hvL (o := .lst (ms.map V.int)) hm
      refine ⟨_, v, _, ((ms.map V.int).length : Int), rfl, w2, by rw [List.length_map]; omega, by rw [List.length_map]; omega, fun x H2 x0 x1 w3 => ?_⟩
      have hm2 : H2 L = some (.lst (ms.map V.int)) := w3.ex _ _ upd_same
      have hd2 : H2 Dl = some (.lst (ys.map V.int)) := w3.ex _ _ (by rw [upd_ne (fun z => hLD z.symm)]; exact upd_same)
      rw [List.length_map] at x1
      obtain ⟨a, rfl⟩ : ∃ a : Nat, x = a := ⟨x.toNat, by omega⟩
      have ha : a < ms.length := by omega
      have ha2 : a < (ms.map V.int).length := by rw [List.length_map]; exact ha
      refine ⟨L, _, (a : Int), a, .int ms[a], rfl, rfl, hm2, by omega, by omega, (ixN_seq (ixN_nat ha2)).1, by rw [List.getElem?_map, List.getElem?_eq_getElem ha] <;> rfl, ?_⟩
      refine ⟨ys.map V.int, by rw [upd_ne (fun z => hLD z.symm)]; exact hd2, sz_lt (by rw [List.length_map]; omega), ms.eraseIdx a, ys ++ [ms[a]], by rw [upd_same, List.map_append] <;> rfl, ?_, ?_, fun x hx => hmB x (List.mem_of_mem_eraseIdx hx), fun y hy => ?_, by simp [hyl], ?_⟩
      · rw [upd_ne hLD, upd_same]
        congr 2
        exact erase_map _ _ _
      · rw [List.length_eraseIdx_of_lt ha]
        omega
      · rcases List.mem_append.mp hy with hy | hy
        · exact hyB y hy
        · cases List.mem_singleton.mp hy
          exact hmB _ (List.getElem_mem ha)
      · have w4 : Wd G v (k + (r.toNat - (i + 1))) H2 := w3.sub ((Evl.Ex.new hGD).trans (Evl.Ex.new (by rw [upd_ne hLD]; exact hG)))
        exact (w4.mut hG hvL).mut hGD hvD
    · obtain ⟨ms, ys, hd, hm, hml, hmB, hyB, hyl, w⟩ := p
      rw [Nat.sub_self, Nat.add_zero] at w
      exact q Dl ys H' hyB hyl w hd⟩
theorem q_asgSort {i : Nat} (h : te σ H fun v H' => rSortedI K [v] H' fun x H2 => tz D (σ.set i (some x)) H2) : tSeq (tAsg (tCB (rSortedI K) (tCons te tNil)) (gName i)) tz D σ H := h
theorem q_asgR {i : Nat} (h : te σ H fun x H2 => tz D (σ.set i (some x)) H2) : tSeq (tAsg te (gName i)) tz D σ H := h
end
end Ov
end

section
set_option Elab.async false
set_option linter.all false
set_option maxRecDepth 100000
set_option maxHeartbeats 400000
namespace Ov
open PySem PySem.Spec PyProof.Rows L2 Evl
/-- a statement that is never reached -/
theorem ps_dead {X : Cx} {st : Stmt} : PS X st (fun _ _ _ => False) := ⟨fun _ _ _ _ _ _ h => h.elim⟩
/-! ### instances -/
section
variable {X : Cx} {C f : Addr} {k : Nat} {sp : Sp} {E : XK}
/-- C(*y) -/
def tMakeS (K : PySem.W.Frag) (C : Addr) (sp : Sp) (E : XK) (te : TE) : TE := fun σ H Q => te σ H fun y H1 => ∃ a xs, y = .ref a ∧ (SqT K H1 a xs ∨ SqL K H1 a xs) ∧ ∀ i d, H1 i = none → H1 d = none → d ≠ i →
  sp (.ref i :: xs) (upd (upd H1 d (.own i)) i (.ins C d [])) (fun v H2 => v = .non ∧ Q (.ref i) H2) E
theorem pe_makeS {CX : CXT} {x : Str} {e : Expr} {te : TE} {p pos sp_ : Pos} (M : Mk X.K C f) (F : FnR X.prog X.w X.K X.mg X.base CX k f sp) (hr : Room (k + 1) X.A) (hm : X.mg x = some (.ref C)) (hx : Passes CX X E) (he : PE X e te) (hg : Gl X x := by rfl) (hd : (x == ("__debug__" : Str)) = false := by decide)
    (hst : starEach [.Starred e sp_] X.env = [(true, eval e X.env)] := by rfl) : PE X (.Call (.Name x p) [.Starred e sp_] [] pos) (tMakeS X.K C sp E te) := by
  refine ⟨fun pins s σ H Q I h => wpAny_Call_Name_kw (ld_glob I hg hm ?_ hd)⟩
  refine PySem.W.callWith_S (h₀ := X.base) I.ok.mod.kin M.kp (thn (he.run pins s σ H _ I h) fun v s1 z => ?_) hst
  obtain ⟨y, H1, I1, ry, a, xs, ey, hxs, q⟩ := z
  subst ey
  have hv : v = Value.ref a := ry
  subst hv
  exact StX.star_any I1 hxs fun us s2 I2 rv => ⟨I2.kIn, StX.run_makeR M F hr hx I2 rv q⟩
/-- len(x), x an instance with a __len__ of its own -/
def rLenI (C : Addr) (sp : Sp) : List V → Hp → VK → Prop := fun xs H Q => ∃ (a dx : Addr) (fs : List (Str × V)), xs = [.ref a] ∧ H a = some (.ins C dx fs) ∧ sp [.ref a] H (fun v H' => ∃ n : Nat, v = .int (n : Int) ∧ n ≤ 100000 ∧ Q (.int (n : Int)) H') (fun _ _ _ => False)
theorem call_lenI (hs : PySem.W.findIn X.K (.ref C) "__len__" = some (some (.ref f))) (hf : PySem.W.typeIn X.K (.ref f) = some (.type "function")) (F : FnR X.prog X.w X.K X.mg X.base CX0 k f sp) (hr : Room (k + 1) X.A) : CallR X (.builtin "len") (rLenI C sp) := by
  intro pins s σ H xs us Q I rv h
  obtain ⟨a, dx, fs, rfl, ha, hsp⟩ := h
  obtain ⟨u, rfl, hu⟩ := vals1 rv
  have hua : u = Value.ref a := hu
  subst hua
  obtain ⟨mA, O, _, _, _, _⟩ := ins_get I.hok ha
  obtain ⟨od, J, _⟩ := O.look
  have e0 := I.env0
  have room : Room k X.A.in1 := ⟨hr.hd, by have := hr.dp; show X.A.depth + _ + _ < _; omega, by have := hr.un; show X.A.units + 1 + _ + _ < _; omega⟩
  refine Calls.call_function_entry kind_len plain_len entry_len (args_len1 _) ?_
  unfold Builtin.«len»
  refine wpAny_bind (m := oneArg "len" _) (wpAny_pure ?_)
  have ran : wpAny (model X.prog X.w) X.A.in1 (call (.ref f) [.ref a]) (EP X pins σ fun v H' => ∃ n : Nat, v = .int (n : Int) ∧ n ≤ 100000 ∧ Q (.int (n : Int)) H') X.xe s := by
    refine wpAny_call (codeAny_mono (F X.A.in1 X.stack s H [.ref a] [.ref a] _ _ room ⟨e0.frames, e0.mod, e0.bs, e0.bsz, e0.funs, e0.frf, e0.hok, e0.bare⟩ (.cons rfl .nil) hsp) fun res s2 z => ?_)
    match res, z with
    | .error er, z => exact (show False from z).elim
    | .ok (.ret u), z => exact I.after z
    | .ok .next, z => exact False.elim z
    | .ok .brk, z => exact False.elim z
    | .ok .cont, z => exact False.elim z
  refine wpAny_bind (m := callSpecial? (.ref a) (Str.ofString "__len__")) (PySem.W.special_fn I.kIn J hs hf (wpAny_mono ran (fun r s' hr' => ?_) fun _ _ y => y))
  obtain ⟨v, H', I', rel, n, rfl, hn, q⟩ := hr'
  obtain ⟨t, rfl⟩ := rel
  refine wpAny_bind (wpAny_holding (wpAny_pure ?_))
  refine wpAny_bind (wpAny_letGo ?_)
  have big : (100000 : Int) < 2 ^ 63 := by decide
  show wpAny _ _ (if (n : Int) < 0 then _ else _) _ _ _
  rw [if_neg (by omega)]
  show wpAny _ _ (if (n : Int) ≥ 2 ^ 63 then _ else _) _ _ _
  rw [if_neg (by omega)]
  exact wpAny_bind (wpAny_mkInt (wpAny_pure ⟨_, rfl, .int (n : Int), H', I'.tok _, ⟨_, rfl⟩, q⟩))
end
end Ov
end

section
set_option Elab.async false
set_option linter.all false
set_option maxRecDepth 100000
set_option maxHeartbeats 400000
namespace Ov
open PySem PySem.Spec PyProof.Rows L2 Evl
/-! ### x == y, two instances of one class that has no __eq__ of its own -/
section
variable {M : Model} {prog : Program} {w : World} {A : Around} {E : Value → Shared → Prop} {s : Shared} {K : PySem.W.Frag} {a b C : Addr} {oa ob : Obj} {da db : Option Obj}
theorem same_no {R : Bool → Shared → Prop} (ha : s.heap.get? a = some oa) (hb : s.heap.get? b = some ob) (hc : oa.cls = .ref C) (hne : a ≠ b) (h : R false s) : wpAny M A (isSame (.ref a) (.ref b)) R E s := by
  unfold isSame
  have e : (a == b) = false := beq_eq_false_iff_ne.mpr hne
  obtain ⟨cls, dict, data, slots⟩ := oa
  simp only at hc
  subst hc
  simp only [e, Bool.false_eq_true, if_false, pure_bind]
  exact wpAny_bind (wpAny_load ha (wpAny_bind (wpAny_load hb (wpAny_pure h))))
/-- object.__eq__ says nothing of two -/
theorem try_no (kin : K.In s.heap) (Ia : PySem.W.InstAt s.heap a oa C da) (Ib : PySem.W.InstAt s.heap b ob C db) (hne : a ≠ b) (hm : PySem.W.mroIn K C (.type "object") = some true)
    (hs : PySem.W.findIn K (.ref C) "__eq__" = some (some (.builtin "object.__eq__"))) : wpAny (model prog w) A (tryCompare (.ref a) "__eq__" (.ref b)) (fun r s' => r = none ∧ s' = s) E s := by
  have body : ∀ (A' : Around) (E' : Value → Shared → Prop) (Q : Fin → Shared → Prop), Q (.done (.ret .notImplemented)) s → wpAny (model prog w) A' (Builtin.«object.__eq__» ⟨[.ref a, .ref b], []⟩) Q E' s := fun A' E' Q q => by
    unfold Builtin.«object.__eq__»
    refine wpAny_bind (wpAny_pure ?_)
    refine wpAny_bind (same_no Ia.at_ Ib.at_ Ia.cls hne ?_)
    show wpAny _ _ (if false = true then _ else _) _ _ _
    rw [if_neg Bool.false_ne_true]
    repeat wp_step
    exact q
  have called : wpAny (model prog w) A (call (.builtin "object.__eq__") [.ref a, .ref b]) (fun v s' => v = .notImplemented ∧ s' = s) E s :=
    wpAny_call (codeAny_call_builtin PySem.F.cmp_object.eq.plain PySem.F.cmpEntry_eq (PySem.W.check_slot PySem.F.cmpKind_eq PySem.F.cmpSplit_eq (Ia.type.andThen (PySem.W.looks_mroIn kin hm)) (PySem.F.cmpArgs_eq _ _) (body _ _ _ ⟨rfl, rfl⟩)))
  unfold tryCompare
  refine wpAny_bind (HN.ifBound_objEq kin Ia hs (wpAny_mono called (fun v s' z => ?_) fun _ _ z => z))
  obtain ⟨rfl, rfl⟩ := z
  exact wpAny_pure ⟨rfl, rfl⟩
theorem eq_no {Q : Value → Shared → Prop} (hu : A.units < cLine) (kin : K.In s.heap) (Ia : PySem.W.InstAt s.heap a oa C da) (Ib : PySem.W.InstAt s.heap b ob C db) (hne : a ≠ b) (hm : PySem.W.mroIn K C (.type "object") = some true)
    (hs : PySem.W.findIn K (.ref C) "__eq__" = some (some (.builtin "object.__eq__"))) (h : Q (.bool false) s) : wpAny (model prog w) A (richCompare .Eq (.ref a) (.ref b)) Q E s := by
  simp only [richCompare, cmpInfo_Eq, oneThing_ref]
  refine wpAny_holding (wpAny_bind (wpAny_cRoomFor hu ?_))
  refine wpAny_bind (Ia.type.here (wpAny_bind (Ib.type.here ?_)))
  have same : ((Value.ref C != Value.ref C) = true) = False := by simp
  simp only [bne_self_eq_false, Bool.false_eq_true, if_false, pure_bind, Bool.not_false, if_true]
  refine wpAny_bind (m := tryCompare (.ref a) _ (.ref b)) (wpAny_mono (try_no kin Ia Ib hne hm hs) (fun r s1 z => ?_) fun _ _ e => e)
  obtain ⟨rfl, rfl⟩ := z
  refine wpAny_bind (m := tryCompare (.ref b) _ (.ref a)) (wpAny_mono (try_no kin Ib Ia hne.symm hm hs) (fun r s2 z => ?_) fun _ _ e => e)
  obtain ⟨rfl, rfl⟩ := z
  exact wpAny_bind (wpAny_rule (wpAny_bind (same_no Ia.at_ Ib.at_ Ia.cls hne (wpAny_pure h))))
end
/-- two instances, not one -/
def rEqI (K : PySem.W.Frag) (C : Addr) : R2 := fun x y H Q => ∃ (a b da db : Addr) (fa fb : List (Str × V)), x = .ref a ∧ y = .ref b ∧ a ≠ b ∧ H a = some (.ins C da fa) ∧ H b = some (.ins C db fb) ∧ Q (.bl false) H
theorem op_eqI {X : Cx} {C : Addr} (hu : X.A.units < cLine) (hm : PySem.W.mroIn X.K C (.type "object") = some true) (hs : PySem.W.findIn X.K (.ref C) "__eq__" = some (some (.builtin "object.__eq__"))) : OpR X (compareOp .Eq) (rEqI X.K C) := by
  intro pins s σ H x y v u Q I rx ry h
  obtain ⟨a, b, da, db, fa, fb, rfl, rfl, hne, ha, hb, q⟩ := h
  cases rx
  cases ry
  obtain ⟨mA, O, _, _, _, _⟩ := ins_get I.hok ha
  obtain ⟨od, J, _⟩ := O.look
  obtain ⟨mB, O2, _, _, _, _⟩ := ins_get I.hok hb
  obtain ⟨od2, J2, _⟩ := O2.look
  exact eq_no hu I.kIn J J2 hne hm hs ⟨.bl false, H, I, rfl, q⟩
end Ov
end

section
set_option Elab.async false
set_option linter.all false
set_option maxRecDepth 100000
set_option maxHeartbeats 3200000
namespace Ov
open PySem PySem.Spec PyProof.Rows L2 Evl
/-! ### set(texts), the texts all different -/
/-- the set at S holds the first i of xs -/
def Held (prog : Program) (w : World) (h : Heap) (S : Addr) (xs : List Str) (i : Nat) : Prop := h.SetOf (PySem.strKind prog w) S (fun z => decide (z ∈ xs.take i)) i
theorem Held.moved {prog : Program} {w : World} {h h' : Heap} {S : Addr} {xs : List Str} {i : Nat} (held : Held prog w h S xs i) (same : ∀ o, h.get? S = some o → h'.get? S = some o) : Held prog w h' S xs i := by
  obtain ⟨o, es, ep, tab, at_S, more⟩ := held
  exact ⟨o, es, ep, tab, same o at_S, more⟩
section
variable {prog : Program} {w : World} {A : Around} {R : Result → Shared → Prop} {it : Addr} {fp wr : List Addr} {G : Array GenState → Array GenState → Prop} {n : Nat} {P : Nat → Value → Prop} {St : Nat → Shared → Prop}
theorem fill_set (W : WalksS prog w A.in1 it fp wr G n P St) (S : Addr) (out : S ∉ fp) (xs : List Str) (num : xs.length = n) (few : n ≤ 1000) (nd : xs.Nodup) (val : ∀ i v, P i v → ∃ t, v = .str (xs.getD i Str.empty) t) :
    ∀ (left i : Nat) (s : Shared), left + i = n → St i s → Held prog w s.heap S xs i → (∀ s', Moved (S :: wr) G s s' → Held prog w s'.heap S xs n → R (.ok (.ret .none)) s') →
      codeAny (model prog w) A (.builtin "set.update.loop" ⟨[.ref S, .ref it], []⟩) R s
  | 0, i, s, hi, now, held, fin => by
    have hin : i = n := by omega
    rw [hin] at now held
    refine codeAny_builtin PyProof.Rows.F.entry_set_update_loop ?_
    rw [Around.under_plainId PyProof.Rows.F.plain_set_update_loop _]
    refine wpAny_bind (m := pyNext (.ref it)) (W.done s _ _ now fun s' mv => ?_)
    refine wpAny_pure (fin s' (mv.mono fun b hb => List.mem_cons_of_mem _ hb) (held.moved fun o ho => mv.heap S o (fun hb => out (W.sub _ hb)) ho))
  | left + 1, i, s, hi, now, held, fin => by
    have lt : i < n := by omega
    refine codeAny_builtin PyProof.Rows.F.entry_set_update_loop ?_
    rw [Around.under_plainId PyProof.Rows.F.plain_set_update_loop _]
    refine wpAny_bind (m := pyNext (.ref it)) (W.item i s _ _ lt now fun v s' hP now' mv => ?_)
    obtain ⟨t, rfl⟩ := val i v hP
    have held' : Held prog w s'.heap S xs i := held.moved fun o ho => mv.heap S o (fun hb => out (W.sub _ hb)) ho
    have hget : xs.getD i Str.empty = xs[i]'(by omega) := by rw [List.getD_eq_getElem?_getD, List.getElem?_eq_getElem (by omega)] <;> rfl
    have notin : decide (xs.getD i Str.empty ∈ xs.take i) = false := by
      rw [decide_eq_false_iff_not, hget]
      intro hm
      obtain ⟨j, hj, e⟩ := List.mem_take_iff_getElem.mp hm
      exact List.pairwise_iff_getElem.mp nd j i (by omega) (by omega) (by omega) e
    refine wpAny_bind (m := holding [Value.str (xs.getD i Str.empty) t] (setAdd S (.str (xs.getD i Str.empty) t))) (wpAny_holding ?_)
    unfold setAdd
    refine wpAny_holding (wpAny_bind ((PySem.strKind prog w).pyHash (k := xs.getD i Str.empty) (strKind_is _ _ _ _) ?_))
    refine wpAny_setAddHashed_of (knd := PySem.strKind prog w) (s := { s' with toks := s'.toks + 1 }) (strKind_is _ _ _ _) rfl held' (by unfold scanBound; omega) fun h2 same2 held2 => ?_
    rw [if_neg (by rw [notin]; decide)] at held2
    have next : Held prog w h2 S xs (i + 1) := PyProof.Rows.SetOf_congr held2 (fun z => by
      have ht : xs.take (i + 1) = xs.take i ++ [xs.getD i Str.empty] := by rw [hget, List.take_succ_eq_append_getElem]
      rw [ht]
      simp) rfl
    refine wpAny_pure ⟨plainId_quiet PyProof.Rows.F.plain_set_update_loop _, fill_set W S out xs num few nd val left (i + 1) _ (by omega) (W.frame _ s' _ _ now' (Nat.le_succ _) fun b hb o e => ?_) next fun s3 mv3 held3 => ?_⟩
    · have hne : b ≠ S := fun z => out (z ▸ hb)
      exact (same2.2 b hne).trans e
    · refine fin s3 (Moved.trans W.gtrans ((mv.mono fun b hb => List.mem_cons_of_mem _ hb).then_heap (Nat.le_succ _) fun b o hb e => ?_) mv3) held3
      have hne : b ≠ S := fun z => hb (z ▸ List.mem_cons_self)
      exact (same2.2 b hne).trans e
end
section
variable {prog : Program} {w : World} {A : Around} {E : Value → Shared → Prop} {s : Shared}
abbrev newSet (led : Bool) : Obj := { cls := .type "set", dict := none, data := .set #[] 0 (.fresh 0 0 led) }
theorem set_texts {l : Addr} {items : Array Value} {xs : List Str} {Q : Value → Shared → Prop} (free : A.handled = none) (lst : s.heap.IsList l items) (txt : PyProof.Rows.StrsAre items.toList xs) (few : xs.length ≤ 1000) (nd : xs.Nodup)
    (q : ∀ (h' : Heap) (tk : Nat), Held prog w h' s.heap.objs.size xs xs.length → (∀ b o, b < s.heap.objs.size → s.heap.get? b = some o → h'.get? b = some o) → Q (.ref s.heap.objs.size) { s with heap := h', toks := tk }) : wpAny (model prog w) A (call (.type "set") [.ref l]) Q E s := by
  have num : xs.length = items.size := by rw [← StrsAre.len_eq txt, Array.length_toList]
  have made := PySem.F.called_set.made
  have sub := PySem.F.called_set.sub
  obtain ⟨c, tl, mro⟩ := PySem.F.called_set.mro
  have notType := PySem.F.called_set.notType
  have canCreate := PySem.F.called_set.canCreate
  have check := PySem.F.typeCall_set_1 (.ref l)
  refine wpAny_call (codeAny_of_tree ?_)
  show wpAny _ _ (callAny (.type "set") _) _ _ _
  refine wpAny_pure ⟨Code.quiet_builtin _ (by decide +kernel), codeAny_builtin PySem.F.entry_type_call ?_⟩
  rw [Around.under_plain (weight_type_call_type "set" [.ref l] []) rfl]
  repeat (any_goals (first | assumption | wp_step))
  refine codeAny_mono (code_set_new_1 (.ref l) (E := E) (Q₁ := fun obj s1 => ∃ led : Bool, obj = .ref s.heap.objs.size ∧ s1 = { s with heap := s.heap.push (newSet led) }) fun led => ⟨led, rfl, rfl⟩) fun r s1 hr => ?_
  match r, hr with
  | .error e, hr => exact hr
  | .ok .next, hr => exact hr.elim
  | .ok .brk, hr => exact hr.elim
  | .ok .cont, hr => exact hr.elim
  | .ok (.ret obj), hr =>
    obtain ⟨led, rfl, rfl⟩ := hr
    have at_S : (s.heap.push (newSet led)).get? s.heap.objs.size = some (newSet led) := Heap.get?_push_size _ rfl
    have ty : Shared.TypeIs { s with heap := s.heap.push (newSet led) } (.ref s.heap.objs.size) "set" := ⟨_, at_S, rfl⟩
    have look := PySem.F.called_set.init.lookup
    have bound := PySem.F.called_set.init.bind (.ref s.heap.objs.size)
    repeat (any_goals (first | assumption | wp_step))
    have filled : codeAny (model prog w) A.in1 (.call (.builtin "set.__init__") ⟨[.ref s.heap.objs.size, .ref l], []⟩) (wants (fun r s2 => r = .none ∧ ∃ h' tk, s2 = { s with heap := h', toks := tk } ∧ Held prog w h' s.heap.objs.size xs xs.length ∧
        ∀ b o, b < s.heap.objs.size → s.heap.get? b = some o → h'.get? b = some o) E) { s with heap := s.heap.push (newSet led) } := by
      refine codeAny_call_builtin PySem.F.called_set.init.plain PySem.F.entry_set_init (check_set_init_1 ty ?_)
      obtain ⟨o, at_l, cls_l, nl, dat_l⟩ := lst
      obtain ⟨c1, d1, dt1, sl1⟩ := o
      simp only at cls_l dat_l
      subst cls_l dat_l
      have at_l2 : (s.heap.push (newSet led)).get? l = some { cls := .type "list", dict := d1, data := .seq items nl, slots := sl1 } := Heap.get?_push_of_some _ at_l
      have list2 : (s.heap.push (newSet led)).IsList l items := ⟨_, at_l2, rfl, nl, rfl⟩
      have no1 := PySem.F.sub_list_set
      have no2 := PySem.F.sub_list_frozenset
      have no3 : (Value.type "list" == Value.type "dict") = false := by decide
      unfold Builtin.«set.__init__» noKeywords Builtin.Frozenset.updateFrom
      generalize keepIter : pyIter = PI
      wp_walk
      subst keepIter
      refine wpAny_pyIter_list list2 (wpAny_bind (wpAny_runValue ?_))
      have l_lt : l < s.heap.objs.size := Heap.lt_size at_l
      have size1 : (s.heap.push (newSet led)).objs.size = s.heap.objs.size + 1 := Heap.size_push ..
      have free3 : A.in1.in1.in1.handled = none := free
      have itNe : l ≠ (s.heap.push (newSet led)).objs.size := by
        rw [size1]
        exact Nat.ne_of_lt (Nat.lt_succ_of_lt l_lt)
      have notIn : s.heap.objs.size ∉ [(s.heap.push (newSet led)).objs.size, l] := by
        rw [size1]
        intro h
        rcases List.mem_cons.mp h with h | h
        · exact absurd h (Nat.ne_of_lt (Nat.lt_succ_self _))
        · exact absurd (List.mem_singleton.mp h) (Nat.ne_of_gt l_lt)
      refine fill_set ((Walks.list free3 _ l itNe items).toS) s.heap.objs.size notIn xs num (by omega) nd (fun i v hv => SS.strs_at txt i v (by rw [Array.getElem?_toList]; exact hv)) items.size 0 _ (by omega) ⟨⟨_, Heap.get?_push_size _ rfl, rfl, rfl⟩, list2.push _⟩ ?_ fun s3 mv held => ?_
      · have at_S2 : ((s.heap.push (newSet led)).push { cls := .type "list_iterator", data := .fields #[.ref l, .int 0 0] }).get? s.heap.objs.size = some (newSet led) := Heap.get?_push_of_some _ at_S
        exact PyProof.Rows.SetOf_congr ((PyProof.Rows.setObjOf_fresh (knd := PySem.strKind prog w) led).setOf at_S2 (by unfold scanBound; omega)) (fun _ => by simp) rfl
      · obtain ⟨h3, g3, d3, k3, o3⟩ := s3
        have eg : g3 = s.gens := mv.gens
        have ed : d3 = s.drawn := mv.drawn
        have eo : o3 = s.os := mv.os
        subst eg ed eo
        rw [← num] at held
        show wpAny _ _ _ _ _ _
        refine wpAny_pure ?_
        show wpAny _ _ (ret Value.none) _ _ _
        refine wpAny_pure ⟨rfl, h3, k3, rfl, held, fun b o hb e => ?_⟩
        refine mv.heap b o ?_ (Heap.get?_push_of_some _ (Heap.get?_push_of_some _ e))
        rw [size1]
        intro h
        rcases List.mem_cons.mp h with h | h
        · exact absurd h (Nat.ne_of_lt hb)
        · exact absurd (List.mem_singleton.mp h) (Nat.ne_of_lt (Nat.lt_succ_of_lt hb))
    refine codeAny_mono filled fun r2 s2 after => ?_
    match r2, after with
    | .error e, after => exact after
    | .ok .next, after => exact after.elim
    | .ok .brk, after => exact after.elim
    | .ok .cont, after => exact after.elim
    | .ok (.ret r), after =>
      obtain ⟨rfl, h', tk, rfl, held, kept⟩ := after
      repeat (any_goals (first | assumption | wp_step))
      exact q h' tk held kept
end
end Ov
end

section
set_option Elab.async false
set_option linter.all false
set_option maxRecDepth 100000
set_option maxHeartbeats 400000
namespace Ov
open PySem PySem.Spec PyProof.Rows L2 Evl
/-- len(set(xs)), xs a list of texts that are all different -/
def tLenSetN (K : PySem.W.Frag) (ta : TE) : TE := fun σ H Q => ta σ H fun x H1 => ∃ (l : Addr) (xs : List Str), x = .ref l ∧ SqL K H1 l (xs.map V.str) ∧ xs.length ≤ 1000 ∧ xs.Nodup ∧ Q (.int (xs.length : Int)) H1
section
variable {X : Cx} {a : Expr} {ta : TE} {p p2 q2 pos : Pos}
theorem pe_lenSetN (calm : X.calm = true) (g1 : Gl X "len") (m1 : X.mg "len" = none) (g2 : Gl X "set") (m2 : X.mg "set" = none) (arg : PE X a ta) (one : starEach [a] X.env = (false, eval a X.env) :: starEach [] X.env := by rfl) :
    PE X (.Call (.Name "len" p) [.Call (.Name "set" p2) [a] [] q2] [] pos) (tLenSetN X.K ta) := by
  refine ⟨fun pins s σ H Q I h => Call_ (ld_blt I g1 m1 boot_len ?_)⟩
  refine PyProof.Rows.callWith_builtin1 (PyProof.Rows.args_cons (Call_ (ld_blt I g2 m2 boot_set ?_)) rfl) rfl rfl
  refine PyProof.Rows.callWith_type1 (PyProof.Rows.args_cons (thn (arg.run pins s σ H _ I h) fun v s1 z => PyProof.Rows.args_nil ?_) one) one rfl
  obtain ⟨x, H1, I1, rel, l, xs, rfl, hxs, few, nd, q⟩ := z
  have hv : v = Value.ref l := rel
  subst hv
  obtain ⟨its, vals, list, _⟩ := I1.list hxs
  refine set_texts (I1.ok.hd calm) list.isList (by simpa using strsAre_of vals) few nd fun h' tk held kept => PyProof.Rows.args_nil ?_
  obtain ⟨o, es, ep, t, at_S, exact_, dat, _, _, _, fit, num⟩ := held
  have I2 : Inv X pins σ H1 { s1 with heap := h', toks := tk } := I1.kept fun b o e => kept b o (Heap.lt_size e) e
  refine call_len_set at_S exact_ dat fit (by rw [num]; omega) ⟨.int xs.length, H1, I2.tok _, ⟨_, by rw [num]⟩, q⟩
end
section
variable {K : PySem.W.Frag} {σ : L2.St} {H : Hp} {ta : TE} {l : Addr} {xs : List Str}
theorem ev_lenSetN (h : Ev ta σ H (.ref l)) (hx : SqL K H l (xs.map V.str)) (few : xs.length ≤ 1000) (nd : xs.Nodup) : Ev (tLenSetN K ta) σ H (.int (xs.length : Int)) := fun H1 e Q q =>
  h H1 e _ fun H2 e2 => ⟨l, xs, rfl, ex_l (e.trans e2) hx, few, nd, q H2 e2⟩
end
end Ov
end

section
set_option Elab.async false
set_option linter.all false
set_option maxRecDepth 100000
set_option maxHeartbeats 2000000
namespace K81
open PySem PySem.Spec PyProof.Rows L2 Ov Evl TxM ClX
def LET : Str := "abcdefghijklmnopqrstuvwxyz"
def isL (c : Nat) : Bool := decide (c ∈ LET.cps.toList)
def low (w : Str) : Bool := w.cps.toList.all isL
/-- what the module says of the class Stamps -/
structure StF (K : PySem.W.Frag) (mg : Str → Option Value) (C : Addr) (mc : Value) : Prop where
  k : mg "Stamps" = some (.ref C)
  cls : Cls K C
  rd : CRead K C mc
  most : ∃ u, CVal K C mc "MOST" (.int 6) u
  noheld : NoAttr K C "held_words"
  eqo : PySem.W.findIn K (.ref C) "__eq__" = some (some (.builtin "object.__eq__"))
  mro : PySem.W.mroIn K C (.type "object") = some true
  cl : PySem.W.findIn K (.ref C) "__class__" = some (some (.builtin "object.__class__"))
  cg : PySem.W.specialIn K (.builtin "object.__class__") "__get__" = some (some (.builtin "getset_descriptor.__get__"))
  ct : PySem.W.takesIn K (.builtin "object.__class__") = some true
structure Valid (ws : List Str) (wd : Nat) : Prop where
  l1 : 1 ≤ ws.length
  l6 : ws.length ≤ 6
  w1 : 1 ≤ wd
  w8 : wd ≤ 8
  all : ∀ w ∈ ws, w.length = wd ∧ low w = true
  area : wd * ws.length ≤ 36
  nd : ws.Nodup
def spRow : Sp := fun vs H Q _ => ∃ (w : Str) (m : Int), vs = [.str w, .str LET, .int m] ∧ w.length ≤ 5000 ∧ RetV (.bl (decide (1 ≤ w.length) && (decide ((w.length : Int) ≤ m) && low w))) H Q
def spAre : Sp := fun vs H Q _ => ∃ (l : Addr) (ws : List Str) (wd : Nat), vs = [.ref l] ∧ H l = some (.lst (ws.map V.str)) ∧ Valid ws wd ∧ RetV (.bl true) H Q
section
variable {P : Program} {w : World} {K : PySem.W.Frag} {mg : Str → Option Value} {bh : Heap}
theorem ev_isiS {σ : L2.St} {H : Hp} {te : TE} {z : Str} (h : Ev te σ H (.str z)) : Ev (tCB (rIsi K) (tCons te (tCons (tC (.ty "str")) tNil))) σ H (.bl true) := fun H1 e Q q =>
  h H1 e _ fun H2 e2 => ⟨_, _, _, _, true, rfl, .ty "str", .base (.str z), kit_ty (by decide +kernel), q H2 e2⟩
theorem ev_cval {σ : L2.St} {H : Hp} {te : TE} {C : Addr} {mc : Value} {f : Str} {v : V} {u : Value} (h : Ev te σ H (.ref C)) (r : CRead K C mc) (k : CVal K C mc f v u) : Ev (tCVal K te f) σ H v := fun H1 e Q q =>
  h H1 e _ fun H2 e2 => ⟨C, mc, v, u, rfl, r, k, q H2 e2⟩
theorem ok_is_row {f : Addr} {fd : FuncData} (F : Fun K "is_row" "is_row" s_is_row f fd) (T : Txt K mg) : FnOk P w K mg bh CX0 1 f fd ["thing", "signs", "most"] spRow := by
  refine F.ok sc_is_row (fun vs H Q E h => ?_) (fun cdv A outer s H vs Q E hr h => ?_)
  · obtain ⟨z, m, rfl, _⟩ := h
    rfl
  · obtain ⟨z, m, rfl, hz, k⟩ := h
    refine ⟨_, (pss_one (ps_ret (pe_and (pe_callB call_isi rfl T.f_isinstance (by decide +kernel) (pa_cons (pv 0) (pa_cons (pe_ty (T := "str") T.f_str (by decide +kernel)) pa_nil))) (pe_and (pe_chain op_le op_le pe_int (pe_callB call_len_str rfl T.f_len (by decide +kernel) (pa_cons (pv 0) pa_nil)) (pv 2)) (pe_one (pe_callB (cr_all rfl) rfl T.f_all (by decide +kernel) (pa_cons (pe_lc (own := [("sign", 3)]) (g := gName 3) (tt := tYes) (by rfl) sc_is_row.nd (pi_str (pv 0)) (blkOk_by (own := [("sign", 3)]) (N := ["thing", "signs", "most", "sign"]) (sc := defScope s_is_row) (by decide +kernel)) (fun _ _ _ _ _ => pg_name (i := 3) sc_is_row.nd rfl (.inl rfl)) (fun _ _ _ _ _ => pts_nil) (fun _ _ _ _ _ => (pe_cmpR op_in_sign (pv 3) (pv 1) rfl))) pa_nil))))))), ?_⟩
    refine s_ret (ev_is (ev_andV (a := true) (b := decide (1 ≤ z.length) && (decide ((z.length : Int) ≤ m) && low z)) (ev_isiS (ev_var rfl)) fun _ => ev_is (ev_andV (a := decide (1 ≤ z.length) && decide ((z.length : Int) ≤ m)) (b := low z) (ev_is (ev_chain ev_c (ev_cb (ea_cons (ev_var rfl) ea_nil) (rc_lenS (by omega))) rv_I0 (fun _ => ev_var rfl) (fun _ => rv_I0)) ?_) fun _ => ?_) ?_) rfl) fun H1 e1 => k H1 e1
    · exact congrArg (fun b => V.bl (b && decide ((z.length : Int) ≤ m))) (decide_eq_decide.mpr (by omega))
    · exact ev_is (ev_all (bs := z.cps.toList.map isL) (el_is (el_lcS (fun c => .bl (isL c)) (ev_var rfl) (by omega) (fun _ => rfl) (fun c H1 e => ev_op (ev_var rfl) (ev_var rfl) rv_inSign)) (by rw [List.map_map]; rfl))) (by rw [List.all_map]; rfl)
    · rw [Bool.and_assoc]
theorem ok_are_words {f C : Addr} {mc : Value} {fd : FuncData} (F : Fun K "are_words" "are_words" s_are_words f fd) (T : Txt K mg) (ST : StF K mg C mc) (D_is_row : Dn P w K mg bh CX0 1 "is_row" ["thing", "signs", "most"] spRow) : FnOk P w K mg bh CX0 2 f fd ["thing"] spAre := by
  refine F.ok sc_are_words (fun vs H Q E h => ?_) (fun cdv A outer s H vs Q E hr1 h => ?_)
  · obtain ⟨l, ws, wd, rfl, _⟩ := h
    rfl
  · obtain ⟨l, ws, wd, rfl, hl, hv, k⟩ := h
    have KS := ST.k
    obtain ⟨um, hmost⟩ := ST.most
    refine ⟨_, (pss_cons (ps_if (PW.pt (pw_or (pt_not (pt_val (pe_callB call_isi rfl T.f_isinstance (by decide +kernel) (pa_cons (pv 0) (pa_cons (pe_ty (T := "list") T.f_list (by decide +kernel)) pa_nil))))) (pw_or1 (pt_not (pt_chain op_le op_le pe_int (pe_callB call_len_seq rfl T.f_len (by decide +kernel) (pa_cons (pv 0) pa_nil)) (ClX.pe_cval (pe_gr KS)))))))
   (pss_one (ps_ret pe_bl))
   pss_nil)
  (pss_cons (ps_if (pt_not (pt_val (pe_callB (cr_all rfl) rfl T.f_all (by decide +kernel) (pa_cons (pe_lc (own := [("word", 2)]) (g := gName 2) (tt := tYes) (by rfl) sc_are_words.nd (pi_list (pv 0)) (blkOk_by (own := [("word", 2)]) (N := ["thing", "width", "word"]) (sc := defScope s_are_words) (by decide +kernel)) (fun _ _ _ _ _ => pg_name (i := 2) sc_are_words.nd rfl (.inl rfl)) (fun _ _ _ _ _ => pts_nil) (fun _ _ _ _ _ => (pe_d D_is_row hr1 pass0 (pa_cons (pv 2) (pa_cons (pe_gs T.c_LETTERS_stamps) (pa_cons (pe_gi T.c_MOST_WIDTH_stamps) pa_nil)))))) pa_nil))))
   (pss_one (ps_ret pe_bl))
   pss_nil)
  (pss_cons (ps_set (i := 1) sc_are_words.nd rfl (Or.inr rfl) (pe_callB call_len_str rfl T.f_len (by decide +kernel) (pa_cons (pe_ix ix_list (pv 0) pe_int (fun _ _ => rfl)) pa_nil)))
  (pss_cons (ps_if (PW.pt (pw_or (pt_not (pt_val (pe_callB (cr_all rfl) rfl T.f_all (by decide +kernel) (pa_cons (pe_lc (own := [("word", 2)]) (g := gName 2) (tt := tYes) (by rfl) sc_are_words.nd (pi_list (pv 0)) (blkOk_by (own := [("word", 2)]) (N := ["thing", "width", "word"]) (sc := defScope s_are_words) (by decide +kernel)) (fun _ _ _ _ _ => pg_name (i := 2) sc_are_words.nd rfl (.inl rfl)) (fun _ _ _ _ _ => pts_nil) (fun _ _ _ _ _ => (pe_cmpR op_eq (pe_callB call_len_str rfl T.f_len (by decide +kernel) (pa_cons (pv 2) pa_nil)) (pv 1) (nomark _)))) pa_nil)))) (pw_or1 (pt_cmpR op_gt (pe_op op_mul (pv 1) (pe_callB call_len_seq rfl T.f_len (by decide +kernel) (pa_cons (pv 0) pa_nil))) (pe_gi T.c_MOST_LETTERS_stamps) (nomark _)))))
   (pss_one (ps_ret pe_bl))
   pss_nil)
  (pss_one (ps_ret (pe_cmpR op_eq (pe_lenSetN rfl rfl T.f_len rfl T.f_set (pv 0)) (pe_callB call_len_seq rfl T.f_len (by decide +kernel) (pa_cons (pv 0) pa_nil)) (nomark _)))))))), ?_⟩
    have h1 := hv.l1
    have h6 := hv.l6
    have hlen : ((ws.map V.str).length : Int) = (ws.length : Int) := by rw [List.length_map]
    have allT : ∀ n : Nat, ((List.range n).map fun _ => true).all id = true := fun n => List.all_eq_true.mpr fun b hb => by
      obtain ⟨_, _, rfl⟩ := List.mem_map.mp hb
      rfl
    have e0 : ∀ w ∈ ws, w.length ≤ 8 := fun w hw => by rw [(hv.all w hw).1]; exact hv.w8
    refine q_when (b := false) (et_is (et_or (a := false) (b := false) (et_is (et_not (a := true) (et_B (ev_isiL (ev_var rfl) hl))) rfl) fun _ => et_is (et_not (a := true) (et_test (ev_is (ev_chain ev_c (ev_len (ev_var rfl) (sq_of hl)) rv_I0 (fun _ => ev_cval ev_c ST.rd hmost) (fun _ => rv_I0)) ?_))) rfl) rfl) (fun z => by cases z) fun _ H1 e1 => ?_
    · rw [hlen, decide_eq_true (by omega), decide_eq_true (by omega)] <;> rfl
    have hl1 := e1 _ _ hl
    refine q_when (b := false) (et_is (et_not (a := true) (et_B (ev_is (ev_all (bs := (List.range (ws.map V.str).length).map fun _ => true) (el_is (el_lcL (xs := ws.map V.str) (fun _ => true) (fun _ => .bl true) (ev_var rfl) (sq_of hl1) (by rw [List.length_map]; omega) (fun _ => rfl) (fun i x H5 e5 hi Hq eq Q' q' => q' _ (Evl.Ex.refl _)) (fun i x H5 e5 hi _ => ?_)) (by rw [given_all, List.map_map]; rfl))) (by rw [allT])))) rfl) (fun z => by cases z) fun _ H2 e2 => ?_
    · rw [List.getElem?_map, Option.map_eq_some_iff] at hi
      obtain ⟨u, hu, rfl⟩ := hi
      have hm := List.mem_of_getElem? hu
      obtain ⟨hu1, hu2⟩ := hv.all u hm
      have hw1 := hv.w1
      have hw8 := hv.w8
      refine ev_call' (z := .bl true) (ea_cons (ev_var rfl) (ea_cons ev_c (ea_cons ev_c ea_nil))) fun H6 e6 Q' q' => ⟨u, 8, rfl, by omega, ?_⟩
      rw [hu2, decide_eq_true (by omega), decide_eq_true (by omega)]
      exact q'
    have hl2 := e2 _ _ hl1
    obtain ⟨w0, rest, hws⟩ : ∃ w0 rest, ws = w0 :: rest := by
      cases ws with
      | nil => simp at h1
      | cons a b => exact ⟨a, b, rfl⟩
    have hw0 : w0.length = wd := (hv.all w0 (by rw [hws]; exact List.mem_cons_self)).1
    refine q_asg (v := .int (wd : Int)) (ev_is (ev_cb (ea_cons (ev_op (ev_var rfl) ev_c (rv_ixL (v := .str w0) (sq_of hl2) (by rw [hws]; exact atI_nat (j := 0) rfl))) ea_nil) (rc_lenS (by have := hv.w8; omega))) (by rw [hw0])) fun H3 e3 => ?_
    have hl3 := e3 _ _ hl2
    refine q_when (b := false) (et_is (et_or (a := false) (b := false) (et_is (et_not (a := true) (et_B (ev_is (ev_all (bs := (List.range (ws.map V.str).length).map fun _ => true) (el_is (el_lcL (xs := ws.map V.str) (fun _ => true) (fun _ => .bl true) (ev_var rfl) (sq_of hl3) (by rw [List.length_map]; omega) (fun _ => rfl) (fun i x H5 e5 hi Hq eq Q' q' => q' _ (Evl.Ex.refl _)) (fun i x H5 e5 hi _ => ?_)) (by rw [given_all, List.map_map]; rfl))) (by rw [allT])))) rfl) fun _ => et_test (ev_is (ev_op (ev_op (ev_var rfl) (ev_len (ev_var rfl) (sq_of hl3)) (rv_I ?_)) ev_c rv_I0) ?_)) rfl) (fun z => by cases z) fun _ H4 e4 => ?_
    · rw [List.getElem?_map, Option.map_eq_some_iff] at hi
      obtain ⟨u, hu, rfl⟩ := hi
      obtain ⟨hu1, hu2⟩ := hv.all u (List.mem_of_getElem? hu)
      have hw8 := hv.w8
      exact ev_is (ev_op (ev_cb (ea_cons (ev_var rfl) ea_nil) (rc_lenS (by omega))) (ev_var rfl) (rv_eq rfl)) (by rw [hu1, decide_eq_true rfl])
    · have hw8 := hv.w8
      exact .inl ⟨by omega, by omega⟩
    · have ha := hv.area
      have : ((wd : Int) * ((ws.map V.str).length : Int)) ≤ 36 := by
        rw [hlen]
        exact_mod_cast ha
      exact congrArg V.bl (decide_eq_false (by omega))
    have hl4 := e4 _ _ hl3
    exact s_ret (ev_is (ev_op (ev_lenSetN (ev_var rfl) (sq_of hl4) (by omega) hv.nd) (ev_len (ev_var rfl) (sq_of hl4)) (rv_eq rfl)) (by rw [hlen, decide_eq_true rfl])) fun H5 e5 => k H5 ((((e1.trans e2).trans e3).trans e4).trans e5)
end
end K81
end

section
set_option Elab.async false
set_option linter.all false
set_option maxRecDepth 100000
set_option maxHeartbeats 2000000
namespace K81
open PySem PySem.Spec PyProof.Rows L2 Ov Evl TxM ClX
/-- an instance of Stamps with these words -/
def Stm (C : Addr) (H : Hp) (a : Addr) (ws : List Str) : Prop := ∃ dx l, H a = some (.ins C dx [("held_words", .ref l)]) ∧ H l = some (.lst (ws.map V.str))
theorem Stm.ex {C a : Addr} {H H' : Hp} {ws : List Str} (h : Stm C H a ws) (e : Ex H H') : Stm C H' a ws := by
  obtain ⟨dx, l, h1, h2⟩ := h
  exact ⟨dx, l, e _ _ h1, e _ _ h2⟩
def spWords (C : Addr) : Sp := fun vs H Q _ => ∃ (a : Addr) (ws : List Str), vs = [.ref a] ∧ Stm C H a ws ∧ RetL (ws.map V.str) H Q
def spWidth (C : Addr) : Sp := fun vs H Q _ => ∃ (a : Addr) (w0 : Str) (ws : List Str), vs = [.ref a] ∧ Stm C H a (w0 :: ws) ∧ w0.length ≤ 5000 ∧ RetV (.int (w0.length : Int)) H Q
def spLen (C : Addr) : Sp := fun vs H Q _ => ∃ (a : Addr) (ws : List Str), vs = [.ref a] ∧ Stm C H a ws ∧ RetV (.int (ws.length : Int)) H Q
/-- Stamps.__init__(self, *words): the words that are over as a tuple -/
def spMake (C : Addr) : Sp := fun vs H Q _ => ∃ (a dx t : Addr) (ws : List Str) (wd : Nat), vs = [.ref a, .ref t] ∧ H a = some (.ins C dx []) ∧ H t = some (.tup (ws.map V.str)) ∧ Valid ws wd ∧
  ∀ H', (∀ b o, b ≠ a → H b = some o → H' b = some o) → Stm C H' a ws → Q .non H'
section
variable {P : Program} {w : World} {K : PySem.W.Frag} {mg : Str → Option Value} {bh : Heap}
theorem ev_fld {σ : L2.St} {H : Hp} {te : TE} {a C dx : Addr} {f : Str} {fs : List (Str × V)} {v : V} (h : Ev te σ H (.ref a)) (ha : H a = some (.ins C dx fs)) (c : Cls K C) (n : NoAttr K C f) (l : fs.lookup f = some v) : Ev (tFld K te f) σ H v := fun H1 e Q q =>
  h H1 e _ fun H2 e2 => ⟨a, C, dx, fs, v, rfl, (e.trans e2) _ _ ha, c, n, l, q H2 e2⟩
theorem ok_words {f C : Addr} {mc : Value} {fd : FuncData} (F : Fun K "words" "Stamps.words" s_Stamps_words f fd) (T : Txt K mg) (ST : StF K mg C mc) : FnOk P w K mg bh CX0 1 f fd ["self"] (spWords C) := by
  refine F.ok sc_Stamps_words (fun vs H Q E h => ?_) (fun cdv A outer s H vs Q E hr h => ?_)
  · obtain ⟨a, ws, rfl, _⟩ := h
    rfl
  · obtain ⟨a, ws, rfl, ⟨dx, l, ha, hl⟩, k⟩ := h
    refine ⟨_, (pss_one (ps_ret (pe_callTy call_list_of rfl T.f_list (by decide +kernel) (pa_cons (pe_fld (pv 0) rfl) pa_nil)))), ?_⟩
    exact s_retL (el_list (ev_fld (ev_var rfl) ha ST.cls ST.noheld rfl) (sq_of hl)) fun p H1 hp e1 h1 => k p H1 hp e1 h1
theorem ok_width {f C : Addr} {mc : Value} {fd : FuncData} (F : Fun K "width" "Stamps.width" s_Stamps_width f fd) (T : Txt K mg) (ST : StF K mg C mc) : FnOk P w K mg bh CX0 1 f fd ["self"] (spWidth C) := by
  refine F.ok sc_Stamps_width (fun vs H Q E h => ?_) (fun cdv A outer s H vs Q E hr h => ?_)
  · obtain ⟨a, w0, ws, rfl, _⟩ := h
    rfl
  · obtain ⟨a, w0, ws, rfl, ⟨dx, l, ha, hl⟩, hw, k⟩ := h
    refine ⟨_, (pss_one (ps_ret (pe_callB call_len_str rfl T.f_len (by decide +kernel) (pa_cons (pe_ix ix_list (pe_fld (pv 0) rfl) pe_int (fun _ _ => rfl)) pa_nil)))), ?_⟩
    exact s_ret (ev_cb (ea_cons (ev_op (ev_fld (ev_var rfl) ha ST.cls ST.noheld rfl) ev_c (rv_ixL (v := .str w0) (sq_of hl) (atI_nat (j := 0) rfl))) ea_nil) (rc_lenS (by omega))) fun H1 e1 => k H1 e1
theorem ok_len {f C : Addr} {mc : Value} {fd : FuncData} (F : Fun K "__len__" "Stamps.__len__" s_Stamps___len__ f fd) (T : Txt K mg) (ST : StF K mg C mc) : FnOk P w K mg bh CX0 1 f fd ["self"] (spLen C) := by
  refine F.ok sc_Stamps___len__ (fun vs H Q E h => ?_) (fun cdv A outer s H vs Q E hr h => ?_)
  · obtain ⟨a, ws, rfl, _⟩ := h
    rfl
  · obtain ⟨a, ws, rfl, ⟨dx, l, ha, hl⟩, k⟩ := h
    refine ⟨_, (pss_one (ps_ret (pe_callB call_len_seq rfl T.f_len (by decide +kernel) (pa_cons (pe_fld (pv 0) rfl) pa_nil)))), ?_⟩
    exact s_ret (ev_is (ev_len (ev_fld (ev_var rfl) ha ST.cls ST.noheld rfl) (sq_of hl)) (by rw [List.length_map])) fun H1 e1 => k H1 e1
theorem ev_callL {σ : L2.St} {H : Hp} {te : TE} {xs : List V} {sp : Sp} {E : XK} {z : V} (h : EvL te σ H xs) (hs : ∀ p H1, Ex H H1 → H1 p = some (.lst xs) → ∀ Q : VK, RetV z H1 Q → sp [.ref p] H1 Q E) : Ev (tCall sp [] E (tCons te tNil)) σ H z := fun H1 e Q q =>
  h H1 e _ fun p H2 _ e2 h2 => hs p H2 (e.trans e2) h2 Q fun H3 e3 => q H3 (e2.trans e3)
theorem sc_make : FnScope ["self", "words"] ((["self"] : List Str) ++ [("words" : Str)]) (defScope s_Stamps___init__) := ⟨rfl, rfl, rfl, by decide +kernel, rfl, by decide +kernel, by decide +kernel⟩
def spInit (C : Addr) : Sp := fun vs H Q E => ∃ ws rest : List V, vs = ws ++ rest ∧ ws.length = 1 ∧ rest.length ≤ sizeLine ∧ ∀ p, H p = none → spMake C (ws ++ [V.ref p]) (upd H p (.tup rest)) Q E
theorem ok_make {f C : Addr} {mc : Value} {fd : FuncData} (F : Fun K "__init__" "Stamps.__init__" s_Stamps___init__ f fd) (T : Txt K mg) (ST : StF K mg C mc) (D_are_words : Dn P w K mg bh CX0 2 "are_words" ["thing"] spAre) : FnR P w K mg bh CX0 3 f (spInit C) := by
  obtain ⟨oc, od, kV, doc, pm, an, cdv, ct, osl, rfl, lk, hcd⟩ := F.ex
  refine StX.fn_star (ps := ["self"]) (pv := "words") lk hcd sc_make StX.cxUp_none (fun us rest hl => ?_) fun A outer s H vs Q E hr1 h => ?_
  · exact StX.bind_star1 (p1 := "self") (pv := "words") (B := fun us => bindArgs (PySem.W.fnOf "__init__" "Stamps.__init__" (defArgs s_Stamps___init__) (defBody s_Stamps___init__) (defScope s_Stamps___init__) .none kV doc pm an cdv ct) ⟨us, []⟩) (fun _ => rfl) (fun _ _ _ => rfl) us rest hl
  · obtain ⟨a, dx, t, ws, wd, rfl, ha, ht, hv, q⟩ := h
    refine ⟨_, PSs.nox (pss_cons (ps_if (pt_not (pt_val (pe_d D_are_words hr1 pass0 (pa_cons (pe_callTy call_list_of rfl T.f_list (by decide +kernel) (pa_cons (pv 1) pa_nil)) pa_nil))))
   (pss_one (ps_dead))
   pss_nil)
  (pss_one (ps_fld (pv 0) (pe_callTy call_list_of rfl T.f_list (by decide +kernel) (pa_cons (pv 1) pa_nil)) rfl))), ?_⟩
    have are : ∀ H1, Ex H H1 → ∀ l, H1 l = some (.lst (ws.map V.str)) → ∀ Q : VK, RetV (.bl true) H1 Q → spAre [.ref l] H1 Q E0 := fun H1 e1 l hl Q q => ⟨l, ws, wd, rfl, hl, hv, q⟩
    have lst : ∀ {H1 : Hp} {σ : L2.St}, σ[1]? = some (some (V.ref t)) → Ex H H1 → EvL (tCB (rListS K) (tCons (tVar 1) tNil)) σ H1 (ws.map V.str) := fun {H1 σ} hσ e1 H2 e2 Q q =>
      (ev_var hσ : Ev (tVar 1) σ H1 (.ref t)) H2 e2 _ fun H3 e3 => ⟨t, _, rfl, Or.inr (st_of ((e1.trans (e2.trans e3)) _ _ ht)), fun l hl => q l _ (fresh_back e3 hl) (e3.trans (Evl.Ex.new hl)) upd_same⟩
    refine q_when (b := false) (et_is (et_not (a := true) (et_B (ev_callL (z := .bl true) (lst rfl (Evl.Ex.refl _)) fun l H1 e1 hl Q' q' => are H1 e1 l hl Q' q'))) rfl) (fun z => by cases z) fun _ H1 e1 => ?_
    · refine lst (σ := L2.start ["self", "words"] [.ref a, .ref t]) rfl e1 H1 (Evl.Ex.refl _) _ fun l H2 hl e2 h2 => ?_
      refine ⟨_, rfl, a, C, dx, [], rfl, (e1.trans e2) _ _ ha, ST.cls, ST.noheld, by decide, ?_⟩
      have hla : l ≠ a := fun z => by
        rw [z, e1 _ _ ha] at hl
        cases hl
      refine q _ (fun b o hb hbo => by rw [upd_ne hb]; exact (e1.trans e2) _ _ hbo) ⟨dx, l, upd_same, by rw [upd_ne hla]; exact h2⟩
end
end K81
end

section
set_option Elab.async false
set_option linter.all false
set_option maxRecDepth 100000
set_option maxHeartbeats 2000000
namespace K81
open PySem PySem.Spec PyProof.Rows L2 Ov Evl TxM ClX
def spOf (C : Addr) : Sp := fun vs H Q _ => ∃ (l : Addr) (ws : List Str) (wd : Nat), vs = [.ref C, .ref l] ∧ H l = some (.lst (ws.map V.str)) ∧ Valid ws wd ∧ ∀ a H', H a = none → Ex H H' → Stm C H' a ws → Q (.ref a) H'
section
variable {P : Program} {w : World} {K : PySem.W.Frag} {mg : Str → Option Value} {bh : Heap}
theorem fnR_of {CX : CXT} {k : Nat} {f : Addr} {fd : FuncData} {ps : List Str} {sp : Sp} (F : FnOk P w K mg bh CX k f fd ps sp) (hb : Binds K fd ps []) : FnR P w K mg bh CX k f sp := fun A outer s H us vs Q E hr e0 r h => by
  have kin : K.In s.heap := e0.mod.kin.keeps fun b o z => (e0.bs b o z).1
  have hl : us.length = ps.length := by rw [← r.length]; exact F.len _ _ _ _ h
  have hb2 := hb s us kin (by rw [List.append_nil]; exact hl)
  rw [List.append_nil] at hb2
  exact F.run A outer s H ⟨us, []⟩ us vs Q E hr e0 hb2 r h
theorem ok_of {f fI C : Addr} {mc : Value} {fd : FuncData} (F : Fun K "of" "Stamps.of" s_Stamps_of f fd) (T : Txt K mg) (ST : StF K mg C mc) (MK : Mk K C fI) (FR : FnR P w K mg bh CX0 3 fI (spInit C)) (D_are_words : Dn P w K mg bh CX0 4 "are_words" ["thing"] spAre) : FnOk P w K mg bh CX0 5 f fd ["cls", "words"] (spOf C) := by
  refine F.ok sc_Stamps_of (fun vs H Q E h => ?_) (fun cdv A outer s H vs Q E hr1 h => ?_)
  · obtain ⟨l, ws, wd, rfl, _⟩ := h
    rfl
  · obtain ⟨l, ws, wd, rfl, hl, hv, q⟩ := h
    have KS := ST.k
    refine ⟨_, (pss_cons (ps_if (pt_not (pt_val (pe_d D_are_words hr1 pass0 (pa_cons (pv 1) pa_nil))))
   (pss_one (ps_dead))
   pss_nil)
  (pss_one (ps_ret (pe_makeS MK FR hr1 KS pass0 (pv 1))))), ?_⟩
    refine q_when (b := false) (et_is (et_not (a := true) (et_B (ev_call' (z := .bl true) (ea_cons (ev_var rfl) ea_nil) fun H1 e1 Q' q' => ⟨l, ws, wd, rfl, e1 _ _ hl, hv, q'⟩))) rfl) (fun z => by cases z) fun _ H1 e1 => ?_
    refine ⟨_, rfl, l, _, rfl, Or.inr (sq_of (e1 _ _ hl)), fun i d hi hd hne => ?_⟩
    refine ⟨[.ref i], ws.map V.str, rfl, rfl, sz_of (by rw [List.length_map]; have := hv.l6; omega), fun t ht => ⟨i, d, t, ws, wd, rfl, ?_, upd_same, hv, fun H2 keep stm => ⟨rfl, ?_⟩⟩⟩
    · have hit : i ≠ t := fun z => by
        rw [← z, upd_same] at ht
        cases ht
      rw [upd_ne hit, upd_same]
    · refine q i H2 (fresh_back e1 hi) (fun b o hb => ?_) stm
      have hb1 := e1 _ _ hb
      have hbi : b ≠ i := ne_of_none hb1 hi
      have hbd : b ≠ d := ne_of_none hb1 hd
      have hbt : b ≠ t := fun z => by
        rw [← z, upd_ne hbi, upd_ne hbd, hb1] at ht
        cases ht
      exact keep b o hbi (by rw [upd_ne hbt, upd_ne hbi, upd_ne hbd]; exact hb1)
end
end K81
end

section
set_option Elab.async false
set_option linter.all false
set_option maxRecDepth 100000
set_option maxHeartbeats 2000000
namespace K81
open PySem PySem.Spec PyProof.Rows L2 Ov Evl TxM ClX
structure Part (ws : List Str) : Prop where
  l6 : ws.length ≤ 6
  all : ∀ u ∈ ws, u.length ≤ 8 ∧ low u = true
def nextOk (ws : List Str) (w : Str) : Bool := !(!(decide (1 ≤ w.length) && decide (w.length ≤ 8)) || !low w) && (!(decide (ws.length = 6) || decide (36 < (ws.length + 1) * w.length)) && (ws.isEmpty || (decide (some w.length = ws.head?.map (·.length)) && !decide (w ∈ ws))))
def spNext : Sp := fun vs H Q _ => ∃ (l : Addr) (ws : List Str) (w : Str), vs = [.ref l, .str w] ∧ H l = some (.lst (ws.map V.str)) ∧ Part ws ∧ w.length ≤ 5000 ∧ RetV (.bl (nextOk ws w)) H Q
theorem inV_strs (z : Str) : ∀ ws : List Str, inV (.str z) (ws.map V.str) = decide (z ∈ ws)
  | [] => rfl
  | u :: ws => by
    have h := inV_strs z ws
    unfold inV at h ⊢
    rw [List.map_cons, List.any_cons, h]
    have e : eqV (.str u) (.str z) = decide (u = z) := rfl
    rw [e]
    by_cases hu : u = z
    · rw [hu]
      simp
    · have hz : ¬ z = u := fun k => hu k.symm
      simp [hu, hz]
theorem low_ascii {u : Str} (h : low u = true) : ∀ c ∈ u.cps.toList, c < 128 := fun c hc => by
  have h1 := List.all_eq_true.mp h c hc
  have h2 : c ∈ LET.cps.toList := of_decide_eq_true h1
  have h3 : ∀ c ∈ LET.cps.toList, c < 128 := by decide +kernel
  exact h3 c h2
theorem tame_w {u : Str} (h : u.length ≤ 8 ∧ low u = true) : Tame 0 8 (.str u) :=
  Tame.str (by
    show u.cps.all (· < 0x110000) = true
    rw [← Array.all_toList]
    exact List.all_eq_true.mpr fun c hc => decide_eq_true (by have := low_ascii h.2 c hc; omega)) (fun c hc => by have := low_ascii h.2 c hc; omega) h.1
theorem tame_ws {ws : List Str} (h : Part ws) : Tame 1 54 (.list (ws.map PyData.str)) := (Tame.list (ds := ws.map PyData.str) (n := 0) (k := 8) fun d hd => by
  obtain ⟨u, hu, rfl⟩ := List.mem_map.mp hd
  exact tame_w (h.all u hu)).mono (Nat.le_refl _) (by rw [List.length_map]; have := h.l6; omega)
section
variable {P : Program} {w : World} {K : PySem.W.Frag} {mg : Str → Option Value} {bh : Heap}
theorem ok_is_next_word {f : Addr} {fd : FuncData} (F : Fun K "is_next_word" "is_next_word" s_is_next_word f fd) (T : Txt K mg) : FnOk P w K mg bh CX0 1 f fd ["words", "word"] spNext := by
  refine F.ok sc_is_next_word (fun vs H Q E h => ?_) (fun cdv A outer s H vs Q E hr h => ?_)
  · obtain ⟨l, ws, z, rfl, _⟩ := h
    rfl
  · obtain ⟨l, ws, z, rfl, hl, hp, hz, k⟩ := h
    refine ⟨_, (pss_cons (ps_if (PW.pt (pw_or (pt_not (pt_chain op_le op_le pe_int (pe_callB call_len_str rfl T.f_len (by decide +kernel) (pa_cons (pv 1) pa_nil)) (pe_gi T.c_MOST_WIDTH_codes))) (pw_or1 (pt_not (pt_val (pe_callB (cr_all rfl) rfl T.f_all (by decide +kernel) (pa_cons (pe_lc (own := [("letter", 2)]) (g := gName 2) (tt := tYes) (by rfl) sc_is_next_word.nd (pi_str (pv 1)) (blkOk_by (own := [("letter", 2)]) (N := ["words", "word", "letter"]) (sc := defScope s_is_next_word) (by decide +kernel)) (fun _ _ _ _ _ => pg_name (i := 2) sc_is_next_word.nd rfl (.inl rfl)) (fun _ _ _ _ _ => pts_nil) (fun _ _ _ _ _ => (pe_cmpR op_in_sign (pv 2) (pe_gs T.c_LETTERS_codes) rfl))) pa_nil)))))))
   (pss_one (ps_ret pe_bl))
   pss_nil)
  (pss_cons (ps_if (PW.pt (pw_or (pt_cmpR op_eq (pe_callB call_len_seq rfl T.f_len (by decide +kernel) (pa_cons (pv 0) pa_nil)) (pe_gi T.c_MOST_WORDS) (nomark _)) (pw_or1 (pt_cmpR op_gt (pe_op op_mul (pe_op op_add (pe_callB call_len_seq rfl T.f_len (by decide +kernel) (pa_cons (pv 0) pa_nil)) pe_int) (pe_callB call_len_str rfl T.f_len (by decide +kernel) (pa_cons (pv 1) pa_nil))) (pe_gi T.c_MOST_LETTERS_codes) (nomark _)))))
   (pss_one (ps_ret pe_bl))
   pss_nil)
  (pss_one (ps_ret (pe_or (pe_cmpR (op_eqD hr.units) (pv 0) (pe_lst pa_nil) (nomark _)) (pe_one (pe_and (pe_cmpR op_eq (pe_callB call_len_str rfl T.f_len (by decide +kernel) (pa_cons (pv 1) pa_nil)) (pe_callB call_len_str rfl T.f_len (by decide +kernel) (pa_cons (pe_ix ix_list (pv 0) pe_int (fun _ _ => rfl)) pa_nil)) (nomark _)) (pe_one (pe_cmpR op_notIn_seq (pv 1) (pv 0) rfl))))))))), ?_⟩
    have h6 := hp.l6
    have hlen : (ws.map V.str).length = ws.length := List.length_map ..
    refine q_when (b := !(decide (1 ≤ z.length) && decide (z.length ≤ 8)) || !low z) (et_or (et_not (et_test (ev_is (ev_chain ev_c (ev_cb (ea_cons (ev_var rfl) ea_nil) (rc_lenS (by omega))) rv_I0 (fun _ => ev_c) (fun _ => rv_I0)) ?_)))
      (fun _ => et_not (et_B (ev_is (ev_all (bs := z.cps.toList.map isL) (el_is (el_lcS (fun c => .bl (isL c)) (ev_var rfl) (by omega) (fun _ => rfl) (fun c H1 e => ev_op (ev_var rfl) ev_c rv_inSign)) (by rw [List.map_map]; rfl))) (by rw [List.all_map]; rfl))))) (fun hb H1 e1 => ?_) (fun hb H1 e1 => ?_)
    · exact congrArg V.bl (congr (congrArg and (decide_eq_decide.mpr (by omega))) (decide_eq_decide.mpr (by omega)))
    · have e : nextOk ws z = false := by
        unfold nextOk
        rw [hb] <;> rfl
      rw [e] at k
      exact s_ret ev_c fun H2 e2 => k H2 (e1.trans e2)
    have hl1 := e1 _ _ hl
    refine q_when (b := decide (ws.length = 6) || decide (36 < (ws.length + 1) * z.length)) (et_or (et_test (ev_is (ev_op (ev_len (ev_var rfl) (sq_of hl1)) ev_c (rv_eq rfl)) ?_)) fun _ => et_test (ev_is (ev_op (ev_op (ev_op (ev_len (ev_var rfl) (sq_of hl1)) ev_c rv_I0) (ev_cb (ea_cons (ev_var rfl) ea_nil) (rc_lenS (by omega))) (rv_I ?_)) ev_c rv_I0) ?_)) (fun hb2 H2 e2 => ?_) (fun hb2 H2 e2 => ?_)
    · rw [hlen]
      refine congrArg V.bl (decide_eq_decide.mpr ⟨fun z => ?_, fun z => ?_⟩)
      · injection z with z
        omega
      · rw [z] <;> rfl
    · rw [hlen]
      exact .inl ⟨by omega, by omega⟩
    · rw [hlen]
      refine congrArg V.bl (decide_eq_decide.mpr ?_)
      have : (((ws.length : Int) + 1) * (z.length : Int)) = (((ws.length + 1) * z.length : Nat) : Int) := by simp
      rw [this]
      omega
    · have e : nextOk ws z = false := by
        unfold nextOk
        rw [hb2]
        simp
      rw [e] at k
      exact s_ret ev_c fun H3 e3 => k H3 ((e1.trans e2).trans e3)
    have hl2 := e2 _ _ hl1
    have e : nextOk ws z = (ws.isEmpty || (decide (some z.length = ws.head?.map (·.length)) && !decide (z ∈ ws))) := by
      unfold nextOk
      rw [hb, hb2] <;> rfl
    rw [e] at k
    refine s_ret (ev_orV (a := ws.isEmpty) (b := decide (some z.length = ws.head?.map (·.length)) && !decide (z ∈ ws)) (ev_opL (ev_var rfl) (el_lst ea_nil (Nat.zero_le _)) fun p H3 h3 e3 => ?_) fun hne => ev_andV ?_ fun _ => ?_) fun H3 e3 => k H3 ((e1.trans e2).trans e3)
    · have he : ws.isEmpty = PyData.eqv (.list (ws.map PyData.str)) (.list []) := by cases ws <;> rfl
      rw [he]
      exact rv_eqD (dp_lst (e3 _ _ hl2) dpAll_strs) (dp_lst h3 .nil) (tame_ws hp) ((Tame.list (ds := []) (n := 0) (k := 9) fun d z => by cases z).mono (Nat.le_refl _) (by decide)) (by decide)
    · obtain ⟨w0, rest, rfl⟩ : ∃ w0 rest, ws = w0 :: rest := by
        cases ws with
        | nil => cases hne
        | cons a b => exact ⟨a, b, rfl⟩
      have hw0 := (hp.all w0 List.mem_cons_self).1
      refine ev_is (ev_op (ev_cb (ea_cons (ev_var rfl) ea_nil) (rc_lenS (by omega))) (ev_cb (ea_cons (ev_op (ev_var rfl) ev_c (rv_ixL (v := .str w0) (sq_of hl2) (atI_nat (j := 0) rfl))) ea_nil) (rc_lenS (by omega))) (rv_eq rfl)) ?_
      refine congrArg V.bl (decide_eq_decide.mpr ⟨fun z => ?_, fun z => ?_⟩)
      · injection z with z
        show some _ = some w0.length
        congr 1
        omega
      · have h3 : some _ = some w0.length := z
        injection h3 with h3
        rw [h3]
    · refine ev_is (ev_op (ev_var rfl) (ev_var rfl) (rv_niL (sq_of hl2) rfl (by rw [List.all_map]; exact List.all_eq_true.mpr fun _ _ => rfl))) ?_
      rw [inV_strs]
end
end K81
end

section
set_option Elab.async false
set_option linter.all false
set_option maxRecDepth 100000
set_option maxHeartbeats 2000000
namespace K81
open PySem PySem.Spec PyProof.Rows L2 Ov Evl TxM ClX
def readL : Nat → List Str → List Str → Except Nat (List Str)
  | _, acc, [] => .ok acc
  | n, acc, z :: zs => if nextOk acc z = true then readL (n + 1) (acc ++ [z]) zs else .error n
def readS (z : Str) : Except Nat (List Str) := readL 0 [] (wds z)
def Good (acc : List Str) : Prop := acc = [] ∨ ∃ wd, Valid acc wd
theorem Good.part {acc : List Str} (h : Good acc) : Part acc := by
  rcases h with rfl | ⟨wd, h⟩
  · exact ⟨by decide, fun u hu => by cases hu⟩
  · exact ⟨h.l6, fun u hu => ⟨by rw [(h.all u hu).1]; exact h.w8, (h.all u hu).2⟩⟩
theorem Good.snoc {acc : List Str} {z : Str} (h : Good acc) (hn : nextOk acc z = true) : Valid (acc ++ [z]) z.length := by
  unfold nextOk at hn
  simp only [Bool.and_eq_true, Bool.not_eq_true', Bool.or_eq_false_iff, Bool.not_eq_false', decide_eq_true_eq, decide_eq_false_iff_not, Bool.or_eq_true] at hn
  obtain ⟨⟨⟨h1, h2⟩, h3⟩, ⟨h4, h5⟩, h6⟩ := hn
  rcases h with rfl | ⟨wd, hv⟩
  · exact ⟨by simp, by simp, h1, h2, fun u hu => by cases List.mem_singleton.mp hu; exact ⟨rfl, h3⟩, by simp; omega, by simp⟩
  · have hne : acc ≠ [] := fun k => by have := hv.l1; rw [k] at this; simp at this
    have h7 : some z.length = acc.head?.map (·.length) ∧ z ∉ acc := by
      rcases h6 with h6 | h6
      · exact absurd (List.isEmpty_iff.mp h6) hne
      · exact h6
    obtain ⟨w0, rest, rfl⟩ : ∃ w0 rest, acc = w0 :: rest := by
      cases acc with
      | nil => exact absurd rfl hne
      | cons a b => exact ⟨a, b, rfl⟩
    have hz : z.length = w0.length := by
      have h8 : some z.length = some w0.length := h7.1
      injection h8
    have hw : w0.length = wd := (hv.all w0 List.mem_cons_self).1
    refine ⟨by simp, ?_, h1, h2, fun u hu => ?_, ?_, ?_⟩
    · have := hv.l6
      rw [List.length_append, List.length_singleton]
      omega
    · rcases List.mem_append.mp hu with hu | hu
      · exact ⟨by rw [(hv.all u hu).1, hz, hw], (hv.all u hu).2⟩
      · cases List.mem_singleton.mp hu
        exact ⟨rfl, h3⟩
    · rw [List.length_append, List.length_singleton, Nat.mul_comm]
      omega
    · refine List.nodup_append.mpr ⟨hv.nd, by simp, fun a ha b hb => ?_⟩
      cases List.mem_singleton.mp hb
      exact fun k => h7.2 (k ▸ ha)
abbrev s_init : Stmt := s_InvalidCode___init__
def spRead (C Ca : Addr) : Sp := fun vs H Q E => ∃ z : Str, vs = [.str z] ∧ z.length ≤ 5000 ∧ match readS z with
  | .ok ws => ∀ a H', H a = none → Ex H H' → Stm C H' a ws → Q (.ref a) H'
  | .error n => ∀ dd H', Ex H H' → H dd = none → H' dd = some (.xd [("at", .int (n : Int))]) → E (.ref Ca) (some dd) H'
def spWrite (C : Addr) : Sp := fun vs H Q _ => ∃ (a : Addr) (ws : List Str), vs = [.ref a] ∧ Stm C H a ws ∧ Part ws ∧ RetV (.str (Txt.join " " ws)) H Q
section
variable {P : Program} {w : World} {K : PySem.W.Frag} {mg : Str → Option Value} {bh : Heap}
theorem ok_read_stamps {f fI Ca C pO gO : Addr} {mc : Value} {fd fdI : FuncData} (F : Fun K "read_stamps" "read_stamps" s_read_stamps f fd) (T : Txt K mg) (ST : StF K mg C mc) (MO : CMet K C mc "of" pO gO) (D_of : FnR P w K mg bh CX0 5 gO (spOf C)) (D_is_next_word : Dn P w K mg bh CX0 5 "is_next_word" ["words", "word"] spNext)
    (terr : ErrI K "InvalidCode" Ca fI) (FI : FnOk P w K mg bh CX0 4 fI fdI ["self", "at"] (spAt K Ca "at")) (bI : Binds K fdI ["self", "at"] []) (kI : mg "InvalidCode" = some (.ref Ca)) :
    FnOk P w K mg bh (L2N.CX P w) 6 f fd ["code"] (spRead C Ca) := by
  refine okC F sc_read_stamps (fun vs H Q E h => ?_) (fun cdv A outer s H vs Q E hr1 h => ?_)
  · obtain ⟨z, rfl, _⟩ := h
    rfl
  · obtain ⟨z, rfl, hz, q⟩ := h
    have KS := ST.k
    refine ⟨_, (pss_cons (ps_set (i := 1) sc_read_stamps.nd rfl (Or.inl rfl) (pe_lst pa_nil))
  (pss_cons (ps_for (passes_of rfl) rfl (pi_enum rfl T.f_enumerate (pa_cons (pe_split (pv 0) pe_str) pa_nil)) (pg_tup rfl (pgs_cons (pg_name (i := 2) sc_read_stamps.nd rfl (.inl rfl)) (pgs_cons (pg_name (i := 3) sc_read_stamps.nd rfl (.inl rfl)) pgs_nil)))
   (pss_cons (ps_if (pt_not (pt_val (pe_d D_is_next_word hr1 pass0 (pa_cons (pv 1) (pa_cons (pv 3) pa_nil)))))
   (pss_one (L2N.ps_raise rfl (L2N.takes_of rfl rfl rfl rfl) (pmk_err terr FI hr1 bI pass0 kI (pa_cons (pv 2) pa_nil))))
   pss_nil)
  (pss_one (ps_expr (pe_bm PySem.F.plainAttrs_list PySem.F.slot_list_append PySem.F.type_list_append mt_append (pv 1) (pa_cons (pv 3) pa_nil))))))
  (pss_one (ps_ret (ClX.pe_cmeth (pe_gr KS) ST.rd MO D_of hr1 pass0 (pa_cons (pv 1) pa_nil)))))), ?_⟩
    have hlw := wds_len z
    unfold readS at q
    refine q_asgL (el_lst ea_nil (Nat.zero_le _)) fun p H1 hp e1 h1 => ?_
    refine q_forEnL (xs := (wds z).map V.str) (by rw [← split_wds]; exact el_split (ev_var rfl) ev_c (by decide +kernel) (by omega)) fun a H2 ha0 e2 ha => ?_
    have hap : a ≠ p := fun k => by
      rw [k, h1] at ha0
      cases ha0
    have ha00 : H a = none := fresh_back e1 ha0
    have eG : Ex H (upd H a (.lst ((wds z).map V.str))) := Evl.Ex.new ha00
    have hGp : upd H a (.lst ((wds z).map V.str)) p = none := by rw [upd_ne (fun k => hap k.symm)]; exact hp
    have hGa : upd H a (.lst ((wds z).map V.str)) a = some (.lst ((wds z).map V.str)) := upd_same
    have eG2 : Ex (upd H a (.lst ((wds z).map V.str))) H2 := fun b o hb => by
      by_cases hba : b = a
      · subst hba
        rw [upd_same] at hb
        cases hb
        exact ha
      · rw [upd_ne hba] at hb
        exact (e1.trans e2) _ _ hb
    generalize upd H a (.lst ((wds z).map V.str)) = G at eG hGp hGa eG2
    refine q_forEn (a := a) (xs := (wds z).map V.str) (ea_cons ev_c ea_nil) (sq_of ha) (fun i σ' H' => (∃ x2 x3, σ' = [some (.str z), some (.ref p), x2, x3]) ∧ Ex G H' ∧ ∃ acc, H' p = some (.lst (acc.map V.str)) ∧ Good acc ∧ acc.length = i ∧ readL 0 [] (wds z) = readL i acc ((wds z).drop i))
      (fun H4 e4 => ⟨⟨_, _, rfl⟩, eG2.trans e4, [], e4 _ _ (e2 _ _ h1), .inl rfl, rfl, by rw [List.drop_zero]⟩) (fun i σ' H' _ hP => sq_of (hP.2.1 _ _ hGa)) (fun i x σ' H' hi hP H4 e4 => ?_) (fun σ' H' hP => ?_)
    · obtain ⟨⟨x2, x3, rfl⟩, hxG, acc, hpx, hg, hl, hrd⟩ := hP
      have hx := eG.trans hxG
      obtain ⟨hil, hxi⟩ := List.getElem?_eq_some_iff.mp hi
      rw [List.length_map] at hil
      obtain rfl : x = .str (wds z)[i] := by rw [← hxi, List.getElem_map]
      have hwl : ((wds z)[i]).length ≤ 5000 := Nat.le_trans (wds_mem (List.getElem_mem hil)) hz
      have hd : readL i acc ((wds z).drop i) = if nextOk acc (wds z)[i] = true then readL (i + 1) (acc ++ [(wds z)[i]]) ((wds z).drop (i + 1)) else .error i := by rw [List.drop_eq_getElem_cons hil] <;> rfl
      rw [hd] at hrd
      have hpx4 := e4 _ _ hpx
      refine q_when (b := !nextOk acc (wds z)[i]) (et_not (et_B (ev_call' (z := .bl (nextOk acc (wds z)[i])) (ea_cons (ev_var rfl) (ea_cons (ev_var rfl) ea_nil)) fun H5 e5 Q' q' => ⟨p, acc, _, rfl, e5 _ _ hpx4, hg.part, hwl, q'⟩))) (fun hb H6 e6 => ?_) (fun hb H6 e6 => ?_)
      · have hb2 : nextOk acc (wds z)[i] = false := by simpa using hb
        rw [hb2, if_neg (by decide)] at hrd
        rw [hrd] at q
        exact mk_at (ea_cons (ev_var rfl) ea_nil) fun dd H7 e7 hdd h7 => q dd H7 (((hx.trans e4).trans e6).trans e7) (fresh_back ((hx.trans e4).trans e6) hdd) h7
      · have hb2 : nextOk acc (wds z)[i] = true := by simpa using hb
        rw [hb2, if_pos rfl] at hrd
        have h6 := hg.part.l6
        refine s_app (e6 _ _ hpx4) (ev_var rfl) (ev_var rfl) (by rw [List.length_map]; omega) fun H7 e7 => ⟨⟨_, _, rfl⟩, Evl.Ex.mut (((hxG.trans e4).trans e6).trans e7) hGp, acc ++ [(wds z)[i]], by rw [upd_same, List.map_append] <;> rfl, .inr ⟨_, hg.snoc hb2⟩, by simp [hl], hrd⟩
    · obtain ⟨⟨x2, x3, rfl⟩, hxG, acc, hpx, hg, hl, hrd⟩ := hP
      have hdr : (wds z).drop (((wds z).map V.str).length) = [] := by rw [List.length_map]; exact List.drop_length
      rw [hdr] at hrd
      have hrd2 : readL 0 [] (wds z) = .ok acc := hrd
      rw [hrd2] at q
      have hne : acc ≠ [] := fun k => by
        rw [k, List.length_map] at hl
        exact wds_ne z (List.length_eq_zero_iff.mp hl.symm)
      obtain ⟨wd, hv⟩ : ∃ wd, Valid acc wd := by
        rcases hg with h | h
        · exact absurd h hne
        · exact h
      exact ⟨rfl, .ref p, rfl, p, acc, wd, rfl, hpx, hv, fun a H4 ha e4 st => q a H4 (fresh_back (eG.trans hxG) ha) ((eG.trans hxG).trans e4) st⟩
end
end K81
end

section
set_option Elab.async false
set_option linter.all false
set_option maxRecDepth 100000
set_option maxHeartbeats 2000000
namespace K81
open PySem PySem.Spec PyProof.Rows L2 Ov Evl TxM ClX
/-- what the module says of the error classes -/
structure TxX (K : PySem.W.Frag) (mg : Str → Option Value) (Ca : Addr) : Prop where
  k_InvalidCode : mg "InvalidCode" = some (.ref Ca)
  k_InvalidName : mg "InvalidName" = some (.ref (ad mg "InvalidName"))
  k_InvalidNumber : mg "InvalidNumber" = some (.ref (ad mg "InvalidNumber"))
  k_InvalidOrder : mg "InvalidOrder" = some (.ref (ad mg "InvalidOrder"))
  k_InvalidParts : mg "InvalidParts" = some (.ref (ad mg "InvalidParts"))
  k_InvalidStamping : mg "InvalidStamping" = some (.ref (ad mg "InvalidStamping"))
  k_InvalidStamps : mg "InvalidStamps" = some (.ref (ad mg "InvalidStamps"))
  k_InvalidStrip : mg "InvalidStrip" = some (.ref (ad mg "InvalidStrip"))
  k_InvalidText : mg "InvalidText" = some (.ref (ad mg "InvalidText"))
  k_NotPossible : mg "NotPossible" = some (.ref (ad mg "NotPossible"))
  k_NothingToUndo : mg "NothingToUndo" = some (.ref (ad mg "NothingToUndo"))
  k_StampError : mg "StampError" = some (.ref (ad mg "StampError"))
  no1 : PySem.W.kitAny K (.ref Ca) [.ref (ad mg "InvalidName"), .ref (ad mg "InvalidNumber"), .ref (ad mg "InvalidOrder"), .ref (ad mg "InvalidParts"), .ref (ad mg "InvalidStamping"), .ref (ad mg "InvalidStamps")] = some false
  no2 : PySem.W.kitAny K (.ref Ca) [.ref (ad mg "InvalidStrip"), .ref (ad mg "InvalidText"), .ref (ad mg "NotPossible"), .ref (ad mg "NothingToUndo")] = some false
  isV : PySem.W.kitOne K (.ref Ca) (.type "ValueError") = some true
  isC : PySem.W.kitOne K (.ref Ca) (.ref Ca) = some true
  exS : PySem.W.exmOne K (.ref Ca) (.ref (ad mg "StampError")) = some true
  noat : PySem.W.findIn K (.ref Ca) "at" = some none
  ex : ExK K Ca
def spReadAt (Ca : Addr) : SpE := fun a cls d vs H Q _ => vs = [.ref a] ∧ ∃ (dd : Addr) (n : Int), cls = .ref Ca ∧ d = some dd ∧ H dd = some (.xd [("at", .int n)]) ∧ ∀ t H', H t = none → Ex H H' → H' t = some (.tup [.str "at", .int n]) → Q (.ref t) H'
section
variable {P : Program} {w : World} {K : PySem.W.Frag} {mg : Str → Option Value} {bh : Heap}
theorem ok_law_read_at {f Ca : Addr} {fd : FuncData} (F : Fun K "_law_read_at" "_law_read_at" s__law_read_at f fd) (T : Txt K mg) (X : TxX K mg Ca) : FnE P w K mg bh CX0 1 f fd ["e"] (spReadAt Ca) := by
  refine FnE.fun_ F sc__law_read_at (fun a cls d vs H Q E h => ?_) (fun cdv A outer s H vs Q E p cls d hot hz hr h => ?_)
  · obtain ⟨rfl, _⟩ := h
    rfl
  · obtain ⟨a, oe⟩ := p
    obtain ⟨rfl, dd, n, rfl, rfl, hd, q⟩ := h
    have hf : ∃ vs, oe.data = .fields vs := ⟨hot.2.choose, hot.2.choose_spec.1⟩
    have hp : (a, oe) ∈ [(a, oe)] := List.mem_singleton_self _
    have EX := X.ex
    refine ⟨_, (pss_cons (ps_set (i := 1) sc__law_read_at.nd rfl (Or.inl rfl) (pe_callB (call_isPT EX hp hz hf) rfl T.f_isinstance (by decide +kernel) (pa_cons (pv 0) (pa_cons (pe_tup (pa_cons (pe_gr X.k_InvalidName) (pa_cons (pe_gr X.k_InvalidNumber) (pa_cons (pe_gr X.k_InvalidOrder) (pa_cons (pe_gr X.k_InvalidParts) (pa_cons (pe_gr X.k_InvalidStamping) (pa_cons (pe_gr X.k_InvalidStamps) pa_nil))))))) pa_nil))))
  (pss_cons (ps_set (i := 1) sc__law_read_at.nd rfl (Or.inl rfl) (pe_or (pv 1) (pe_one (pe_callB (call_isPT EX hp hz hf) rfl T.f_isinstance (by decide +kernel) (pa_cons (pv 0) (pa_cons (pe_tup (pa_cons (pe_gr X.k_InvalidStrip) (pa_cons (pe_gr X.k_InvalidText) (pa_cons (pe_gr X.k_NotPossible) (pa_cons (pe_gr X.k_NothingToUndo) pa_nil))))) pa_nil))))))
  (pss_cons (ps_if (PW.pt (pw_or (pt_val (pv 1)) (pw_or1 (pt_not (pt_val (pe_callB (call_isP EX hp hz hf) rfl T.f_isinstance (by decide +kernel) (pa_cons (pv 0) (pa_cons (pe_ty (T := "ValueError") T.f_ValueError (by decide +kernel)) pa_nil))))))))
   (pss_one (ps_ret pe_str))
   pss_nil)
  (pss_one (ps_ret (pe_ifExp (pt_val (pe_callB (call_isP EX hp hz hf) rfl T.f_isinstance (by decide +kernel) (pa_cons (pv 0) (pa_cons (pe_gr X.k_InvalidCode) pa_nil)))) (pe_tup (pa_cons pe_str (pa_cons (pe_xp EX X.noat hp hz hf (pv 0)) pa_nil))) pe_str)))))), ?_⟩
    have hx : XdAt H (some dd) := ⟨_, hd⟩
    refine q_asg (ev_isPT (ev_var rfl) (ea_cons ev_c (ea_cons ev_c (ea_cons ev_c (ea_cons ev_c (ea_cons ev_c (ea_cons ev_c ea_nil)))))) (.cons (.own _) (.cons (.own _) (.cons (.own _) (.cons (.own _) (.cons (.own _) (.cons (.own _) .nil)))))) (by show 6 ≤ 100; decide) hx X.no1) fun H1 e1 => ?_
    have hx1 := hx.ex e1
    refine q_asg (ev_orV (b := false) (ev_var rfl) fun _ => ev_isPT (ev_var rfl) (ea_cons ev_c (ea_cons ev_c (ea_cons ev_c (ea_cons ev_c ea_nil)))) (.cons (.own _) (.cons (.own _) (.cons (.own _) (.cons (.own _) .nil)))) (by show 4 ≤ 100; decide) hx1 X.no2) fun H2 e2 => ?_
    have hx2 := hx1.ex e2
    refine q_when (b := false) (et_is (et_or (a := false) (b := false) (et_test (ev_var rfl)) fun _ => et_is (et_not (a := true) (et_test (ev_isP (ev_var rfl) ev_c (.ty _) hx2 X.isV))) rfl) rfl) (fun z => by cases z) fun _ H3 e3 => ?_
    have hx3 := hx2.ex e3
    have hd3 := e3 _ _ (e2 _ _ (e1 _ _ hd))
    refine s_retU (xs := [.str "at", .int n]) (fun H4 e4 Q' q' => ?_) fun t H4 ht e4 h4 => q t H4 (fresh_back ((e1.trans e2).trans e3) ht) (((e1.trans e2).trans e3).trans e4) h4
    refine et_test (ev_isP (ev_var rfl) ev_c (.own _) hx3 X.isC) H4 e4 _ fun H5 e5 => ?_
    exact eu_tup (ea_cons ev_c (ea_cons (ev_xp (v := .int n) (ev_var rfl) hd3 rfl) ea_nil)) (by show 2 ≤ 100000; decide) H5 (e4.trans e5) _ fun t H6 ht e6 h6 => q' t H6 (fresh_back e5 ht) (e5.trans e6) h6
theorem el_words {σ : L2.St} {H : Hp} {te : TE} {a C : Addr} {ws : List Str} {E : XK} (h : Ev te σ H (.ref a)) (st : Stm C H a ws) : EvL (tProp C (spWords C) [] E te) σ H (ws.map V.str) := fun H1 e Q q =>
  h H1 e _ fun H2 e2 => by
    obtain ⟨dx, l, h1, h2⟩ := st.ex (e.trans e2)
    exact ⟨a, dx, _, rfl, h1, a, ws, rfl, ⟨dx, l, h1, h2⟩, fun p H3 hp e3 h3 => q p H3 (fresh_back e2 hp) (e2.trans e3) h3⟩
theorem part_sum {ws : List Str} (h : Part ws) : (ws.map (·.length)).sum + ws.length * 1 ≤ 54 := by
  have key : ∀ us : List Str, (∀ u ∈ us, u.length ≤ 8) → (us.map (·.length)).sum ≤ us.length * 8 := fun us => by
    induction us with
    | nil => exact fun _ => Nat.zero_le _
    | cons u us ih =>
      intro hu
      rw [List.map_cons, List.sum_cons, List.length_cons, Nat.succ_mul]
      have := hu u List.mem_cons_self
      have := ih fun v hv => hu v (List.mem_cons_of_mem _ hv)
      omega
  have := key ws fun u hu => (h.all u hu).1
  have := h.l6
  omega
theorem ok_write_stamps {f pW gW C : Addr} {mc : Value} {fd fdW : FuncData} (F : Fun K "write_stamps" "write_stamps" s_write_stamps f fd) (T : Txt K mg) (ST0 : StF K mg C mc) (PW : PropOf K C "words" pW gW) (D_words : FnOk P w K mg bh CX0 1 gW fdW ["self"] (spWords C)) (B_words : Binds K fdW ["self"] []) : FnOk P w K mg bh CX0 3 f fd ["stamps"] (spWrite C) := by
  refine F.ok sc_write_stamps (fun vs H Q E h => ?_) (fun cdv A outer s H vs Q E hr1 h => ?_)
  · obtain ⟨a, ws, rfl, _⟩ := h
    rfl
  · obtain ⟨a, ws, rfl, st, hp, k⟩ := h
    refine ⟨_, (pss_one (ps_ret (pe_join pe_str (pe_prop (pv 0) ST0.cls PW (okUp D_words (by decide)) hr1 B_words .nil pass0 rfl)))), ?_⟩
    exact s_ret (ev_join ev_c (el_words (ev_var rfl) st) (by
      have := part_sum hp
      rw [show (" " : Str).length = 1 from rfl]
      omega)) fun H1 e1 => k H1 e1
end
end K81
end

section
set_option Elab.async false
set_option linter.all false
set_option maxRecDepth 100000
set_option maxHeartbeats 400000
namespace Ov
open PySem PySem.Spec PyProof.Rows L2 Evl
section
variable {K : PySem.W.Frag} {σ : L2.St} {H : Hp} {te : TE} {tt : TT}
/-- [f c for c in s if p c] -/
theorem el_lcSF {s : Str} {tl : TE} {j : Nat} {vs : List Nat} (p : Nat → Bool) (f : Nat → V) (h : Ev tl σ H (.str s)) (hz : s.length ≤ 40000) (hw : ∀ x, wipe ((wipe σ vs).set j (some x)) vs = wipe σ vs)
    (ht : ∀ (c : Nat) H1, Ex H H1 → EvT tt ((wipe σ vs).set j (some (.str ⟨#[c]⟩))) H1 (p c)) (he : ∀ (c : Nat) H1, Ex H H1 → Ev te ((wipe σ vs).set j (some (.str ⟨#[c]⟩))) H1 (f c)) :
    EvL (tLc (iStr tl) (gName j) tt te vs) σ H ((s.cps.toList.filter p).map f) := fun H0 e Q q => h H0 e _ fun H1 e1 => ⟨s, rfl, fun D hD =>
  lc_it (walk_str (z := s)) (fun i H' => H1 D = none ∧ Ex H1 H' ∧ H' D = some (.lst (((s.cps.toList.take i).filter p).map f))) ⟨hD, Evl.Ex.new hD, by rw [List.take_zero]; exact upd_same⟩ (fun _ _ _ _ => trivial) (fun i x H2 H3 hi w hy => by
    obtain ⟨rfl, c, hc, rfl⟩ := hy
    obtain ⟨w1, w2, w3⟩ := w
    have hl : (((s.cps.toList.take i).filter p).map f).length < 100000 := by
      rw [List.length_map]
      have h1 := List.length_filter_le p (s.cps.toList.take i)
      have h2 : (s.cps.toList.take i).length ≤ s.cps.toList.length := List.length_take_le' ..
      have h3 : s.cps.toList.length = s.cps.size := Array.length_toList
      have h4 : s.cps.size ≤ 40000 := hz
      exact Nat.lt_of_le_of_lt (Nat.le_trans h1 (Nat.le_trans h2 (by omega))) (by decide : 40000 < 100000)
    have hs : s.cps.toList.take (i + 1) = s.cps.toList.take i ++ [c] := by
      rw [List.take_succ, Array.getElem?_toList, hc] <;> rfl
    refine ⟨hw _, ht c H3 ((e.trans e1).trans w2) H3 (Evl.Ex.refl _) _ fun H4 e4 => ?_⟩
    cases hp : p c with
    | true =>
      show te _ H4 _
      refine he c H4 (((e.trans e1).trans w2).trans e4) H4 (Evl.Ex.refl _) _ fun H5 e5 => ⟨_, e5 D _ (e4 D _ w3), sz_lt hl, w1, Evl.Ex.mut ((w2.trans e4).trans e5) w1, ?_⟩
      rw [upd_same, hs, List.filter_append, List.map_append]
      have : [c].filter p = [c] := by simp [hp]
      rw [this] <;> rfl
    | false =>
      show _ ∧ _ ∧ _
      refine ⟨w1, w2.trans e4, ?_⟩
      rw [hs, List.filter_append]
      have : [c].filter p = [] := by simp [hp]
      rw [this, List.append_nil]
      exact e4 D _ w3) (fun H' w => q D H' (fresh_back e1 w.1) (e1.trans w.2.1) (by
      rw [w.2.2]
      congr 4
      exact List.take_of_length_le (by rw [Array.length_toList]; exact Nat.le_refl _)))⟩
end
end Ov
end

section
set_option Elab.async false
set_option linter.all false
set_option maxRecDepth 100000
set_option maxHeartbeats 2000000
namespace K81
open PySem PySem.Spec PyProof.Rows L2 Ov Evl TxM ClX
/-- what is told: a new list of words, or a new tuple -/
def RetN (z : Str) (H : Hp) (Q : VK) : Prop := match readS z with
  | .ok ws => ∀ t H', H t = none → Ex H H' → H' t = some (.lst (ws.map V.str)) → Q (.ref t) H'
  | .error n => ∀ t H', H t = none → Ex H H' → H' t = some (.tup [.str "at", .int (n : Int)]) → Q (.ref t) H'
def spDue : Sp := fun vs H Q _ => ∃ z : Str, vs = [.str z] ∧ z.length ≤ 5000 ∧ RetN z H Q
section
variable {P : Program} {w : World} {K : PySem.W.Frag} {mg : Str → Option Value} {bh : Heap}
theorem ok_law_due {f : Addr} {fd : FuncData} (F : Fun K "_law_due" "_law_due" s__law_due f fd) (T : Txt K mg) : FnOk P w K mg bh CX0 1 f fd ["given"] spDue := by
  refine F.ok sc__law_due (fun vs H Q E h => ?_) (fun cdv A outer s H vs Q E hr h => ?_)
  · obtain ⟨z, rfl, _⟩ := h
    rfl
  · obtain ⟨z, rfl, hz, q⟩ := h
    refine ⟨_, (pss_cons (ps_set (i := 1) sc__law_due.nd rfl (Or.inl rfl) (pe_lst pa_nil))
  (pss_cons (ps_for PassesOwn.never rfl (pi_enum rfl T.f_enumerate (pa_cons (pe_split (pv 0) pe_str) pa_nil)) (pg_tup rfl (pgs_cons (pg_name (i := 2) sc__law_due.nd rfl (.inl rfl)) (pgs_cons (pg_name (i := 3) sc__law_due.nd rfl (.inl rfl)) pgs_nil)))
   (pss_cons (ps_setLc (i := 4) (own := [("sign", 6)]) (g := gName 6) (by rfl) sc__law_due.nd rfl rfl (sw_true rfl rfl rfl (by decide +kernel)) (pi_str (pv 3)) (blkOk_by (own := [("sign", 6)]) (N := ["given", "found", "at", "word", "letters", "fine", "sign"]) (sc := defScope s__law_due) (by decide +kernel)) (fun _ _ _ _ _ => pg_name (i := 6) sc__law_due.nd rfl (.inl rfl)) (fun _ _ _ _ _ => pts_one (pt_cmpR op_in_sign (pv 6) pe_str rfl)) (fun _ _ _ _ _ => (pv 6)))
  (pss_cons (ps_set (i := 5) sc__law_due.nd rfl (Or.inl rfl) (pe_and (pe_chain op_le op_le pe_int (pe_callB call_len_str rfl T.f_len (by decide +kernel) (pa_cons (pv 3) pa_nil)) pe_int) (pe_and (pe_cmpR op_eq (pe_callB call_len_seq rfl T.f_len (by decide +kernel) (pa_cons (pv 4) pa_nil)) (pe_callB call_len_str rfl T.f_len (by decide +kernel) (pa_cons (pv 3) pa_nil)) (nomark _)) (pe_one (pe_cmpR op_notIn_seq (pv 3) (pv 1) rfl)))))
  (pss_cons (ps_set (i := 5) sc__law_due.nd rfl (Or.inl rfl) (pe_and (pv 5) (pe_and (pe_cmpR op_le (pe_op op_mul (pe_callB call_len_str rfl T.f_len (by decide +kernel) (pa_cons (pv 3) pa_nil)) (pe_op op_add (pv 2) pe_int)) pe_int (nomark _)) (pe_one (pe_cmpR op_lt (pv 2) pe_int (nomark _))))))
  (pss_cons (ps_if (PW.pt (pw_or (pt_not (pt_val (pv 5))) (pw_or1 (PW.pt (pw_and (pt_cmpR op_gt (pv 2) pe_int (nomark _)) (pw_and1 (pt_cmpR op_ne (pe_callB call_len_str rfl T.f_len (by decide +kernel) (pa_cons (pv 3) pa_nil)) (pe_callB call_len_str rfl T.f_len (by decide +kernel) (pa_cons (pe_ix ix_list (pv 1) pe_int (fun _ _ => rfl)) pa_nil)) (nomark _))))))))
   (pss_one (ps_ret (pe_tup (pa_cons pe_str (pa_cons (pv 2) pa_nil)))))
   pss_nil)
  (pss_one (ps_expr (pe_bm PySem.F.plainAttrs_list PySem.F.slot_list_append PySem.F.type_list_append mt_append (pv 1) (pa_cons (pv 3) pa_nil)))))))))
  (pss_one (ps_ret (pv 1))))), ?_⟩
    have hlw := wds_len z
    unfold RetN readS at q
    refine q_asgL (el_lst ea_nil (Nat.zero_le _)) fun p H1 hp e1 h1 => ?_
    refine q_forEnL (xs := (wds z).map V.str) (by rw [← split_wds]; exact el_split (ev_var rfl) ev_c (by decide +kernel) (by omega)) fun a H2 ha0 e2 ha => ?_
    have hap : a ≠ p := fun k => by
      rw [k, h1] at ha0
      cases ha0
    have ha00 : H a = none := fresh_back e1 ha0
    have eG : Ex H (upd H a (.lst ((wds z).map V.str))) := Evl.Ex.new ha00
    have hGp : upd H a (.lst ((wds z).map V.str)) p = none := by rw [upd_ne (fun k => hap k.symm)]; exact hp
    have hGa : upd H a (.lst ((wds z).map V.str)) a = some (.lst ((wds z).map V.str)) := upd_same
    have eG2 : Ex (upd H a (.lst ((wds z).map V.str))) H2 := fun b o hb => by
      by_cases hba : b = a
      · subst hba
        rw [upd_same] at hb
        cases hb
        exact ha
      · rw [upd_ne hba] at hb
        exact (e1.trans e2) _ _ hb
    generalize upd H a (.lst ((wds z).map V.str)) = G at eG hGp hGa eG2
    refine q_forEn (a := a) (xs := (wds z).map V.str) (ea_cons ev_c ea_nil) (sq_of ha) (fun i σ' H' => (∃ x2 x3 x4 x5 x6, σ' = [some (.str z), some (.ref p), x2, x3, x4, x5, x6]) ∧ Ex G H' ∧ ∃ acc, H' p = some (.lst (acc.map V.str)) ∧ Good acc ∧ acc.length = i ∧ readL 0 [] (wds z) = readL i acc ((wds z).drop i))
      (fun H4 e4 => ⟨⟨_, _, _, _, _, rfl⟩, eG2.trans e4, [], e4 _ _ (e2 _ _ h1), .inl rfl, rfl, by rw [List.drop_zero]⟩) (fun i σ' H' _ hP => sq_of (hP.2.1 _ _ hGa)) (fun i x σ' H' hi hP H4 e4 => ?_) (fun σ' H' hP => ?_)
    · obtain ⟨⟨x2, x3, x4, x5, x6, rfl⟩, hxG, acc, hpx, hg, hl, hrd⟩ := hP
      have hx := eG.trans hxG
      obtain ⟨hil, hxi⟩ := List.getElem?_eq_some_iff.mp hi
      rw [List.length_map] at hil
      obtain rfl : x = .str (wds z)[i] := by rw [← hxi, List.getElem_map]
      have hwl : ((wds z)[i]).length ≤ 5000 := Nat.le_trans (wds_mem (List.getElem_mem hil)) hz
      have hd : readL i acc ((wds z).drop i) = if nextOk acc (wds z)[i] = true then readL (i + 1) (acc ++ [(wds z)[i]]) ((wds z).drop (i + 1)) else .error i := by rw [List.drop_eq_getElem_cons hil] <;> rfl
      rw [hd] at hrd
      have hpx4 := e4 _ _ hpx
      have h6 := hg.part.l6
      generalize (wds z)[i] = u at hrd hwl
      have hcnt : (u.cps.toList.filter isL).length ≤ u.length := by
        have := List.length_filter_le isL u.cps.toList
        rw [Array.length_toList] at this
        exact this
      refine q_asgL (el_lcSF isL (fun c => .str ⟨#[c]⟩) (ev_var rfl) (by omega) (fun _ => rfl) (fun c H1 e => et_test (ev_op (ev_var rfl) ev_c rv_inSign)) (fun c H1 e => ev_var rfl)) fun p4 H5 hp4 e5 h5 => ?_
      have hpx5 := e5 _ _ hpx4
      have hlowd : decide ((u.cps.toList.filter isL).length = u.length) = low u := by
        have h3 : u.cps.toList.length = u.length := Array.length_toList
        rw [← h3]
        unfold low
        by_cases ha : u.cps.toList.all isL = true
        · rw [ha]
          exact decide_eq_true (List.length_filter_eq_length_iff.mpr (List.all_eq_true.mp ha))
        · rw [Bool.not_eq_true _ |>.mp ha]
          exact decide_eq_false fun k => ha (List.all_eq_true.mpr (List.length_filter_eq_length_iff.mp k))
      have flat : (acc.map V.str).all flatV = true := by rw [List.all_map]; exact List.all_eq_true.mpr fun _ _ => rfl
      refine q_asg (v := .bl ((decide (1 ≤ u.length) && decide (u.length ≤ 8)) && (low u && !decide (u ∈ acc)))) (ev_andV (ev_is (ev_chain ev_c (ev_cb (ea_cons (ev_var rfl) ea_nil) (rc_lenS (by omega))) rv_I0 (fun _ => ev_c) (fun _ => rv_I0)) ?_) fun _ => ev_andV (ev_is (ev_op (ev_len (ev_var rfl) (sq_of h5)) (ev_cb (ea_cons (ev_var rfl) ea_nil) (rc_lenS (by omega))) (rv_eq rfl)) ?_) fun _ => ev_is (ev_op (ev_var rfl) (ev_var rfl) (rv_niL (sq_of hpx5) rfl flat)) (by rw [inV_strs])) fun H6 e6 => ?_
      · exact congrArg V.bl (congr (congrArg and (decide_eq_decide.mpr (by omega))) (decide_eq_decide.mpr (by omega)))
      · rw [List.length_map, ← hlowd]
        refine congrArg V.bl (decide_eq_decide.mpr ⟨fun z => ?_, fun z => ?_⟩)
        · injection z with z
          omega
        · rw [z]
      refine q_asg (v := .bl (((decide (1 ≤ u.length) && decide (u.length ≤ 8)) && (low u && !decide (u ∈ acc))) && (decide ((i + 1) * u.length ≤ 36) && decide (i < 6)))) (ev_andV (ev_var rfl) fun _ => ev_andV (ev_is (ev_op (ev_op (ev_cb (ea_cons (ev_var rfl) ea_nil) (rc_lenS (by omega))) (ev_op (ev_var rfl) ev_c rv_I0) (rv_I ?_)) ev_c rv_I0) ?_) fun _ => ev_is (ev_op (ev_var rfl) ev_c rv_I0) ?_) fun H7 e7 => ?_
      · exact .inl ⟨by omega, by omega⟩
      · refine congrArg V.bl (decide_eq_decide.mpr ?_)
        have : ((u.length : Int) * ((i : Int) + 1)) = (((i + 1) * u.length : Nat) : Int) := by simp [Int.mul_comm]
        rw [this]
        omega
      · exact congrArg V.bl (decide_eq_decide.mpr (by omega))
      have hpx7 := e7 _ _ (e6 _ _ hpx5)
      refine q_when (b := !nextOk acc u) (et_is (et_or (b := decide (0 < i) && !decide (some u.length = acc.head?.map (·.length))) (et_not (et_B (ev_var rfl))) fun _ => et_and (et_test (ev_is (ev_op (ev_var rfl) ev_c rv_I0) ?_)) fun hpos => et_test ?_) ?_) (fun hb H8 e8 => ?_) (fun hb H8 e8 => ?_)
      · exact congrArg V.bl (decide_eq_decide.mpr (by omega))
      · have hpos' : 0 < i := of_decide_eq_true hpos
        obtain ⟨w0, rest, hacc⟩ : ∃ w0 rest, acc = w0 :: rest := by
          cases acc with
          | nil => simp at hl; omega
          | cons a b => exact ⟨a, b, rfl⟩
        have hw0 := (hg.part.all w0 (by rw [hacc]; exact List.mem_cons_self)).1
        refine ev_is (ev_op (ev_cb (ea_cons (ev_var rfl) ea_nil) (rc_lenS (by omega))) (ev_cb (ea_cons (ev_op (ev_var rfl) ev_c (rv_ixL (v := .str w0) (sq_of hpx7) (by rw [hacc]; exact atI_nat (j := 0) rfl))) ea_nil) (rc_lenS (by omega))) (rv_ne rfl)) ?_
        rw [hacc]
        refine congrArg (fun b => V.bl (!b)) (decide_eq_decide.mpr ⟨fun z => ?_, fun z => ?_⟩)
        · injection z with z
          show some _ = some w0.length
          congr 1
          omega
        · have h3 : some _ = some w0.length := z
          injection h3 with h3
          rw [h3]
      · have hT : decide ((i + 1) * u.length ≤ 36) = !decide (36 < (acc.length + 1) * u.length) := by
          rw [hl, ← decide_not]
          exact decide_eq_decide.mpr (by omega)
        have hS : decide (i < 6) = !decide (acc.length = 6) := by
          rw [← decide_not]
          exact decide_eq_decide.mpr (by omega)
        rw [hT, hS]
        unfold nextOk
        generalize decide (1 ≤ u.length) = A
        generalize decide (u.length ≤ 8) = B
        generalize low u = L
        generalize decide (36 < (acc.length + 1) * u.length) = T'
        generalize decide (acc.length = 6) = S'
        cases acc with
        | nil =>
          have hi0 : i = 0 := hl.symm
          rw [hi0]
          cases A <;> cases B <;> cases L <;> cases T' <;> cases S' <;> rfl
        | cons w0 rest =>
          have hp0 : decide (0 < i) = true := decide_eq_true (by rw [← hl]; simp)
          rw [hp0]
          show _ = !(_ && (_ && (false || _)))
          generalize decide (u ∈ w0 :: rest) = M
          generalize decide (some u.length = (w0 :: rest).head?.map (·.length)) = Hd
          cases A <;> cases B <;> cases L <;> cases T' <;> cases S' <;> cases M <;> cases Hd <;> rfl
      · have hb2 : nextOk acc u = false := by simpa using hb
        rw [hb2, if_neg (by decide)] at hrd
        rw [hrd] at q
        exact s_retU (xs := [.str "at", .int (i : Int)]) (eu_tup (ea_cons ev_c (ea_cons (ev_var rfl) ea_nil)) (by show 2 ≤ 100000; decide)) fun t H9 ht e9 h9 => q t H9 (fresh_back (((((hx.trans e4).trans e5).trans e6).trans e7).trans e8) ht) ((((((hx.trans e4).trans e5).trans e6).trans e7).trans e8).trans e9) h9
      · have hb2 : nextOk acc u = true := by simpa using hb
        rw [hb2, if_pos rfl] at hrd
        exact s_app (e8 _ _ hpx7) (ev_var rfl) (ev_var rfl) (by rw [List.length_map]; omega) fun H9 e9 => ⟨⟨_, _, _, _, _, rfl⟩, Evl.Ex.mut ((((((hxG.trans e4).trans e5).trans e6).trans e7).trans e8).trans e9) hGp, acc ++ [u], by rw [upd_same, List.map_append] <;> rfl, .inr ⟨_, hg.snoc hb2⟩, by simp [hl], hrd⟩
    · obtain ⟨⟨x2, x3, x4, x5, x6, rfl⟩, hxG, acc, hpx, hg, hl, hrd⟩ := hP
      have hdr : (wds z).drop (((wds z).map V.str).length) = [] := by rw [List.length_map]; exact List.drop_length
      rw [hdr] at hrd
      have hrd2 : readL 0 [] (wds z) = .ok acc := hrd
      rw [hrd2] at q
      exact s_ret (ev_var rfl) fun H4 e4 => q p H4 hp ((eG.trans hxG).trans e4) (e4 _ _ hpx)
end
end K81
end

section
set_option Elab.async false
set_option linter.all false
set_option maxRecDepth 100000
set_option maxHeartbeats 2000000
namespace K81
open PySem PySem.Spec PyProof.Rows L2 Ov Evl TxM ClX
section
variable {P : Program} {w : World} {K : PySem.W.Frag} {mg : Str → Option Value} {bh : Heap}
theorem ok_init {f Ca : Addr} {fd : FuncData} (F : Fun K "__init__" "InvalidCode.__init__" s_InvalidCode___init__ f fd) (B : BaseI K mg "StampError") (TC : OexC K Ca) (hno : PySem.W.findIn K (.ref Ca) "at" = some none) : FnOk P w K mg bh CX0 1 f fd ["self", "at"] (spAt K Ca "at") := by
  refine F.ok sc_InvalidCode___init__ (fun vs H Q E h => ?_) (fun cdv A outer s H vs Q E hr h => ?_)
  · obtain ⟨a, v, rfl, _⟩ := h
    rfl
  · obtain ⟨a, v, rfl, ha, q⟩ := h
    refine ⟨_, (pss_cons (ps_expr (pe_binit B (pa_cons (pv 0) (pa_cons pe_str pa_nil)))) (pss_one (ps_ost (pv 0) (pv 1)))), ?_⟩
    refine ⟨_, rfl, a, Ca, _, rfl, (by show 1 ≤ 1000; decide), TC, ha, ?_⟩
    refine ⟨v, rfl, .ref a, rfl, a, Ca, rfl, TC, hno, .inl ⟨ha, fun dx hdx hne => ?_⟩⟩
    refine q dx _ hdx hne upd_same (by rw [upd_ne hne]; exact upd_same) fun b o hb hbo => ?_
    rw [upd_ne hb, upd_ne (ne_of_none hbo hdx)]
    exact hbo
end
end K81
end

section
set_option Elab.async false
set_option linter.all false
set_option maxRecDepth 100000
set_option maxHeartbeats 2000000
namespace K81
open PySem PySem.Spec PyProof.Rows L2 Ov Evl TxM ClX
def spTold : Sp := fun vs H Q _ => ∃ (z : Str) (b : Bool), vs = [.str z, .bl b] ∧ z.length ≤ 5000 ∧ RetN z H Q
theorem readL_len : ∀ {zs acc : List Str} {n : Nat} {ws : List Str}, readL n acc zs = .ok ws → ws.length = acc.length + zs.length
  | [], acc, n, ws, h => by
    cases h
    rfl
  | z :: zs, acc, n, ws, h => by
    unfold readL at h
    split at h
    · have := readL_len h
      rw [this, List.length_append, List.length_singleton, List.length_cons]
      omega
    · cases h
theorem readS_len {z : Str} {ws : List Str} (hz : z.length ≤ 5000) (h : readS z = .ok ws) : ws.length ≤ 100000 := by
  have h1 := readL_len h
  have h2 := wds_len z
  rw [List.length_nil] at h1
  omega
theorem e_if {σ : L2.St} {H : Hp} {t : TT} {ta tb : TE} {b : Bool} {Q : VK} (h : EvT t σ H b) (h1 : b = true → ∀ H1, Ex H H1 → ta σ H1 Q) (h2 : b = false → ∀ H1, Ex H H1 → tb σ H1 Q) : tIf t ta tb σ H Q := h H (Evl.Ex.refl H) _ fun H1 e1 => by
  cases b with
  | true => exact h1 rfl H1 e1
  | false => exact h2 rfl H1 e1
section
variable {P : Program} {w : World} {K : PySem.W.Frag} {mg : Str → Option Value} {bh : Heap}
theorem ok_law_told {f Ca C pW gW fL : Addr} {mc : Value} {fd fdW : FuncData} (F : Fun K "_law_told" "_law_told" s__law_told f fd) (T : Txt K mg) (X : TxX K mg Ca) (ST0 : StF K mg C mc) (PWo : PropOf K C "words" pW gW) (D_words : FnOk P w K mg bh CX0 1 gW fdW ["self"] (spWords C)) (B_words : Binds K fdW ["self"] [])
    (LL : PySem.W.findIn K (.ref C) "__len__" = some (some (.ref fL))) (LT : PySem.W.typeIn K (.ref fL) = some (.type "function")) (D_len : FnR P w K mg bh CX0 1 fL (spLen C))
    (D_read_stamps : Dn P w K mg bh (L2N.CX P w) 7 "read_stamps" ["code"] (spRead C Ca)) (DK_read_stamps : DnK P w K mg bh (L2N.CX P w) 7 "read_stamps" ["code"] ["code"] [0] (spRead C Ca))
    (D__law_read_at : DnE P w K mg bh CX0 1 "_law_read_at" ["e"] (spReadAt Ca)) : FnOk P w K mg bh CX0 8 f fd ["given", "named"] spTold := by
  refine okC F sc__law_told (fun vs H Q E h => ?_) (fun cdv A outer s H vs Q E hr1 h => ?_)
  · obtain ⟨z, b, rfl, _⟩ := h
    rfl
  · obtain ⟨z, b, rfl, hz0, q⟩ := h
    have KS := ST0.k
    refine ⟨_, (pss_one (L2N.ps_try_as (i := 3) (Wout := fun _ _ _ _ => False) rfl rfl sc__law_told.nd rfl rfl ⟨rfl, rfl, .inl X.k_StampError⟩ tkNo (fun W pn xe tk _ => by exact (pss_cons (ps_set (i := 2) sc__law_told.nd rfl (Or.inl rfl) (pe_ifExp (pt_val (pv 1)) (pe_k0 DK_read_stamps hr1 (fun σ => L2N.passAt tk σ) (pk_cons (pv 0) pk_nil)) (pe_dS D_read_stamps hr1 (fun σ => L2N.passAt tk σ) (pa_cons (pv 0) pa_nil))))
  (pss_one (ps_ret (pe_ifExp (PW.pt (pw_and (pt_val (pe_callB (call_isi : CallR _ (.builtin "isinstance") (rIsi K)) rfl T.f_isinstance (by decide +kernel) (pa_cons (pv 2) (pa_cons (pe_gr KS) pa_nil)))) (pw_and1 (pt_cmpR op_eq (pe_callB (call_lenI LL LT (D_len.mono (by decide)) hr1 : CallR _ (.builtin "len") (rLenI C (spLen C))) rfl T.f_len (by decide +kernel) (pa_cons (pv 2) pa_nil)) (pe_callB (call_len_seq : CallR _ (.builtin "len") (rLenS K)) rfl T.f_len (by decide +kernel) (pa_cons (pe_prop (pv 2) ST0.cls PWo (okUp D_words (by decide)) hr1 B_words .nil pass0 rfl) pa_nil)) (nomark _))))) (pe_prop (pv 2) ST0.cls PWo (okUp D_words (by decide)) hr1 B_words .nil pass0 rfl) pe_str))))) (fun a oe cls d pn hz hf => by exact (pss_one (ps_ret (pe_e D__law_read_at (roomM hr1 (by decide)) (hot_of hz hf rfl) (List.mem_cons_self) hz.zc (passes_at pass0) (pa_cons (pv 3) pa_nil))))))), ?_⟩
    have rest : ∀ (b : Bool) (a : Addr) (ws : List Str) (H2 : Hp), H a = none → Ex H H2 → Stm C H2 a ws → readS z = .ok ws → tRet (tIf (tAnd (tB (tCB (rIsi K) (tCons (tVar 2) (tCons (tC (.ref C)) tNil)))) (tTest (tOp rEq (tCB (rLenI C (spLen C)) (tCons (tVar 2) tNil)) (tCB (rLenS K) (tCons (tProp C (spWords C) [] E0 (tVar 2)) tNil))))) (tProp C (spWords C) [] E0 (tVar 2)) (tC (.str "odd")))
        { nx := fun _ H' => Q .non H', rt := Q } [some (.str z), some (.bl b), some (.ref a), none] H2 := fun b a ws H2 ha e2 st hr => by
      unfold RetN at q
      rw [hr] at q
      have hwl : ws.length ≤ 100000 := readS_len hz0 hr
      refine r_if (b := true) (et_is (et_and (a := true) (b := true) (et_B ?_) fun _ => et_test (ev_is (ev_op (x := .int (ws.length : Int)) ?_ (ev_is (ev_lenN (el_words (ev_var rfl) st)) (w := .int (ws.length : Int)) (by rw [List.length_map])) (rv_eq rfl)) (by rw [decide_eq_true rfl]))) rfl) (fun _ H3 e3 => el_words (ev_var rfl) st H3 e3 _ fun p H4 hp e4 h4 => q p H4 (fresh_back (e2.trans e3) hp) ((e2.trans e3).trans e4) h4) (fun z => by cases z)
      · exact fun H3 e3 Q' q' => by
          obtain ⟨dx, l, h1, h2⟩ := st.ex e3
          exact ⟨_, rfl, _, _, _, _, true, rfl, .own C, .base (.ins h1 ST0.cls ST0.cl ST0.cg ST0.ct ST0.mro), by unfold PySem.W.kitOne; rw [if_pos (beq_self_eq_true _)], q' H3 (Evl.Ex.refl _)⟩
      · exact fun H3 e3 Q' q' => by
          have st3 := st.ex e3
          obtain ⟨dx, l, h1, h2⟩ := st3
          exact ⟨_, rfl, a, dx, _, rfl, h1, a, ws, rfl, ⟨dx, l, h1, h2⟩, fun H4 e4 => ⟨ws.length, rfl, hwl, q' H4 e4⟩⟩
    have key : ∀ (b : Bool) H1, Ex H H1 → ∀ Q1 : VK, (∀ a ws H2, H a = none → Ex H H2 → Stm C H2 a ws → readS z = .ok ws → Q1 (.ref a) H2) → spRead C Ca [.str z] H1 Q1 (WE (wAs K (.ref (ad mg "StampError")) 3 (fun a cls d => tRet (tCall (spReadAt Ca a cls d) [] E0 (tCons (tVar 3) tNil))) (fun _ _ _ _ => False)
        { nx := fun _ H' => Q .non H', rt := Q }) (L2.start ["given", "named", "one", "e"] [.str z, .bl b])) := fun b H1 e1 Q1 q1 => by
      refine ⟨z, rfl, hz0, ?_⟩
      cases hr : readS z with
      | ok ws => exact fun a H2 ha e2 st => q1 a ws H2 (fresh_back e1 ha) (e1.trans e2) st hr
      | error n =>
        unfold RetN at q
        rw [hr] at q
        exact fun dd H2 e2 _ h2 => ⟨true, X.exS, fun _ a ha => ⟨.ref a, rfl, rfl, dd, n, rfl, rfl, h2, fun t H3 ht e3 h3 => q t H3 (fresh_back (e1.trans e2) ht) ((e1.trans e2).trans e3) h3⟩, fun z => by cases z⟩
    cases b with
    | true => exact q_asgR (e_if (b := true) (et_B (ev_var rfl)) (fun _ H1 e1 => ⟨.str z, rfl, key true H1 e1 (fun x H2 => tRet (tIf (tAnd (tB (tCB (rIsi K) (tCons (tVar 2) (tCons (tC (.ref C)) tNil)))) (tTest (tOp rEq (tCB (rLenI C (spLen C)) (tCons (tVar 2) tNil)) (tCB (rLenS K) (tCons (tProp C (spWords C) [] E0 (tVar 2)) tNil))))) (tProp C (spWords C) [] E0 (tVar 2)) (tC (.str "odd")))
        { nx := fun _ H' => Q .non H', rt := Q } [some (.str z), some (.bl true), some x, none] H2) fun a ws H2 ha e2 st hr => rest true a ws H2 ha e2 st hr⟩) (fun z => by cases z))
    | false => exact q_asgR (e_if (b := false) (et_B (ev_var rfl)) (fun z => by cases z) (fun _ H1 e1 => ⟨.str z, rfl, key false H1 e1 (fun x H2 => tRet (tIf (tAnd (tB (tCB (rIsi K) (tCons (tVar 2) (tCons (tC (.ref C)) tNil)))) (tTest (tOp rEq (tCB (rLenI C (spLen C)) (tCons (tVar 2) tNil)) (tCB (rLenS K) (tCons (tProp C (spWords C) [] E0 (tVar 2)) tNil))))) (tProp C (spWords C) [] E0 (tVar 2)) (tC (.str "odd")))
        { nx := fun _ H' => Q .non H', rt := Q } [some (.str z), some (.bl false), some x, none] H2) fun a ws H2 ha e2 st hr => rest false a ws H2 ha e2 st hr⟩))
end
end K81
end

section
set_option Elab.async false
set_option linter.all false
set_option maxRecDepth 100000
set_option maxHeartbeats 2000000
namespace Ov
open PySem PySem.Spec PyProof.Rows L2 Evl
/-! ### a text repeated, once or more -/
theorem repS_one (a : Str) : repS a 1 = a := by
  show (⟨#[] ++ a.cps⟩ : Str) = a
  rw [Array.empty_append]
def rRepS1 : R2 := fun x y H Q => ∃ (a : Str) (k : Int), x = .str a ∧ y = .int k ∧ 1 ≤ k ∧ k ≤ 10000 ∧ 0 < a.length ∧ a.length * k.toNat ≤ 90000 ∧ Q (.str (repS a k.toNat)) H
theorem op_repS1 {X : Cx} : OpR X (binaryOp .Mult) rRepS1 := by
  intro pins s σ H x y v u Q I rx ry h
  obtain ⟨a, k, rfl, rfl, h1, h2, h3, h4, q⟩ := h
  by_cases hk : 2 ≤ k
  · exact op_repS pins s σ H _ _ v u Q I rx ry ⟨a, k, rfl, rfl, hk, h2, h3, h4, q⟩
  obtain rfl : k = 1 := by omega
  obtain ⟨t, rfl⟩ := rx
  obtain ⟨t', rfl⟩ := ry
  refine PySem.P.mul_str (by
    rw [decide_eq_false (by omega), decide_eq_false (by omega)] <;> rfl) (fun _ _ => ?_) (fun _ _ => ?_) ?_
  · have : a.length ≤ 90000 := by
      have : a.length * (1 : Int).toNat = a.length := Nat.mul_one _
      omega
    have e1 : (90000 : Int) ≤ (2 ^ 63 - 1) / 1 := by decide
    omega
  · unfold Builtin.Str.tooLong
    have : a.length * (1 : Int).toNat = a.length := Nat.mul_one _
    have : ((90000 : Nat) ≤ sizeLine) := by decide
    simp only [decide_eq_false_iff_not]
    omega
  · rw [if_neg (by decide), if_pos (by rfl)]
    have e : repS a (1 : Int).toNat = a := repS_one a
    rw [e] at q
    first
    | exact ⟨.str a, H, I.tok _, ⟨_, rfl⟩, q⟩
    | (refine ⟨?_, .str a, H, I.tok _, ⟨_, rfl⟩, q⟩
       have : a.length * (1 : Int).toNat = a.length := Nat.mul_one _
       exact sz_of (by omega))
theorem rv_repS1 {H : Hp} {a : Str} {k : Int} (h1 : 1 ≤ k) (h2 : k ≤ 10000) (h3 : 0 < a.length) (h4 : a.length * k.toNat ≤ 90000) : RV rRepS1 (.str a) (.int k) H (.str (repS a k.toNat)) := fun H1 _ _ q => ⟨a, k, rfl, rfl, h1, h2, h3, h4, q H1 (Evl.Ex.refl H1)⟩
section
variable {K : PySem.W.Frag} {σ : L2.St} {G H H' : Hp} {te ta tb : TE} {x y : V} {a b t v : Addr} {d d1 d2 : PyData} {n k m : Nat} {P P1 P2 : Hp → Addr → Prop} {tz : TS} {D : Ends}
/-- repr([new, new]) -/
theorem ev_reprNN (h1 : EvN ta σ H P1) (h2 : EvN tb σ H P2) (hP1 : ∀ H' p, Ex H H' → P1 H' p → Dp K H' (.ref p) d1) (hP2 : ∀ H' p, Ex H H' → P2 H' p → Dp K H' (.ref p) d2) (td : Tame n k (.list [d1, d2])) (hn : n ≤ 60) (hk : k ≤ 2 ^ 20) :
    Ev (tCB (rRepr K) (tCons (tLst (tCons ta (tCons tb tNil))) tNil)) σ H (.str (PyData.list [d1, d2]).shown) := fun H1 e Q q =>
  h1 H1 e _ fun p1 H2 hp1 e2 hP => h2 H2 (e.trans e2) _ fun p2 H3 hp2 e3 hP' => ⟨sz_of (by show 2 ≤ 100000; decide), fun l hl =>
    rc_repr (dp_lst upd_same (.cons (Dp.ex (e3.trans (Evl.Ex.new hl)) _ (hP1 H2 p1 (e.trans e2) hP)) (.cons (Dp.ex (Evl.Ex.new hl) _ (hP2 H3 p2 ((e.trans e2).trans e3) hP')) .nil))) td hn hk _ (Evl.Ex.refl _) Q fun H4 e4 => q H4 (((e2.trans e3).trans (Evl.Ex.new hl)).trans e4)⟩
/-- x, y = new, new -/
theorem q_parNN {i j : Nat} (h1 : EvN ta σ H P1) (h2 : EvN tb σ H P2) (c : ∀ p q H1 H2, H p = none → Ex H H1 → P1 H1 p → H1 p ≠ none → H1 q = none → Ex H1 H2 → P2 H2 q → tz D ((σ.set i (some (.ref p))).set j (some (.ref q))) H2) (hne : ∀ H1 p, P1 H1 p → H1 p ≠ none) : tSeq (tPar i j (tCons ta (tCons tb tNil))) tz D σ H :=
  h1 H (Evl.Ex.refl H) _ fun p H1 hp e1 hP1 => h2 H1 e1 _ fun q H2 hq e2 hP2 => ⟨_, _, rfl, c p q H1 H2 hp e1 hP1 (hne _ _ hP1) hq e2 hP2⟩
theorem rv_eqI {C da db : Addr} {fa fb : List (Str × V)} (hne : a ≠ b) (ha : H a = some (.ins C da fa)) (hb : H b = some (.ins C db fb)) : RV (rEqI K C) (.ref a) (.ref b) H (.bl false) := fun H1 e _ q => ⟨a, b, da, db, fa, fb, rfl, rfl, hne, e _ _ ha, e _ _ hb, q H1 (Evl.Ex.refl _)⟩
/-- [x, ..] * k -/
theorem el_rep {xs : List V} {k : Int} (ha : EvL ta σ H xs) (hb : Ev tb σ H (.int k)) (h1 : -1000000 ≤ k) (h2 : k ≤ 1000000) (hz : xs.length * k.toNat ≤ 100000) : EvL (tOp rRep ta tb) σ H (List.replicate k.toNat xs).flatten := fun H1 e Q q =>
  ha H1 e _ fun p H2 hp e2 h2' => hb H2 (e.trans e2) _ fun H3 e3 => ⟨p, k, xs, rfl, rfl, e3 _ _ h2', by omega, by omega, sz_of hz, fun l hl => q l _ (fresh_back (e2.trans e3) hl) ((e2.trans e3).trans (Evl.Ex.new hl)) upd_same⟩
/-- int(b) -/
theorem rc_intB {b : Bool} {H : Hp} : RC (fun xs H Q => (∃ i, xs = [V.int i] ∧ Q (V.int i) H) ∨ ∃ k, xs = [V.bl k] ∧ Q (V.int (if k then 1 else 0)) H) [.bl b] H (.int (if b then 1 else 0)) := fun H1 _ _ q => .inr ⟨b, rfl, q H1 (Evl.Ex.refl _)⟩
theorem ev_min2 {i j : Int} (ha : Ev ta σ H (.int i)) (hb : Ev tb σ H (.int j)) : Ev (tCB (fun xs H Q => ∃ i j, xs = [V.int i, V.int j] ∧ Q (V.int (if j < i then j else i)) H) (tCons ta (tCons tb tNil))) σ H (.int (if j < i then j else i)) := ev_cb (ea_cons ha (ea_cons hb ea_nil)) fun H1 _ _ q => ⟨_, _, rfl, q H1 (Evl.Ex.refl _)⟩
/-- one sign for each draw, joined -/
def sing (c : Nat) : Str := ⟨#[c]⟩
end
theorem join_sing : ∀ cs : List Nat, Txt.join "" (cs.map sing) = ⟨cs.toArray⟩ := fun cs => by
  refine TL.ext_tl ?_
  rw [TL.join_eq, TL.tl_join, show TL.tl ("" : Str) = [] from rfl, List.map_map]
  show TL.joinL [] (cs.map fun c => [c]) = cs
  have key : ∀ (c : Nat) (cs : List Nat), TL.joinL [] ((c :: cs).map fun c => [c]) = c :: cs := fun c cs => by
    induction cs generalizing c with
    | nil => rfl
    | cons d ds ih =>
      show [c] ++ ([] ++ TL.joinL [] ((d :: ds).map fun c => [c])) = _
      rw [ih d] <;> rfl
  cases cs with
  | nil => rfl
  | cons c cs => exact key c cs
section
variable {K : PySem.W.Frag} {σ : L2.St} {G H : Hp} {v : Addr} {k c : Nat} {te : TE} {tA : TA}
/-- "".join([a sign that is drawn for x in range(r)]) -/
theorem evw_join {j : Nat} {vs : List Nat} {r : Int} (Pc : Nat → Prop) (h : EvA tA σ G [.int r]) (hn : 0 ≤ r ∧ r ≤ 40000) (hwi : ∀ x, wipe ((wipe σ vs).set j (some x)) vs = wipe σ vs)
    (he : ∀ (i : Nat) (G' : Hp) (l : Nat), (i : Int) < r → Ex G G' → EvW te ((wipe σ vs).set j (some (.int (i : Int)))) G' v (l + c) l (fun y => ∃ x, y = .str (sing x) ∧ Pc x)) :
    EvW (tM1 (rJoinT K) (tC (.str "")) (tLc (iRng1 tA) (gName j) tYes te vs)) σ G v (k + c * r.toNat) k (fun x => ∃ cs : List Nat, x = .str ⟨cs.toArray⟩ ∧ cs.length = r.toNat ∧ ∀ y ∈ cs, Pc y) := fun H w Q q =>
  ⟨⟨"", rfl⟩, lcRW (v := v) (c := c) (k := k) (Pe := fun _ y => ∃ x, y = .str (sing x) ∧ Pc x) (fun h _ => h) (fun _ h => h) h hn hwi (fun i G' l H' hi e w' Q' q' => he i G' l hi e H' w' Q' fun y H2 hy w2 => q' y G' H2 hy (Evl.Ex.refl _) w2) w fun p ys G' H' hy hl eG w' hp => by
    obtain ⟨cs, rfl, hcs⟩ : ∃ cs : List Nat, ys = (cs.map sing).map V.str ∧ ∀ y ∈ cs, Pc y := by
      clear hl hp
      induction ys with
      | nil => exact ⟨[], rfl, fun y z => by cases z⟩
      | cons y ys ih =>
        obtain ⟨cs, h1, h2⟩ := ih fun u hu => hy u (List.mem_cons_of_mem _ hu)
        obtain ⟨x, rfl, hx⟩ := hy y List.mem_cons_self
        refine ⟨x :: cs, by rw [h1] <;> rfl, fun u hu => ?_⟩
        rcases List.mem_cons.mp hu with rfl | hu
        · exact hx
        · exact h2 u hu
    have hlen : cs.length = r.toNat := by simpa using hl
    refine ⟨"", p, cs.map sing, rfl, rfl, .inl (sq_of (w'.ex _ _ hp)), ?_, ?_⟩
    · have : ((cs.map sing).map (·.length)).sum = cs.length := by
        rw [List.map_map]
        clear hl hp hy hcs hlen
        induction cs with
        | nil => rfl
        | cons x xs ih =>
          rw [List.map_cons, List.sum_cons, ih, List.length_cons]
          show 1 + _ = _
          omega
      rw [this, show ("" : Str).length = 0 from rfl]
      omega
    · rw [join_sing]
      exact q _ H' ⟨cs, rfl, hlen, hcs⟩ (w'.sub eG)⟩
end
end Ov
namespace Ov
open PySem PySem.Spec PyProof.Rows L2 Evl
section
variable {K : PySem.W.Frag} {σ : L2.St} {G H : Hp} {v : Addr} {n m : Nat} {te ta : TE} {z : V} {P : Hp → Addr → Prop} {P1 : V → Prop}
/-- a call with a new object as its one argument -/
theorem ev_callN {sp : Sp} {E : XK} (h : EvN te σ H P) (hs : ∀ p H1, Ex H H1 → P H1 p → ∀ Q : VK, RetV z H1 Q → sp [.ref p] H1 Q E) : Ev (tCall sp [] E (tCons te tNil)) σ H z := fun H1 e Q q =>
  h H1 e _ fun p H2 hp e2 hP => hs p H2 (e.trans e2) hP Q fun H3 e3 => q H3 (e2.trans e3)
/-- a call with a value that draws as its one argument -/
theorem evw_call1 {sp : Sp} {E : XK} (h1 : EvW ta σ G v n m P1) (hs : ∀ x H', P1 x → Wd G v m H' → ∀ Q : VK, RetV z H' Q → sp [x] H' Q E) : EvW (tCall sp [] E (tCons ta tNil)) σ G v n m (fun r => r = z) := fun H h Q q =>
  h1 H h _ fun x H1 hx w1 => hs x H1 hx w1 Q fun H3 e3 => q z H3 rfl (w1.mono e3)
/-- x = f(e, a draw, e) -/
theorem q_call3W {i : Nat} {t1 t2 t3 : TE} {x1 x3 : V} {sp : Sp} {E : XK} {tz : TS} {D : Ends} (hw : Wd G v n H) (h1 : Ev t1 σ G x1) (h2 : EvW t2 σ G v n m P1) (h3 : Ev t3 σ G x3) (c : ∀ x H', P1 x → Wd G v m H' → sp [x1, x, x3] H' (fun y H1 => tz D (σ.set i (some y)) H1) E) :
    tSeq (tAsg (tCall sp [] E (tCons t1 (tCons t2 (tCons t3 tNil)))) (gName i)) tz D σ H := hw.ev h1 fun H1 w1 _ => h2 H1 w1 _ fun x H2 hx w2 => w2.ev h3 fun H3 w3 _ => c x H3 hx w3
end
end Ov
end

section
set_option Elab.async false
set_option linter.all false
set_option maxRecDepth 100000
set_option maxHeartbeats 2000000
namespace K81
open PySem PySem.Spec PyProof.Rows L2 Ov Evl TxM ClX
/-! ### what a code is the code of, as data -/
theorem readL_ok : ∀ {zs acc : List Str} {n : Nat} {ws : List Str}, Good acc → readL n acc zs = .ok ws → ws = acc ++ zs ∧ Good ws
  | [], acc, n, ws, hg, h => by
    cases h
    exact ⟨(List.append_nil _).symm, hg⟩
  | z :: zs, acc, n, ws, hg, h => by
    unfold readL at h
    split at h
    · rename_i hn
      obtain ⟨a, b⟩ := readL_ok (.inr ⟨_, hg.snoc hn⟩) h
      exact ⟨by rw [a, List.append_assoc] <;> rfl, b⟩
    · cases h
theorem readL_err : ∀ {zs acc : List Str} {n m : Nat}, readL n acc zs = .error m → m ≤ n + zs.length
  | [], acc, n, m, h => by cases h
  | z :: zs, acc, n, m, h => by
    unfold readL at h
    split at h
    · have := readL_err h
      rw [List.length_cons]
      omega
    · cases h
      exact Nat.le_add_right _ _
theorem readS_ok {z : Str} {ws : List Str} (h : readS z = .ok ws) : Txt.join " " ws = z ∧ ∃ wd, Valid ws wd := by
  obtain ⟨a, b⟩ := readL_ok (.inl rfl) h
  rw [List.nil_append] at a
  refine ⟨by rw [a, join_wds], ?_⟩
  rcases b with b | b
  · rw [a] at b
    exact (wds_ne z b).elim
  · exact b
theorem readS_err {z : Str} {m : Nat} (hz : z.length ≤ 5000) (h : readS z = .error m) : m ≤ 5001 := by
  have h1 := readL_err h
  have h2 := wds_len z
  omega
def rD (z : Str) : PyData := match readS z with
  | .ok ws => .list (ws.map PyData.str)
  | .error n => .tuple [.str "at", .int (n : Int)]
def Nd (K : PySem.W.Frag) (z : Str) (H : Hp) (t : Addr) : Prop := Dp K H (.ref t) (rD z) ∧ match readS z with
  | .ok ws => H t = some (.lst (ws.map V.str))
  | .error _ => ∃ xs, H t = some (.tup xs)
theorem RetN.of {K : PySem.W.Frag} {z : Str} {H : Hp} {Q : VK} (q : ∀ t H', H t = none → Ex H H' → Nd K z H' t → Q (.ref t) H') : RetN z H Q := by
  unfold RetN
  cases h : readS z with
  | ok ps => exact fun t H' ht e h1 => q t H' ht e ⟨by rw [rD, h]; exact dp_lst h1 dpAll_strs, by rw [h]; exact h1⟩
  | error n => exact fun t H' ht e h1 => q t H' ht e ⟨by rw [rD, h]; exact dp_tupN h1 (.cons (.str _) (.cons (.int _) .nil)), by rw [h]; exact ⟨_, h1⟩⟩
theorem isL_lt {c : Nat} (h : isL c = true) : c < 128 := by
  have key : ∀ c ∈ LET.cps.toList, c < 128 := by decide +kernel
  exact key c (of_decide_eq_true h)
theorem tame_word {u : Str} (h : low u = true) (hl : u.length ≤ 8) : Tame 0 8 (.str u) := by
  have key : ∀ c ∈ u.cps.toList, c < 128 := fun c hc => isL_lt (List.all_eq_true.mp h c hc)
  exact Tame.str (by
    show u.cps.all (· < 0x110000) = true
    rw [← Array.all_toList]
    exact List.all_eq_true.mpr fun c hc => decide_eq_true (by have := key c hc; omega)) (fun c hc => by have := key c hc; omega) hl
theorem tame_rD {z : Str} (hz : z.length ≤ 5000) : Tame 1 60 (rD z) := by
  unfold rD
  cases h : readS z with
  | ok ws =>
    obtain ⟨_, wd, hv⟩ := readS_ok h
    refine (Tame.list (ds := ws.map PyData.str) (n := 0) (k := 8) fun d hd => ?_).mono (Nat.le_refl _) (by rw [List.length_map]; have := hv.l6; omega)
    obtain ⟨u, hu, rfl⟩ := List.mem_map.mp hd
    exact tame_word (hv.all u hu).2 (by rw [(hv.all u hu).1]; exact hv.w8)
  | error n =>
    have hn := readS_err hz h
    exact (Tame.tup (ds := [.str "at", .int (n : Int)]) (n := 0) (k := 20) fun d hd => by
      rcases List.mem_cons.mp hd with rfl | hd
      · exact (Tame.str (k := 2) (by decide +kernel) (by decide +kernel) (by decide +kernel)).mono (Nat.le_refl _) (by decide)
      · cases List.mem_singleton.mp hd
        exact Tame.int (by omega)).mono (by decide) (by show 2 * (20 + 1) ≤ 60; decide)
theorem tame_two {n k : Nat} {d e : PyData} (h1 : Tame n k d) (h2 : Tame n k e) : Tame (n + 1) (2 * (k + 1)) (.list [d, e]) := Tame.list (ds := [d, e]) fun x hx => by
  rcases List.mem_cons.mp hx with rfl | hx
  · exact h1
  · cases List.mem_singleton.mp hx
    exact h2
def spRight : Sp := fun vs H Q _ => ∃ z : Str, vs = [.str z] ∧ z.length ≤ 5000 ∧ RetV (.bl true) H Q
theorem Valid.part {ws : List Str} {wd : Nat} (h : Valid ws wd) : Part ws := Good.part (.inr ⟨wd, h⟩)
section
variable {P : Program} {w : World} {K : PySem.W.Frag} {mg : Str → Option Value} {bh : Heap}
theorem ev_width {σ : L2.St} {H : Hp} {te : TE} {a C : Addr} {w0 : Str} {ws : List Str} {E : XK} (h : Ev te σ H (.ref a)) (st : Stm C H a (w0 :: ws)) (hw : w0.length ≤ 5000) : Ev (tProp C (spWidth C) [] E te) σ H (.int (w0.length : Int)) := fun H1 e Q q =>
  h H1 e _ fun H2 e2 => by
    obtain ⟨dx, l, h1, h2⟩ := st.ex (e.trans e2)
    exact ⟨a, dx, _, rfl, h1, a, w0, ws, rfl, ⟨dx, l, h1, h2⟩, hw, fun H3 e3 => q H3 (e2.trans e3)⟩
theorem ok_law_right {f Ca C pW gW pD gD : Addr} {mc : Value} {fd fdW fdD : FuncData} (F : Fun K "_law_right" "_law_right" s__law_right f fd) (T : Txt K mg) (ST0 : StF K mg C mc)
    (PWd : PropOf K C "width" pD gD) (D_width : FnOk P w K mg bh CX0 1 gD fdD ["self"] (spWidth C)) (B_width : Binds K fdD ["self"] [])
    (D__law_due : Dn P w K mg bh CX0 8 "_law_due" ["given"] spDue) (D__law_told : Dn P w K mg bh CX0 8 "_law_told" ["given", "named"] spTold)
    (D_read_stamps : Dn P w K mg bh (L2N.CX P w) 8 "read_stamps" ["code"] (spRead C Ca)) (D_write_stamps : Dn P w K mg bh CX0 8 "write_stamps" ["stamps"] (spWrite C)) (DK_write_stamps : DnK P w K mg bh CX0 8 "write_stamps" ["stamps"] ["stamps"] [0] (spWrite C)) :
    FnG P w K mg bh CX0 9 f fd ["given"] spRight := by
  refine FnG.fun_ F sc__law_right (fun vs H Q E h => ?_) (fun cdv A outer s H vs Q E hgu hr1 h => ?_)
  · obtain ⟨z, rfl, _⟩ := h
    rfl
  · obtain ⟨z, rfl, hz, q⟩ := h
    have hr := hr1
    have hu1 : (A.deeper (envOfC "_law_right" (defScope s__law_right) s.heap.objs.size f cdv)).units < cLine := Nat.lt_of_succ_lt (units1 hr1)
    refine ⟨_, (pss_cons (ps_set (i := 1) sc__law_right.nd rfl (Or.inl rfl) (pe_d D__law_due hr1 pass0 (pa_cons (pv 0) pa_nil)))
  (pss_cons (ps_if (pt_cmpR op_ne (pe_callB (call_reprD hgu hr.units) rfl T.f_repr (by decide +kernel) (pa_cons (pe_lst (pa_cons (pe_d D__law_told hr1 pass0 (pa_cons (pv 0) (pa_cons pe_bl pa_nil))) (pa_cons (pe_d D__law_told hr1 pass0 (pa_cons (pv 0) (pa_cons pe_bl pa_nil))) pa_nil))) pa_nil)) (pe_callB (call_reprD hgu hr.units) rfl T.f_repr (by decide +kernel) (pa_cons (pe_lst (pa_cons (pv 1) (pa_cons (pv 1) pa_nil))) pa_nil)) (nomark _))
   (pss_one (ps_ret pe_bl))
   pss_nil)
  (pss_cons (ps_if (pt_val (pe_callB call_isi rfl T.f_isinstance (by decide +kernel) (pa_cons (pv 1) (pa_cons (pe_ty (T := "list") T.f_list (by decide +kernel)) pa_nil))))
   (pss_cons (ps_par (i := 2) (j := 3) rfl sc__law_right.nd rfl rfl (by decide) rfl rfl (pa_cons (pe_d D_read_stamps hr1 passLN (pa_cons (pv 0) pa_nil)) (pa_cons (pe_d D_read_stamps hr1 passLN (pa_cons (pv 0) pa_nil)) pa_nil)) rfl)
  (pss_cons (ps_if (PW.pt (pw_or (pt_cmpR (op_eqI hu1 ST0.mro ST0.eqo) (pv 2) (pv 3) (nomark _)) (pw_or (pt_cmpR op_ne (pe_d D_write_stamps hr1 pass0 (pa_cons (pv 2) pa_nil)) (pv 0) (nomark _)) (pw_or1 (pt_cmpR op_ne (pe_k0 DK_write_stamps hr1 (passes_at pass0) (pk_cons (pv 3) pk_nil)) (pv 0) (nomark _))))))
   (pss_one (ps_ret pe_bl))
   pss_nil)
  (pss_one (ps_if (pt_cmpR op_ne (pe_prop (pv 2) ST0.cls PWd (okUp D_width (by decide)) hr1 B_width .nil pass0 rfl) (pe_callB call_len_str rfl T.f_len (by decide +kernel) (pa_cons (pe_ix ix_list (pv 1) pe_int (fun _ _ => rfl)) pa_nil)) (nomark _))
   (pss_one (ps_ret pe_bl))
   pss_nil))))
   pss_nil)
  (pss_one (ps_ret pe_bl))))), ?_⟩
    have tD := tame_rD hz
    refine q_asgN (P := Nd K z) (en_call (ea_cons (ev_var rfl) ea_nil) fun H1 e1 Q' q' => ⟨z, rfl, hz, RetN.of q'⟩) fun t0 H1 h0 e1 hN0 => ?_
    have hreprs : ∀ b1 b2 : Bool, Ev (tCB (rRepr K) (tCons (tLst (tCons (tCall spTold [] E0 (tCons (tVar 0) (tCons (tC (.bl b1)) tNil))) (tCons (tCall spTold [] E0 (tCons (tVar 0) (tCons (tC (.bl b2)) tNil))) tNil))) tNil)) [some (.str z), some (.ref t0), none, none] H1 (.str (PyData.list [rD z, rD z]).shown) := fun b1 b2 =>
      ev_reprNN (P1 := Nd K z) (P2 := Nd K z) (en_call (ea_cons (ev_var rfl) (ea_cons ev_c ea_nil)) fun H2 e2 Q' q' => ⟨z, b1, rfl, hz, RetN.of q'⟩) (en_call (ea_cons (ev_var rfl) (ea_cons ev_c ea_nil)) fun H2 e2 Q' q' => ⟨z, b2, rfl, hz, RetN.of q'⟩) (fun _ _ _ hN => hN.1) (fun _ _ _ hN => hN.1) (tame_two tD tD) (by decide) (by decide)
    refine q_when (b := false) (et_test (ev_is (ev_op (hreprs false true) (ev_reprL (el_lst (ea_cons (ev_var rfl) (ea_cons (ev_var rfl) ea_nil)) (by show 2 ≤ 100000; decide)) (.cons hN0.1 (.cons hN0.1 .nil)) (tame_two tD tD) (by decide) (by decide)) (rv_ne rfl)) (by rw [decide_eq_true rfl] <;> rfl))) (fun z => by cases z) fun _ Hd ed => ?_
    cases hrd : readS z with
    | error n =>
      have h2 := hN0.2
      rw [hrd] at h2
      obtain ⟨xs, hx⟩ := h2
      refine q_when (b := false) (et_test (ev_isiT (ev_var rfl) (ed _ _ hx))) (fun z => by cases z) fun _ He ee => ?_
      exact s_ret ev_c fun Hf ef => q Hf (((e1.trans ed).trans ee).trans ef)
    | ok ws =>
      obtain ⟨hjoin, wd, hv⟩ := readS_ok hrd
      have hx := hN0.2
      rw [hrd] at hx
      have hx : H1 t0 = some (.lst (ws.map V.str)) := hx
      obtain ⟨w0, rest, rfl⟩ : ∃ w0 rest, ws = w0 :: rest := by
        cases ws with
        | nil => have := hv.l1; simp at this
        | cons a b => exact ⟨a, b, rfl⟩
      have hw0 := (hv.all w0 List.mem_cons_self).1
      have hw8 := hv.w8
      refine q_when (b := true) (et_test (ev_isiL (ev_var rfl) (ed _ _ hx))) (fun _ He ee => ?_) (fun z => by cases z)
      have rd : ∀ H2, Ex He H2 → ∀ Q' : VK, (∀ p H3, H2 p = none → Ex H2 H3 → Stm C H3 p (w0 :: rest) → Q' (.ref p) H3) → spRead C Ca [.str z] H2 Q' (fun _ _ _ => False) := fun H2 e2 Q' q' => ⟨z, rfl, hz, by rw [hrd]; exact fun a H' ha e st => q' a H' ha e st⟩
      have hx2 := ee _ _ (ed _ _ hx)
      refine q_parNN (P1 := fun H p => Stm C H p (w0 :: rest)) (P2 := fun H p => Stm C H p (w0 :: rest)) (en_call (ea_cons (ev_var rfl) ea_nil) fun H2 e2 Q' q' => rd H2 e2 Q' q') (en_call (ea_cons (ev_var rfl) ea_nil) fun H2 e2 Q' q' => rd H2 e2 Q' q') (fun p1 p2 Ha Hb hp1 ea st1 hne hp2 eb st2 => ?_) (fun H1 p st => by
        obtain ⟨dx, l, h1, h2⟩ := st
        rw [h1]
        simp)
      have hpp : p1 ≠ p2 := fun k => hne (by rw [k]; exact hp2)
      have st1 := st1.ex eb
      have wr : ∀ {p : Addr} (H2 : Hp), Stm C H2 p (w0 :: rest) → ∀ Q : VK, RetV (.str z) H2 Q → spWrite C [.ref p] H2 Q E0 := fun {p} H2 st Q' q' => ⟨p, _, rfl, st, hv.part, by rw [hjoin]; exact q'⟩
      have eqs : Ev (tOp (rEqI K C) (tVar 2) (tVar 3)) [some (.str z), some (.ref t0), some (.ref p1), some (.ref p2)] Hb (.bl false) := by
        obtain ⟨da, la, ha1, _⟩ := st1
        obtain ⟨db, lb, hb1, _⟩ := st2
        exact ev_op (ev_var rfl) (ev_var rfl) (rv_eqI hpp ha1 hb1)
      refine q_when (b := false) (et_is (et_or (a := false) (b := false) (et_test eqs) fun _ => et_is (et_or (a := false) (b := false) (et_test (ev_is (ev_op (ev_call' (z := .str z) (ea_cons (ev_var rfl) ea_nil) fun H2 e2 => wr H2 (st1.ex e2)) (ev_var rfl) (rv_ne rfl)) (by rw [decide_eq_true rfl] <;> rfl))) fun _ =>
        et_test (ev_is (ev_op (ev_callKS (z := .str z) (vs := [.ref p2]) (ea_cons (ev_var rfl) ea_nil) fun H2 e2 => wr H2 (st2.ex e2)) (ev_var rfl) (rv_ne rfl)) (by rw [decide_eq_true rfl] <;> rfl))) rfl) rfl) (fun z => by cases z) fun _ Hf ef => ?_
      refine s_when (b := false) (et_test (ev_is (ev_op (ev_width (ev_var rfl) (st1.ex ef) (by omega)) (ev_cb (ea_cons (ev_op (ev_var rfl) ev_c (rv_ixL (v := .str w0) (sq_of (ef _ _ (eb _ _ (ea _ _ hx2)))) (atI_nat (j := 0) rfl))) ea_nil) (rc_lenS (by omega))) (rv_ne rfl)) (by rw [decide_eq_true rfl] <;> rfl))) (fun z => by cases z) fun _ Hg eg => ?_
      show Q (.bl true) Hg
      exact q Hg ((((((e1.trans ed).trans ee).trans ea).trans eb).trans ef).trans eg)
end
end K81
end

section
set_option Elab.async false
set_option linter.all false
set_option maxRecDepth 100000
set_option maxHeartbeats 2000000
namespace K81
open PySem PySem.Spec PyProof.Rows L2 Ov Evl TxM ClX
/-- words that are drawn: so far -/
structure Sofar (ws : List Str) (wide i : Nat) : Prop where
  le : ws.length ≤ i
  ge : 0 < i → 1 ≤ ws.length
  all : ∀ w ∈ ws, w.length = wide ∧ low w = true
  nd : ws.Nodup
theorem Sofar.next {ws : List Str} {wide i : Nat} {u : Str} (h : Sofar ws wide i) (hu : u.length = wide ∧ low u = true) : Sofar (if u ∈ ws then ws else ws ++ [u]) wide (i + 1) := by
  by_cases hm : u ∈ ws
  · rw [if_pos hm]
    exact ⟨Nat.le_succ_of_le h.le, fun _ => List.length_pos_of_mem hm, h.all, h.nd⟩
  · rw [if_neg hm]
    refine ⟨by simp; exact h.le, fun _ => by simp, fun w hw => ?_, List.nodup_append.mpr ⟨h.nd, by simp, fun a ha b hb => ?_⟩⟩
    · rcases List.mem_append.mp hw with hw | hw
      · exact h.all w hw
      · cases List.mem_singleton.mp hw
        exact hu
    · cases List.mem_singleton.mp hb
      exact fun k => hm (k ▸ ha)
def spLw : Sp := fun vs H Q _ => ∃ (G : Hp) (v : Addr) (m wide : Nat), vs = [.ref v, .int (wide : Int), .int 6] ∧ Wd G v (m + 60) H ∧ 1 ≤ wide ∧ wide ≤ 8 ∧
  ∀ p ws G' H', Ex G G' → G' p = some (.lst (ws.map V.str)) → Valid ws wide → Wd G' v m H' → Q (.ref p) H'
section
variable {P : Program} {w : World} {K : PySem.W.Frag} {mg : Str → Option Value} {bh : Heap}
theorem ok_law_words {f : Addr} {fd : FuncData} (F : Fun K "_law_words" "_law_words" s__law_words f fd) (T : Txt K mg) (D__law_sip : Dn P w K mg bh CX0 1 "_law_sip" ["vat", "size"] spSip) : FnOk P w K mg bh CX0 2 f fd ["vat", "wide", "most"] spLw := by
  refine F.ok sc__law_words (fun vs H Q E h => ?_) (fun cdv A outer s H vs Q E hr1 h => ?_)
  · obtain ⟨G, v, m, wide, rfl, _⟩ := h
    rfl
  · obtain ⟨G, v, m, wide, rfl, w0, hw1, hw8, q⟩ := h
    refine ⟨_, (pss_cons (ps_set (i := 3) sc__law_words.nd rfl (Or.inr rfl) (pe_ix ix_list (pe_lst (pa_cons pe_str (pa_cons pe_str (pa_cons pe_str pa_nil)))) (pe_d D__law_sip hr1 pass0 (pa_cons (pv 0) (pa_cons pe_int pa_nil))) (fun _ _ => rfl)))
  (pss_cons (ps_set (i := 4) sc__law_words.nd rfl (Or.inl rfl) (pe_lst pa_nil))
  (pss_cons (ps_for PassesOwn.never rfl (pi_range1 rfl T.f_range (pa_cons (pe_op op_add pe_int (pe_d D__law_sip hr1 pass0 (pa_cons (pv 0) (pa_cons (pe_callB (call_min2 rfl) rfl T.f_min (by decide +kernel) (pa_cons (pv 2) (pa_cons (pe_op op_fdiv pe_int (pv 1)) pa_nil))) pa_nil)))) pa_nil)) (pg_name (i := 5) sc__law_words.nd rfl (.inl rfl))
   (pss_cons (ps_set (i := 6) sc__law_words.nd rfl (Or.inl rfl) (pe_join pe_str (pe_lc (own := [("spot", 7)]) (g := gName 7) (tt := tYes) (by rfl) sc__law_words.nd (pi_range1 rfl T.f_range (pa_cons (pv 1) pa_nil)) (blkOk_by (own := [("spot", 7)]) (N := ["vat", "wide", "most", "signs", "found", "turn", "word", "spot"]) (sc := defScope s__law_words) (by decide +kernel)) (fun _ _ _ _ _ => pg_name (i := 7) sc__law_words.nd rfl (.inl rfl)) (fun _ _ _ _ _ => pts_nil) (fun _ _ _ _ _ => (pe_ix ix_str (pv 3) (pe_d D__law_sip hr1 pass0 (pa_cons (pv 0) (pa_cons (pe_callB call_len_str rfl T.f_len (by decide +kernel) (pa_cons (pv 3) pa_nil)) pa_nil))) (fun _ _ => rfl))))))
  (pss_one (ps_set (i := 4) sc__law_words.nd rfl (Or.inl rfl) (pe_op op_cat (pv 4) (pe_op op_rep (pe_lst (pa_cons (pv 6) pa_nil)) (pe_callTy call_int1 rfl T.f_int (by decide +kernel) (pa_cons (pe_cmpR op_notIn_seq (pv 6) (pv 4) rfl) pa_nil))))))))
  (pss_one (ps_ret (pv 4)))))), ?_⟩
    refine q_asgW (P := fun x => ∃ s : Str, x = .str s ∧ 2 ≤ s.length ∧ s.length ≤ 26 ∧ low s = true) w0 (evw_imp (evw_pick (ea_cons ev_c (ea_cons ev_c (ea_cons ev_c ea_nil))) (by show 3 ≤ 1000; decide) fun G' eG' => evw_sip (n := m + 59) (ev_var rfl) ev_c (show (0 : Int) < 3 by decide) (show (3 : Int) < 1000000 by decide)) fun x hx => ?_) fun x H1 hx w1 => ?_
    · have k1 : ∀ s ∈ (["ab", "abc", "abcdefghijklmnopqrstuvwxyz"] : List Str), 2 ≤ s.length ∧ s.length ≤ 26 ∧ low s = true := by decide +kernel
      have hx2 : x ∈ ((["ab", "abc", "abcdefghijklmnopqrstuvwxyz"] : List Str).map V.str) := hx
      obtain ⟨s, hs, rfl⟩ := List.mem_map.mp hx2
      exact ⟨s, rfl, k1 s hs⟩
    obtain ⟨sg, rfl, hs2, hs26, hslow⟩ := hx
    refine q_asgL (el_lst ea_nil (Nat.zero_le _)) fun p H2 hp e2 h2 => ?_
    obtain ⟨w2, eG, hpG⟩ := w1.new hp e2 h2
    generalize hG1 : upd G p (.lst []) = G1 at w2 eG hpG
    have h36 : 1 ≤ 36 / (wide : Int) := (Int.le_ediv_iff_mul_le (by omega)).mpr (by omega)
    refine q_forR1W (P := fun x => ∃ r : Int, x = .int r ∧ 1 ≤ r ∧ r ≤ 6 ∧ (wide : Int) * r ≤ 36) w2 (evw_opR ev_c (evw_sip (n := m + 58) (ev_var rfl) (ev_min2 (ev_var rfl) (ev_op ev_c (ev_var rfl) (rv_I ⟨by omega, by omega⟩))) ?_ ?_) fun y hy => ?_) (fun x hx => ?_) fun r H3 hr w3 => ?_
    · split <;> omega
    · split <;> omega
    · obtain ⟨r, rfl, r0, r1⟩ := hy
      refine ⟨_, ⟨_, rfl, by omega, ?_, ?_⟩, rv_I0⟩
      · split at r1 <;> omega
      · have h1 : 1 + r ≤ 36 / (wide : Int) := by split at r1 <;> omega
        have h2 := (Int.le_ediv_iff_mul_le (show (0 : Int) < wide by omega)).mp h1
        rw [Int.mul_comm]
        exact h2
    · obtain ⟨r, rfl, _⟩ := hx
      exact ⟨r, rfl⟩
    obtain ⟨r', hr', r1, r6, rw36⟩ := hr
    cases hr'
    refine q_forR1 (n := r) (ea_cons ev_c ea_nil) (by omega) (fun i σ' H' => ∃ (x5 x6 x7 : Option V) (p : Addr) (ws : List Str) (G' : Hp), σ' = [some (.ref v), some (.int (wide : Int)), some (.int 6), some (.str sg), some (.ref p), x5, x6, x7] ∧ Ex G1 G' ∧ G' p = some (.lst (ws.map V.str)) ∧ Sofar ws wide i ∧ Wd G' v (m + 8 * (6 - i)) H')
      (fun H4 e4 => ⟨_, _, _, p, [], G1, rfl, Evl.Ex.refl _, hpG, (⟨Nat.le_refl _, (fun k => absurd k (Nat.lt_irrefl 0)), (fun w k => absurd k List.not_mem_nil), List.nodup_nil⟩ : Sofar [] wide 0), (w3.mono e4).le (by omega)⟩) (fun i σ' H' hi hP => ?_) (fun σ' H' hP => ?_)
    · obtain ⟨x5, x6, x7, p', ws, G', rfl, e', hp', hso, w4⟩ := hP
      have hi6 : i < 6 := by omega
      have w4' : Wd G' v ((m + 8 * (6 - (i + 1))) + 1 * ((wide : Nat) : Int).toNat) H' := w4.le (by omega)
      refine q_asgW w4' (evw_join (K := K) (c := 1) (fun c => isL c = true) (ea_cons (ev_var rfl) ea_nil) (by omega) (fun _ => rfl) fun j G2 l hj e2' => evw_opR (ev_var rfl) (evw_sip (n := l) (ev_var rfl) (ev_cb (ea_cons (ev_var rfl) ea_nil) (rc_lenS (by omega))) (by omega) (by omega)) fun y hy => ?_) fun x H5 hx w5 => ?_
      · obtain ⟨rr, rfl, r0, r1'⟩ := hy
        obtain ⟨k, rfl⟩ : ∃ k : Nat, rr = k := ⟨rr.toNat, by omega⟩
        have hk : k < sg.cps.toList.length := by rw [Array.length_toList]; show k < sg.length; omega
        exact ⟨_, ⟨sg.cps.toList[k], rfl, List.all_eq_true.mp hslow _ (List.getElem_mem hk)⟩, rv_ixS (by omega) (atI_nat (List.getElem?_eq_getElem hk))⟩
      obtain ⟨cs, rfl, hcl, hca⟩ := hx
      have hu : (⟨cs.toArray⟩ : Str).length = wide ∧ low ⟨cs.toArray⟩ = true := ⟨by show cs.toArray.size = _; rw [List.size_toArray]; omega, by unfold low; rw [List.toList_toArray]; exact List.all_eq_true.mpr hca⟩
      generalize hun : (⟨cs.toArray⟩ : Str) = u at hu
      have flat : (ws.map V.str).all flatV = true := by rw [List.all_map]; exact List.all_eq_true.mpr fun _ _ => rfl
      have hwl := hso.le
      refine s_asgL (xs := (if u ∈ ws then ws else ws ++ [u]).map V.str) (el_is (el_catV (ev_var rfl) (w5.ex _ _ hp') (el_rep (xs := [.str u]) (k := if (!decide (u ∈ ws)) = true then 1 else 0) (el_lst (ea_cons (ev_var rfl) ea_nil) (by show 1 ≤ 100000; decide)) (ev_cb (ea_cons (ev_is (ev_op (ev_var rfl) (ev_var rfl) (rv_niL (sq_of (w5.ex _ _ hp')) rfl flat)) (by rw [inV_strs])) ea_nil) rc_intB) (by split <;> omega) (by split <;> omega) ?_) ?_) ?_) fun p2 H6 hp6 e6 h6 => ?_
      · split
        · show 1 * 1 ≤ 100000; decide
        · show 1 * 0 ≤ 100000; decide
      · rw [List.length_map]
        by_cases hm : u ∈ ws
        · rw [decide_eq_true hm]
          show _ + 0 ≤ _
          omega
        · rw [decide_eq_false hm]
          show _ + 1 ≤ _
          omega
      · by_cases hm : u ∈ ws
        · rw [if_pos hm, decide_eq_true hm]
          show ws.map V.str ++ [] = _
          rw [List.append_nil]
        · rw [if_neg hm, decide_eq_false hm]
          show ws.map V.str ++ [V.str u] = _
          rw [List.map_append] <;> rfl
      · obtain ⟨w6, eG6, hp7⟩ := w5.new hp6 e6 h6
        exact ⟨_, _, _, p2, _, _, rfl, e'.trans eG6, hp7, hso.next hu, w6⟩
    · obtain ⟨x5, x6, x7, p', ws, G', rfl, e', hp', hso, w4⟩ := hP
      refine s_ret (ev_var rfl) fun H5 e5 => q p' ws G' H5 (eG.trans e') hp' ?_ ((w4.mono e5).le (by omega))
      have h1 := hso.le
      have h2 := hso.ge (by omega)
      refine ⟨h2, by omega, hw1, hw8, hso.all, ?_, hso.nd⟩
      have h3 : wide * ws.length ≤ wide * r.toNat := Nat.mul_le_mul_left _ h1
      have h4 : ((wide * r.toNat : Nat) : Int) = (wide : Int) * r := by
        rw [Int.natCast_mul, Int.toNat_of_nonneg (by omega)]
      omega
end
end K81
end

section
set_option Elab.async false
set_option linter.all false
set_option maxRecDepth 100000
set_option maxHeartbeats 2000000
namespace K81
open PySem PySem.Spec PyProof.Rows L2 Ov Evl
/-! ### the draws -/
theorem bits_le {i : Int} {n : Nat} (h0 : 0 ≤ i) (h : i < 2 ^ n) : Builtin.Int.intBits i ≤ n := by
  unfold Builtin.Int.intBits
  by_cases e : i = 0
  · rw [if_pos (by rw [e]; rfl)]
    exact Nat.zero_le _
  · rw [if_neg (by simpa using e)]
    have hn : i.natAbs ≠ 0 := by omega
    have h2 : i.natAbs < 2 ^ n := by
      have : ((i.natAbs : Nat) : Int) < ((2 ^ n : Nat) : Int) := by
        rw [Int.natAbs_of_nonneg h0]
        simpa using h
      exact Int.ofNat_lt.mp this
    exact (Nat.log2_lt hn).mpr h2
theorem powB {i j : Int} (h0 : 0 ≤ i) (h : i < 2 ^ 200) (hj0 : 0 ≤ j) (hj : j ≤ 100) : CPowB i j := by
  refine ⟨hj0, ?_⟩
  have hb := bits_le (n := 200) h0 h
  have h1 : (Builtin.Int.intBits i : Int) ≤ 200 := by omega
  have h2 : (Builtin.Int.intBits i : Int) * j ≤ 200 * 100 := Int.mul_le_mul h1 hj hj0 (by decide)
  exact Int.le_trans h2 (by decide)
theorem p18 : (10 : Int) ^ (18 : Int).toNat = 1000000000000000000 := by decide +kernel
theorem p38 : (10 : Int) ^ (38 : Int).toNat = 100000000000000000000000000000000000000 := by decide +kernel
theorem p39 : (10 : Int) ^ (39 : Int).toNat = 1000000000000000000000000000000000000000 := by decide +kernel
theorem p41 : (10 : Int) ^ (41 : Int).toNat = 100000000000000000000000000000000000000000 := by decide +kernel
section
variable {P : Program} {w : World} {K : PySem.W.Frag} {mg : Str → Option Value} {bh : Heap}
theorem ok_law_vat {f : Addr} {fd : FuncData} (F : Fun K "_law_vat" "_law_vat" s__law_vat f fd) (T : Txt K mg) : FnOk P w K mg bh CX0 1 f fd ["script", "k"] (spVat K) := by
  refine F.ok sc__law_vat (fun vs H Q E h => ?_) (fun cdv A outer s H vs Q E hr h => ?_)
  · obtain ⟨a, ns, k, rfl, _⟩ := h
    rfl
  · obtain ⟨a, ns, k, rfl, hS, hl, hk0, hk1, q⟩ := h
    refine ⟨_, (pss_cons (ps_set (i := 2) sc__law_vat.nd rfl (Or.inl rfl) (pe_ifExp (pt_cmpR op_lt (pv 1) (pe_callB call_len_seq rfl T.f_len (by decide +kernel) (pa_cons (pv 0) pa_nil)) (nomark _)) (pe_callB call_abs rfl T.f_abs (by decide +kernel) (pa_cons (pe_ix ix_list (pv 0) (pv 1) (fun _ _ => rfl)) pa_nil)) pe_int))
  (pss_one (ps_ret (pe_lst (pa_cons (pe_callB (call_max2 rfl) rfl T.f_max (by decide +kernel) (pa_cons pe_int (pa_cons (pe_op op_sub (pv 2) (pe_op op_powB pe_int pe_int)) pa_nil))) (pa_cons (pe_op op_add (pe_op op_mul (pe_op op_mod (pv 2) (pe_op op_add (pe_op op_powB pe_int pe_int) pe_int)) pe_int) (pv 1)) (pa_cons pe_int pa_nil))))))), ?_⟩
    obtain ⟨x, hx0, hx⟩ : ∃ x : Int, 0 ≤ x ∧ ∀ H1, Ex H H1 → Ev (tIf (tTest (tOp (rI0 fun i j => V.bl (decide (i < j))) (tVar 1) (tCB (rLenS K) (tCons (tVar 0) tNil))))
        (tCB (fun xs H Q => ∃ i, xs = [V.int i] ∧ Q (V.int (if i < 0 then -i else i)) H) (tCons (tOp (rIxL K) (tVar 0) (tVar 1)) tNil)) (tC (V.int 0))) (L2.start ["script", "k", "cell"] [V.ref a, V.int k]) H1 (.int x) := by
      by_cases hk : k < ns.length
      · obtain ⟨i, rfl⟩ : ∃ i : Nat, k = i := ⟨k.toNat, by omega⟩
        have hi : i < ns.length := by omega
        refine ⟨if ns[i] < 0 then -ns[i] else ns[i], by split <;> omega, fun H1 e => ?_⟩
        refine ev_if (b := true) (et_test (ev_is (ev_op (ev_var rfl) (ev_len (ev_var rfl) (ex_l e hS)) rv_I0) ?_)) (fun _ => ev_cb (ea_cons (ev_op (ev_var rfl) (ev_var rfl) (rv_ixL (v := .int ns[i]) (ex_l e hS) (atI_nat (by simp [hi])))) ea_nil) (fun H2 _ _ q => ⟨_, rfl, q H2 (Ex.refl H2)⟩)) (fun z => by cases z)
        rw [List.length_map, decide_eq_true hk]
      · refine ⟨0, Int.le_refl 0, fun H1 e => ?_⟩
        refine ev_if (b := false) (et_test (ev_is (ev_op (ev_var rfl) (ev_len (ev_var rfl) (ex_l e hS)) rv_I0) ?_)) (fun z => by cases z) (fun _ => ev_c)
        rw [List.length_map, decide_eq_false hk]
    refine q_asg (v := .int x) (hx H (Ex.refl H)) fun H1 e1 => ?_
    refine s_retL (el_lst (ea_cons (ev_cb (ea_cons ev_c (ea_cons (ev_op (ev_var rfl) (ev_op ev_c ev_c (rv_I (powB (by decide) (by decide) (by decide) (by decide)))) rv_I0) ea_nil)) (fun H2 _ _ q => ⟨_, _, rfl, q H2 (Ex.refl H2)⟩))
      (ea_cons (ev_op (ev_op (ev_op (ev_var rfl) (ev_op (ev_op ev_c ev_c (rv_I (powB (by decide) (by decide) (by decide) (by decide)))) ev_c rv_I0) (rv_I (by rw [p39]; decide))) ev_c (rv_I (.inr (by decide)))) (ev_var rfl) rv_I0) (ea_cons ev_c ea_nil))) (by show 3 ≤ 100000; decide)) fun p H2 hp e2 h2 => ?_
    refine q p H2 (e1.free hp) (e1.trans e2) ⟨_, _, _, h2, ?_, ?_, ?_, Int.le_refl 0, by decide⟩
    · split <;> omega
    · rw [p39]
      omega
    · rw [p39]
      have : x % (1000000000000000000000000000000000000000 + 3) < 1000000000000000000000000000000000000003 := Int.emod_lt_of_pos _ (by decide)
      have e10 : (10 : Int) ^ 43 = 10000000000000000000000000000000000000000000 := by decide +kernel
      rw [e10]
      omega
theorem ok_law_sip {f : Addr} {fd : FuncData} (F : Fun K "_law_sip" "_law_sip" s__law_sip f fd) (T : Txt K mg) : FnOk P w K mg bh CX0 1 f fd ["vat", "size"] spSip := by
  refine F.ok sc__law_sip (fun vs H Q E h => ?_) (fun cdv A outer s H vs Q E hr h => ?_)
  · obtain ⟨G, v, n, size, rfl, _⟩ := h
    rfl
  · obtain ⟨G, v, n, size, rfl, hw, h0, h1, q⟩ := h
    refine ⟨_, (pss_cons (ps_if (pt_cmpR op_gt (pe_ix ix_list (pv 0) pe_int (fun _ _ => rfl)) pe_int (nomark _))
   (pss_cons (ps_set (i := 2) sc__law_sip.nd rfl (Or.inl rfl) (pe_op op_mod (pe_ix ix_list (pv 0) pe_int (fun _ _ => rfl)) (pv 1)))
  (pss_cons (ps_asg (pe_op op_fdiv (pe_ix ix_list (pv 0) pe_int (fun _ _ => rfl)) (pv 1)) (pg_sub (pv 0) pe_int set_list))
  (pss_one (ps_ret (pv 2)))))
   pss_nil)
  (pss_cons (ps_asg (pe_op op_add (pe_ix ix_list (pv 0) pe_int (fun _ _ => rfl)) pe_int) (pg_sub (pv 0) pe_int set_list))
  (pss_cons (ps_set (i := 3) sc__law_sip.nd rfl (Or.inl rfl) (pe_op op_mod (pe_op op_powB (pe_op op_add (pe_ix ix_list (pv 0) pe_int (fun _ _ => rfl)) (pe_op op_mul pe_int (pe_ix ix_list (pv 0) pe_int (fun _ _ => rfl)))) pe_int) (pe_op op_add (pe_op op_powB pe_int pe_int) pe_int)))
  (pss_cons (ps_set (i := 3) sc__law_sip.nd rfl (Or.inl rfl) (pe_op op_mod (pe_op op_powB (pe_op op_add (pv 3) (pe_op op_mul pe_int (pe_ix ix_list (pv 0) pe_int (fun _ _ => rfl)))) pe_int) (pe_op op_add (pe_op op_powB pe_int pe_int) pe_int)))
  (pss_one (ps_ret (pe_op op_mod (pe_op op_fdiv (pv 3) pe_int) (pv 1)))))))), ?_⟩
    obtain ⟨d, m, c, hv, hd, hm0, hm1, hc0, hc1⟩ := hw.vat
    have e43 : (10 : Int) ^ 43 = 10000000000000000000000000000000000000000000 := by decide +kernel
    rw [e43] at hm1
    refine q_when (b := decide (0 < d)) (et_test (ev_op (ev_op (ev_var rfl) ev_c (rv_ixL (sq_of hv) rfl)) ev_c rv_I0)) (fun hb H1 e1 => ?_) (fun hb H1 e1 => ?_)
    · have hv1 := e1 _ _ hv
      refine q_asg (ev_op (ev_op (ev_var rfl) ev_c (rv_ixL (sq_of hv1) rfl)) (ev_var rfl) (rv_I h0)) fun H2 e2 => ?_
      have hv2 := e2 _ _ hv1
      refine q_setL hv2 (j := 0) (ev_op (ev_op (ev_var rfl) ev_c (rv_ixL (sq_of hv2) rfl)) (ev_var rfl) (rv_I ⟨h0, by omega⟩)) (ev_var rfl) ev_c (by show 0 < 3; decide) fun H3 e3 => ?_
      refine s_ret (ev_var rfl) fun H4 e4 => q (d % size) H4 (Int.emod_nonneg _ (by omega)) (Int.emod_lt_of_pos _ h0) ⟨hw.no, ?_, ?_⟩
      · exact (Evl.Ex.mut (hw.ex.trans ((e1.trans e2).trans e3)) hw.no).trans e4
      · exact ⟨d / size, m, c, e4 _ _ upd_same, Int.ediv_nonneg hd (by omega), hm0, by rw [e43]; exact hm1, hc0, by omega⟩
    · have hv1 := e1 _ _ hv
      refine q_setL hv1 (j := 2) (ev_op (ev_op (ev_var rfl) ev_c (rv_ixL (sq_of hv1) rfl)) ev_c rv_I0) (ev_var rfl) ev_c (by show 2 < 3; decide) fun H2 e2 => ?_
      have hv2 : (upd H2 v (.lst [.int d, .int m, .int (c + 1)])) v = some (.lst [.int d, .int m, .int (c + 1)]) := upd_same
      have ex2 : Ex G (upd H2 v (.lst [.int d, .int m, .int (c + 1)])) := Evl.Ex.mut (hw.ex.trans (e1.trans e2)) hw.no
      show tSeq _ _ _ _ (upd H2 v (.lst [.int d, .int m, .int (c + 1)]))
      generalize upd H2 v (.lst [.int d, .int m, .int (c + 1)]) = H3 at hv2 ex2
      have hA : (0 : Int) < (10 ^ (41 : Int).toNat + 37) := by rw [p41]; decide
      have hB : (0 : Int) < (10 ^ (38 : Int).toNat + 133) := by rw [p38]; decide
      refine q_asg (ev_op (ev_op (ev_op (ev_op (ev_var rfl) ev_c (rv_ixL (sq_of hv2) rfl)) (ev_op ev_c (ev_op (ev_var rfl) ev_c (rv_ixL (sq_of hv2) rfl)) (rv_I (.inl (by decide)))) rv_I0) ev_c (rv_I (powB (by omega) (by omega) (by decide) (by decide))))
        (ev_op (ev_op ev_c ev_c (rv_I (powB (by decide) (by decide) (by decide) (by decide)))) ev_c rv_I0) (rv_I hA)) fun H4 e4 => ?_
      have hv4 := e4 _ _ hv2
      generalize hx : (m + 49979693 * (c + 1)) ^ (3 : Int).toNat % (10 ^ (41 : Int).toNat + 37) = x
      have hx0 : 0 ≤ x := by rw [← hx]; exact Int.emod_nonneg _ (by omega)
      have hx1 : x < 10 ^ (41 : Int).toNat + 37 := by rw [← hx]; exact Int.emod_lt_of_pos _ hA
      rw [p41] at hx1
      refine q_asg (ev_op (ev_op (ev_op (ev_var rfl) (ev_op ev_c (ev_op (ev_var rfl) ev_c (rv_ixL (sq_of hv4) rfl)) (rv_I (.inl (by decide)))) rv_I0) ev_c (rv_I (powB (by omega) (by omega) (by decide) (by decide))))
        (ev_op (ev_op ev_c ev_c (rv_I (powB (by decide) (by decide) (by decide) (by decide)))) ev_c rv_I0) (rv_I hB)) fun H5 e5 => ?_
      refine s_ret (ev_op (ev_op (ev_var rfl) ev_c (rv_I ⟨by decide, by decide⟩)) (ev_var rfl) (rv_I h0)) fun H6 e6 => q _ H6 (Int.emod_nonneg _ (by omega)) (Int.emod_lt_of_pos _ h0) ⟨hw.no, ex2.trans ((e4.trans e5).trans e6), ?_⟩
      exact ⟨d, m, c + 1, e6 _ _ (e5 _ _ hv4), hd, hm0, by rw [e43]; exact hm1, by omega, by omega⟩
end
end K81
end

section
set_option Elab.async false
set_option linter.all false
set_option maxRecDepth 100000
set_option maxHeartbeats 4000000
namespace Num
open PySem PySem.Spec PyProof.Rows L2
/-- a text of these signs -/
abbrev S (l : List Nat) : Str := ⟨l.toArray⟩
theorem S_eta (w : Str) : S w.cps.toList = w := by cases w; rfl
def isD (c : Nat) : Bool := decide (c ∈ ("0123456789" : Str).cps.toList)
def digs (l : List Nat) : List Nat := if l.take 1 = [45] then l.drop 1 else l
def numOk (l : List Nat) : Bool := decide (1 ≤ (digs l).length) && (decide ((digs l).length ≤ 3) && ((digs l).all isD && !(decide ((digs l).head? = some 48) && !decide (l = [48]))))
def D1 : List Nat := [48, 49, 50, 51, 52, 53, 54, 55, 56, 57]
def ds1 : List (List Nat) := D1.map fun a => [a]
def ds2 : List (List Nat) := D1.flatMap fun a => D1.map fun b => [a, b]
def ds3 : List (List Nat) := D1.flatMap fun a => D1.flatMap fun b => D1.map fun c => [a, b, c]
def cand : List (List Nat) := ds1 ++ ds2 ++ ds3
def good (l : List Nat) : Bool := !numOk l || (match PySem.intText? (S l) with
  | some m => decide ((toString m : Str) = S l) && decide (-999 ≤ m ∧ m ≤ 999)
  | none => false)
theorem all_good : (cand.all fun l => good l && good (45 :: l)) = true := by decide +kernel
theorem mem_D1 {c : Nat} (h : isD c = true) : c ∈ D1 := by
  have h1 : c ∈ ("0123456789" : Str).cps.toList := of_decide_eq_true h
  have h2 : ("0123456789" : Str).cps.toList = D1 := by decide +kernel
  rwa [h2] at h1
theorem mem_cand {l : List Nat} (h1 : 1 ≤ l.length) (h3 : l.length ≤ 3) (hd : l.all isD = true) : l ∈ cand := by
  unfold cand ds1 ds2 ds3
  match l, h1, h3, hd with
  | [a], _, _, hd =>
    simp only [List.all_cons, List.all_nil, Bool.and_true] at hd
    exact List.mem_append_left _ (List.mem_append_left _ (List.mem_map.mpr ⟨a, mem_D1 hd, rfl⟩))
  | [a, b], _, _, hd =>
    simp only [List.all_cons, List.all_nil, Bool.and_true, Bool.and_eq_true] at hd
    exact List.mem_append_left _ (List.mem_append_right _ (List.mem_flatMap.mpr ⟨a, mem_D1 hd.1, List.mem_map.mpr ⟨b, mem_D1 hd.2, rfl⟩⟩))
  | [a, b, c], _, _, hd =>
    simp only [List.all_cons, List.all_nil, Bool.and_true, Bool.and_eq_true] at hd
    exact List.mem_append_right _ (List.mem_flatMap.mpr ⟨a, mem_D1 hd.1, List.mem_flatMap.mpr ⟨b, mem_D1 hd.2.1, List.mem_map.mpr ⟨c, mem_D1 hd.2.2, rfl⟩⟩⟩)
theorem good_of {l : List Nat} (h : numOk l = true) : good l = true := by
  have h0 := h
  unfold numOk at h
  simp only [Bool.and_eq_true, decide_eq_true_eq] at h
  obtain ⟨h1, h3, hd, _⟩ := h
  have hm := mem_cand h1 h3 hd
  have hg := List.all_eq_true.mp all_good _ hm
  rw [Bool.and_eq_true] at hg
  by_cases c : l.take 1 = [45]
  · have e : digs l = l.drop 1 := if_pos c
    have e2 : l = 45 :: digs l := by
      rw [e]
      match l, c with
      | a :: r, c =>
        have : a = 45 := by simpa using c
        rw [this]; rfl
    rw [e2]
    exact hg.2
  · have e : digs l = l := if_neg c
    have := hg.1
    rwa [e] at this
theorem num_val {l : List Nat} (h : numOk l = true) : ∃ m : Int, PySem.intText? (S l) = some m ∧ (toString m : Str) = S l ∧ -999 ≤ m ∧ m ≤ 999 := by
  have hg := good_of h
  unfold good at hg
  rw [h] at hg
  cases e : PySem.intText? (S l) with
  | none => rw [e] at hg; cases hg
  | some m =>
    rw [e] at hg
    simp only [Bool.not_true, Bool.false_or, Bool.and_eq_true, decide_eq_true_eq] at hg
    exact ⟨m, rfl, hg.1, hg.2⟩
/-- the integer that a word writes within two bounds -/
def numberIn (w : Str) (lo hi : Int) : Option Int := if numOk w.cps.toList = true then (PySem.intText? w).bind fun m => if lo ≤ m ∧ m ≤ hi then some m else none else none
theorem numberIn_text {w : Str} {lo hi n : Int} (h : numberIn w lo hi = some n) : w = (toString n : Str) ∧ lo ≤ n ∧ n ≤ hi := by
  unfold numberIn at h
  by_cases c : numOk w.cps.toList = true
  · rw [if_pos c] at h
    obtain ⟨m, h1, h2, _⟩ := num_val c
    rw [S_eta] at h1 h2
    rw [h1, Option.bind_some] at h
    by_cases c2 : lo ≤ m ∧ m ≤ hi
    · rw [if_pos c2] at h
      cases h
      exact ⟨h2.symm, c2⟩
    · rw [if_neg c2] at h
      cases h
  · rw [if_neg c] at h
    cases h
/-- cuts by lists -/
theorem cut_to (w : Str) (b : Nat) : cutS w none (some (b : Int)) = S (w.cps.toList.take b) := by
  unfold cutS
  rw [HT.sIx_none, HT.sIx_nat, List.drop_zero, Nat.sub_zero]
  have e : w.length = w.cps.toList.length := Array.length_toList.symm
  by_cases h : b ≤ w.length
  · rw [Nat.min_eq_left h]
  · rw [Nat.min_eq_right (by omega), e, List.take_length, List.take_of_length_le (by omega)]
theorem cut_from (w : Str) (a : Nat) : cutS w (some (a : Int)) none = S (w.cps.toList.drop a) := by
  unfold cutS
  rw [HT.sIx_none, HT.sIx_nat]
  have e : w.length = w.cps.toList.length := Array.length_toList.symm
  by_cases h : a ≤ w.length
  · rw [Nat.min_eq_left h, List.take_of_length_le (by rw [List.length_drop]; omega)]
  · rw [Nat.min_eq_right (by omega), e, List.drop_length, List.take_nil, List.drop_of_length_le (by omega)]
theorem cutV_to (xs : List V) (b : Nat) : cutV xs none (some (b : Int)) = xs.take b := by
  unfold cutV
  rw [HT.sIx_none, HT.sIx_nat, List.drop_zero, Nat.sub_zero]
  by_cases h : b ≤ xs.length
  · rw [Nat.min_eq_left h]
  · rw [Nat.min_eq_right (by omega), List.take_length, List.take_of_length_le (by omega)]
theorem cutV_from (xs : List V) (a : Nat) : cutV xs (some (a : Int)) none = xs.drop a := by
  unfold cutV
  rw [HT.sIx_none, HT.sIx_nat]
  by_cases h : a ≤ xs.length
  · rw [Nat.min_eq_left h, List.take_of_length_le (by rw [List.length_drop]; omega)]
  · rw [Nat.min_eq_right (by omega), List.drop_length, List.take_nil, List.drop_of_length_le (by omega)]
theorem S_len (l : List Nat) : (S l).length = l.length := by show l.toArray.size = _; rw [List.size_toArray]
theorem S_inj {l m : List Nat} (h : S l = S m) : l = m := by
  have := congrArg (fun w : Str => w.cps.toList) h
  simpa using this
theorem S_list (l : List Nat) : (S l).cps.toList = l := by simp
theorem S_dec (l m : List Nat) : decide (V.str (S l) = V.str (S m)) = decide (l = m) := by
  by_cases h : l = m
  · rw [h, decide_eq_true rfl, decide_eq_true rfl]
  · rw [decide_eq_false h, decide_eq_false fun z => h (S_inj (V.str.inj z))]
/-- a value or None -/
def optI : Option Int → V
  | none => .non
  | some n => .int n
end Num
end

section
set_option Elab.async false
set_option linter.all false
set_option maxRecDepth 100000
set_option maxHeartbeats 4000000
namespace K81
open PySem PySem.Spec PyProof.Rows L2 Ov Evl TxM
def spBent (K : PySem.W.Frag) : Sp := fun vs H Q _ => ∃ (G : Hp) (v o : Addr) (n : Nat) (z : Str) (ss : List Str), vs = [.ref v, .str z, .ref o] ∧ Wd G v (n + 11) H ∧ G o = some (.lst (ss.map V.str)) ∧ 0 < ss.length ∧ ss.length ≤ 100 ∧ (∀ s ∈ ss, s.length ≤ 100) ∧ z.length ≤ 4500 ∧
  ∀ (r : Str) H', r.length ≤ 4000 → Wd G v n H' → Q (.str r) H'
def bound (i : Nat) : Nat := if i = 0 then 4500 else if i = 1 then 9300 else 19000
theorem map_str_inj : ∀ {us vs : List Str}, us.map V.str = vs.map V.str → us = vs
  | [], [], _ => rfl
  | [], _ :: _, h => by cases h
  | _ :: _, [], h => by cases h
  | u :: us, v :: vs, h => by
    rw [List.map_cons, List.map_cons, List.cons.injEq] at h
    obtain ⟨h1, h2⟩ := h
    injection h1 with h1
    rw [h1, map_str_inj h2]
section
variable {P : Program} {w : World} {K : PySem.W.Frag} {mg : Str → Option Value} {bh : Heap}
theorem ok_law_bent {f : Addr} {fd : FuncData} (F : Fun K "_law_bent" "_law_bent" s__law_bent f fd) (T : Txt K mg) (D__law_sip : Dn P w K mg bh CX0 1 "_law_sip" ["vat", "size"] spSip) : FnOk P w K mg bh CX0 2 f fd ["vat", "given", "odd"] (spBent K) := by
  refine F.ok sc__law_bent (fun vs H Q E h => ?_) (fun cdv A outer s H vs Q E hr1 h => ?_)
  · obtain ⟨G, v, o, n, z, ss, rfl, _⟩ := h
    rfl
  · obtain ⟨G, v, o, n, z, ss, rfl, hw, ho, hs0, hs1, hs2, hz, q⟩ := h
    refine ⟨_, (pss_cons (ps_for PassesOwn.never rfl (pi_range1 rfl T.f_range (pa_cons (pe_op op_add pe_int (pe_d D__law_sip hr1 pass0 (pa_cons (pv 0) (pa_cons pe_int pa_nil)))) pa_nil)) (pg_name (i := 3) sc__law_bent.nd rfl (.inl rfl))
   (pss_cons (ps_set (i := 4) sc__law_bent.nd rfl (Or.inl rfl) (pe_split (pv 1) pe_str))
  (pss_cons (ps_par (i := 5) (j := 6) rfl sc__law_bent.nd rfl rfl (by decide) rfl rfl (pa_cons (pe_d D__law_sip hr1 pass0 (pa_cons (pv 0) (pa_cons (pe_callB call_len_seq rfl T.f_len (by decide +kernel) (pa_cons (pv 4) pa_nil)) pa_nil))) (pa_cons (pe_d D__law_sip hr1 pass0 (pa_cons (pv 0) (pa_cons pe_int pa_nil))) pa_nil)) rfl)
  (pss_cons (ps_set (i := 7) sc__law_bent.nd rfl (Or.inl rfl) (pe_ix ix_list (pv 2) (pe_d D__law_sip hr1 pass0 (pa_cons (pv 0) (pa_cons (pe_callB call_len_seq rfl T.f_len (by decide +kernel) (pa_cons (pv 2) pa_nil)) pa_nil))) (fun _ _ => rfl)))
  (pss_cut (ps_if (pt_cmpR op_eq (pv 6) pe_int (nomark _))
   (pss_one (ps_set (i := 4) sc__law_bent.nd rfl (Or.inl rfl) (pe_op op_cat (pe_op op_cat (pe_slice sl_list (pv 4) po_none (po_some (pv 5))) (pe_lst (pa_cons (pv 7) pa_nil))) (pe_slice sl_list (pv 4) (po_some (pe_op op_add (pv 5) pe_int)) po_none))))
   (pss_one (ps_if (pt_cmpR op_eq (pv 6) pe_int (nomark _))
   (pss_one (ps_set (i := 4) sc__law_bent.nd rfl (Or.inl rfl) (pe_op op_cat (pe_op op_cat (pe_slice sl_list (pv 4) po_none (po_some (pv 5))) (pe_lst (pa_cons (pv 7) pa_nil))) (pe_slice sl_list (pv 4) (po_some (pv 5)) po_none))))
   (pss_one (ps_if (PW.pt (pw_and (pt_cmpR op_eq (pv 6) pe_int (nomark _)) (pw_and1 (pt_cmpR op_gt (pe_callB call_len_seq rfl T.f_len (by decide +kernel) (pa_cons (pv 4) pa_nil)) pe_int (nomark _)))))
   (pss_one (ps_set (i := 4) sc__law_bent.nd rfl (Or.inl rfl) (pe_op op_cat (pe_slice sl_list (pv 4) po_none (po_some (pv 5))) (pe_slice sl_list (pv 4) (po_some (pe_op op_add (pv 5) pe_int)) po_none))))
   (pss_one (ps_if (pt_cmpR op_eq (pv 6) pe_int (nomark _))
   (pss_one (ps_set (i := 4) sc__law_bent.nd rfl (Or.inl rfl) (pe_op op_cat (pe_op op_cat (pe_slice sl_list (pv 4) po_none (po_some (pv 5))) (pe_lst (pa_cons (pe_ix ix_list (pv 4) (pv 5) (fun _ _ => rfl)) pa_nil))) (pe_slice sl_list (pv 4) (po_some (pv 5)) po_none))))
   pss_nil)))))))
  (pss_cons (ps_set (i := 1) sc__law_bent.nd rfl (Or.inl rfl) (pe_join pe_str (pv 4)))
  (pss_cons (ps_set (i := 8) sc__law_bent.nd rfl (Or.inl rfl) (pe_d D__law_sip hr1 pass0 (pa_cons (pv 0) (pa_cons (pe_op op_add (pe_callB call_len_str rfl T.f_len (by decide +kernel) (pa_cons (pv 1) pa_nil)) pe_int) pa_nil))))
  (pss_one (ps_if (pt_cmpR op_eq (pv 6) pe_int (nomark _))
   (pss_one (ps_set (i := 1) sc__law_bent.nd rfl (Or.inl rfl) (pe_op op_add_str (pe_op op_add_str (pe_slice sl_str (pv 1) po_none (po_some (pv 8))) (pe_ix ix_list (pe_lst (pa_cons pe_str (pa_cons pe_str (pa_cons pe_str (pa_cons pe_str (pa_cons pe_str (pa_cons pe_str (pa_cons pe_str (pa_cons pe_str pa_nil))))))))) (pe_d D__law_sip hr1 pass0 (pa_cons (pv 0) (pa_cons pe_int pa_nil))) (fun _ _ => rfl))) (pe_slice sl_str (pv 1) (po_some (pv 8)) po_none))))
   (pss_one (ps_if (pt_cmpR op_eq (pv 6) pe_int (nomark _))
   (pss_one (ps_set (i := 1) sc__law_bent.nd rfl (Or.inl rfl) (pe_op op_add_str (pe_slice sl_str (pv 1) po_none (po_some (pv 8))) (pe_slice sl_str (pv 1) (po_some (pe_op op_add (pv 8) pe_int)) po_none))))
   (pss_one (ps_if (pt_cmpR op_eq (pv 6) pe_int (nomark _))
   (pss_one (ps_set (i := 1) sc__law_bent.nd rfl (Or.inl rfl) (pe_ix ix_list (pe_lst (pa_cons (pe_op op_add_str (pv 1) pe_str) (pa_cons (pe_op op_add_str pe_str (pv 1)) (pa_cons (pe_op op_add_str (pe_op op_add_str (pv 1) pe_str) (pv 7)) pa_nil)))) (pe_d D__law_sip hr1 pass0 (pa_cons (pv 0) (pa_cons pe_int pa_nil))) (fun _ _ => rfl))))
   pss_nil)))))))))))))
  (pss_one (ps_ret (pe_slice sl_str (pv 1) po_none (po_some pe_int))))), ?_⟩
    refine q_forR1W (P := fun x => ∃ r : Int, x = .int r ∧ 1 ≤ r ∧ r ≤ 2) hw (evw_opR ev_c (evw_sip (n := n + 10) (ev_var rfl) ev_c (by decide) (by decide)) fun y hy => ?_) (fun x hx => ⟨hx.choose, hx.choose_spec.1⟩) fun r H1 hr w1 => ?_
    · obtain ⟨r, rfl, r0, r1⟩ := hy
      exact ⟨_, ⟨_, rfl, by omega, by omega⟩, rv_I0⟩
    obtain ⟨r', hr', r1, r2⟩ := hr
    cases hr'
    refine q_forR1 (ea_cons ev_c ea_nil) (by omega) (fun i σ' H' => (∃ (z : Str) (x3 x4 x5 x6 x7 x8 : Option V), σ' = [some (.ref v), some (.str z), some (.ref o), x3, x4, x5, x6, x7, x8] ∧ z.length ≤ bound i) ∧ Wd G v (n + 10 - 5 * i) H') (fun H2 e2 => ⟨⟨z, _, _, _, _, _, _, rfl, hz⟩, w1.mono e2⟩) (fun i σ' H' hi hP => ?_) (fun σ' H' hP => ?_)
    · obtain ⟨⟨z, x3, x4, x5, x6, x7, x8, rfl, hz⟩, wi⟩ := hP
      have hi2 : i ≤ 1 := by omega
      obtain ⟨m, hm, hnm⟩ : ∃ m : Nat, n + 10 - 5 * i = m + 5 ∧ m = n + 10 - 5 * (i + 1) := ⟨n + 5 - 5 * i, by omega, by omega⟩
      rw [← hnm]
      rw [hm] at wi
      have hb : z.length ≤ 9300 ∧ z.length + z.length + 205 ≤ bound (i + 1) := by
        rcases (show i = 0 ∨ i = 1 by omega) with rfl | rfl
        · have : z.length ≤ 4500 := hz
          exact ⟨by omega, by show _ ≤ 9300; omega⟩
        · have : z.length ≤ 9300 := hz
          exact ⟨by omega, by show _ ≤ 19000; omega⟩
      obtain ⟨hb1, hb2⟩ := hb
      have hlw := wds_len z
      refine q_asgL (xs := (wds z).map V.str) (by rw [← split_wds]; exact el_split (ev_var rfl) ev_c (by decide +kernel) (by omega)) fun p H2 hp e2 h2 => ?_
      obtain ⟨w2, eG, hpG⟩ := wi.new hp e2 h2
      generalize hGG : upd G p (.lst ((wds z).map V.str)) = G2 at w2 eG hpG
      have hoG : G2 o = some (.lst (ss.map V.str)) := eG _ _ ho
      have hlw0 : 0 < (wds z).length := List.length_pos_iff.mpr (wds_ne z)
      refine q_parW w2 (evw_sip (ev_var rfl) (ev_is (ev_len (ev_var rfl) (sq_of hpG)) (w := .int ((wds z).length : Int)) (by rw [List.length_map])) (by omega) (by omega)) (evw_sip (ev_var rfl) ev_c (by decide) (by decide)) fun xa xw H3 hxa hxw w3 => ?_
      obtain ⟨a5, rfl, at0, at1⟩ := hxa
      obtain ⟨way, rfl, way0, way1⟩ := hxw
      refine q_asgW (P := fun x => ∃ s ∈ ss, x = V.str s) w3 (evw_opR (ev_var rfl) (evw_sip (n := m + 2) (ev_var rfl) (ev_is (ev_len (ev_var rfl) (sq_of hoG)) (w := .int (ss.length : Int)) (by rw [List.length_map])) (by omega) (by omega)) fun y hy => ?_) fun xo H4 hxo w4 => ?_
      · obtain ⟨r, rfl, r0, r1⟩ := hy
        obtain ⟨j, rfl⟩ : ∃ j : Nat, r = j := ⟨r.toNat, by omega⟩
        have hj : j < ss.length := by omega
        exact ⟨_, ⟨_, List.getElem_mem hj, rfl⟩, rv_ixL (sq_of hoG) (atI_nat (by rw [List.getElem?_map, List.getElem?_eq_getElem hj] <;> rfl))⟩
      obtain ⟨one, hone, rfl⟩ := hxo
      have hol := hs2 one hone
      have htz := tot_wds z
      refine q_cut (M := fun σ' H' => ∃ (q : Addr) (ws : List Str) (G3 : Hp), σ' = [some (.ref v), some (.str z), some (.ref o), some (.int (i : Int)), some (.ref q), some (.int a5), some (.int way), some (.str one), x8] ∧ Ex G2 G3 ∧ Wd G3 v (m + 2) H' ∧ G3 q = some (.lst (ws.map V.str)) ∧ tot ws ≤ 2 * (z.length + 1) + 101) ?_ fun σ' H5 hM => ?_
      · -- the words are changed
        have fin : ∀ (ws : List Str) (q : Addr) (H5 H6 : Hp), Ex H4 H5 → H5 q = none → Ex H5 H6 → H6 q = some (.lst (ws.map V.str)) → tot ws ≤ 2 * (z.length + 1) + 101 → ∃ (q' : Addr) (ws : List Str) (G3 : Hp), [some (V.ref v), some (V.str z), some (V.ref o), some (V.int (i : Int)), some (V.ref q), some (V.int a5), some (V.int way), some (V.str one), x8] =
            [some (V.ref v), some (V.str z), some (V.ref o), some (V.int (i : Int)), some (V.ref q'), some (V.int a5), some (V.int way), some (V.str one), x8] ∧ Ex G2 G3 ∧ Wd G3 v (m + 2) H6 ∧ G3 q' = some (.lst (ws.map V.str)) ∧ tot ws ≤ 2 * (z.length + 1) + 101 := fun ws q H5 H6 e5 hq e6 h6 ht => by
          obtain ⟨w7, eG3, hq3⟩ := (w4.mono e5).new hq e6 h6
          exact ⟨q, ws, _, rfl, eG3, w7, hq3, ht⟩
        have stay : ∀ H5, Ex H4 H5 → ∃ (q' : Addr) (ws : List Str) (G3 : Hp), [some (V.ref v), some (V.str z), some (V.ref o), some (V.int (i : Int)), some (V.ref p), some (V.int a5), some (V.int way), some (V.str one), x8] =
            [some (V.ref v), some (V.str z), some (V.ref o), some (V.int (i : Int)), some (V.ref q'), some (V.int a5), some (V.int way), some (V.str one), x8] ∧ Ex G2 G3 ∧ Wd G3 v (m + 2) H5 ∧ G3 q' = some (.lst (ws.map V.str)) ∧ tot ws ≤ 2 * (z.length + 1) + 101 := fun H5 e5 =>
          ⟨p, wds z, G2, rfl, Evl.Ex.refl _, w4.mono e5, hpG, by omega⟩
        have hlen : ∀ {us : List Str}, us.Sublist (wds z) → us.length ≤ 9301 := fun h => Nat.le_trans h.length_le (by omega)
        refine s_if (et_test (ev_op (ev_var rfl) ev_c (rv_eq rfl))) (fun _ H5 e5 => ?_) (fun _ H5 e5 => ?_)
        · have hp5 := e5 _ _ (w4.ex _ _ hpG)
          obtain ⟨u1, c1, s1⟩ := cut_words (wds z) none (some a5)
          obtain ⟨u2, c2, s2⟩ := cut_words (wds z) (some (a5 + 1)) none
          have l1 := hlen s1
          have l2 := hlen s2
          have t1 := tot_sub s1
          have t2 := tot_sub s2
          refine s_asgL (xs := (u1 ++ [one] ++ u2).map V.str) ((show cutV ((wds z).map V.str) none (some a5) ++ [V.str one] ++ cutV ((wds z).map V.str) (some (a5 + 1)) none = (u1 ++ [one] ++ u2).map V.str by rw [c1, c2]; simp) ▸ el_cat (el_cat (el_sl (ev_var rfl) eo_none (eo_some (ev_var rfl)) (sq_of hp5)) (el_lst (ea_cons (ev_var rfl) ea_nil) (by show 1 ≤ 100000; decide)) ?_) (el_sl (ev_var rfl) (eo_some (ev_op (ev_var rfl) ev_c rv_I0)) eo_none (sq_of hp5)) ?_) fun q H6 hq e6 h6 => fin _ q H5 H6 e5 hq e6 h6 ?_
          · rw [c1, List.length_map]
            show _ + 1 ≤ _
            omega
          · rw [c1, c2, List.length_append, List.length_map, List.length_map]
            show _ + 1 + _ ≤ _
            omega
          · rw [tot_app, tot_app, tot_one]
            omega
        refine s_if (et_test (ev_op (ev_var rfl) ev_c (rv_eq rfl))) (fun _ H6 e6 => ?_) (fun _ H6 e6 => ?_)
        · have hp5 := (e5.trans e6) _ _ (w4.ex _ _ hpG)
          obtain ⟨u1, c1, s1⟩ := cut_words (wds z) none (some a5)
          obtain ⟨u2, c2, s2⟩ := cut_words (wds z) (some a5) none
          have l1 := hlen s1
          have l2 := hlen s2
          have t1 := tot_sub s1
          have t2 := tot_sub s2
          refine s_asgL (xs := (u1 ++ [one] ++ u2).map V.str) ((show cutV ((wds z).map V.str) none (some a5) ++ [V.str one] ++ cutV ((wds z).map V.str) (some a5) none = (u1 ++ [one] ++ u2).map V.str by rw [c1, c2]; simp) ▸ el_cat (el_cat (el_sl (ev_var rfl) eo_none (eo_some (ev_var rfl)) (sq_of hp5)) (el_lst (ea_cons (ev_var rfl) ea_nil) (by show 1 ≤ 100000; decide)) ?_) (el_sl (ev_var rfl) (eo_some (ev_var rfl)) eo_none (sq_of hp5)) ?_) fun q H7 hq e7 h7 => fin _ q H6 H7 (e5.trans e6) hq e7 h7 ?_
          · rw [c1, List.length_map]
            show _ + 1 ≤ _
            omega
          · rw [c1, c2, List.length_append, List.length_map, List.length_map]
            show _ + 1 + _ ≤ _
            omega
          · rw [tot_app, tot_app, tot_one]
            omega
        refine s_if (et_and (et_test (ev_op (ev_var rfl) ev_c (rv_eq rfl))) (fun _ => et_test (ev_op (ev_len (ev_var rfl) (sq_of ((e5.trans e6) _ _ (w4.ex _ _ hpG)))) ev_c rv_I0))) (fun _ H7 e7 => ?_) (fun _ H7 e7 => ?_)
        · have hp5 := ((e5.trans e6).trans e7) _ _ (w4.ex _ _ hpG)
          obtain ⟨u1, c1, s1⟩ := cut_words (wds z) none (some a5)
          obtain ⟨u2, c2, s2⟩ := cut_words (wds z) (some (a5 + 1)) none
          have l1 := hlen s1
          have l2 := hlen s2
          have t1 := tot_sub s1
          have t2 := tot_sub s2
          refine s_asgL (xs := (u1 ++ u2).map V.str) ((show cutV ((wds z).map V.str) none (some a5) ++ cutV ((wds z).map V.str) (some (a5 + 1)) none = (u1 ++ u2).map V.str by rw [c1, c2]; simp) ▸ el_cat (el_sl (ev_var rfl) eo_none (eo_some (ev_var rfl)) (sq_of hp5)) (el_sl (ev_var rfl) (eo_some (ev_op (ev_var rfl) ev_c rv_I0)) eo_none (sq_of hp5)) ?_) fun q H8 hq e8 h8 => fin _ q H7 H8 ((e5.trans e6).trans e7) hq e8 h8 ?_
          · rw [c1, c2, List.length_map, List.length_map]
            omega
          · rw [tot_app]
            omega
        refine s_when (et_test (ev_op (ev_var rfl) ev_c (rv_eq rfl))) (fun _ H8 e8 => ?_) (fun _ H8 e8 => stay H8 (((e5.trans e6).trans e7).trans e8))
        · have hp5 := (((e5.trans e6).trans e7).trans e8) _ _ (w4.ex _ _ hpG)
          obtain ⟨u1, c1, s1⟩ := cut_words (wds z) none (some a5)
          obtain ⟨u2, c2, s2⟩ := cut_words (wds z) (some a5) none
          have l1 := hlen s1
          have l2 := hlen s2
          have t1 := tot_sub s1
          have t2 := tot_sub s2
          obtain ⟨j, rfl⟩ : ∃ j : Nat, a5 = j := ⟨a5.toNat, by omega⟩
          have hj : j < (wds z).length := by omega
          have tm := tot_mem (List.getElem_mem hj)
          have h12 : tot u1 + tot u2 ≤ z.length + 1 := by
            have e1 : cutV ((wds z).map V.str) none (some (j : Int)) = ((wds z).take j).map V.str := by rw [Num.cutV_to, List.map_take]
            have e2 : cutV ((wds z).map V.str) (some (j : Int)) none = ((wds z).drop j).map V.str := by rw [Num.cutV_from, List.map_drop]
            have i1 : u1 = (wds z).take j := map_str_inj (c1.symm.trans e1)
            have i2 : u2 = (wds z).drop j := map_str_inj (c2.symm.trans e2)
            rw [i1, i2, ← tot_app, List.take_append_drop]
            omega
          refine s_asgL (xs := (u1 ++ [(wds z)[j]] ++ u2).map V.str) ((show cutV ((wds z).map V.str) none (some (j : Int)) ++ [V.str (wds z)[j]] ++ cutV ((wds z).map V.str) (some (j : Int)) none = (u1 ++ [(wds z)[j]] ++ u2).map V.str by rw [c1, c2]; simp) ▸ el_cat (el_cat (el_sl (ev_var rfl) eo_none (eo_some (ev_var rfl)) (sq_of hp5)) (el_lst (ea_cons (ev_op (ev_var rfl) (ev_var rfl) (rv_ixL (sq_of hp5) (atI_nat (by rw [List.getElem?_map, List.getElem?_eq_getElem hj] <;> rfl)))) ea_nil) (by show 1 ≤ 100000; decide)) (by
            rw [c1, List.length_map]
            show _ + 1 ≤ _
            omega)) (el_sl (ev_var rfl) (eo_some (ev_var rfl)) eo_none (sq_of hp5)) (by
            rw [c1, c2, List.length_append, List.length_map, List.length_map]
            show _ + 1 + _ ≤ _
            omega)) fun q H9 hq e9 h9 => fin _ q H8 H9 (((e5.trans e6).trans e7).trans e8) hq e9 h9 ?_
          rw [tot_app, tot_app, tot_one]
          omega
      obtain ⟨q', ws, G3, rfl, e3, w5, hq', hws⟩ := hM
      have htl := tot_len ws
      have hjl := tot_join ws
      refine q_asg (ev_joinL ev_c (ev_var rfl) (sq_of (w5.ex _ _ hq')) (by have : (ws.map (·.length)).sum + ws.length ≤ 2 * (z.length + 1) + 101 := hws; rw [show (" " : Str).length = 1 from rfl]; omega)) fun H6 e6 => ?_
      have w6 := w5.mono e6
      generalize hzz : Txt.join " " ws = z2 at hjl
      have hz2 : z2.length ≤ 2 * (z.length + 1) + 101 := by omega
      refine q_asgW (P := isI ((z2.length : Int) + 1)) w6 (evw_sip (n := m + 1) (ev_var rfl) (ev_op (ev_cb (ea_cons (ev_var rfl) ea_nil) (rc_lenS (by omega))) ev_c rv_I0) (by omega) (by omega)) fun xs H7 hxs w7 => ?_
      obtain ⟨spot, rfl, sp0, sp1⟩ := hxs
      obtain ⟨j, rfl⟩ : ∃ j : Nat, spot = j := ⟨spot.toNat, by omega⟩
      have eGG := eG.trans e3
      have fin : ∀ (z3 : Str) (k : Nat) H8, z3.length ≤ bound (i + 1) → m ≤ k → Wd G3 v k H8 → (∃ (z' : Str) (y3 y4 y5 y6 y7 y8 : Option V), [some (V.ref v), some (V.str z3), some (V.ref o), some (V.int (i : Int)), some (V.ref q'), some (V.int a5), some (V.int way), some (V.str one), some (V.int (j : Int))] =
          [some (V.ref v), some (V.str z'), some (V.ref o), y3, y4, y5, y6, y7, y8] ∧ z'.length ≤ bound (i + 1)) ∧ Wd G v m H8 := fun z3 k H8 h3 hk w8 => ⟨⟨z3, _, _, _, _, _, _, rfl, h3⟩, (w8.sub eGG).le hk⟩
      have hcut : (cutS z2 none (some (j : Int))).length + (cutS z2 (some (j : Int)) none).length ≤ z2.length := by
        rw [Num.cut_to, Num.cut_from, Num.S_len, Num.S_len, List.length_take, List.length_drop]
        have : z2.cps.toList.length = z2.length := Array.length_toList
        omega
      refine s_if (et_test (ev_op (ev_var rfl) ev_c (rv_eq rfl))) (fun _ H8 e8 => ?_) (fun _ H8 e8 => ?_)
      · refine s_asgW (P := fun x => ∃ r : Str, x = .str r ∧ r.length ≤ z2.length + 1) (w7.mono e8) (evw_opL (P := fun x => ∃ r : Str, x = .str r ∧ r.length + (cutS z2 (some (j : Int)) none).length ≤ z2.length + 1) (evw_opR (P := fun x => ∃ r : Str, x = .str r ∧ r.length ≤ 1) (ev_slS (ev_var rfl) eo_none (eo_some (ev_var rfl)) (by omega))
            (evw_imp (evw_pick (ea_cons ev_c (ea_cons ev_c (ea_cons ev_c (ea_cons ev_c (ea_cons ev_c (ea_cons ev_c (ea_cons ev_c (ea_cons ev_c ea_nil)))))))) (by show 8 ≤ 1000; decide) fun G' eG' => evw_sip (n := m) (ev_var rfl) ev_c (by decide) (by decide)) fun x hx => ?_) fun y hy => ?_) (ev_slS (ev_var rfl) (eo_some (ev_var rfl)) eo_none (by omega)) fun x hx => ?_) fun x H9 hx w9 => ?_
        · rcases List.mem_cons.mp hx with rfl | hx
          · exact ⟨_, rfl, by decide⟩
          rcases List.mem_cons.mp hx with rfl | hx
          · exact ⟨_, rfl, by decide⟩
          rcases List.mem_cons.mp hx with rfl | hx
          · exact ⟨_, rfl, by decide⟩
          rcases List.mem_cons.mp hx with rfl | hx
          · exact ⟨_, rfl, by decide⟩
          rcases List.mem_cons.mp hx with rfl | hx
          · exact ⟨_, rfl, by decide⟩
          rcases List.mem_cons.mp hx with rfl | hx
          · exact ⟨_, rfl, by decide⟩
          rcases List.mem_cons.mp hx with rfl | hx
          · exact ⟨_, rfl, by decide⟩
          cases List.mem_singleton.mp hx
          exact ⟨_, rfl, by decide⟩
        · obtain ⟨r, rfl, hr⟩ := hy
          exact ⟨_, ⟨_, rfl, by rw [lenApp]; omega⟩, rv_addS (by omega)⟩
        · obtain ⟨r, rfl, hr⟩ := hx
          exact ⟨_, ⟨_, rfl, by rw [lenApp]; omega⟩, rv_addS (by omega)⟩
        · obtain ⟨r, rfl, hr⟩ := hx
          exact fin r _ H9 (by omega) (Nat.le_refl _) w9
      refine s_if (et_test (ev_op (ev_var rfl) ev_c (rv_eq rfl))) (fun _ H9 e9 => ?_) (fun _ H9 e9 => ?_)
      · have hcut2 := cutS_len z2 (some ((j : Int) + 1)) none
        have hcut1 : (cutS z2 none (some (j : Int))).length + (cutS z2 (some ((j : Int) + 1)) none).length ≤ z2.length := by
          rw [show ((j : Int) + 1) = ((j + 1 : Nat) : Int) from rfl, Num.cut_to, Num.cut_from, Num.S_len, Num.S_len, List.length_take, List.length_drop]
          have : z2.cps.toList.length = z2.length := Array.length_toList
          omega
        exact s_asg (ev_op (ev_slS (ev_var rfl) eo_none (eo_some (ev_var rfl)) (by omega)) (ev_slS (ev_var rfl) (eo_some (ev_op (ev_var rfl) ev_c rv_I0)) eo_none (by omega)) (rv_addS (by omega))) fun HA eA => fin _ _ HA (by rw [lenApp]; omega) (Nat.le_succ _) (w7.mono ((e8.trans e9).trans eA))
      refine s_when (et_test (ev_op (ev_var rfl) ev_c (rv_eq rfl))) (fun _ HA eA => ?_) (fun _ HA eA => fin z2 _ HA (by omega) (Nat.le_succ _) (w7.mono ((e8.trans e9).trans eA)))
      refine s_asgW (w7.mono ((e8.trans e9).trans eA)) (evw_pick (ea_cons (ev_op (ev_var rfl) ev_c (rv_addS ?_)) (ea_cons (ev_op ev_c (ev_var rfl) (rv_addS ?_)) (ea_cons (ev_op (ev_op (ev_var rfl) ev_c (rv_addS ?_)) (ev_var rfl) (rv_addS ?_)) ea_nil))) (by show 3 ≤ 1000; decide) fun G' eG' => evw_sip (n := m) (ev_var rfl) ev_c (show (0 : Int) < 3 by decide) (show (3 : Int) < 1000000 by decide)) fun x HB hx wB => ?_
      · show _ + 1 ≤ _
        omega
      · show 1 + _ ≤ _
        omega
      · show _ + 2 ≤ _
        omega
      · rw [lenApp]
        show _ + 2 + _ ≤ _
        omega
      · rcases List.mem_cons.mp hx with rfl | hx
        · exact fin _ _ HB (by rw [lenApp]; show _ + 1 ≤ _; omega) (Nat.le_refl _) wB
        rcases List.mem_cons.mp hx with rfl | hx
        · exact fin _ _ HB (by rw [lenApp]; show 1 + _ ≤ _; omega) (Nat.le_refl _) wB
        cases List.mem_singleton.mp hx
        exact fin _ _ HB (by rw [lenApp, lenApp]; show _ + 2 + _ ≤ _; omega) (Nat.le_refl _) wB
    · obtain ⟨⟨z, x3, x4, x5, x6, x7, x8, rfl, hz⟩, wi⟩ := hP
      refine s_ret (ev_slS (ev_var rfl) eo_none (eo_some ev_c) ?_) fun H2 e2 => q _ H2 ?_ ((wi.mono e2).le (by omega))
      · have : bound r.toNat ≤ 19000 := by
          unfold bound
          split
          · decide
          · split <;> decide
        omega
      · have e4 : (4000 : Int) = ((4000 : Nat) : Int) := rfl
        rw [e4, Num.cut_to, Num.S_len, List.length_take]
        exact Nat.min_le_left _ _
end
end K81
end

section
set_option Elab.async false
set_option linter.all false
set_option maxRecDepth 100000
set_option maxHeartbeats 4000000
namespace K81
open PySem PySem.Spec PyProof.Rows L2 Ov Evl TxM ClX
def some1 : List Str := ["", " ", "a b c d e f", "a b c d e f g", "aaaaaaaa aaaaaaab aaaaaaac aaaaaaad", "a a", "a bc"]
def some2 : List Str := ["a  b", "a b ", "aaaaaaaa aaaaaaab aaaaaaac aaaaaaad aaaaaaae", repS "a" (4000 : Int).toNat, repS "a " (2000 : Int).toNat]
def some3 : List Str := ["abcdef abcdeg abcdeh abcdei abcdej abcdek", "a\nb", "a_b", repS "." (3 : Int).toNat]
def some4 : List Str := ["abcdefg abcdefh abcdefi abcdefj abcdefk abcdefl"]
theorem some_ok : (some1 ++ some2 ++ some3 ++ some4).length = 17 ∧ ∀ s ∈ some1 ++ some2 ++ some3 ++ some4, s.length ≤ 5000 := by decide +kernel
def oddOf (w0 : Str) : List Str := [w0, w0 ++ "a", cutS w0 (some 1) none, "", "A", "ab", "zzzzzzzz", repS "a" (9 : Int).toNat, "-", "0"]
def spLaw (K : PySem.W.Frag) : Sp := fun vs H Q _ => ∃ (a : Addr) (ns : List Int), vs = [.ref a] ∧ SqL K H a (ns.map V.int) ∧ ns.length ≤ 63 ∧ RetV (.bl true) H Q
section
variable {P : Program} {w : World} {K : PySem.W.Frag} {mg : Str → Option Value} {bh : Heap}
theorem ok_law {f C pO gO : Addr} {mc : Value} {fd : FuncData} (F : Fun K "law" "law" s_law f fd) (T : Txt K mg) (ST : StF K mg C mc) (MO : CMet K C mc "of" pO gO) (D_of : FnR P w K mg bh CX0 9 gO (spOf C))
    (D__law_vat : Dn P w K mg bh CX0 9 "_law_vat" ["script", "k"] (spVat K)) (D__law_sip : Dn P w K mg bh CX0 9 "_law_sip" ["vat", "size"] spSip) (D__law_words : Dn P w K mg bh CX0 9 "_law_words" ["vat", "wide", "most"] spLw)
    (D__law_bent : Dn P w K mg bh CX0 9 "_law_bent" ["vat", "given", "odd"] (spBent K)) (D__law_right : DnG P w K mg bh CX0 9 "_law_right" ["given"] spRight) (D_write_stamps : Dn P w K mg bh CX0 9 "write_stamps" ["stamps"] (spWrite C)) : FnG P w K mg bh CX0 10 f fd ["script"] (spLaw K) := by
  refine FnG.fun_ F sc_law (fun vs H Q E h => ?_) (fun cdv A outer s H vs Q E hgu hr1 h => ?_)
  · obtain ⟨a, ns, rfl, _⟩ := h
    rfl
  · obtain ⟨a, ns, rfl, hS, hl, q⟩ := h
    have hr := hr1
    have KS := ST.k
    refine ⟨_, (pss_cons (ps_for (passes_of rfl) rfl (pi_range1 rfl T.f_range (pa_cons (pe_callB (call_max2 rfl) rfl T.f_max (by decide +kernel) (pa_cons pe_int (pa_cons (pe_callB (call_min2 rfl) rfl T.f_min (by decide +kernel) (pa_cons pe_int (pa_cons (pe_callB call_len_seq rfl T.f_len (by decide +kernel) (pa_cons (pv 0) pa_nil)) pa_nil))) pa_nil))) pa_nil)) (pg_name (i := 1) sc_law.nd rfl (.inl rfl))
   (pss_cons (ps_set (i := 2) sc_law.nd rfl (Or.inl rfl) (pe_d D__law_vat hr1 pass0 (pa_cons (pv 0) (pa_cons (pv 1) pa_nil))))
  (pss_one (ps_for (passes_of rfl) rfl (pi_range1 rfl T.f_range (pa_cons pe_int pa_nil)) (pg_name (i := 3) sc_law.nd rfl (.inl rfl))
   (pss_cons (ps_set (i := 4) sc_law.nd rfl (Or.inl rfl) (pe_d D__law_words hr1 pass0 (pa_cons (pv 2) (pa_cons (pe_op op_add pe_int (pe_d D__law_sip hr1 pass0 (pa_cons (pv 2) (pa_cons pe_int pa_nil)))) (pa_cons pe_int pa_nil)))))
  (pss_cons (ps_set (i := 5) sc_law.nd rfl (Or.inl rfl) (pe_join pe_str (pv 4)))
  (pss_cons (ps_if (PW.pt (pw_or (pt_cmpR op_ne (pe_d D_write_stamps hr1 pass0 (pa_cons (ClX.pe_cmeth (pe_gr KS) ST.rd MO D_of hr1 pass0 (pa_cons (pv 4) pa_nil)) pa_nil)) (pv 5) (nomark _)) (pw_or1 (pt_not (pt_val (pe_dg D__law_right hgu hr1 (passes_at pass0) (pa_cons (pv 5) pa_nil)))))))
   (pss_one (ps_ret pe_bl))
   pss_nil)
  (pss_cons (ps_set (i := 6) sc_law.nd rfl (Or.inl rfl) (pe_lst (pa_cons (pe_ix ix_list (pv 4) pe_int (fun _ _ => rfl)) (pa_cons (pe_op op_add_str (pe_ix ix_list (pv 4) pe_int (fun _ _ => rfl)) pe_str) (pa_cons (pe_slice sl_str (pe_ix ix_list (pv 4) pe_int (fun _ _ => rfl)) (po_some pe_int) po_none) (pa_cons pe_str (pa_cons pe_str (pa_cons pe_str (pa_cons pe_str (pa_cons (pe_op op_repS1 pe_str pe_int) (pa_cons pe_str (pa_cons pe_str pa_nil))))))))))))
  (pss_cons (ps_expr (pe_bm PySem.F.plainAttrs_list PySem.F.slot_list_append PySem.F.type_list_append mt_append (pv 6) (pa_cons (pe_op op_repS1 pe_str (pe_callB call_len_str rfl T.f_len (by decide +kernel) (pa_cons (pe_ix ix_list (pv 4) pe_int (fun _ _ => rfl)) pa_nil))) pa_nil)))
  (pss_one (ps_for (passes_of rfl) rfl (pi_range1 rfl T.f_range (pa_cons pe_int pa_nil)) (pg_name (i := 7) sc_law.nd rfl (.inl rfl))
   (pss_one (ps_if (pt_not (pt_val (pe_dg D__law_right hgu hr1 (passes_at pass0) (pa_cons (pe_d D__law_bent hr1 pass0 (pa_cons (pv 2) (pa_cons (pv 5) (pa_cons (pv 6) pa_nil)))) pa_nil))))
   (pss_one (ps_ret pe_bl))
   pss_nil)))))))))))))
  (pss_cons (ps_set (i := 8) sc_law.nd rfl (Or.inl rfl) (pe_lst (pa_cons pe_str (pa_cons pe_str (pa_cons pe_str (pa_cons pe_str (pa_cons pe_str (pa_cons pe_str (pa_cons pe_str pa_nil)))))))))
  (pss_cons (ps_set (i := 8) sc_law.nd rfl (Or.inl rfl) (pe_op op_cat (pv 8) (pe_lst (pa_cons pe_str (pa_cons pe_str (pa_cons pe_str (pa_cons (pe_op op_repS1 pe_str pe_int) (pa_cons (pe_op op_repS1 pe_str pe_int) pa_nil))))))))
  (pss_cons (ps_set (i := 8) sc_law.nd rfl (Or.inl rfl) (pe_op op_cat (pv 8) (pe_lst (pa_cons pe_str (pa_cons pe_str (pa_cons pe_str (pa_cons (pe_op op_repS1 pe_str pe_int) pa_nil)))))))
  (pss_cons (ps_expr (pe_bm PySem.F.plainAttrs_list PySem.F.slot_list_append PySem.F.type_list_append mt_append (pv 8) (pa_cons pe_str pa_nil)))
  (pss_one (ps_ret (pe_cmpR (op_eqD hr.units) (pe_lc (own := [("given", 5)]) (g := gName 5) (by rfl) sc_law.nd (pi_list (pv 8)) (blkOk_by (own := [("given", 5)]) (N := ["script", "k", "vat", "turn", "words", "given", "odd", "step", "some"]) (sc := defScope s_law) (by decide +kernel)) (fun _ _ _ _ _ => pg_name (i := 5) sc_law.nd rfl (.inl rfl)) (fun _ _ _ _ _ => pts_one (pt_not (pt_val (pe_dg D__law_right hgu hr1 (passes_at pass0) (pa_cons (pv 5) pa_nil))))) (fun _ _ _ _ _ => (pv 5))) (pe_lst pa_nil) (nomark _))))))))), ?_⟩
    refine q_forR1 (n := if (if (ns.length : Int) < 4 then (ns.length : Int) else 4) > 1 then (if (ns.length : Int) < 4 then (ns.length : Int) else 4) else 1) (ea_cons (ev_max2 ev_c (ev_min2 ev_c (ev_is (ev_len (ev_var rfl) hS) (by rw [List.length_map])))) ea_nil) (by
        constructor
        · split
          · split <;> omega
          · omega
        · split
          · split <;> omega
          · omega) (fun i σ' H' => (∃ x1 x2 x3 x4 x5 x6 x7 x8, σ' = [some (.ref a), x1, x2, x3, x4, x5, x6, x7, x8]) ∧ Ex H H') (fun H5 e5 => ⟨⟨_, _, _, _, _, _, _, _, rfl⟩, e5⟩) (fun i σ' H' hi hP => ?_) (fun σ' H' hP => ?_)
    · obtain ⟨⟨x1, x2, x3, x4, x5, x6, x7, x8, rfl⟩, hx⟩ := hP
      have hik : (i : Int) < 64 := by
        refine Int.lt_of_lt_of_le hi ?_
        split
        · split <;> omega
        · omega
      refine q_asgN (P := fun H p => VatN H p 900000000) (en_call (ea_cons (ev_var rfl) (ea_cons (ev_var rfl) ea_nil)) fun H5 e5 Q' q' => ⟨a, ns, _, rfl, ex_l (hx.trans e5) hS, hl, by omega, hik, fun p H6 hp e6 hv => q' p H6 hp e6 hv⟩) fun v H5 hv0 e5 hv => ?_
      have w0 : Wd H' v 500 H5 := (⟨hv0, e5, hv⟩ : Wd H' v 900000000 H5).le (by decide)
      refine s_forR1 (n := 4) (ea_cons ev_c ea_nil) (by decide) (fun j σ' H6 => (∃ x3 x4 x5 x6 x7 x8, σ' = [some (.ref a), some (.int (i : Int)), some (.ref v), x3, x4, x5, x6, x7, x8]) ∧ Wd H' v (500 - 105 * j) H6) (fun H6 e6 => ⟨⟨_, _, _, _, _, _, rfl⟩, w0.mono e6⟩) (fun j σ' H6 hj hP => ?_) (fun σ' H6 hP => ?_)
      · obtain ⟨⟨x3, x4, x5, x6, x7, x8, rfl⟩, w1⟩ := hP
        have w1' : Wd H' v ((500 - 105 * (j + 1) + 44 + 60) + 1) H6 := w1.le (by omega)
        refine q_call3W (P1 := fun x => ∃ r : Nat, x = .int (r : Int) ∧ 1 ≤ r ∧ r ≤ 8) w1' (ev_var rfl) (evw_opR ev_c (evw_sip (n := 500 - 105 * (j + 1) + 44 + 60) (ev_var rfl) ev_c (show (0 : Int) < 8 by decide) (show (8 : Int) < 1000000 by decide)) fun y hy => ?_) ev_c fun x H8 hx8 w3 => ?_
        · obtain ⟨r, rfl, r0, r1⟩ := hy
          exact ⟨_, ⟨(1 + r).toNat, by rw [Int.toNat_of_nonneg (by omega)], by omega, by omega⟩, rv_I0⟩
        obtain ⟨wide, rfl, hw1, hw8⟩ := hx8
        refine ⟨H', v, 500 - 105 * (j + 1) + 44, wide, rfl, w3, hw1, hw8, fun p ws G1 H9 eG1 hpG hv w4 => ?_⟩
        obtain ⟨w0', rest, rfl⟩ : ∃ w0 rest, ws = w0 :: rest := by
          cases ws with
          | nil => have := hv.l1; simp at this
          | cons a b => exact ⟨a, b, rfl⟩
        have hw0 := (hv.all w0' List.mem_cons_self).1
        have hp54 := part_sum hv.part
        have hjl := join_len " " (w0' :: rest)
        rw [show (" " : Str).length = 1 from rfl] at hjl
        refine q_asg (ev_joinL (a := " ") (ys := w0' :: rest) ev_c (ev_var rfl) (sq_of (w4.ex _ _ hpG)) (by rw [show (" " : Str).length = 1 from rfl]; omega)) fun HA eA => ?_
        generalize hzz : Txt.join " " (w0' :: rest) = z at hjl
        have w5 := w4.mono eA
        have mkS : EvN (tCMeth C (spOf C) E0 (tC (.ref C)) (tCons (tVar 4) tNil)) [some (.ref a), some (.int (i : Int)), some (.ref v), some (.int (j : Int)), some (.ref p), some (.str z), x6, x7, x8] HA (fun H p => Stm C H p (w0' :: rest)) := fun HB eB Q' q' =>
          ⟨rfl, .ref p, rfl, p, _, wide, rfl, eB _ _ (w5.ex _ _ hpG), hv, fun a2 HC ha2 eC st => q' a2 HC ha2 eC st⟩
        refine q_when (b := false) (et_is (et_or (a := false) (b := false) (et_test (ev_is (ev_op (ev_callN mkS fun p2 HB eB st Q' q' => ⟨p2, _, rfl, st, hv.part, by rw [hzz]; exact q'⟩) (ev_var rfl) (rv_ne rfl)) (by rw [decide_eq_true rfl] <;> rfl))) fun _ =>
          et_is (et_not (a := true) (et_B (ev_call' (z := .bl true) (ea_cons (ev_var rfl) ea_nil) fun HB eB Q' q' => ⟨z, rfl, by omega, q'⟩))) rfl) rfl) (fun z => by cases z) fun _ HB eB => ?_
        have w6 := w5.mono eB
        have hpB := w6.ex _ _ hpG
        have ix0 : ∀ {HC}, Ex HB HC → Ev (tOp (rIxL K) (tVar 4) (tC (.int 0))) [some (.ref a), some (.int (i : Int)), some (.ref v), some (.int (j : Int)), some (.ref p), some (.str z), x6, x7, x8] HC (.str w0') := fun eC => ev_op (ev_var rfl) ev_c (rv_ixL (v := .str w0') (sq_of (eC _ _ hpB)) (atI_nat (j := 0) rfl))
        refine q_asgL (xs := (oddOf w0').map V.str) (el_lst (ea_cons (ix0 (Evl.Ex.refl _)) (ea_cons (ev_op (ix0 (Evl.Ex.refl _)) ev_c (rv_addS (by show _ + 1 ≤ _; omega))) (ea_cons (ev_slS (ix0 (Evl.Ex.refl _)) (eo_some ev_c) eo_none (by omega)) (ea_cons ev_c (ea_cons ev_c (ea_cons ev_c (ea_cons ev_c (ea_cons (ev_op ev_c ev_c (rv_repS1 (by decide) (by decide) (by decide +kernel) (by decide +kernel))) (ea_cons ev_c (ea_cons ev_c ea_nil)))))))))) (by show 10 ≤ 100000; decide)) fun po HC hpo eC hC => ?_
        refine q_app (xs := (oddOf w0').map V.str) hC (ev_var rfl) (ev_op ev_c (ev_cb (ea_cons (ev_op (ev_var rfl) ev_c (rv_ixL (v := .str w0') (sq_of (eC _ _ hpB)) (atI_nat (j := 0) rfl))) ea_nil) (rc_lenS (by omega))) (rv_repS1 (by omega) (by omega) (by decide +kernel) (by show 1 * _ ≤ _; omega))) (by show 10 < 100000; decide) fun HD eD => ?_
        have eBD : Ex HB (upd HD po (.lst ((oddOf w0').map V.str ++ [.str (repS "z" ((w0'.length : Int)).toNat)]))) := Evl.Ex.mut (eC.trans eD) hpo
        obtain ⟨w7, eG7, hpo7⟩ := w6.new hpo eBD upd_same
        rw [show (oddOf w0').map V.str ++ [V.str (repS "z" ((w0'.length : Int)).toNat)] = (oddOf w0' ++ [repS "z" ((w0'.length : Int)).toNat]).map V.str by rw [List.map_append] <;> rfl] at w7 eG7 hpo7 ⊢
        have hoall : (oddOf w0' ++ [repS "z" ((w0'.length : Int)).toNat]).length = 11 ∧ ∀ s ∈ oddOf w0' ++ [repS "z" ((w0'.length : Int)).toNat], s.length ≤ 100 := by
          refine ⟨rfl, fun s hs => ?_⟩
          have c1 : (w0' ++ "a" : Str).length = w0'.length + 1 := lenApp w0' "a"
          have c2 := cutS_len w0' (some 1) none
          have c3 : (repS "z" ((w0'.length : Int)).toNat).length = (w0'.length : Int).toNat * 1 := repS_len _ _
          have c4 : ∀ s ∈ (["", "A", "ab", "zzzzzzzz", repS "a" (9 : Int).toNat, "-", "0"] : List Str), s.length ≤ 100 := by decide +kernel
          rcases List.mem_append.mp hs with hs | hs
          · rcases List.mem_cons.mp hs with rfl | hs
            · omega
            rcases List.mem_cons.mp hs with rfl | hs
            · omega
            rcases List.mem_cons.mp hs with rfl | hs
            · omega
            exact c4 s hs
          · cases List.mem_singleton.mp hs
            omega
        generalize oddOf w0' ++ [repS "z" ((w0'.length : Int)).toNat] = odd at w7 eG7 hpo7 hoall ⊢
        generalize hG2 : upd G1 po (.lst (odd.map V.str)) = G2 at w7 eG7 hpo7
        refine s_forR1 (n := 4) (ea_cons ev_c ea_nil) (by decide) (fun j2 σ' HE => (∃ x7 x8, σ' = [some (.ref a), some (.int (i : Int)), some (.ref v), some (.int (j : Int)), some (.ref p), some (.str z), some (.ref po), x7, x8]) ∧ Wd G2 v (500 - 105 * (j + 1) + 11 * (4 - j2)) HE) (fun HE eE => ⟨⟨_, _, rfl⟩, w7.mono eE⟩) (fun j2 σ' HE hj2 hP => ?_) (fun σ' HE hP => ?_)
        · obtain ⟨⟨x7, x8, rfl⟩, w8⟩ := hP
          have hbud : 500 - 105 * (j + 1) + 11 * (4 - j2) = (500 - 105 * (j + 1) + 11 * (4 - (j2 + 1))) + 11 := by omega
          rw [hbud] at w8
          refine s_whenW (m := 500 - 105 * (j + 1) + 11 * (4 - (j2 + 1))) w8 (evw_call1 (z := .bl true) (P1 := fun x => ∃ u : Str, x = .str u ∧ u.length ≤ 4000) (fun HF wF Q' q' => ?_) fun x HF hx wF Q' q' => ?_) fun HF wF => ?_
          · exact r_call (ea_cons (ev_var rfl) (ea_cons (ev_var rfl) (ea_cons (ev_var rfl) ea_nil))) fun HG eG' => ⟨G2, v, po, _, z, odd, rfl, wF.mono eG', hpo7, by omega, by omega, hoall.2, by omega, fun u HI hu wI => q' _ HI ⟨u, rfl, hu⟩ wI⟩
          · obtain ⟨u, rfl, hu⟩ := hx
            exact ⟨u, rfl, by omega, q'⟩
          · exact ⟨⟨_, _, rfl⟩, wF⟩
        · obtain ⟨⟨x7, x8, rfl⟩, w8⟩ := hP
          exact ⟨⟨_, _, _, _, _, _, rfl⟩, (w8.sub (eG1.trans eG7)).le (by omega)⟩
      · obtain ⟨⟨x3, x4, x5, x6, x7, x8, rfl⟩, w1⟩ := hP
        exact ⟨⟨_, _, _, _, _, _, _, _, rfl⟩, hx.trans w1.ex⟩
    · obtain ⟨⟨x1, x2, x3, x4, x5, x6, x7, x8, rfl⟩, hx⟩ := hP
      refine q_asgL (xs := some1.map V.str) (el_lst (ea_cons ev_c (ea_cons ev_c (ea_cons ev_c (ea_cons ev_c (ea_cons ev_c (ea_cons ev_c (ea_cons ev_c ea_nil))))))) (by show 7 ≤ 100000; decide)) fun p1 H1 hp1 e1 h1 => ?_
      refine q_asgL (xs := (some1 ++ some2).map V.str) (el_catV (xs := some1.map V.str) (ys := some2.map V.str) (ev_var rfl) h1 (el_lst (ea_cons ev_c (ea_cons ev_c (ea_cons ev_c (ea_cons (ev_op ev_c ev_c (rv_repS1 (by decide) (by decide) (by decide +kernel) (by decide +kernel))) (ea_cons (ev_op ev_c ev_c (rv_repS1 (by decide) (by decide) (by decide +kernel) (by decide +kernel))) ea_nil))))) (by show 5 ≤ 100000; decide)) (by show 7 + 5 ≤ 100000; decide)) fun p2 H2 hp2 e2 h2 => ?_
      refine q_asgL (xs := (some1 ++ some2 ++ some3).map V.str) (el_catV (xs := (some1 ++ some2).map V.str) (ys := some3.map V.str) (ev_var rfl) h2 (el_lst (ea_cons ev_c (ea_cons ev_c (ea_cons ev_c (ea_cons (ev_op ev_c ev_c (rv_repS1 (by decide) (by decide) (by decide +kernel) (by decide +kernel))) ea_nil)))) (by show 4 ≤ 100000; decide)) (by show 12 + 4 ≤ 100000; decide)) fun p3 H3 hp3 e3 h3 => ?_
      refine q_app (xs := (some1 ++ some2 ++ some3).map V.str) h3 (ev_var rfl) ev_c (by show 16 < 100000; decide) fun H4 e4 => ?_
      have e05 : Ex H2 (upd H4 p3 (.lst ((some1 ++ some2 ++ some3).map V.str ++ [.str "abcdefg abcdefh abcdefi abcdefj abcdefk abcdefl"]))) := Evl.Ex.mut (e3.trans e4) hp3
      have h5 : (upd H4 p3 (.lst ((some1 ++ some2 ++ some3).map V.str ++ [.str "abcdefg abcdefh abcdefi abcdefj abcdefk abcdefl"]))) p3 = some (.lst ((some1 ++ some2 ++ some3 ++ some4).map V.str)) := by
        rw [upd_same]
        exact congrArg (fun l => some (HO.lst l)) (List.map_append (f := V.str) (l₁ := some1 ++ some2 ++ some3) (l₂ := some4)).symm
      generalize upd H4 p3 (.lst ((some1 ++ some2 ++ some3).map V.str ++ [.str "abcdefg abcdefh abcdefi abcdefj abcdefk abcdefl"])) = H5 at e05 h5 ⊢
      have hlm : ((some1 ++ some2 ++ some3 ++ some4).map V.str).length = 17 := rfl
      refine s_ret (v := .bl true) (ev_opLL (el_lcL (xs := (some1 ++ some2 ++ some3 ++ some4).map V.str) (fun _ => false) (fun _ => .non) (ev_var rfl) (sq_of h5) (by rw [hlm]; decide) (fun _ => rfl) (fun j x H7 e7 hj => ?_) (fun j x H7 e7 hj z => by cases z)) (el_lst ea_nil (Nat.zero_le _)) fun q1 q2 H7 hq1 hq2 e7 => ?_) fun H7 e7 => q H7 (((hx.trans (e1.trans e2)).trans e05).trans e7)
      · rw [List.getElem?_map, Option.map_eq_some_iff] at hj
        obtain ⟨u, hu, rfl⟩ := hj
        exact et_is (et_not (a := true) (et_B (ev_call' (z := .bl true) (ea_cons (ev_var rfl) ea_nil) fun H8 e8 Q' q' => ⟨u, rfl, some_ok.2 u (List.mem_of_getElem? hu), q'⟩))) rfl
      · rw [given_non] at hq1
        have t0 : Tame 1 0 (.list []) := Tame.list (ds := []) (n := 0) (k := 0) fun d z => by cases z
        exact rv_eqD (d := .list []) (e := .list []) (dp_lst hq1 .nil) (dp_lst hq2 .nil) t0 t0 (by decide)
end
end K81
end

section
set_option Elab.async false
set_option linter.all false
set_option maxRecDepth 100000
set_option maxHeartbeats 2000000
namespace Ov
open PySem PySem.Spec PyProof.Rows L2 Evl
/-! ### an own error class over an own base over ValueError, told by Bools -/
def isO (o : Option (Option Value)) (v : Value) : Bool := decide (o = some (some v))
def mroB (C : Addr) : List Value → Bool
  | .ref D :: up => decide (D = C) && PySem.HandSPX.refsVE up
  | _ => false
def newB (nid : String) : List (Option Value) → Bool
  | [_, _, _, _, some (.builtin n), _] => decide (n = nid)
  | _ => false
def clsB (C : Addr) (nid : String) : Option Obj → Bool
  | some ⟨.type ty, _, .cls cd, slots⟩ => decide (ty = "type") && (!cd.hasDel && (cd.hasDict && (mroB C cd.mro && newB nid slots.toList)))
  | _ => false
theorem mroB_ok {C : Addr} {l : List Value} (h : mroB C l = true) : ∃ up, l = .ref C :: up ∧ PySem.HandSPX.refsVE up = true := by
  unfold mroB at h
  split at h
  · obtain ⟨h1, h2⟩ := He.ba h
    rw [of_decide_eq_true h1]
    exact ⟨_, rfl, h2⟩
  · cases h
theorem newB_ok {nid : String} {l : List (Option Value)} (h : newB nid l = true) : ∃ k0 k1 k2 k3 k5, l = [k0, k1, k2, k3, some (.builtin nid), k5] := by
  unfold newB at h
  split at h
  · rw [of_decide_eq_true h]
    exact ⟨_, _, _, _, _, rfl⟩
  · cases h
theorem clsB_ok {C : Addr} {nid : String} {o : Option Obj} (h : clsB C nid o = true) : ∃ nm q N bs bm sn sub ab col dd k0 k1 k2 k3 k5, o = some (excClassObj nm q C N bs bm true sn sub ab col dd k0 k1 k2 k3 k5 nid) ∧ PySem.HandSPX.refsVE bm = true := by
  unfold clsB at h
  split at h
  · rename_i ty dd cd slots
    obtain ⟨h1, h⟩ := He.ba h
    obtain ⟨h2, h⟩ := He.ba h
    obtain ⟨h3, h⟩ := He.ba h
    obtain ⟨h4, h5⟩ := He.ba h
    obtain ⟨up, e4, h6⟩ := mroB_ok h4
    obtain ⟨k0, k1, k2, k3, k5, e5⟩ := newB_ok h5
    obtain ⟨nm, bs, mro, N, q, hd, sn, sub, ab, col, del⟩ := cd
    have e2 : del = false := by
      cases del with
      | true => cases h2
      | false => rfl
    have e3 : hd = true := h3
    have e4' : mro = .ref C :: up := e4
    have e1 := of_decide_eq_true h1
    have e6 : slots = #[k0, k1, k2, k3, some (.builtin nid), k5] := by rw [← e5, Array.toArray_toList]
    rw [e1, e2, e3, e4', e6]
    exact ⟨nm, q, N, bs, up, sn, sub, ab, col, dd, k0, k1, k2, k3, k5, rfl, h6⟩
  · cases h
def oexB (K : PySem.W.Frag) (C : Addr) : Bool := clsB C "ValueError.__new__" (K.lookup C) && (isO (PySem.W.findIn K (.ref C) "__setattr__") (.builtin "object.__setattr__") && (decide (PySem.W.subIn K (.ref C) (.type "BaseException") = some true) && (decide (PySem.W.typeIn K (.ref C) = some (.type "type")) && PySem.W.keepIn K (.ref C))))
theorem oexB_ok {K : PySem.W.Frag} {C : Addr} (h : oexB K C = true) : OexC K C := by
  obtain ⟨h1, h⟩ := He.ba h
  obtain ⟨h2, h⟩ := He.ba h
  obtain ⟨h3, h⟩ := He.ba h
  obtain ⟨h4, h5⟩ := He.ba h
  exact ⟨clsB_ok h1, of_decide_eq_true h2, of_decide_eq_true h3, of_decide_eq_true h4, h5⟩
def exkB (K : PySem.W.Frag) (D : Addr) : Bool := (PySem.W.clsIn K D).isSome && (isO (PySem.W.findIn K (.ref D) "__getattribute__") (.builtin "BaseException.__getattribute__") && (decide (PySem.W.findIn K (.ref D) "__getattr__" = some none) &&
  (decide (PySem.W.subIn K (.ref D) (.type "BaseException") = some true) && (PySem.W.hasDictIn K D && (isO (PySem.W.findIn K (.ref D) "__class__") (.builtin "object.__class__") && (isO (PySem.W.specialIn K (.builtin "object.__class__") "__get__") (.builtin "getset_descriptor.__get__") &&
    (decide (PySem.W.takesIn K (.builtin "object.__class__") = some true) && decide (PySem.W.mroIn K D (.type "object") = some true))))))))
theorem exkB_ok {K : PySem.W.Frag} {D : Addr} (h : exkB K D = true) : ExK K D := by
  obtain ⟨h1, h⟩ := He.ba h
  obtain ⟨h2, h⟩ := He.ba h
  obtain ⟨h3, h⟩ := He.ba h
  obtain ⟨h4, h⟩ := He.ba h
  obtain ⟨h5, h⟩ := He.ba h
  obtain ⟨h6, h⟩ := He.ba h
  obtain ⟨h7, h⟩ := He.ba h
  obtain ⟨h8, h9⟩ := He.ba h
  exact ⟨h1, of_decide_eq_true h2, of_decide_eq_true h3, of_decide_eq_true h4, h5, of_decide_eq_true h6, of_decide_eq_true h7, of_decide_eq_true h8, of_decide_eq_true h9⟩
def valB (nid : String) : Option PySem.W.CFound → Bool
  | some (.val (.builtin n)) => decide (n = nid)
  | _ => false
theorem valB_ok {nid : String} {r : Option PySem.W.CFound} (h : valB nid r = true) : r = some (.val (.builtin nid)) := by
  unfold valB at h
  split at h
  · rw [of_decide_eq_true h]
  · cases h
def baseB (K : PySem.W.Frag) (S : Addr) : Bool := isO (PySem.W.specialIn K (.ref S) "__getattribute__") (.builtin "type.__getattribute__") && (PySem.W.readsIn K S (.type "type") && valB "ValueError.__init__" (PySem.W.findCls K (.ref S) (.type "type") "__init__"))
theorem baseB_ok {K : PySem.W.Frag} {mg : Str → Option Value} {x : Str} {S : Addr} (hm : mg x = some (.ref S)) (h : baseB K S = true) : BaseI K mg x := by
  obtain ⟨h1, h⟩ := He.ba h
  obtain ⟨h2, h3⟩ := He.ba h
  exact ⟨S, .type "type", hm, of_decide_eq_true h1, h2, valB_ok h3⟩
/-- the error class x with its own __init__, the base S: all that the walks ask -/
def ownB (K : PySem.W.Frag) (x S f : Str) : Bool := oexB K (He.ga K x) && (exkB K (He.ga K x) && (baseB K (He.ga K S) && (isO (PySem.W.findIn K (.ref (He.ga K x)) "__init__") (.ref (He.ma K (He.ga K x) "__init__")) && (decide (PySem.W.typeIn K (.ref (He.ma K (He.ga K x) "__init__")) = some (.type "function")) &&
  (decide (PySem.W.findIn K (.ref (He.ga K x)) f = some none) && (decide (PySem.W.kitOne K (.ref (He.ga K x)) (.type "ValueError") = some true) && (decide (PySem.W.kitOne K (.ref (He.ga K x)) (.ref (He.ga K x)) = some true) && decide (PySem.W.exmOne K (.ref (He.ga K x)) (.ref (He.ga K S)) = some true))))))))
structure Own (K : PySem.W.Frag) (mg : Str → Option Value) (x S f : Str) : Prop where
  err : ErrI K x (He.ga K x) (He.ma K (He.ga K x) "__init__")
  exk : ExK K (He.ga K x)
  base : mg S = some (.ref (He.ga K S)) → BaseI K mg S
  nof : PySem.W.findIn K (.ref (He.ga K x)) f = some none
  isV : PySem.W.kitOne K (.ref (He.ga K x)) (.type "ValueError") = some true
  isC : PySem.W.kitOne K (.ref (He.ga K x)) (.ref (He.ga K x)) = some true
  exS : PySem.W.exmOne K (.ref (He.ga K x)) (.ref (He.ga K S)) = some true
theorem ownB_ok {K : PySem.W.Frag} {mg : Str → Option Value} {x S f : Str} (h : ownB K x S f = true) : Own K mg x S f := by
  obtain ⟨h1, h⟩ := He.ba h
  obtain ⟨h2, h⟩ := He.ba h
  obtain ⟨h3, h⟩ := He.ba h
  obtain ⟨h4, h⟩ := He.ba h
  obtain ⟨h5, h⟩ := He.ba h
  obtain ⟨h6, h⟩ := He.ba h
  obtain ⟨h7, h⟩ := He.ba h
  obtain ⟨h8, h9⟩ := He.ba h
  exact ⟨⟨oexB_ok h1, of_decide_eq_true h4, of_decide_eq_true h5⟩, exkB_ok h2, fun hm => baseB_ok hm h3, of_decide_eq_true h6, of_decide_eq_true h7, of_decide_eq_true h8, of_decide_eq_true h9⟩
theorem ad_glo {K : PySem.W.Frag} {h : Heap} {mg : Str → Option Value} (X : K.In h) (G : h.Ns mainGlobals mg) {x : Str} (c : (He.Fa.glo x).ok K = true) : mg x = some (.ref (ad mg x)) ∧ ad mg x = He.ga K x := by
  have e := He.glo_ok X G c
  unfold ad
  rw [e]
  exact ⟨rfl, rfl⟩
end Ov
end

section
set_option Elab.async false
set_option linter.all false
set_option maxRecDepth 100000
set_option maxHeartbeats 2000000
namespace Ov
open PySem PySem.Spec PyProof.Rows L2 Evl ClX
/-! ### where a def stands: a global, a method, behind a property, behind a classmethod -/
inductive At where
  | glo (x : Str)
  | meth (C m : Str)
  | prop (C f : Str)
  | cm (C m : Str)
def pgA (K : PySem.W.Frag) (C : Addr) (f : Str) : Addr := match PySem.W.recIn K (He.ma K C f) "property" with
  | some (.ref g :: _) => g
  | _ => 0
def cmP (K : PySem.W.Frag) (C : Addr) (m : Str) : Addr := match PySem.W.findCls K (.ref C) (.type "type") m with
  | some (.get _ (.ref p) _ _) => p
  | _ => 0
def cmG (K : PySem.W.Frag) (C : Addr) (m : Str) : Addr := match PySem.W.recIn K (cmP K C m) "classmethod" with
  | some (.ref g :: _) => g
  | _ => 0
def At.ad (K : PySem.W.Frag) : At → Addr
  | .glo x => He.ga K x
  | .meth C m => He.ma K (He.ga K C) m
  | .prop C f => pgA K (He.ga K C) f
  | .cm C m => cmG K (He.ga K C) m
structure DefP where
  at_ : At
  name : Str
  qual : Str
  st : Stmt
def fnWA (K : PySem.W.Frag) (a : Addr) : He.FnW := match K.lookup a with
  | some ⟨_, _, .func fd, _⟩ => some (fd.name, fd.qualname, fd.params, fd.body, fd.scope, fd.globals, fd.closure, fd.builtins)
  | _ => none
def DefP.val (d : DefP) : He.FnW := some (d.name, d.qual, defArgs d.st, .stmts (defBody d.st), defScope d.st, mainGlobals, [], builtinsNs)
def DefP.ok (K : PySem.W.Frag) (d : DefP) : Bool := PySem.W.keepIn K (.ref (d.at_.ad K)) && (match K.lookup (d.at_.ad K) with
  | some ⟨_, _, .func fd, _⟩ => PySem.W.codeIn K fd.code d.qual && He.dflB K fd.defaults []
  | _ => false)
theorem DefP.fun_ {K : PySem.W.Frag} {d : DefP} (e : fnWA K (d.at_.ad K) = d.val) (c : d.ok K = true) : ∃ fd, Fun K d.name d.qual d.st (d.at_.ad K) fd := by
  obtain ⟨kp, c2⟩ := He.ba c
  unfold fnWA at e
  cases q : K.lookup (d.at_.ad K) with
  | none =>
    rw [q] at c2
    cases c2
  | some o =>
    obtain ⟨oc, od, dt, osl⟩ := o
    rw [q] at c2 e
    cases dt with
    | func fd =>
      obtain ⟨n1, n2, n3, n4, n5, n6, n7, n8, n9, n10, n11, n12, n13, n14, n15⟩ := fd
      have e2 : (some (n1, n2, n3, n4, n5, n6, n7, n15) : He.FnW) = some (d.name, d.qual, defArgs d.st, .stmts (defBody d.st), defScope d.st, mainGlobals, [], builtinsNs) := e
      simp only [Option.some.injEq, Prod.mk.injEq] at e2
      obtain ⟨h1, h2, h3, h4, h5, h6, h7, h8⟩ := e2
      subst h1 h2 h3 h4 h5 h6 h7 h8
      have c3 : (PySem.W.codeIn K n13 d.qual && He.dflB K n8 []) = true := c2
      obtain ⟨k1, k2⟩ := He.ba c3
      have hn : n8 = .none := by
        rcases He.dflB_ok k2 with ⟨_, h⟩ | ⟨h, _⟩
        · exact h
        · exact absurd rfl h
      subst hn
      exact ⟨_, ⟨oc, od, n9, n10, n11, n12, n13, n14, osl, rfl, q, k1⟩, kp⟩
    | _ => cases c2
/-! ### the Hook -/
abbrev AlP : Type := He.AlD × Bool
def obsP (fa : List He.Fa) (fn : List DefP) (ex : PySem.W.Frag → Bool) (K : PySem.W.Frag) : AlP := (((fa.all fun f => f.ok K) && fn.all fun d => d.ok K, fn.map fun d => fnWA K (d.at_.ad K)), ex K)
def valP (fn : List DefP) : AlP := ((true, fn.map DefP.val), true)
def SaysP (fa : List He.Fa) (fn : List DefP) (ex : PySem.W.Frag → Bool) (K : PySem.W.Frag) : Prop := obsP fa fn ex K = valP fn
def hookP (n : Nat) (fa : List He.Fa) (fn : List DefP) (ex : PySem.W.Frag → Bool) : PySem.W.Hook where
  α := AlP
  obs := fun s => obsP fa fn ex (He.frG s.heap.get? (asB s.heap.get? n))
  val := fun _ => valP fn
  says := fun _ h => ∃ K : PySem.W.Frag, K.In h ∧ SaysP fa fn ex K
  of := fun _ _ e => ⟨_, He.frG_in, e⟩
  keeps := fun _ _ _ ⟨K, hK, c⟩ k => ⟨K, PySem.W.Frag.In.keeps hK k, c⟩
def obP (n : Nat) (fa : List He.Fa) (fn : List DefP) (ex : PySem.W.Frag → Bool) (s : PySem.W.SharedT) : AlP := obsP fa fn ex (He.frG (HandSHeadRun.getT s) (asB (HandSHeadRun.getT s) n))
theorem obP_eq {n : Nat} {fa : List He.Fa} {fn : List DefP} {ex : PySem.W.Frag → Bool} (s : PySem.W.SharedT) : obP n fa fn ex s = (hookP n fa fn ex).obs s.abs := by
  have e : HandSHeadRun.getT s = s.abs.heap.get? := funext (HandSHeadRun.getT_eq s)
  unfold obP
  rw [e] <;> rfl
section
variable {fa : List He.Fa} {fn : List DefP} {ex : PySem.W.Frag → Bool} {K : PySem.W.Frag}
theorem SaysP.fact (c : SaysP fa fn ex K) (i : Nat) {f : He.Fa} (h : fa[i]? = some f := by rfl) : f.ok K = true := by
  have c1 := (He.ba (show ((fa.all fun f => f.ok K) && fn.all fun d => d.ok K) = true from congrArg (fun z : AlP => z.1.1) c)).1
  exact List.all_eq_true.mp c1 f (List.mem_of_getElem? h)
theorem SaysP.def_ (c : SaysP fa fn ex K) (i : Nat) {d : DefP} (h : fn[i]? = some d := by rfl) : ∃ fd, Fun K d.name d.qual d.st (d.at_.ad K) fd := by
  have c2 := (He.ba (show ((fa.all fun f => f.ok K) && fn.all fun d => d.ok K) = true from congrArg (fun z : AlP => z.1.1) c)).2
  have e : fn.map (fun d => fnWA K (d.at_.ad K)) = fn.map DefP.val := congrArg (fun z : AlP => z.1.2) c
  have e2 : (fn.map fun d => fnWA K (d.at_.ad K))[i]? = (fn.map DefP.val)[i]? := by rw [e]
  rw [List.getElem?_map, List.getElem?_map, h] at e2
  exact DefP.fun_ (Option.some.inj e2) (List.all_eq_true.mp c2 d (List.mem_of_getElem? h))
theorem SaysP.more (c : SaysP fa fn ex K) : ex K = true := congrArg (fun z : AlP => z.2) c
theorem ad_gloP {h : Heap} {mg : Str → Option Value} {x : Str} (X : K.In h) (G : h.Ns mainGlobals mg) (c : (He.Fa.glo x).ok K = true) : mg x = some (.ref (ad mg x)) ∧ ad mg x = He.ga K x := by
  have h1 := He.glo_ok X G c
  have h2 : ad mg x = He.ga K x := by
    unfold ad
    rw [h1]
  exact ⟨by rw [h2]; exact h1, h2⟩
end
/-! ### Bools of a class -/
section
variable {K : PySem.W.Frag} {C : Addr} {f m : Str}
def propB (K : PySem.W.Frag) (C : Addr) (f : Str) : Bool := isO (PySem.W.findIn K (.ref C) f) (.ref (He.ma K C f)) && (isO (PySem.W.specialIn K (.ref (He.ma K C f)) "__get__") (.builtin "property.__get__") && (decide (PySem.W.takesIn K (.ref (He.ma K C f)) = some true) && (match PySem.W.recIn K (He.ma K C f) "property" with
  | some (.ref _ :: _) => true
  | _ => false)))
theorem propB_ok (h : propB K C f = true) : PropOf K C f (He.ma K C f) (pgA K C f) := by
  obtain ⟨h1, h⟩ := He.ba h
  obtain ⟨h2, h⟩ := He.ba h
  obtain ⟨h3, h4⟩ := He.ba h
  refine ⟨of_decide_eq_true h1, of_decide_eq_true h2, of_decide_eq_true h3, ?_⟩
  unfold pgA
  split at h4
  · rename_i g rest e
    rw [e]
    exact ⟨rest, rfl⟩
  · cases h4
def creadB (K : PySem.W.Frag) (C : Addr) : Bool := PySem.W.readsIn K C (.type "type") && isO (PySem.W.specialIn K (.ref C) "__getattribute__") (.builtin "type.__getattribute__")
theorem creadB_ok (h : creadB K C = true) : CRead K C (.type "type") := by
  obtain ⟨h1, h2⟩ := He.ba h
  exact ⟨h1, of_decide_eq_true h2⟩
def cmB (K : PySem.W.Frag) (C : Addr) (m : Str) : Bool := (match PySem.W.findCls K (.ref C) (.type "type") m with
  | some (.get (.builtin n) (.ref _) .none (.ref D)) => decide (n = "classmethod.__get__") && decide (D = C)
  | _ => false) && (match PySem.W.recIn K (cmP K C m) "classmethod" with
  | some (.ref g :: _) => PySem.W.fnIn K g
  | _ => false)
theorem cmB_ok (h : cmB K C m = true) : CMet K C (.type "type") m (cmP K C m) (cmG K C m) := by
  obtain ⟨h1, h2⟩ := He.ba h
  refine ⟨?_, ?_, ?_⟩
  · unfold cmP
    split at h1
    · rename_i n p D e
      obtain ⟨a1, a2⟩ := He.ba h1
      rw [e, of_decide_eq_true a1, of_decide_eq_true a2]
    · cases h1
  · unfold cmG
    split at h2
    · rename_i g rest e
      rw [e]
      exact ⟨rest, rfl⟩
    · cases h2
  · unfold cmG
    split at h2
    · rename_i g rest e
      exact h2
    · cases h2
def cintB (K : PySem.W.Frag) (C : Addr) (f : Str) (i : Int) : Bool := match PySem.W.findCls K (.ref C) (.type "type") f with
  | some (.val (.int j _)) => decide (j = i)
  | _ => false
theorem cintB_ok {i : Int} (h : cintB K C f i = true) : ∃ u, CVal K C (.type "type") f (.int i) u := by
  unfold cintB at h
  split at h
  · rename_i j t e
    obtain rfl := of_decide_eq_true h
    exact ⟨_, e, t, rfl⟩
  · cases h
/-- instances of the class: ==, isinstance -/
def instB (K : PySem.W.Frag) (C : Addr) : Bool := isO (PySem.W.findIn K (.ref C) "__eq__") (.builtin "object.__eq__") && (decide (PySem.W.mroIn K C (.type "object") = some true) && (isO (PySem.W.findIn K (.ref C) "__class__") (.builtin "object.__class__") && (isO (PySem.W.specialIn K (.builtin "object.__class__") "__get__") (.builtin "getset_descriptor.__get__") &&
  decide (PySem.W.takesIn K (.builtin "object.__class__") = some true))))
end
end Ov
namespace Ov
open PySem PySem.Spec PyProof.Rows L2
theorem bindsLaw {K : PySem.W.Frag} {x qual : Str} {st : Stmt} {f : Addr} {fd : FuncData} (F : Fun K x qual st f fd) {p : Str}
    (hb : ∀ (kV dc pm : Value) (an : Option Addr) (cdv ct : Value) (us : List Value), us.length = 1 → bindArgs (PySem.W.fnOf x qual (defArgs st) (defBody st) (defScope st) .none kV dc pm an cdv ct) ⟨us, []⟩ = pure ([p].zip us)) (s : Shared) (u : Value) : BindsTo s fd ⟨[u], []⟩ [(p, u)] := by
  obtain ⟨oc, od, kV, doc, pm, an, cdv, ct, osl, rfl, lk, hcd⟩ := F.ex
  exact .of_eq (hb kV doc pm an cdv ct [u] rfl)
end Ov
end

section
set_option Elab.async false
set_option linter.all false
set_option maxRecDepth 100000
set_option maxHeartbeats 0
namespace K81
open PySem PySem.Spec PyProof.Rows L2 Ov Evl ClX
/-! ### the head -/
def d_is_row : DefP := ⟨.glo "is_row", "is_row", "is_row", s_is_row⟩
def d_are_words : DefP := ⟨.glo "are_words", "are_words", "are_words", s_are_words⟩
def d_write_stamps : DefP := ⟨.glo "write_stamps", "write_stamps", "write_stamps", s_write_stamps⟩
def d_is_next_word : DefP := ⟨.glo "is_next_word", "is_next_word", "is_next_word", s_is_next_word⟩
def d_read_stamps : DefP := ⟨.glo "read_stamps", "read_stamps", "read_stamps", s_read_stamps⟩
def d__law_vat : DefP := ⟨.glo "_law_vat", "_law_vat", "_law_vat", s__law_vat⟩
def d__law_sip : DefP := ⟨.glo "_law_sip", "_law_sip", "_law_sip", s__law_sip⟩
def d__law_words : DefP := ⟨.glo "_law_words", "_law_words", "_law_words", s__law_words⟩
def d__law_read_at : DefP := ⟨.glo "_law_read_at", "_law_read_at", "_law_read_at", s__law_read_at⟩
def d__law_bent : DefP := ⟨.glo "_law_bent", "_law_bent", "_law_bent", s__law_bent⟩
def d__law_due : DefP := ⟨.glo "_law_due", "_law_due", "_law_due", s__law_due⟩
def d__law_told : DefP := ⟨.glo "_law_told", "_law_told", "_law_told", s__law_told⟩
def d__law_right : DefP := ⟨.glo "_law_right", "_law_right", "_law_right", s__law_right⟩
def d_law : DefP := ⟨.glo "law", "law", "law", s_law⟩
def d_InvalidCode___init__ : DefP := ⟨.meth "InvalidCode" "__init__", "__init__", "InvalidCode.__init__", s_InvalidCode___init__⟩
def d_Stamps___init__ : DefP := ⟨.meth "Stamps" "__init__", "__init__", "Stamps.__init__", s_Stamps___init__⟩
def d_Stamps_of : DefP := ⟨.cm "Stamps" "of", "of", "Stamps.of", s_Stamps_of⟩
def d_Stamps_words : DefP := ⟨.prop "Stamps" "words", "words", "Stamps.words", s_Stamps_words⟩
def d_Stamps_width : DefP := ⟨.prop "Stamps" "width", "width", "Stamps.width", s_Stamps_width⟩
def d_Stamps___len__ : DefP := ⟨.meth "Stamps" "__len__", "__len__", "Stamps.__len__", s_Stamps___len__⟩
def fn : List DefP := [d_is_row, d_are_words, d_write_stamps, d_is_next_word, d_read_stamps, d__law_vat, d__law_sip, d__law_words, d__law_read_at, d__law_bent, d__law_due, d__law_told, d__law_right, d_law, d_InvalidCode___init__, d_Stamps___init__, d_Stamps_of, d_Stamps_words, d_Stamps_width, d_Stamps___len__]
def loose0 : List Str := ["StampError", "InvalidStamps", "InvalidText", "InvalidStrip", "InvalidParts", "InvalidStamping", "InvalidOrder", "InvalidName", "InvalidNumber", "NotPossible", "NothingToUndo", "InvalidCode", "LETTERS_stamps", "BLANK", "MOST_CELLS", "MOST_WIDTH_stamps", "MOST_LETTERS_stamps", "is_row", "is_strip", "are_words", "pressed", "Stamps", "LETTERS_codes", "MOST_WORDS", "MOST_WIDTH_codes", "MOST_LETTERS_codes", "write_stamps", "is_next_word", "read_stamps", "_law_vat"]
def loose1 : List Str := ["_law_sip", "_law_words", "_law_read_at", "_law_bent", "_law_due", "_law_told", "_law_right"]
def loose : List Str := loose0 ++ loose1
def fa : List He.Fa := [.free "ValueError", .free "abs", .free "all", .free "enumerate", .free "int", .free "isinstance", .free "len", .free "list", .free "max", .free "min", .free "range", .free "repr", .free "set", .free "str", .str "LETTERS_codes" "abcdefghijklmnopqrstuvwxyz", .str "LETTERS_stamps" "abcdefghijklmnopqrstuvwxyz", .int "MOST_LETTERS_codes" 36, .int "MOST_LETTERS_stamps" 36, .int "MOST_WIDTH_codes" 8, .int "MOST_WIDTH_stamps" 8, .int "MOST_WORDS" 6, .glo "is_row", .glo "are_words", .glo "write_stamps", .glo "is_next_word", .glo "read_stamps", .glo "_law_vat", .glo "_law_sip", .glo "_law_words", .glo "_law_read_at", .glo "_law_bent", .glo "_law_due", .glo "_law_told", .glo "_law_right", .glo "law", .glo "InvalidCode", .glo "InvalidName", .glo "InvalidNumber", .glo "InvalidOrder", .glo "InvalidParts", .glo "InvalidStamping", .glo "InvalidStamps", .glo "InvalidStrip", .glo "InvalidText", .glo "NotPossible", .glo "NothingToUndo", .glo "StampError", .glo "Stamps", .cls "Stamps", .noat "Stamps" "held_words", .mkr "Stamps", .meth "Stamps" "__len__"]
abbrev R : PySem.W.OpenRow := PySem.W.OpenLaw.row PySem.Challenge.rw_overstamps_k81_codes_of_stamps
def others1 (K : PySem.W.Frag) : List Value := [.ref (He.ga K "InvalidName"), .ref (He.ga K "InvalidNumber"), .ref (He.ga K "InvalidOrder"), .ref (He.ga K "InvalidParts"), .ref (He.ga K "InvalidStamping"), .ref (He.ga K "InvalidStamps")]
def others2 (K : PySem.W.Frag) : List Value := [.ref (He.ga K "InvalidStrip"), .ref (He.ga K "InvalidText"), .ref (He.ga K "NotPossible"), .ref (He.ga K "NothingToUndo")]
def exB1 (K : PySem.W.Frag) : Bool := ownB K "InvalidCode" "StampError" "at" && (decide (PySem.W.kitAny K (.ref (He.ga K "InvalidCode")) (others1 K) = some false) && decide (PySem.W.kitAny K (.ref (He.ga K "InvalidCode")) (others2 K) = some false))
def exB2 (K : PySem.W.Frag) : Bool := creadB K (He.ga K "Stamps") && (cintB K (He.ga K "Stamps") "MOST" 6 && (instB K (He.ga K "Stamps") && (propB K (He.ga K "Stamps") "words" && (propB K (He.ga K "Stamps") "width" && cmB K (He.ga K "Stamps") "of"))))
def exB (K : PySem.W.Frag) : Bool := exB1 K && exB2 K
abbrev hk : PySem.W.Hook := hookP 5 fa fn exB
abbrev ob (s : PySem.W.SharedT) : AlP := obP 5 fa fn exB s
theorem run (w : World) : HandSHeadRun.RunEq R (PySem.W.view R.prog [41]) hk ob 20000 loose w := by
  intro os
  kernel_rfl
theorem txt_of {K : PySem.W.Frag} {h : Heap} {mg : Str → Option Value} (X : K.In h) (G : h.Ns mainGlobals mg) (c : SaysP fa fn exB K) : Txt K mg :=
  ⟨He.free_ok X G (c.fact 0 rfl), He.free_ok X G (c.fact 1 rfl), He.free_ok X G (c.fact 2 rfl), He.free_ok X G (c.fact 3 rfl), He.free_ok X G (c.fact 4 rfl), He.free_ok X G (c.fact 5 rfl), He.free_ok X G (c.fact 6 rfl), He.free_ok X G (c.fact 7 rfl), He.free_ok X G (c.fact 8 rfl), He.free_ok X G (c.fact 9 rfl), He.free_ok X G (c.fact 10 rfl), He.free_ok X G (c.fact 11 rfl), He.free_ok X G (c.fact 12 rfl), He.free_ok X G (c.fact 13 rfl), He.str_ok X G (c.fact 14 rfl), He.str_ok X G (c.fact 15 rfl), He.int_ok X G (c.fact 16 rfl), He.int_ok X G (c.fact 17 rfl), He.int_ok X G (c.fact 18 rfl), He.int_ok X G (c.fact 19 rfl), He.int_ok X G (c.fact 20 rfl)⟩
theorem wr_is_row {K : PySem.W.Frag} {h : Heap} {mg : Str → Option Value} (X : K.In h) (G : h.Ns mainGlobals mg) (c : SaysP fa fn exB K) : Wr K mg "is_row" s_is_row := by
  obtain ⟨fd, F⟩ := c.def_ 0 (d := d_is_row) rfl
  exact ⟨_, fd, He.glo_ok X G (c.fact 21 (f := .glo "is_row") rfl), F⟩
theorem fu_is_row {K : PySem.W.Frag} (c : SaysP fa fn exB K) : ∃ fd, Fun K "is_row" "is_row" s_is_row ((.glo "is_row" : At).ad K) fd := c.def_ 0 (d := d_is_row) rfl
theorem wr_are_words {K : PySem.W.Frag} {h : Heap} {mg : Str → Option Value} (X : K.In h) (G : h.Ns mainGlobals mg) (c : SaysP fa fn exB K) : Wr K mg "are_words" s_are_words := by
  obtain ⟨fd, F⟩ := c.def_ 1 (d := d_are_words) rfl
  exact ⟨_, fd, He.glo_ok X G (c.fact 22 (f := .glo "are_words") rfl), F⟩
theorem fu_are_words {K : PySem.W.Frag} (c : SaysP fa fn exB K) : ∃ fd, Fun K "are_words" "are_words" s_are_words ((.glo "are_words" : At).ad K) fd := c.def_ 1 (d := d_are_words) rfl
theorem wr_write_stamps {K : PySem.W.Frag} {h : Heap} {mg : Str → Option Value} (X : K.In h) (G : h.Ns mainGlobals mg) (c : SaysP fa fn exB K) : Wr K mg "write_stamps" s_write_stamps := by
  obtain ⟨fd, F⟩ := c.def_ 2 (d := d_write_stamps) rfl
  exact ⟨_, fd, He.glo_ok X G (c.fact 23 (f := .glo "write_stamps") rfl), F⟩
theorem fu_write_stamps {K : PySem.W.Frag} (c : SaysP fa fn exB K) : ∃ fd, Fun K "write_stamps" "write_stamps" s_write_stamps ((.glo "write_stamps" : At).ad K) fd := c.def_ 2 (d := d_write_stamps) rfl
theorem wr_is_next_word {K : PySem.W.Frag} {h : Heap} {mg : Str → Option Value} (X : K.In h) (G : h.Ns mainGlobals mg) (c : SaysP fa fn exB K) : Wr K mg "is_next_word" s_is_next_word := by
  obtain ⟨fd, F⟩ := c.def_ 3 (d := d_is_next_word) rfl
  exact ⟨_, fd, He.glo_ok X G (c.fact 24 (f := .glo "is_next_word") rfl), F⟩
theorem fu_is_next_word {K : PySem.W.Frag} (c : SaysP fa fn exB K) : ∃ fd, Fun K "is_next_word" "is_next_word" s_is_next_word ((.glo "is_next_word" : At).ad K) fd := c.def_ 3 (d := d_is_next_word) rfl
theorem wr_read_stamps {K : PySem.W.Frag} {h : Heap} {mg : Str → Option Value} (X : K.In h) (G : h.Ns mainGlobals mg) (c : SaysP fa fn exB K) : Wr K mg "read_stamps" s_read_stamps := by
  obtain ⟨fd, F⟩ := c.def_ 4 (d := d_read_stamps) rfl
  exact ⟨_, fd, He.glo_ok X G (c.fact 25 (f := .glo "read_stamps") rfl), F⟩
theorem fu_read_stamps {K : PySem.W.Frag} (c : SaysP fa fn exB K) : ∃ fd, Fun K "read_stamps" "read_stamps" s_read_stamps ((.glo "read_stamps" : At).ad K) fd := c.def_ 4 (d := d_read_stamps) rfl
theorem wr__law_vat {K : PySem.W.Frag} {h : Heap} {mg : Str → Option Value} (X : K.In h) (G : h.Ns mainGlobals mg) (c : SaysP fa fn exB K) : Wr K mg "_law_vat" s__law_vat := by
  obtain ⟨fd, F⟩ := c.def_ 5 (d := d__law_vat) rfl
  exact ⟨_, fd, He.glo_ok X G (c.fact 26 (f := .glo "_law_vat") rfl), F⟩
theorem fu__law_vat {K : PySem.W.Frag} (c : SaysP fa fn exB K) : ∃ fd, Fun K "_law_vat" "_law_vat" s__law_vat ((.glo "_law_vat" : At).ad K) fd := c.def_ 5 (d := d__law_vat) rfl
theorem wr__law_sip {K : PySem.W.Frag} {h : Heap} {mg : Str → Option Value} (X : K.In h) (G : h.Ns mainGlobals mg) (c : SaysP fa fn exB K) : Wr K mg "_law_sip" s__law_sip := by
  obtain ⟨fd, F⟩ := c.def_ 6 (d := d__law_sip) rfl
  exact ⟨_, fd, He.glo_ok X G (c.fact 27 (f := .glo "_law_sip") rfl), F⟩
theorem fu__law_sip {K : PySem.W.Frag} (c : SaysP fa fn exB K) : ∃ fd, Fun K "_law_sip" "_law_sip" s__law_sip ((.glo "_law_sip" : At).ad K) fd := c.def_ 6 (d := d__law_sip) rfl
theorem wr__law_words {K : PySem.W.Frag} {h : Heap} {mg : Str → Option Value} (X : K.In h) (G : h.Ns mainGlobals mg) (c : SaysP fa fn exB K) : Wr K mg "_law_words" s__law_words := by
  obtain ⟨fd, F⟩ := c.def_ 7 (d := d__law_words) rfl
  exact ⟨_, fd, He.glo_ok X G (c.fact 28 (f := .glo "_law_words") rfl), F⟩
theorem fu__law_words {K : PySem.W.Frag} (c : SaysP fa fn exB K) : ∃ fd, Fun K "_law_words" "_law_words" s__law_words ((.glo "_law_words" : At).ad K) fd := c.def_ 7 (d := d__law_words) rfl
theorem wr__law_read_at {K : PySem.W.Frag} {h : Heap} {mg : Str → Option Value} (X : K.In h) (G : h.Ns mainGlobals mg) (c : SaysP fa fn exB K) : Wr K mg "_law_read_at" s__law_read_at := by
  obtain ⟨fd, F⟩ := c.def_ 8 (d := d__law_read_at) rfl
  exact ⟨_, fd, He.glo_ok X G (c.fact 29 (f := .glo "_law_read_at") rfl), F⟩
theorem fu__law_read_at {K : PySem.W.Frag} (c : SaysP fa fn exB K) : ∃ fd, Fun K "_law_read_at" "_law_read_at" s__law_read_at ((.glo "_law_read_at" : At).ad K) fd := c.def_ 8 (d := d__law_read_at) rfl
theorem wr__law_bent {K : PySem.W.Frag} {h : Heap} {mg : Str → Option Value} (X : K.In h) (G : h.Ns mainGlobals mg) (c : SaysP fa fn exB K) : Wr K mg "_law_bent" s__law_bent := by
  obtain ⟨fd, F⟩ := c.def_ 9 (d := d__law_bent) rfl
  exact ⟨_, fd, He.glo_ok X G (c.fact 30 (f := .glo "_law_bent") rfl), F⟩
theorem fu__law_bent {K : PySem.W.Frag} (c : SaysP fa fn exB K) : ∃ fd, Fun K "_law_bent" "_law_bent" s__law_bent ((.glo "_law_bent" : At).ad K) fd := c.def_ 9 (d := d__law_bent) rfl
theorem wr__law_due {K : PySem.W.Frag} {h : Heap} {mg : Str → Option Value} (X : K.In h) (G : h.Ns mainGlobals mg) (c : SaysP fa fn exB K) : Wr K mg "_law_due" s__law_due := by
  obtain ⟨fd, F⟩ := c.def_ 10 (d := d__law_due) rfl
  exact ⟨_, fd, He.glo_ok X G (c.fact 31 (f := .glo "_law_due") rfl), F⟩
theorem fu__law_due {K : PySem.W.Frag} (c : SaysP fa fn exB K) : ∃ fd, Fun K "_law_due" "_law_due" s__law_due ((.glo "_law_due" : At).ad K) fd := c.def_ 10 (d := d__law_due) rfl
theorem wr__law_told {K : PySem.W.Frag} {h : Heap} {mg : Str → Option Value} (X : K.In h) (G : h.Ns mainGlobals mg) (c : SaysP fa fn exB K) : Wr K mg "_law_told" s__law_told := by
  obtain ⟨fd, F⟩ := c.def_ 11 (d := d__law_told) rfl
  exact ⟨_, fd, He.glo_ok X G (c.fact 32 (f := .glo "_law_told") rfl), F⟩
theorem fu__law_told {K : PySem.W.Frag} (c : SaysP fa fn exB K) : ∃ fd, Fun K "_law_told" "_law_told" s__law_told ((.glo "_law_told" : At).ad K) fd := c.def_ 11 (d := d__law_told) rfl
theorem wr__law_right {K : PySem.W.Frag} {h : Heap} {mg : Str → Option Value} (X : K.In h) (G : h.Ns mainGlobals mg) (c : SaysP fa fn exB K) : Wr K mg "_law_right" s__law_right := by
  obtain ⟨fd, F⟩ := c.def_ 12 (d := d__law_right) rfl
  exact ⟨_, fd, He.glo_ok X G (c.fact 33 (f := .glo "_law_right") rfl), F⟩
theorem fu__law_right {K : PySem.W.Frag} (c : SaysP fa fn exB K) : ∃ fd, Fun K "_law_right" "_law_right" s__law_right ((.glo "_law_right" : At).ad K) fd := c.def_ 12 (d := d__law_right) rfl
theorem wr_law {K : PySem.W.Frag} {h : Heap} {mg : Str → Option Value} (X : K.In h) (G : h.Ns mainGlobals mg) (c : SaysP fa fn exB K) : Wr K mg "law" s_law := by
  obtain ⟨fd, F⟩ := c.def_ 13 (d := d_law) rfl
  exact ⟨_, fd, He.glo_ok X G (c.fact 34 (f := .glo "law") rfl), F⟩
theorem fu_law {K : PySem.W.Frag} (c : SaysP fa fn exB K) : ∃ fd, Fun K "law" "law" s_law ((.glo "law" : At).ad K) fd := c.def_ 13 (d := d_law) rfl
theorem fu_InvalidCode___init__ {K : PySem.W.Frag} (c : SaysP fa fn exB K) : ∃ fd, Fun K "__init__" "InvalidCode.__init__" s_InvalidCode___init__ ((.meth "InvalidCode" "__init__" : At).ad K) fd := c.def_ 14 (d := d_InvalidCode___init__) rfl
theorem fu_Stamps___init__ {K : PySem.W.Frag} (c : SaysP fa fn exB K) : ∃ fd, Fun K "__init__" "Stamps.__init__" s_Stamps___init__ ((.meth "Stamps" "__init__" : At).ad K) fd := c.def_ 15 (d := d_Stamps___init__) rfl
theorem fu_Stamps_of {K : PySem.W.Frag} (c : SaysP fa fn exB K) : ∃ fd, Fun K "of" "Stamps.of" s_Stamps_of ((.cm "Stamps" "of" : At).ad K) fd := c.def_ 16 (d := d_Stamps_of) rfl
theorem fu_Stamps_words {K : PySem.W.Frag} (c : SaysP fa fn exB K) : ∃ fd, Fun K "words" "Stamps.words" s_Stamps_words ((.prop "Stamps" "words" : At).ad K) fd := c.def_ 17 (d := d_Stamps_words) rfl
theorem fu_Stamps_width {K : PySem.W.Frag} (c : SaysP fa fn exB K) : ∃ fd, Fun K "width" "Stamps.width" s_Stamps_width ((.prop "Stamps" "width" : At).ad K) fd := c.def_ 18 (d := d_Stamps_width) rfl
theorem fu_Stamps___len__ {K : PySem.W.Frag} (c : SaysP fa fn exB K) : ∃ fd, Fun K "__len__" "Stamps.__len__" s_Stamps___len__ ((.meth "Stamps" "__len__" : At).ad K) fd := c.def_ 19 (d := d_Stamps___len__) rfl
theorem kl_InvalidCode {K : PySem.W.Frag} {h : Heap} {mg : Str → Option Value} (X : K.In h) (G : h.Ns mainGlobals mg) (c : SaysP fa fn exB K) : mg "InvalidCode" = some (.ref (ad mg "InvalidCode")) ∧ ad mg "InvalidCode" = He.ga K "InvalidCode" := ad_gloP X G (c.fact 35 (f := .glo "InvalidCode") rfl)
theorem kl_InvalidName {K : PySem.W.Frag} {h : Heap} {mg : Str → Option Value} (X : K.In h) (G : h.Ns mainGlobals mg) (c : SaysP fa fn exB K) : mg "InvalidName" = some (.ref (ad mg "InvalidName")) ∧ ad mg "InvalidName" = He.ga K "InvalidName" := ad_gloP X G (c.fact 36 (f := .glo "InvalidName") rfl)
theorem kl_InvalidNumber {K : PySem.W.Frag} {h : Heap} {mg : Str → Option Value} (X : K.In h) (G : h.Ns mainGlobals mg) (c : SaysP fa fn exB K) : mg "InvalidNumber" = some (.ref (ad mg "InvalidNumber")) ∧ ad mg "InvalidNumber" = He.ga K "InvalidNumber" := ad_gloP X G (c.fact 37 (f := .glo "InvalidNumber") rfl)
theorem kl_InvalidOrder {K : PySem.W.Frag} {h : Heap} {mg : Str → Option Value} (X : K.In h) (G : h.Ns mainGlobals mg) (c : SaysP fa fn exB K) : mg "InvalidOrder" = some (.ref (ad mg "InvalidOrder")) ∧ ad mg "InvalidOrder" = He.ga K "InvalidOrder" := ad_gloP X G (c.fact 38 (f := .glo "InvalidOrder") rfl)
theorem kl_InvalidParts {K : PySem.W.Frag} {h : Heap} {mg : Str → Option Value} (X : K.In h) (G : h.Ns mainGlobals mg) (c : SaysP fa fn exB K) : mg "InvalidParts" = some (.ref (ad mg "InvalidParts")) ∧ ad mg "InvalidParts" = He.ga K "InvalidParts" := ad_gloP X G (c.fact 39 (f := .glo "InvalidParts") rfl)
theorem kl_InvalidStamping {K : PySem.W.Frag} {h : Heap} {mg : Str → Option Value} (X : K.In h) (G : h.Ns mainGlobals mg) (c : SaysP fa fn exB K) : mg "InvalidStamping" = some (.ref (ad mg "InvalidStamping")) ∧ ad mg "InvalidStamping" = He.ga K "InvalidStamping" := ad_gloP X G (c.fact 40 (f := .glo "InvalidStamping") rfl)
theorem kl_InvalidStamps {K : PySem.W.Frag} {h : Heap} {mg : Str → Option Value} (X : K.In h) (G : h.Ns mainGlobals mg) (c : SaysP fa fn exB K) : mg "InvalidStamps" = some (.ref (ad mg "InvalidStamps")) ∧ ad mg "InvalidStamps" = He.ga K "InvalidStamps" := ad_gloP X G (c.fact 41 (f := .glo "InvalidStamps") rfl)
theorem kl_InvalidStrip {K : PySem.W.Frag} {h : Heap} {mg : Str → Option Value} (X : K.In h) (G : h.Ns mainGlobals mg) (c : SaysP fa fn exB K) : mg "InvalidStrip" = some (.ref (ad mg "InvalidStrip")) ∧ ad mg "InvalidStrip" = He.ga K "InvalidStrip" := ad_gloP X G (c.fact 42 (f := .glo "InvalidStrip") rfl)
theorem kl_InvalidText {K : PySem.W.Frag} {h : Heap} {mg : Str → Option Value} (X : K.In h) (G : h.Ns mainGlobals mg) (c : SaysP fa fn exB K) : mg "InvalidText" = some (.ref (ad mg "InvalidText")) ∧ ad mg "InvalidText" = He.ga K "InvalidText" := ad_gloP X G (c.fact 43 (f := .glo "InvalidText") rfl)
theorem kl_NotPossible {K : PySem.W.Frag} {h : Heap} {mg : Str → Option Value} (X : K.In h) (G : h.Ns mainGlobals mg) (c : SaysP fa fn exB K) : mg "NotPossible" = some (.ref (ad mg "NotPossible")) ∧ ad mg "NotPossible" = He.ga K "NotPossible" := ad_gloP X G (c.fact 44 (f := .glo "NotPossible") rfl)
theorem kl_NothingToUndo {K : PySem.W.Frag} {h : Heap} {mg : Str → Option Value} (X : K.In h) (G : h.Ns mainGlobals mg) (c : SaysP fa fn exB K) : mg "NothingToUndo" = some (.ref (ad mg "NothingToUndo")) ∧ ad mg "NothingToUndo" = He.ga K "NothingToUndo" := ad_gloP X G (c.fact 45 (f := .glo "NothingToUndo") rfl)
theorem kl_StampError {K : PySem.W.Frag} {h : Heap} {mg : Str → Option Value} (X : K.In h) (G : h.Ns mainGlobals mg) (c : SaysP fa fn exB K) : mg "StampError" = some (.ref (ad mg "StampError")) ∧ ad mg "StampError" = He.ga K "StampError" := ad_gloP X G (c.fact 46 (f := .glo "StampError") rfl)
theorem kl_Stamps {K : PySem.W.Frag} {h : Heap} {mg : Str → Option Value} (X : K.In h) (G : h.Ns mainGlobals mg) (c : SaysP fa fn exB K) : mg "Stamps" = some (.ref (ad mg "Stamps")) ∧ ad mg "Stamps" = He.ga K "Stamps" := ad_gloP X G (c.fact 47 (f := .glo "Stamps") rfl)
theorem fx_0 {K : PySem.W.Frag} (c : SaysP fa fn exB K) : (He.Fa.cls "Stamps").ok K = true := c.fact 48 rfl
theorem fx_1 {K : PySem.W.Frag} (c : SaysP fa fn exB K) : (He.Fa.noat "Stamps" "held_words").ok K = true := c.fact 49 rfl
theorem fx_2 {K : PySem.W.Frag} (c : SaysP fa fn exB K) : (He.Fa.mkr "Stamps").ok K = true := c.fact 50 rfl
theorem fx_3 {K : PySem.W.Frag} (c : SaysP fa fn exB K) : (He.Fa.meth "Stamps" "__len__").ok K = true := c.fact 51 rfl
theorem kb_read_stamps : KBindsTxt "read_stamps" s_read_stamps ["code"] ["code"] [0] := fun _ _ _ _ _ _ us ws hl => match us, ws, hl with
  | [], _ :: _, _ => rfl
  | [_], [], _ => rfl
  | [], [], h => by simp [gIn] at h
  | [_], _ :: _, h => by simp [gIn] at h
  | _ :: _ :: _, _, h => by simp [gIn] at h
theorem kb_write_stamps : KBindsTxt "write_stamps" s_write_stamps ["stamps"] ["stamps"] [0] := fun _ _ _ _ _ _ us ws hl => match us, ws, hl with
  | [], _ :: _, _ => rfl
  | [_], [], _ => rfl
  | [], [], h => by simp [gIn] at h
  | [_], _ :: _, h => by simp [gIn] at h
  | _ :: _ :: _, _, h => by simp [gIn] at h
theorem txx_of {K : PySem.W.Frag} {h : Heap} {mg : Str → Option Value} (X : K.In h) (G : h.Ns mainGlobals mg) (c : SaysP fa fn exB K) : TxX K mg (He.ga K "InvalidCode") := by
  obtain ⟨e1, e⟩ := He.ba (He.ba c.more).1
  obtain ⟨e2, e3⟩ := He.ba e
  have O := ownB_ok (mg := mg) e1
  have e2 := of_decide_eq_true e2
  have e3 := of_decide_eq_true e3
  unfold others1 at e2
  unfold others2 at e3
  exact {
    k_InvalidCode := by rw [← (kl_InvalidCode X G c).2]; exact (kl_InvalidCode X G c).1
    k_InvalidName := (kl_InvalidName X G c).1
    k_InvalidNumber := (kl_InvalidNumber X G c).1
    k_InvalidOrder := (kl_InvalidOrder X G c).1
    k_InvalidParts := (kl_InvalidParts X G c).1
    k_InvalidStamping := (kl_InvalidStamping X G c).1
    k_InvalidStamps := (kl_InvalidStamps X G c).1
    k_InvalidStrip := (kl_InvalidStrip X G c).1
    k_InvalidText := (kl_InvalidText X G c).1
    k_NotPossible := (kl_NotPossible X G c).1
    k_NothingToUndo := (kl_NothingToUndo X G c).1
    k_StampError := (kl_StampError X G c).1
    no1 := by
      rw [(kl_InvalidName X G c).2, (kl_InvalidNumber X G c).2, (kl_InvalidOrder X G c).2, (kl_InvalidParts X G c).2, (kl_InvalidStamping X G c).2, (kl_InvalidStamps X G c).2]
      exact e2
    no2 := by
      rw [(kl_InvalidStrip X G c).2, (kl_InvalidText X G c).2, (kl_NotPossible X G c).2, (kl_NothingToUndo X G c).2]
      exact e3
    isV := O.isV
    isC := O.isC
    exS := by
      rw [(kl_StampError X G c).2]
      exact O.exS
    noat := O.nof
    ex := O.exk }
theorem stf_of {K : PySem.W.Frag} {h : Heap} {mg : Str → Option Value} (X : K.In h) (G : h.Ns mainGlobals mg) (c : SaysP fa fn exB K) : StF K mg (He.ga K "Stamps") (.type "type") := by
  obtain ⟨e1, e⟩ := He.ba (He.ba c.more).2
  obtain ⟨e2, e⟩ := He.ba e
  obtain ⟨e3, e⟩ := He.ba e
  obtain ⟨i1, i⟩ := He.ba e3
  obtain ⟨i2, i⟩ := He.ba i
  obtain ⟨i3, i⟩ := He.ba i
  obtain ⟨i4, i5⟩ := He.ba i
  exact ⟨by rw [← (kl_Stamps X G c).2]; exact (kl_Stamps X G c).1, He.cls_ok (fx_0 c), creadB_ok e1, cintB_ok e2, He.noat_ok (fx_1 c), of_decide_eq_true i1, of_decide_eq_true i2, of_decide_eq_true i3, of_decide_eq_true i4, of_decide_eq_true i5⟩
theorem facts {P : Program} {w : World} {K : PySem.W.Frag} {h : Heap} {mg : Str → Option Value} {f : Addr} (X : K.In h) (G : h.Ns mainGlobals mg) (hfa : mg ("law" : Str) = some (.ref f)) (c : SaysP fa fn exB K) :
    ∃ fd : FuncData, (∀ (s : Shared) (u : Value), BindsTo s fd ⟨[u], []⟩ [("script", u)]) ∧ ∀ base : Heap, K.In base → base.Ns mainGlobals mg → FnG P w K mg base CX0 10 f fd ["script"] (spLaw K) := by
  have T := txt_of X G c
  have XX := txx_of X G c
  have ST := stf_of X G c
  have O := ownB_ok (mg := mg) (He.ba (He.ba c.more).1).1
  obtain ⟨p1, p⟩ := He.ba (He.ba (He.ba (He.ba (He.ba c.more).2).2).2).2
  obtain ⟨p2, p3⟩ := He.ba p
  have PW := propB_ok p1
  have PD := propB_ok p2
  have MO := cmB_ok p3
  have MK := He.mkr_ok (fx_2 c)
  have ML := He.meth_ok (fx_3 c)
  have LT : PySem.W.typeIn K (.ref (He.ma K (He.ga K "Stamps") "__len__")) = some (.type "function") := eq_of_beq ML.fn
  obtain ⟨fdI, FI⟩ := fu_InvalidCode___init__ c
  obtain ⟨fdM, FM⟩ := fu_Stamps___init__ c
  obtain ⟨fdO, FO⟩ := fu_Stamps_of c
  obtain ⟨fdW, FW⟩ := fu_Stamps_words c
  obtain ⟨fdD, FD⟩ := fu_Stamps_width c
  obtain ⟨fdL, FLn⟩ := fu_Stamps___len__ c
  obtain ⟨fd, FL⟩ := fu_law c
  have ef := hfa.symm.trans (He.glo_ok X G (c.fact 34 (f := .glo "law") rfl))
  cases ef
  have bI : Binds K fdI ["self", "at"] [] := FI.binds fun _ _ _ _ _ _ us hl => match us, hl with | [_, _], _ => rfl
  have bO : Binds K fdO ["cls", "words"] [] := FO.binds fun _ _ _ _ _ _ us hl => match us, hl with | [_, _], _ => rfl
  have bW : Binds K fdW ["self"] [] := FW.binds fun _ _ _ _ _ _ us hl => match us, hl with | [_], _ => rfl
  have bD : Binds K fdD ["self"] [] := FD.binds fun _ _ _ _ _ _ us hl => match us, hl with | [_], _ => rfl
  have bLn : Binds K fdL ["self"] [] := FLn.binds fun _ _ _ _ _ _ us hl => match us, hl with | [_], _ => rfl
  refine ⟨fd, fun s u => bindsLaw FL (fun _ _ _ _ _ _ us hl => match us, hl with | [_], _ => rfl) s u, fun base _ _ => ?_⟩
  · have DI := ok_init (P := P) (w := w) (bh := base) FI (O.base (by rw [← (kl_StampError X G c).2]; exact XX.k_StampError)) O.err.o O.nof
    have Drow := Dn.mk' (wr_is_row X G c) b_is_row fun _ _ F => ok_is_row (P := P) (w := w) (bh := base) F T
    have Dare := Dn.mk' (wr_are_words X G c) b_are_words fun _ _ F => ok_are_words (P := P) (w := w) (bh := base) F T ST Drow
    have Dmake := ok_make (P := P) (w := w) (bh := base) FM T ST Dare
    have Dof := fnR_of (ok_of (P := P) (w := w) (bh := base) FO T ST MK Dmake (Dare.up (by decide))) bO
    have Dwords := ok_words (P := P) (w := w) (bh := base) FW T ST
    have Dwidth := ok_width (P := P) (w := w) (bh := base) FD T ST
    have Dlen := fnR_of (ok_len (P := P) (w := w) (bh := base) FLn T ST) bLn
    have Dnext := Dn.mk' (wr_is_next_word X G c) b_is_next_word fun _ _ F => ok_is_next_word (P := P) (w := w) (bh := base) F T
    have rd := fun f fd (F : Fun K "read_stamps" "read_stamps" s_read_stamps f fd) => ok_read_stamps (P := P) (w := w) (bh := base) F T ST MO Dof (Dnext.up (by decide)) O.err (okUp DI (by decide)) bI XX.k_InvalidCode
    have Dread := Dn.mk' (wr_read_stamps X G c) b_read_stamps rd
    have DKread := DnK.mk' (ps := ["code"]) (ks := ["code"]) (js := [0]) (wr_read_stamps X G c) kb_read_stamps rd
    have Dat : DnE P w K mg base CX0 1 "_law_read_at" ["e"] (spReadAt _) := DnE.mk' (wr__law_read_at X G c) b__law_read_at fun _ _ F => ok_law_read_at F T XX
    have Dtold := Dn.mk' (wr__law_told X G c) b__law_told fun _ _ F => ok_law_told (P := P) (w := w) (bh := base) F T XX ST PW Dwords bW ML.at_ LT Dlen (Dread.up (by decide)) (DKread.up (by decide)) Dat
    have wr := fun f fd (F : Fun K "write_stamps" "write_stamps" s_write_stamps f fd) => ok_write_stamps (P := P) (w := w) (bh := base) F T ST PW Dwords bW
    have Dwrite := Dn.mk' (wr_write_stamps X G c) b_write_stamps wr
    have DKwrite := DnK.mk' (ps := ["stamps"]) (ks := ["stamps"]) (js := [0]) (wr_write_stamps X G c) kb_write_stamps wr
    have Ddue := Dn.mk' (wr__law_due X G c) b__law_due fun _ _ F => ok_law_due (P := P) (w := w) (bh := base) F T
    have Dright := DnG.mk' (wr__law_right X G c) b__law_right fun _ _ F => ok_law_right (P := P) (w := w) (bh := base) (Ca := He.ga K "InvalidCode") (pW := 0) (gW := 0) (fdW := fdW) F T ST PD Dwidth bD (Ddue.up (by decide)) Dtold (Dread.up (by decide)) (Dwrite.up (by decide)) (DKwrite.up (by decide))
    have Dvat := Dn.mk' (wr__law_vat X G c) b__law_vat fun _ _ F => ok_law_vat (P := P) (w := w) (bh := base) F T
    have Dsip := Dn.mk' (wr__law_sip X G c) b__law_sip fun _ _ F => ok_law_sip (P := P) (w := w) (bh := base) F T
    have Dlw := Dn.mk' (wr__law_words X G c) b__law_words fun _ _ F => ok_law_words (P := P) (w := w) (bh := base) F T Dsip
    have Dbent := Dn.mk' (wr__law_bent X G c) b__law_bent fun _ _ F => ok_law_bent (P := P) (w := w) (bh := base) F T Dsip
    exact ok_law FL T ST MO (Dof.mono (by decide)) (Dvat.up (by decide)) (Dsip.up (by decide)) (Dlw.up (by decide)) (Dbent.up (by decide)) Dright (Dwrite.up (by decide))

end K81
open PySem PySem.W PySem.Calls PyProof.Rows
theorem PySem.Challenge.cw_overstamps_k81_codes_of_stamps_holds : PySem.Challenge.rw_overstamps_k81_codes_of_stamps.Holds := by
  w_on; o_law
  refine HandSHeadRun.head_any (r := OpenLaw.row PySem.Challenge.rw_overstamps_k81_codes_of_stamps) (q := view (OpenLaw.row PySem.Challenge.rw_overstamps_k81_codes_of_stamps).prog [41]) (H := K81.hk) (ob := K81.ob) (M := 20000) (loose := K81.loose) (d := HandSHeadRun.topDef (OpenLaw.row PySem.Challenge.rw_overstamps_k81_codes_of_stamps).prog 41) (kwd := []) Ov.obP_eq
    (by kernel_rfl) (fun s => by kernel_rfl) K81.run (by kernel_rfl) (by kernel_rfl) (by kernel_rfl) (by rfl) (by first | assumption | decide +kernel) (by decide +kernel) ⟨rfl, rfl, rfl, rfl, rfl, by decide +kernel⟩ ?hw ?hc
  case hw => w_witness2
  case hc =>
    refine Ov.walkG (l := PySem.Challenge.rw_overstamps_k81_codes_of_stamps) (n := 63) (k := 10) (x := "script") (CX := L2.CX0) rfl (by decide) (by kernel_rfl) ⟨rfl, by decide, by decide⟩ ?F (fun _ _ _ _ z => z)
    intro w mg fa h Y G hmg0
    obtain ⟨K, KX, c⟩ := Y
    have hmg : mg ("law" : PySem.Str) = some (.ref fa) := by
      have e : (HandSHeadRun.topDef (OpenLaw.row PySem.Challenge.rw_overstamps_k81_codes_of_stamps).prog 41).name = ("law" : PySem.Str) := by kernel_rfl
      rw [← e]
      exact hmg0
    obtain ⟨fd, hb, hF⟩ := K81.facts (P := (PySem.Challenge.rw_overstamps_k81_codes_of_stamps).prog) (w := w) KX G hmg c
    exact ⟨K, fd, K81.spLaw K, KX, hb, fun H a ns hl hS => ⟨a, ns, rfl, hS, hl, fun _ _ => rfl⟩, hF⟩
end
