import PyProof.Rows.All
import Wide.All
import OpenK.AllK
import Wide.FinOn
import HandS.Base
import HandS.Call
import HandS.List
import HandS.Comp
import HandS.Exc
import HandS.ExcIs
import HandS.ExcField
import HandS.ExcInit
import HandS.Small
import HandS.HeadHook1
import KE.KExcIs
import HandS.ExcCtx
import HandS.HotCalls
import HandS.Words
import HandS.WordsExc
import HandS.Defaults
import HandS.Lambda
import HandS.Iter
import HandS.HeadHook2
import HandS.HeadEnd
import HandS.Head0
import HandS.Head1
import HandS.Head2
import PySem.Challenge.RW_askedtwice_k25_errors_apart
set_option Elab.async false
set_option linter.all false
set_option maxRecDepth 100000
set_option maxHeartbeats 2000000
namespace EX
open PySem PySem.Spec PyProof.Rows L2

/-! # X1: own exception classes: what must be known of them; isinstance, fields of the one that is handled -/
def objB (K : PySem.W.Frag) (C : Addr) : Bool := match K.lookup C with
  | some ⟨t, _, .cls cd, sl⟩ => t == .type "type" && (match cd.mro, sl.toList with
    | .ref C' :: bm, [_, _, _, _, some (.builtin n), _] => C' == C && n == "ValueError.__new__" && !cd.hasDel && cd.hasDict && PySem.HandSPX.refsVE bm
    | _, _ => false)
  | _ => false
theorem objB_ok {K : PySem.W.Frag} {C : Addr} (h : objB K C = true) : ∃ nm q N bs bm sn sub ab col dd k0 k1 k2 k3 k5,
    K.lookup C = some (excClassObj nm q C N bs bm true sn sub ab col dd k0 k1 k2 k3 k5 "ValueError.__new__") ∧ PySem.HandSPX.refsVE bm = true := by
  unfold objB at h
  split at h
  · rename_i t dd cd sl ho
    obtain ⟨h0, h⟩ := Bool.and_eq_true_iff.mp h
    split at h
    · rename_i C' bm k0 k1 k2 k3 n k5 hm hs
      simp only [Bool.and_eq_true, beq_iff_eq, Bool.not_eq_true'] at h
      obtain ⟨⟨⟨⟨rfl, rfl⟩, hdel⟩, hhd⟩, hr⟩ := h
      obtain rfl := beq_iff_eq.mp h0
      obtain ⟨nm, bs, mro, ns, qn, hd, sn, sub, ab, col, del⟩ := cd
      dsimp only at hm hdel hhd
      subst hm hdel hhd
      have hsl : sl = #[k0, k1, k2, k3, some (.builtin "ValueError.__new__"), k5] := by
        obtain ⟨l⟩ := sl
        simp only at hs
        rw [hs]
      subst hsl
      exact ⟨nm, qn, ns, bs, bm, sn, sub, ab, col, dd, k0, k1, k2, k3, k5, ho, hr⟩
    · cases h
  · cases h

/-- the facts of one class -/
structure Fct (K : PySem.W.Frag) (C : Addr) : Prop where
  ox : OexC K C
  is : ExcC K C
  fl : XfC K C
def fctL (K : PySem.W.Frag) (C : Addr) : List Bool := [objB K C,
  decide (PySem.W.findIn K (.ref C) "__setattr__" = some (some (.builtin "object.__setattr__"))),
  decide (PySem.W.subIn K (.ref C) (.type "BaseException") = some true),
  decide (PySem.W.typeIn K (.ref C) = some (.type "type")),
  PySem.W.keepIn K (.ref C),
  decide (PySem.W.findIn K (.ref C) "__getattribute__" = some (some (.builtin "BaseException.__getattribute__"))),
  decide (PySem.W.findIn K (.ref C) "__getattr__" = some none),
  PySem.W.hasDictIn K C,
  decide (PySem.W.findIn K (.ref C) "__class__" = some (some (.builtin "object.__class__"))),
  decide (PySem.W.specialIn K (.builtin "object.__class__") "__get__" = some (some (.builtin "getset_descriptor.__get__"))),
  decide (PySem.W.takesIn K (.builtin "object.__class__") = some true),
  decide (PySem.W.mroIn K C (.type "object") = some true)]
def fctB (K : PySem.W.Frag) (C : Addr) : Bool := (fctL K C).all id
theorem fctB_ok {K : PySem.W.Frag} {C : Addr} (h : fctB K C = true) : Fct K C := by
  have h' : ∀ b ∈ fctL K C, b = true := fun b hb => List.all_eq_true.mp h b hb
  unfold fctL at h'
  simp only [List.mem_cons, List.not_mem_nil, or_false, forall_eq_or_imp, forall_eq, decide_eq_true_eq] at h'
  obtain ⟨h1, h2, h3, h4, h5, h6, h7, h8, h9, h10, h11, h12⟩ := h'
  exact ⟨⟨objB_ok h1, h2, h3, h4, h5⟩, ⟨h6, h7, h3, h8, h9, h10, h11, h12⟩, ⟨h6, h7, h3, h8⟩⟩

/-! ### the handled exception -/
structure Held (X : Cx) (a : Addr) (cls : Value) (d : Option Addr) : Prop where
  ex : ∃ oe, (a, oe) ∈ X.pn ∧ Zc cls d oe ∧ ∃ vs, oe.data = .fields vs
theorem held_suite {X : Cx} {a : Addr} {oe : Obj} {pn : List (Addr × Obj)} {cls : Value} {d : Option Addr} (hz : Zc cls d oe) (hf : ∃ vs, oe.data = .fields vs) : Held (X.suite a ((a, oe) :: pn)) a cls d :=
  ⟨oe, List.mem_cons_self, hz, hf⟩
/-- its dict, where it has one -/
def Fld (d : Option Addr) (H : Hp) : Prop := ∀ dd, d = some dd → ∃ fs, H dd = some (.xd fs)
theorem inst_at {X : Cx} {pins : List (Addr × Obj)} {σ : L2.St} {H : Hp} {s : Shared} {a D : Addr} {d : Option Addr} (I : Inv X pins σ H s) (hl : Held X a (.ref D) d) (f : Fld d H) : ∃ ox od, PySem.W.InstAt s.heap a ox D od := by
  obtain ⟨oe, hm, hz, vs, hv⟩ := hl.ex
  obtain ⟨ha, _⟩ := I.pin (a, oe) (List.mem_append_left _ hm)
  have hn : PySem.W.notCls oe = true := by unfold PySem.W.notCls; rw [hv] <;> rfl
  cases d with
  | none => exact ⟨oe, none, ha, hz.1, hn, by rw [hz.2]; trivial⟩
  | some dd =>
    obtain ⟨fs, e⟩ := f dd rfl
    obtain ⟨mA, hns, hr⟩ : ObjOk X.prog X.w H s.heap dd (.xd fs) := I.hok dd _ e
    obtain ⟨od, ho, _⟩ := lookIn_ns hns
    exact ⟨oe, some od, ha, hz.1, hn, by rw [hz.2]; exact ho⟩
/-- isinstance(e, c), e the handled exception -/
def rIsH (K : PySem.W.Frag) (a : Addr) (cls : Value) (d : Option Addr) : List V → Hp → VK → Prop := fun xs H Q => ∃ (D : Addr) (c : V) (cv : Value) (b : Bool), xs = [.ref a, c] ∧ cls = .ref D ∧ ExcC K D ∧ Fld d H ∧ (∀ u, RelV c u → u = cv) ∧ PySem.W.kitOne K (.ref D) cv = some b ∧ Q (.bl b) H
theorem call_isH {X : Cx} {a : Addr} {cls : Value} {d : Option Addr} (hl : Held X a cls d) : CallR X (.builtin "isinstance") (rIsH X.K a cls d) := by
  intro pins s σ H xs us Q I r h
  obtain ⟨D, c, cv, b, rfl, rfl, C, f, hcv, e, q⟩ := h
  obtain ⟨ox, od, J⟩ := inst_at I hl f
  cases r with
  | cons rx rr =>
    cases rr with
    | cons rt rr =>
      cases rr
      cases rx
      have ec := hcv _ rt
      subst ec
      have hcl : (PySem.W.clsIn X.K D).isSome = true := by
        obtain ⟨cd, hc, _⟩ := PySem.W.any_some C.hd
        rw [hc] <;> rfl
      exact PySem.W.kia_one (PySem.W.kitx_exc hcl C.hg C.hk C.hs C.ha C.hn C.ht C.hm) I.kIn J e (fun z => nomatch z) fun tk => ⟨.bl b, H, I.kept (t' := tk) fun _ _ z => z, rfl, q⟩
/-- e.f, e the handled exception -/
def tXh (K : PySem.W.Frag) (a : Addr) (cls : Value) (d : Option Addr) (f : Str) (te : TE) : TE := fun σ H Q => te σ H fun x H1 => x = .ref a ∧ ∃ (D dd : Addr) (fs : List (Str × V)) (v : V), cls = .ref D ∧ XfC K D ∧ PySem.W.findIn K (.ref D) f = some none ∧ d = some dd ∧ H1 dd = some (.xd fs) ∧ fs.lookup f = some v ∧ Q v H1
theorem pe_xh {X : Cx} {a : Addr} {cls : Value} {d : Option Addr} {e : Expr} {te : TE} {pos : Pos} {n : Str} (hl : Held X a cls d) (he : PE X e te) (hb : attributeBase e n X.env (eval e X.env) = eval e X.env := by rfl) :
    PE X (.Attribute e n pos) (tXh X.K a cls d n te) := by
  refine ⟨fun pins s σ H Q I h => ?_⟩
  refine attr_of hb (thn (he.run pins s σ H _ I h) fun u s1 ⟨x, H1, I1, rx, ex, D, dd, fs, v, ec, T, hno, ed, ea, l, q⟩ => ?_)
  subst ex ec ed
  obtain rfl : u = Value.ref a := rx
  obtain ⟨oe, hm, hz, vs, hv⟩ := hl.ex
  obtain ⟨ha, _⟩ := I1.pin (a, oe) (List.mem_append_left _ hm)
  obtain ⟨mA, hns, hr⟩ : ObjOk X.prog X.w H1 s1.heap dd (.xd fs) := I1.hok dd _ ea
  obtain ⟨od, ho, hlk⟩ := lookIn_ns hns
  obtain ⟨w, hw, rw'⟩ := RelO.some_of (v := v) (o := mA n) (by rw [← l]; exact hr n)
  have J : PySem.W.InstAt s1.heap a oe D (some od) := ⟨ha, hz.1, by unfold PySem.W.notCls; rw [hv] <;> rfl, by rw [hz.2]; exact ho⟩
  exact HandSPX.exc_get I1.kIn J T.ga T.gg T.exC (PySem.W.findObj_own T.hdC hno rfl (by rw [hlk, hw])) (handed_of rw') ⟨v, H1, I1.tok _, rw', q⟩
end EX
set_option maxRecDepth 100000
set_option maxHeartbeats 2000000
namespace EX
open PySem PySem.Spec PyProof.Rows L2

/-! # X2: own exceptions are made -/
section
variable {X : Cx} {C : Addr} {pins : List (Addr × Obj)} {σ : L2.St} {H : Hp} {s : Shared} {Q : XK}
/-- without own __init__ -/
theorem mk0 (q : PySem.W.excIn X.K C He.veBase "ValueError.__new__" = true) (r : Raises X (.ref C)) {us : List Value} (hz : us.length ≤ sizeLine) (I : Inv X pins σ H s) (h : Q (.ref C) none H) :
    wpAny (model X.prog X.w) X.A (call (.ref C) us) (L2N.MkP X pins σ Q) X.xe s := by
  obtain ⟨bm, N, nm, qn, bs, hdct, sn, sub, ab, col, dd, k0, k1, k2, k3, k5, mN, hC, hN, hni, T⟩ := exc_obj I.kIn q
  exact wpAny_call_exc_subT F.excBase_ValueError T hC hN hni (fun h' e hm => L2N.mk_of I hm r h (I.hok.gone hm.new)) hz
/-- the fields that an own __init__ stores, the last one first -/
def spI (C : Addr) (fs : List Str) : Sp := fun vs H Q _ => ∃ (a : Addr) (ws : List V), vs = .ref a :: ws ∧ ws.length = fs.length ∧ H a = some (exo a C none) ∧ ∀ dx, H dx = none → dx ≠ a → ∀ H', H' a = some (exo a C (some dx)) → H' dx = some (exd dx (fs.zip ws).reverse) → (∀ b, b ≠ a → b ≠ dx → H' b = H b) → Q .non H'
theorem mkI {CX : CXT} {fI : Addr} {k : Nat} {fd : FuncData} {ps fs : List Str} (T : OexC X.K C) (iC : PySem.W.findIn X.K (.ref C) "__init__" = some (some (.ref fI))) (tI : PySem.W.typeIn X.K (.ref fI) = some (.type "function"))
    (F1 : FnOk X.prog X.w X.K X.mg X.base CX k fI fd ps (spI C fs)) (hr : Room (k + 1) X.A) (hb : Binds X.K fd ps []) (hx : Passes CX X (fun _ _ _ => False)) {us : List Value} {vs : List V} (I1 : Inv X pins σ H s) (r1 : Vals vs us) (hl : vs.length = fs.length) (hz : fs.length ≤ 1000)
    (h : ∀ dd, H dd = none → Q (.ref C) (some dd) (upd H dd (.xd (fs.zip vs).reverse))) : wpAny (model X.prog X.w) X.A (call (.ref C) us) (L2N.MkP X pins σ Q) X.xe s := by
  obtain ⟨nm, q, N, bs, bm, sn, sub, ab, col, dd, k0, k1, k2, k3, k5, hC, hbm⟩ := T.cls
  obtain ⟨hp, g, dr, tk, os⟩ := s
  have hsz : hp.objs.size ≤ hp.objs.size + 1 := Nat.le_succ _
  have hn : H (hp.objs.size + 1) = none := I1.hok.fresh hsz
  -- what is wanted behind __init__
  have want : spI C fs (.ref (hp.objs.size + 1) :: vs) (upd H (hp.objs.size + 1) (exo (hp.objs.size + 1) C none))
      (fun v H2 => v = .non ∧ ∃ (d : Addr) (gs : List (Str × V)), H2 (hp.objs.size + 1) = some (exo (hp.objs.size + 1) C (some d)) ∧ H2 d = some (exd d gs) ∧ H d = none ∧ Q (.ref C) (some d) (upd (del H2 (hp.objs.size + 1)) d (.xd gs))) (fun _ _ _ => False) := by
    refine ⟨_, vs, rfl, hl, upd_same, fun dx hd hne H' e1 e2 e3 => ⟨rfl, dx, _, e1, e2, by rwa [upd_ne hne] at hd, ?_⟩⟩
    have hdn : H dx = none := by rwa [upd_ne hne] at hd
    have eH : upd (del H' (hp.objs.size + 1)) dx (.xd (fs.zip vs).reverse) = upd H dx (.xd (fs.zip vs).reverse) := by
      funext b
      by_cases hb : b = dx
      · rw [hb, upd_same, upd_same]
      · rw [upd_ne hb, upd_ne hb]
        by_cases ha : b = hp.objs.size + 1
        · rw [ha, del_same, hn]
        · rw [del_ne ha, e3 b ha hb, upd_ne ha]
    rw [eH]
    exact h dx hdn
  have kk : ∀ b o, hp.get? b = some o → ((hp.push (PySem.W.kdv_tup us)).push (PySem.HandSPX.excO C hp.objs.size)).get? b = some o := fun b o e => Heap.get?_push_of_some _ (Heap.get?_push_of_some _ e)
  have hget : ((hp.push (PySem.W.kdv_tup us)).push (PySem.HandSPX.excO C hp.objs.size)).get? (hp.objs.size + 1) = some (PySem.HandSPX.excO C hp.objs.size) := by heap_get
  have I2 : Inv X pins σ (upd H (hp.objs.size + 1) (exo (hp.objs.size + 1) C none)) ⟨(hp.push (PySem.W.kdv_tup us)).push (PySem.HandSPX.excO C hp.objs.size), g, dr, tk, os⟩ := I1.laid kk hsz (exo_ok hget)
  have r2 : Vals (V.ref (hp.objs.size + 1) :: vs) (Value.ref (hp.objs.size + 1) :: us) := .cons rfl r1
  have hlen : (Value.ref (hp.objs.size + 1) :: us ++ []).length = ps.length := by
    rw [List.append_nil, ← r2.length]
    exact F1.len _ _ _ _ want
  have b2 := hb _ (Value.ref (hp.objs.size + 1) :: us) I2.kIn hlen
  rw [List.append_nil] at b2
  have hus : us.length ≤ sizeLine := by
    rw [← r1.length, sizeLine_eq]
    omega
  refine wpAny_call (PySem.HandSPX.call_own F.excBase_ValueError (fun Y => PySem.HandSPX.refsVE_contains Y bm hbm) (I1.kIn _ _ hC) (PySem.W.looks_findIn I1.kIn iC) (fun self => PySem.W.bind_fn I1.kIn self tI) hus
    (codeAny_mono (F1.run _ X.stack _ _ ⟨_, []⟩ _ _ _ (fun _ _ _ => False) (hr.make C us []) (I2.env0.make C us []) b2 r2 want) fun r s' hq' => ?_))
  cases r with
  | error er => exact hx pins σ _ _ er s' I2 hq'
  | ok fl =>
    cases fl with
    | ret u =>
      obtain ⟨v, H2, os2, bare2, un2, hok2, rv, ev, d, gs, ea, ed, hd1, q2⟩ := hq'
      subst ev
      obtain ⟨h2, g2, d2, t2, os'⟩ := s'
      obtain ⟨t0, G, J, kG, ge, hoe, na⟩ := mk_end0 (d2 := d2) (t2 := t2) I1 hsz kk un2 hok2 os2 bare2 ea ed hd1
      exact ⟨rv, _, _, _, ⟨G, g2, d2, t2, os'⟩, _, .ref C, some d, rfl, J, kG, ge, hoe, ⟨rfl, rfl, fun vs hv => by cases hv; rfl⟩, rfl, rfl, na, rfl, bare2, raises_own T.exC T.tyC, q2⟩
    | next => exact False.elim hq'
    | brk => exact False.elim hq'
    | cont => exact False.elim hq'
end

/-! ### the bodies of __init__ -/
section
variable {P : Program} {w : World} {K : PySem.W.Frag} {mg : Str → Option Value} {base : Heap} {C f : Addr} {fd : FuncData} {qual n m : Str} {params : Arguments} {scope : Scope} {body : List Stmt} {q1 q2 q3 q4 r1 r2 r3 r4 : Pos}
theorem ok_init1 (T : OexC K C) (hno : PySem.W.findIn K (.ref C) n = some none) (S : FnScope ["self", n] ["self", n] scope) (hv : (n == ("__debug__" : Str)) = false ∧ (n == ("__classdict__" : Str)) = false)
    (F : FunD K "__init__" qual params [.Assign [.Attribute (.Name "self" q1) n q2] (.Name n q3) q4] scope [] [] f fd) (h1 : scope.names.lookup ("self" : Str) = some .local) (h2 : scope.names.lookup n = some .local) :
    FnOk P w K mg base CX0 1 f fd ["self", n] (spI C [n]) := by
  refine F.ok S (fun vs H Q E h => ?_) (fun cdv A outer s H vs Q E hr h => ⟨_, PSs.nox (pss_one (ps_ost (pe_var (i := 0) rfl (.inl h1)) (pe_var (i := 1) rfl (.inl h2) hv.1 hv.2))), ?_⟩)
  · obtain ⟨a, ws, rfl, hl, _⟩ := h
    simpa using hl
  · obtain ⟨a, ws, rfl, hl, ea, q⟩ := h
    obtain ⟨v, rfl⟩ : ∃ v, ws = [v] := List.length_eq_one_iff.mp hl
    refine ⟨_, rfl, _, rfl, a, C, rfl, T, hno, .inl ⟨ea, fun dx hd hne => ?_⟩⟩
    refine q dx hd hne _ upd_same (by rw [upd_ne hne, upd_same]; rfl) fun b hb hb2 => by rw [upd_ne hb, upd_ne hb2]
theorem ok_init2 (T : OexC K C) (hno : PySem.W.findIn K (.ref C) n = some none) (hno2 : PySem.W.findIn K (.ref C) m = some none) (S : FnScope ["self", n, m] ["self", n, m] scope) (hv : (n == ("__debug__" : Str)) = false ∧ (n == ("__classdict__" : Str)) = false) (hv2 : (m == ("__debug__" : Str)) = false ∧ (m == ("__classdict__" : Str)) = false)
    (F : FunD K "__init__" qual params [.Assign [.Attribute (.Name "self" q1) n q2] (.Name n q3) q4, .Assign [.Attribute (.Name "self" r1) m r2] (.Name m r3) r4] scope [] [] f fd)
    (h1 : scope.names.lookup ("self" : Str) = some .local) (h2 : scope.names.lookup n = some .local) (h3 : scope.names.lookup m = some .local) :
    FnOk P w K mg base CX0 1 f fd ["self", n, m] (spI C [n, m]) := by
  refine F.ok S (fun vs H Q E h => ?_) (fun cdv A outer s H vs Q E hr h => ⟨_, PSs.nox (pss_cons (ps_ost (pe_var (i := 0) rfl (.inl h1)) (pe_var (i := 1) rfl (.inl h2) hv.1 hv.2)) (pss_one (ps_ost (pe_var (i := 0) rfl (.inl h1)) (pe_var (i := 2) rfl (.inl h3) hv2.1 hv2.2)))), ?_⟩)
  · obtain ⟨a, ws, rfl, hl, _⟩ := h
    simpa using hl
  · obtain ⟨a, ws, rfl, hl, ea, q⟩ := h
    obtain ⟨v, u, rfl⟩ : ∃ v u, ws = [v, u] := match ws, hl with | [v, u], _ => ⟨v, u, rfl⟩
    refine ⟨_, rfl, _, rfl, a, C, rfl, T, hno, .inl ⟨ea, fun dx hd hne => ?_⟩⟩
    refine ⟨_, rfl, _, rfl, a, C, rfl, T, hno2, .inr ⟨dx, _, upd_same, by rw [upd_ne hne, upd_same], by show 1 ≤ 900; decide, ?_⟩⟩
    refine q dx hd hne _ (by rw [upd_ne (Ne.symm hne), upd_same]) (by rw [upd_same]; rfl) fun b hb hb2 => by rw [upd_ne hb2, upd_ne hb, upd_ne hb2]
end
end EX
set_option maxRecDepth 100000
set_option maxHeartbeats 2000000
namespace EX
open PySem PySem.Spec PyProof.Rows L2 L2H

/-! # X3: defs that are called while an exception is handled, and that are told which one -/
/-- the handled exception, as a suite knows it -/
structure HotE (X : Cx) (a : Addr) (cls : Value) (d : Option Addr) : Prop where
  ex : ∃ oe, Hot1 X.A (a, oe) ∧ (a, oe) ∈ X.pn ∧ Zc cls d oe
theorem HotE.held {X : Cx} {a : Addr} {cls : Value} {d : Option Addr} (h : HotE X a cls d) : Held X a cls d := by
  obtain ⟨oe, h1, hm, hz⟩ := h.ex
  obtain ⟨_, vs, hv, _⟩ := h1
  exact ⟨oe, hm, hz, vs, hv⟩
theorem hot_suite {X : Cx} {a : Addr} {oe : Obj} {pn : List (Addr × Obj)} {cls : Value} {d : Option Addr} (hz : L2N.Zn cls d oe) (hf : ∃ vs, oe.data = .fields vs) : HotE (X.suite a ((a, oe) :: pn)) a cls d := by
  obtain ⟨vs, hv⟩ := hf
  exact ⟨oe, ⟨rfl, vs, hv, hz.2.2 vs hv⟩, List.mem_cons_self, hz.zc⟩
abbrev SpE := Addr → Value → Option Addr → Sp
structure FnE (P : Program) (w : World) (K : PySem.W.Frag) (mg : Str → Option Value) (base : Heap) (k : Nat) (f : Addr) (fd : FuncData) (ps : List Str) (sp : SpE) : Prop where
  len : ∀ a c d vs H Q E, sp a c d vs H Q E → vs.length = ps.length
  run : ∀ (A : Around) (outer : List Env) (s : Shared) (H : Hp) (args : Args) (us : List Value) (vs : List V) (Q : VK) (p : Addr × Obj) (cls : Value) (d : Option Addr), RoomH k A → Hot1 A p → PinOk outer H s p → Zc cls d p.2 →
    Env0 P w K mg base A outer s H → BindsTo s fd args (ps.zip us) → Vals vs us → sp p.1 cls d vs H Q E0 → codeAny (model P w) A (.call (.ref f) args) (CR CX0 outer P w H s Q E0) s
section
variable {P : Program} {w : World} {K : PySem.W.Frag} {mg : Str → Option Value} {base : Heap} {x qual : Str} {params : Arguments} {body : List Stmt} {scope : Scope} {f : Addr} {fd : FuncData}
/-- the rule for such a def -/
theorem fnE_ok {N ps : List Str} {k : Nat} {sp : SpE} (F : FunD K x qual params body scope [] [] f fd) (S : FnScope N ps scope) (len : ∀ a c d vs H Q E, sp a c d vs H Q E → vs.length = ps.length)
    (hb : ∀ (cdv : Value) (A : Around) (outer : List Env) (s : Shared) (H : Hp) (vs : List V) (Q : VK) (p : Addr × Obj) (cls : Value) (d : Option Addr), HotE (cxH CX0 P w K mg base N qual scope f cdv A outer s H E0 p) p.1 cls d → RoomH k (A.deeper (envOfC qual scope s.heap.objs.size f cdv)) → sp p.1 cls d vs H Q E0 →
      ∃ t, PSs (cxH CX0 P w K mg base N qual scope f cdv A outer s H E0 p) body t ∧ t { nx := fun _ H' => Q .non H', rt := Q } (L2.start N vs) H) : FnE P w K mg base (k + 1) f fd ps sp := by
  obtain ⟨oc, od, dV, kV, doc, pm, an, cdv, ct, osl, rfl, lk, hcd, _, _⟩ := F.ex
  refine ⟨len, fun A outer s H args us vs Q p cls d hr hot hpin hz e0 hbi r hsp => ?_⟩
  have kin : K.In s.heap := e0.mod.kin.keeps fun b o e => (e0.bs b o e).1
  have kinds : ∀ y ∈ ps.zip us, scope.names.lookup y.1 = some .local ∨ (scope.names.lookup y.1 = some .cell ∧ ((cellsFrom (s.heap.objs.size + 1) scope.names []).lookup y.1).isSome = true) := by
    intro y hy
    rcases S.par y.1 (List.of_mem_zip (a := y.1) (b := y.2) hy).1 with q | q
    · exact .inl q
    · exact .inr ⟨q, PySem.W.cellsFrom_some _ _ _ (.inl q)⟩
  refine codeAny_call_function hr.depth (kin _ _ lk) rfl S.co S.gen rfl (PySem.W.codeRec_of kin hcd) (hbi _ _ _ _ (wpAny_newFunctionEnv_cells S.kind kinds fun env ee s1 ic => ?_))
  subst ee
  have I := inv_startH (CX := CX0) (qual := qual) (f := f) (cd := cdv) (E := E0) S hpin e0 (len _ _ _ _ _ _ _ hsp) r ic
  have hE : HotE (cxH CX0 P w K mg base N qual scope f cdv A outer s H E0 p) p.1 cls d := ⟨p.2, hot, List.mem_singleton.mpr rfl, hz⟩
  obtain ⟨t, ht, hq⟩ := hb cdv A outer s H vs Q p cls d hE (hr.deeper _) hsp
  refine ⟨(e0.mod.nolimit.keeps fun b o e => (e0.bs b o e).1).keeps ic.toInCall.keep, codeAny_func (wpAny_mono (ht.run [] s1 _ H _ I hq) (fun fl s' hs => ?_) fun e s' hs => hs)⟩
  cases fl with
  | ret u =>
    obtain ⟨v, σ', H', J, rv, q⟩ := hs
    exact ⟨v, H', J.os, J.bare, J.base, J.hok, rv, q⟩
  | next =>
    obtain ⟨σ', H', J, q⟩ := hs
    exact ⟨.non, H', J.os, J.bare, J.base, J.hok, rfl, q⟩
  | brk =>
    obtain ⟨_, _, _, q⟩ := hs
    exact q.elim
  | cont =>
    obtain ⟨_, _, _, q⟩ := hs
    exact q.elim
end
/-- a call of such a def -/
def tCallE (sp : SpE) (a : Addr) (cls : Value) (d : Option Addr) (t : TA) : TE := fun σ H Q => t σ H fun vs H1 => sp a cls d vs H1 Q E0
theorem pe_callE {X : Cx} {k : Nat} {f : Addr} {fd : FuncData} {ps : List Str} {sp : SpE} {x : Str} {q pos : Pos} {e : Expr} {es : List Expr} {t : TA} {a : Addr} {cls : Value} {d : Option Addr} (F : FnE X.prog X.w X.K X.mg X.base k f fd ps sp) (hr : RoomH k X.A) (hc : HotE X a cls d) (hg : Gl X x) (hm : X.mg x = some (.ref f))
    (hk : PySem.W.keepIn X.K (.ref f) = true) (hb : Binds X.K fd ps []) (ha : PA X (e :: es) t) (hdb : (x == ("__debug__" : Str)) = false := by decide) (he : starEach (e :: es) X.env = (false, eval e X.env) :: starEach es X.env := by rfl) (hpl : (backTo pos (starEach es X.env)).any (·.1) = false := by rfl) :
    PE X (.Call (.Name x q) (e :: es) [] pos) (tCallE sp a cls d t) := by
  refine ⟨fun pins s σ H Q I h => wpAny_Call_Name_kw (ld_glob I hg hm ?_ hdb)⟩
  refine PySem.W.callWith_K (h₀ := X.base) I.ok.mod.kin hk (thn (ha.run pos pins s σ H _ I h) fun us s1 ⟨vs, H1, I1, r, q⟩ => ⟨I1.kIn, ?_⟩) he hpl
  obtain ⟨oe, hot, hm, hz⟩ := hc.ex
  have b2 := hb s1 us I1.kIn (by rw [List.append_nil, ← r.length]; exact F.len _ _ _ _ _ _ _ q)
  rw [List.append_nil] at b2
  obtain ⟨p1, p2, p3, p4, p5⟩ := I1.pin (a, oe) (List.mem_append_left _ hm)
  refine wpAny_call (codeAny_mono (F.run X.A X.stack s1 H1 ⟨us, []⟩ us vs Q (a, oe) cls d hr hot ⟨p1, p2, fun hin => (List.mem_cons.mp (I1.stkSub a hin)).elim p3 p4, p5⟩ hz I1.env0 b2 r q) fun r' s' hq => ?_)
  cases r' with
  | error er => exact hq.elim
  | ok fl =>
    cases fl with
    | ret u => exact I1.after hq
    | next => exact hq.elim
    | brk => exact hq.elim
    | cont => exact hq.elim
end EX
set_option maxRecDepth 100000
set_option maxHeartbeats 2000000
namespace EX
open PySem PySem.Spec PyProof.Rows L2 L2H

/-! # X4: a list comprehension while an exception is handled -/
section
variable {X : Cx} {pins : List (Addr × Obj)} {σ : L2.St} {H : Hp} {s : Shared}
/-- the block's context, told of the handled exception -/
abbrev knows (Y : Cx) (p : Addr × Obj) : Cx := { Y with pn := p :: Y.pn }
theorem tell {p : Addr × Obj} (I : Inv X pins σ H s) (h : s.heap.get? p.1 = some p.2 ∧ H p.1 = none ∧ p.1 ≠ X.env.locals ∧ p.1 ∉ X.fs ∧ ∀ v, p.2.data ≠ .cell v) : Inv (knows X p) pins σ H s :=
  { I with ok := { I.ok with }, pin := fun q hq => (List.mem_cons.mp hq).elim (fun e => by rw [e]; exact h) (I.pin q) }
theorem untell {p : Addr × Obj} (I : Inv (knows X p) pins σ H s) : Inv X pins σ H s :=
  { I with ok := { I.ok with }, pin := fun q hq => I.pin q (List.mem_cons_of_mem _ hq) }
theorem fp_knows {p : Addr × Obj} {b : Addr} (f : FpOk X pins H b) (h : p.1 ≠ b) : FpOk (knows X p) pins H b :=
  ⟨f.1, f.2.1, f.2.2.1, f.2.2.2.1, f.2.2.2.2.1, fun q hq => (List.mem_cons.mp hq).elim (fun e => by rw [e]; exact h) (f.2.2.2.2.2 q)⟩
end
theorem pe_lcH {X : Cx} {elt tg iter : Expr} {scope : Scope} {own : List (Str × Nat)} {pos : Pos} {wi : TI} {g : TG} {te : TE} (hot : HotC X) (hN : X.N.Nodup) (hi : PIH X tg iter wi) (ok : BlkOk X.N X.env.scope scope own)
    (hg : ∀ (s : Shared) (H : Hp) (C : Addr) (cl : List (Str × Addr)) (fp : List Addr), PG (X.blk s H scope (compEnvC scope cl C X.env) fp) tg g)
    (he : ∀ (s : Shared) (H : Hp) (C : Addr) (cl : List (Str × Addr)) (fp : List Addr), PE (X.blk s H scope (compEnvC scope cl C X.env) fp) elt te) (hs : ∀ x, foldedSetIterable iter X.env x = pure x := by intro _; rfl) :
    PE X (.ListComp elt [⟨tg, iter, [], 0⟩] scope pos) (tLc wi g tYes te (own.map (·.2))) := by
  refine ⟨fun pins s σ H Q I h => ?_⟩
  rw [eval_ListComp]
  have free : ∀ y ∈ scope.names, y.2 = .free → ∃ c, X.env.cells.lookup y.1 = some c := fun y hy e => (ok.free y hy e).elim (fun k => I.ok.has _ (.inl k)) fun k => I.ok.has _ (.inr k)
  refine wpAny_comprehension_free (use := none) rfl hs (closure_ok free) ok.kind (fun y hy e => by rw [ok.uniq y hy, e]) (thn (hi.run pins s σ H _ I h) fun _ s1 hx => thn hx fun _ s2 ⟨it, fp, tn, J, H2, e2, I2, T, st2, f2, q⟩ => ?_)
  subst e2
  refine wpAny_newObj_type (newEnv_comp ?_) (Nat.zero_le _)
  have hDn : H2 s2.heap.objs.size = none := I2.hok.fresh (Nat.le_refl _)
  obtain ⟨W, ⟨m0, w0⟩, turn⟩ := q _ hDn
  have I3 : Inv X pins σ (upd H2 s2.heap.objs.size (.lst [])) { s2 with heap := s2.heap.push { cls := .type "list", data := .seq ([] : List Value).toArray } } :=
    I2.laid (t' := s2.toks) (fun b o e => Heap.get?_push_of_some _ e) (Nat.le_refl _) ⟨Nat.zero_le _, [], 0, .nil, Heap.get?_push_size _ rfl⟩
  generalize hD : s2.heap.objs.size = D at *
  have small : ∀ b ∈ fp, b < D := fun b hb => by
    obtain ⟨o, e, _⟩ := T.obj _ _ st2 b hb
    rw [← hD]
    exact Heap.lt_size e
  have st3 : tn 0 (s2.heap.push { cls := .type "list", data := .seq ([] : List Value).toArray }) := T.keep _ _ _ st2 fun b _ o e => Heap.get?_push_of_some _ e
  generalize hs3 : ({ s2 with heap := s2.heap.push { cls := .type "list", data := .seq ([] : List Value).toArray } } : Shared) = s3 at I3 ⊢
  have h3 : s3.heap = s2.heap.push { cls := .type "list", data := .seq ([] : List Value).toArray } := by rw [← hs3]
  rw [← h3] at st3
  have z3 : s3.heap.objs.size = D + 1 := by rw [h3, Heap.size_push, hD]
  have f3 : ∀ b ∈ fp, FpOk X pins (upd H2 D (.lst [])) b ∧ b < s3.heap.objs.size := fun b hb =>
    ⟨⟨by rw [upd_ne (Nat.ne_of_lt (small b hb))]; exact (f2 b hb).1, (f2 b hb).2⟩, by rw [z3]; exact Nat.lt_succ_of_lt (small b hb)⟩
  have I4 := block_start I3 ok hN f3
  generalize hcl : cellsFrom (s3.heap.objs.size + 1) scope.names (cloFrom X.env.cells scope.names []) = cl at I4
  have pg := hg s3 (upd H2 D (.lst [])) s3.heap.objs.size cl fp
  have pe := he s3 (upd H2 D (.lst [])) s3.heap.objs.size cl fp
  have st4 : tn 0 (pushCells (s3.heap.push { cls := .type "dict", data := .dict #[] }) scope.names) := T.keep _ _ _ st3 fun b _ o e => pushCells_keeps _ _ _ _ (Heap.get?_push_of_some _ e)
  -- the exception's object, pinned
  obtain ⟨p, hh, hp⟩ := hot
  have P3 := I3.pin p (List.mem_append_left _ hp)
  subst hcl
  show codeAny _ _ (.compStart (.ListComp elt [⟨tg, iter, [], 0⟩] scope pos) 0 (.ref it) (.ref D) (compEnvC scope (cellsFrom (s3.heap.objs.size + 1) scope.names (cloFrom X.env.cells scope.names [])) s3.heap.objs.size X.env)) (compPost (model X.prog X.w) X.A X.xe none _ (.ref D) s3.heap.objs.size) _
  generalize hB : X.blk s3 (upd H2 D (.lst [])) scope (compEnvC scope (cellsFrom (s3.heap.objs.size + 1) scope.names (cloFrom X.env.cells scope.names [])) s3.heap.objs.size X.env) fp = B at I4 pg pe
  have BA : B.A = X.A := by rw [← hB]
  have BE : B.env = compEnvC scope (cellsFrom (s3.heap.objs.size + 1) scope.names (cloFrom X.env.cells scope.names [])) s3.heap.objs.size X.env := by rw [← hB]
  have stays : ∀ {σ' : L2.St} {H' : Hp} {s' : Shared}, Inv B [] σ' H' s' → s'.heap.get? p.1 = some p.2 ∧ H' p.1 = none ∧ p.1 ≠ B.env.locals ∧ p.1 ∉ B.fs ∧ ∀ v, p.2.data ≠ .cell v := by
    subst hB
    intro σ' H' s' I'
    have nf : p.1 ∉ frs X.stack := fun hin => (List.mem_cons.mp (I3.stkSub p.1 hin)).elim P3.2.2.1 P3.2.2.2.1
    have nx : p.1 ∉ fp := fun hin => (f3 p.1 hin).1.2.2.2.2.2 p (List.mem_append_left _ hp) rfl
    exact ⟨I'.base.keep p.1 p.2 P3.1 P3.2.1 nf nx, I'.base.free p.1 p.2 P3.1 P3.2.1 nx, Nat.ne_of_lt (Heap.lt_size P3.1), nf, P3.2.2.2.2⟩
  have hotB : HotC (knows B p) := ⟨p, by show Hot1 B.A p; rw [BA]; exact hh, List.mem_cons_self⟩
  have fpB : ∀ {σ' : L2.St} {H' : Hp} {s' : Shared}, Inv B [] σ' H' s' → (∀ b ∈ fp, H' b = none) → (∀ b ∈ fp, FpOk B [] H' b) ∧ ∀ b ∈ fp, FpOk (knows B p) [] H' b := by
    subst hB
    intro σ' H' s' I' hn
    have f : ∀ b ∈ fp, FpOk (X.blk s3 (upd H2 D (.lst [])) scope (compEnvC scope (cellsFrom (s3.heap.objs.size + 1) scope.names (cloFrom X.env.cells scope.names [])) s3.heap.objs.size X.env) fp) [] H' b := fun b hb =>
      ⟨hn b hb, (I'.ok.exf b hb).1, I'.ok.exfs b hb, .inl hb, fun x c e => (I'.ok.exf b hb).2 x c e, fun q hq => absurd hq (List.not_mem_nil)⟩
    exact ⟨f, fun b hb => fp_knows (f b hb) fun e => (f3 b hb).1.2.2.2.2.2 p (List.mem_append_left _ hp) e⟩
  have nfp : ∀ b ∈ fp, (upd H2 D (.lst [])) b = none := fun b hb => (f3 b hb).1.1
  have hBK : B.prog = X.prog ∧ B.w = X.w ∧ B.K = X.K := by subst hB; exact ⟨rfl, rfl, rfl⟩
  have loop : codeAny (model X.prog X.w) X.A (.compLoop (.ListComp elt [⟨tg, iter, [], 0⟩] scope pos) 0 (.ref it) (.ref D) B.env) (compPost (model X.prog X.w) X.A X.xe none (EP X pins σ Q) (.ref D) s3.heap.objs.size)
      { s3 with heap := pushCells (s3.heap.push { cls := .type "dict", data := .dict #[] }) scope.names } := by
    refine compLoop_any (fun n s' => ∃ i H', Inv B [] (wipe σ (own.map (·.2))) H' s' ∧ tn i s'.heap ∧ (∀ b ∈ fp, H' b = none) ∧ W i n H') ?_ m0 ⟨0, _, I4, st4, nfp, w0⟩
    rintro n s5 ⟨i, H5, I5, st5, n5, w5⟩
    obtain ⟨fa, fb⟩ := fpB I5 n5
    have J5 := tell I5 (stays I5)
    rcases turn i n H5 w5 with ⟨stop, qq⟩ | ⟨go, Nx, hNx, step⟩
    · refine thnF (BA ▸ T.done (knows B p) hBK.1 hBK.2.1 hBK.2.2 hotB i [] s5 _ H5 (fun _ _ => False) J5 fb st5 stop) fun r s6 ⟨hr, I6'⟩ => ?_
      subst hr
      have I6 := untell I6'
      subst hB
      have I7 : Inv X pins σ H5 s6 := I3.call' (ch := fp) I6.os I6.base I6.hok I6.bare fun b hb => ⟨(f3 b hb).1.2.2.2.1, (f3 b hb).1.2.1, (f3 b hb).1.2.2.2.2.1, (f3 b hb).1.2.2.2.2.2⟩
      obtain ⟨m, hn, _⟩ := I6.loc
      refine ⟨m, hn, fun h'' sb => ?_⟩
      obtain ⟨g0, g1, g2, g3, g4, g5⟩ := I3.fpOk (Nat.le_refl _) (H' := H5) I6.free
      exact ⟨.ref D, H5, I7.turned (t' := s6.toks) (fun b o hb e => (sb.2 b hb).trans e) g0 g1 g3 g4 g5, rfl, qq⟩
    · refine thnF (BA ▸ T.item (knows B p) hBK.1 hBK.2.1 hBK.2.2 hotB i [] s5 _ H5 (fun _ _ => False) J5 fb st5 go) fun r s6 ⟨u, hr, h6⟩ => ?_
      subst hr
      refine thnF h6 fun _ s7 ⟨x, H7, I7', r7, y7, st7, n7⟩ => ?_
      have I7 := untell I7'
      have I8 := I7.pinned (fpB I7 n7).1 (T.obj _ _ st7)
      subst hB
      refine thnF (pg.run _ s7 _ H7 x u _ I8 r7 (step x H7 y7)) fun _ s8 ⟨σ8, H8, I9, hw, q8⟩ => ?_
      refine wpAny_tests_nil ?_
      rw [if_pos rfl]
      refine thnF (pe.run _ s8 σ8 H8 _ I9 q8) fun z s9 ⟨yv, H9, I10, r9, acc, hD9, hz9, nx⟩ => ?_
      refine app_ok (X := X.blk s3 (upd H2 D (.lst [])) scope (compEnvC scope (cellsFrom (s3.heap.objs.size + 1) scope.names (cloFrom X.env.cells scope.names [])) s3.heap.objs.size X.env) fp) I10 hD9 hz9 r9 fun s10 I11 => ?_
      obtain ⟨m', hm, w'⟩ := hNx _ nx
      have pins' : ∀ b ∈ fp, ∀ o, s7.heap.get? b = some o → s10.heap.get? b = some o ∧ (upd H9 D (.lst (acc ++ [yv]))) b = none := fun b hb o e =>
        have z := I11.pin (b, o) (List.mem_append_right _ (List.mem_append_right _ (mem_pinsAt hb e)))
        ⟨z.1, z.2.1⟩
      have hl : (wipe σ (own.map (·.2))).length = σ8.length := by rw [← hw, wipe_length]
      refine ⟨m', hm, i + 1, _, (I11.unpinned (pins := [])).weak hl (fun j v e => ?_), T.keep _ _ _ st7 fun b hb o e => (pins' b hb o e).1, fun b hb => ?_, w'⟩
      · rw [← hw] at e
        exact (wipe_some e).1
      · obtain ⟨o, e, _⟩ := T.obj _ _ st7 b hb
        exact (pins' b hb o e).2
  rw [← BE]
  exact codeAny_compStart_list loop (T.self X.A 0 _ _ _ st4 loop)
end EX
set_option maxRecDepth 100000
set_option maxHeartbeats 2000000
namespace K25
open PySem PySem.Spec PyProof.Rows L2 L2H EX

def top (i : Nat) : Stmt := PySem.Challenge.pw_askedtwice_k25_errors_apart.main.body.getD i (.Pass ⟨0, 0, 0, 0⟩)
abbrev FnD (K : PySem.W.Frag) (x : Str) (st : Stmt) (f : Addr) (fd : FuncData) : Prop := FunD K x x (defArgs st) (defBody st) (defScope st) [] [] f fd
/-- a source of draws -/
structure Drw (H : Hp) (p q : Addr) : Prop where
  ex : ∃ (st k z : Int) (ns : List Int), H p = some (.lst [.int st, .ref q, .int k, .int z]) ∧ H q = some (.lst (ns.map V.int)) ∧ p ≠ q ∧ 0 ≤ st ∧ st < 2147483647 ∧ ns.length ≤ 1000
abbrev nMix : List Str := ["_law_script", "_law_seed", "_law_state", "_law_cell"]
theorem scMix : FnScope nMix ["_law_script", "_law_seed"] (defScope (top 18)) := ⟨rfl, rfl, rfl, by decide +kernel, rfl, by decide +kernel, by decide +kernel⟩
def spMix (K : PySem.W.Frag) : Sp := fun vs H Q _ => ∃ (a : Addr) (ns : List Int) (seed : Int), vs = [.ref a, .int seed] ∧ 0 ≤ seed ∧ seed < 2147483647 ∧ ns.length ≤ 1000 ∧ SqL K H a (ns.map V.int) ∧ ∀ p q H', Drw H' p q → Same H H' → H p = none → H q = none → Q (.ref p) H'
section
variable {P : Program} {w : World} {K : PySem.W.Frag} {mg : Str → Option Value} {base : Heap} {f : Addr} {fd : FuncData}
theorem modM (x : Int) : 0 ≤ x % 2147483647 ∧ x % 2147483647 < 2147483647 := ⟨Int.emod_nonneg _ (by decide), Int.emod_lt_of_pos _ (by decide)⟩
theorem ok_mix (F : FnD K "_law_mix" (top 18) f fd) (gi : mg "int" = none) (gl : mg "list" = none) : FnOk P w K mg base CX0 1 f fd ["_law_script", "_law_seed"] (spMix K) := by
  refine F.ok scMix (fun vs H Q E h => ?_) (fun cdv A outer s H vs Q E hr h => ⟨_, PSs.nox (
    pss_cons (ps_set (i := 2) scMix.nd rfl (.inl rfl) (pv 1))
    (pss_cons (ps_for PassesOwn.never rfl (pi_list (pv 0)) (pg_name (i := 3) scMix.nd rfl (.inl rfl)) (pss_one (ps_set (i := 2) scMix.nd rfl (.inl rfl)
      (pe_op op_mod (pe_callTy call_int1 (by rfl) gi (by decide +kernel) (pa_cons (pe_op op_add (pe_op op_add (pe_op op_mul (pv 2) pe_int) (pe_op op_mod (pe_callTy call_int1 (by rfl) gi (by decide +kernel) (pa_cons (pv 3) pa_nil)) pe_int)) pe_int) pa_nil)) pe_int))))
    (pss_one (ps_ret (pe_lst (pa_cons (pv 2) (pa_cons (pe_callTy call_list_of (by rfl) gl (by decide +kernel) (pa_cons (pv 0) pa_nil)) (pa_cons pe_int (pa_cons pe_int pa_nil))))))))), ?_⟩)
  · obtain ⟨a, ns, seed, rfl, _⟩ := h
    rfl
  · obtain ⟨a, ns, seed, rfl, s0, s1, hl, hS, hQ⟩ := h
    refine ⟨_, rfl, _, rfl, a, rfl, ⟨_, hS⟩, for_list (K := K) (a := a) (xs := ns.map V.int) (fun i σ H' => ∃ (st : Int) (v : Option V), σ = [some (.ref a), some (.int seed), some (.int st), v] ∧ 0 ≤ st ∧ st < 2147483647 ∧ H' = H)
      ⟨seed, none, rfl, s0, s1, rfl⟩ (fun i σ H' _ ⟨_, _, _, _, _, e⟩ => e ▸ hS) ?_ ?_⟩
    · rintro i y σ H' hi ⟨st, v, rfl, t0, t1, rfl⟩
      obtain ⟨c, rfl⟩ : ∃ c, y = V.int c := by
        rw [List.getElem?_map] at hi
        obtain ⟨c, _, e⟩ := Option.map_eq_some_iff.mp hi
        exact ⟨c, e.symm⟩
      refine ⟨_, rfl, _, _, rfl, rfl, .inl ⟨by omega, by omega⟩, ?_⟩
      refine ⟨_, rfl, .inl ⟨_, rfl, ?_⟩⟩
      refine ⟨_, _, rfl, rfl, (by show (0 : Int) < 2147483629; decide), _, _, rfl, rfl, _, _, rfl, rfl, .inl ⟨_, rfl, ?_⟩⟩
      refine ⟨_, _, rfl, rfl, (by show (0 : Int) < 2147483647; decide), ?_⟩
      exact ⟨_, _, rfl, (modM _).1, (modM _).2, rfl⟩
    · rintro σ H' ⟨st, v, rfl, t0, t1, rfl⟩
      refine ⟨_, rfl, _, rfl, _, _, rfl, .inl hS, fun q hq => ⟨by show 4 ≤ sizeLine; decide, fun p hp => ?_⟩⟩
      have hpq : p ≠ q := fun e => by rw [e, upd_same] at hp; cases hp
      refine hQ p q _ ⟨st, 0, 14, ns, upd_same, by rw [upd_ne (Ne.symm hpq), upd_same], hpq, t0, t1, hl⟩ (fun b o e => ?_) (by rwa [upd_ne hpq] at hp) hq
      rw [upd_ne (fun z => by rw [z] at e; rw [upd_ne hpq] at hp; rw [hp] at e; cases e), upd_ne (fun z => by rw [z, hq] at e; cases e)]
      exact e
abbrev nNext : List Str := ["_law_h", "_law_bound", "_law_cell"]
theorem scNext : FnScope nNext ["_law_h", "_law_bound"] (defScope (top 19)) := ⟨rfl, rfl, rfl, by decide +kernel, rfl, by decide +kernel, by decide +kernel⟩
def spNext : Sp := fun vs H Q _ => ∃ (p q : Addr) (b : Int), vs = [.ref p, .int b] ∧ 0 < b ∧ b < 1073741824 ∧ Drw H p q ∧ ∀ (r : Int) H', 0 ≤ r → r < b → Drw H' p q → (∀ x o, x ≠ p → x ≠ q → H x = some o → H' x = some o) → Q (.int r) H'
theorem at_in {ns : List Int} {i : Int} (h0 : 0 ≤ i) (h1 : i < ns.length) : ∃ c, atI (ns.map V.int) i = some (V.int c) := by
  obtain ⟨j, rfl⟩ := Int.eq_ofNat_of_zero_le h0
  have hj : j < ns.length := by omega
  exact ⟨ns[j], atI_nat (by rw [List.getElem?_map, List.getElem?_eq_getElem hj] <;> rfl)⟩
theorem ok_next (F : FnD K "_law_next" (top 19) f fd) (gi : mg "int" = none) (gm : mg "max" = none) (gl : mg "len" = none) : FnOk P w K mg base CX0 1 f fd ["_law_h", "_law_bound"] spNext := by
  refine F.ok scNext (fun vs H Q E h => ?_) (fun cdv A outer s H vs Q E hr h => ⟨_, PSs.nox (
    pss_cons (ps_set (i := 2) scNext.nd rfl (.inl rfl) (pe_ix ix_list (pe_op op_cat (pe_ix ix_list (pv 0) pe_int (fun _ _ => rfl)) (pe_lst (pa_cons pe_int pa_nil)))
      (pe_op op_mod (pe_callTy call_int1 (by rfl) gi (by decide +kernel) (pa_cons (pe_ix ix_list (pv 0) pe_int (fun _ _ => rfl)) pa_nil)) (pe_callB (call_max2 rfl) (by rfl) gm (by decide +kernel) (pa_cons pe_int (pa_cons (pe_callB call_len_seq (by rfl) gl PySem.boot_len (pa_cons (pe_ix ix_list (pv 0) pe_int (fun _ _ => rfl)) pa_nil)) pa_nil)))) (fun _ _ => rfl)))
    (pss_cons (ps_if (pt_cmpR op_ge (pv 2) (pe_op op_pow pe_int pe_int) (nomark _))
      (pss_cons (ps_asg (pe_op op_fdivN (pv 2) (pv 1)) (pg_sub (pe_ix ix_list (pv 0) pe_int (fun _ _ => rfl)) (pe_op op_mod (pe_callTy call_int1 (by rfl) gi (by decide +kernel) (pa_cons (pe_ix ix_list (pv 0) pe_int (fun _ _ => rfl)) pa_nil)) (pe_callB call_len_seq (by rfl) gl PySem.boot_len (pa_cons (pe_ix ix_list (pv 0) pe_int (fun _ _ => rfl)) pa_nil))) set_list))
      (pss_one (ps_ret (pe_op op_mod (pe_callTy call_int1 (by rfl) gi (by decide +kernel) (pa_cons (pv 2) pa_nil)) (pv 1))))) pss_nil)
    (pss_cons (ps_asg (pe_op op_mod (pe_callTy call_int1 (by rfl) gi (by decide +kernel) (pa_cons (pe_op op_add (pe_op op_add (pe_op op_mul (pe_ix ix_list (pv 0) pe_int (fun _ _ => rfl)) pe_int) (pe_op op_mul (pv 2) pe_int)) pe_int) pa_nil)) pe_int) (pg_sub (pv 0) pe_int set_list))
    (pss_cons (ps_asg (pe_op op_add (pe_ix ix_list (pv 0) pe_int (fun _ _ => rfl)) pe_int) (pg_sub (pv 0) pe_int set_list))
    (pss_one (ps_ret (pe_op op_mod (pe_callTy call_int1 (by rfl) gi (by decide +kernel) (pa_cons (pe_op op_fdivN (pe_ix ix_list (pv 0) pe_int (fun _ _ => rfl)) pe_int) pa_nil)) (pv 1)))))))), ?_⟩)
  · obtain ⟨p, q, b, rfl, _⟩ := h
    rfl
  · obtain ⟨p, q, b, rfl, b0, b1, ⟨st, k, z, ns, hp, hq, hpq, t0, t1, hl⟩, hQ⟩ := h
    have i0 : atI [V.int st, .ref q, .int k, .int z] 0 = some (.int st) := rfl
    have i1 : atI [V.int st, .ref q, .int k, .int z] 1 = some (.ref q) := rfl
    have i2 : atI [V.int st, .ref q, .int k, .int z] 2 = some (.int k) := rfl
    have mg0 : (0 : Int) < (if (ns.length : Int) > 1 then (ns.length : Int) else 1) := by split <;> omega
    obtain ⟨c, hc⟩ : ∃ c, atI ((ns ++ [0]).map V.int) (k % (if (ns.length : Int) > 1 then (ns.length : Int) else 1)) = some (V.int c) := by
      refine at_in (Int.emod_nonneg _ (by omega)) ?_
      have h2 := Int.emod_lt_of_pos k mg0
      have h3 : (if (ns.length : Int) > 1 then (ns.length : Int) else 1) ≤ ns.length + 1 := by split <;> omega
      rw [List.length_append]
      simp only [List.length_cons, List.length_nil]
      omega
    have lp : ∀ {l : Addr} {o : HO}, H l = none → upd H l o p = some (.lst [.int st, .ref q, .int k, .int z]) := fun {l o} e => by rw [upd_ne (ne_of_none hp e)]; exact hp
    have lq : ∀ {l : Addr} {o : HO}, H l = none → upd H l o q = some (.lst (ns.map V.int)) := fun {l o} e => by rw [upd_ne (ne_of_none hq e)]; exact hq
    refine ⟨_, rfl, p, _, _, _, rfl, rfl, .inl (.inl hp), i1, by show 1 ≤ sizeLine; decide, fun l nl => ?_⟩
    refine ⟨q, l, _, _, rfl, rfl, lq nl, upd_same, by rw [List.length_map, sizeLine_eq]; simp only [List.length_cons, List.length_nil]; omega, fun l2 nl2 => ?_⟩
    have nl2' : H l2 = none := by
      by_cases e : l2 = l
      · rw [e]; exact nl
      · rwa [upd_ne e] at nl2
    generalize hG : upd (upd H l (.lst [V.int 0])) l2 (.lst (ns.map V.int ++ [V.int 0])) = G
    have Gs : ∀ x o, H x = some o → G x = some o := fun x o e => by rw [← hG, upd_ne (ne_of_none e nl2'), upd_ne (ne_of_none e nl)]; exact e
    have Gp := Gs _ _ hp
    have Gq := Gs _ _ hq
    have Gl : G l2 = some (.lst (ns.map V.int ++ [V.int 0])) := by rw [← hG, upd_same]
    have Gdone : ∀ (r : Int) H', 0 ≤ r → r < b → Drw H' p q → (∀ x o, x ≠ p → x ≠ q → G x = some o → H' x = some o) → Q (.int r) H' := fun r H' r0 r1 d same => hQ r H' r0 r1 d fun x o n1 n2 e => same x o n1 n2 (Gs x o e)
    refine ⟨_, rfl, p, _, _, _, rfl, rfl, .inl (.inl Gp), i2, .inl ⟨_, rfl, ?_⟩⟩
    refine ⟨_, rfl, p, _, _, _, rfl, rfl, .inl (.inl Gp), i1, q, _, rfl, .inl (.inl (.inl Gq)), ?_⟩
    refine ⟨_, _, rfl, _, _, rfl, rfl, by rw [List.length_map]; exact mg0, ?_⟩
    refine ⟨l2, _, _, V.int c, rfl, rfl, .inl (.inl Gl), by rw [List.length_map]; rw [List.map_append] at hc; exact hc, ?_⟩
    refine ⟨_, rfl, _, _, rfl, rfl, ⟨by decide, by decide, by decide⟩, _, _, rfl, rfl, _, rfl, ite2 (fun big => ?_) fun _ => ?_⟩
    · refine ⟨_, rfl, _, rfl, _, _, rfl, rfl, ⟨by omega, by omega⟩, ?_⟩
      refine ⟨_, rfl, p, _, _, _, rfl, rfl, .inl (.inl Gp), i1, ?_⟩
      refine ⟨_, rfl, p, _, _, _, rfl, rfl, .inl (.inl Gp), i2, .inl ⟨_, rfl, ?_⟩⟩
      refine ⟨_, rfl, p, _, _, _, rfl, rfl, .inl (.inl Gp), i1, q, _, rfl, .inl (.inl (.inl Gq)), ?_⟩
      have big' : (10 : Int) ^ 18 ≤ c := of_decide_eq_true big
      have pos : 0 < ns.length := by
        cases ns with
        | cons => exact Nat.succ_pos _
        | nil =>
          exfalso
          have e1 : k % 1 = 0 := by omega
          have hc' : atI [V.int 0] (k % 1) = some (V.int c) := hc
          rw [e1] at hc'
          have e2 : V.int 0 = V.int c := Option.some.inj hc'
          have e3 : (0 : Int) = c := V.int.inj e2
          rw [← e3] at big'
          exact absurd big' (by decide)
      have m0 := Int.emod_nonneg k (b := (ns.length : Int)) (by omega)
      have m1 := Int.emod_lt_of_pos k (b := (ns.length : Int)) (by omega)
      obtain ⟨j, hj⟩ := Int.eq_ofNat_of_zero_le m0
      have hj2 : j < ns.length := by omega
      refine ⟨_, _, rfl, rfl, by rw [List.length_map]; show (0 : Int) < _; omega, ?_⟩
      refine ⟨q, _, _, j, rfl, rfl, Gq, by rw [List.length_map]; show ixN ns.length (k % (ns.length : Int)) = _; rw [hj]; unfold ixN; rw [if_pos (by omega), if_pos (by omega)] <;> rfl, ?_⟩
      refine ⟨_, rfl, .inl ⟨_, rfl, _, rfl, _, _, rfl, rfl, b0, ?_⟩⟩
      refine Gdone _ _ (Int.emod_nonneg _ (by omega)) (Int.emod_lt_of_pos _ b0) ⟨st, k, z, ns.set j (c.fdiv b), ?_, ?_, hpq, t0, t1, by rw [List.length_set]; exact hl⟩ fun x o n1 n2 e => ?_
      · rw [upd_ne hpq]; exact Gp
      · rw [upd_same, List.map_set]
      · rw [upd_ne n2]; exact e
    · refine ⟨_, rfl, p, _, _, _, rfl, rfl, .inl (.inl Gp), i0, _, _, rfl, rfl, .inr ⟨by decide, by decide⟩, ?_⟩
      refine ⟨_, rfl, _, _, rfl, rfl, .inr ⟨by decide, by decide⟩, _, _, rfl, rfl, _, _, rfl, rfl, .inl ⟨_, rfl, _, _, rfl, rfl, by show (0 : Int) < 2147483647; decide, ?_⟩⟩
      refine ⟨_, rfl, p, _, _, 0, rfl, rfl, Gp, rfl, ?_⟩
      refine ⟨_, rfl, p, _, _, _, rfl, rfl, .inl (.inl upd_same), (rfl : atI _ (2 : Int) = some (V.int k)), _, _, rfl, rfl, ?_⟩
      refine ⟨_, rfl, p, _, _, 2, rfl, rfl, upd_same, rfl, ?_⟩
      refine ⟨_, rfl, p, _, _, _, rfl, rfl, .inl (.inl upd_same), (rfl : atI _ (0 : Int) = some (V.int _)), _, _, rfl, rfl, ⟨by decide, by decide⟩, .inl ⟨_, rfl, ?_⟩⟩
      refine ⟨_, rfl, _, _, rfl, rfl, b0, ?_⟩
      refine Gdone _ _ (Int.emod_nonneg _ (by omega)) (Int.emod_lt_of_pos _ b0) ⟨_, _, z, ns, upd_same, ?_, hpq, (modM _).1, (modM _).2, hl⟩ fun x o n1 n2 e => ?_
      · rw [upd_ne (Ne.symm hpq), upd_ne (Ne.symm hpq)]; exact Gq
      · rw [upd_ne n1, upd_ne n1]; exact e
end
end K25
set_option maxRecDepth 100000
set_option maxHeartbeats 4000000
namespace K25
open PySem PySem.Spec PyProof.Rows L2 L2H EX

/-! # K25b: the errors are thrown -/
def names : List Str := ["InvalidSlots", "InvalidTopics", "NotComparable", "InvalidNumber", "InvalidStatement", "UnknownPlace", "InvalidAct", "Possible", "InvalidWish", "UnknownMend", "UnknownKind", "BadName", "Taken", "NoWish", "InvalidText"]
def flds : List (List Str) := [[], [], [], [], ["place"], ["place"], ["index"], ["talk"], ["slot"], ["index"], ["index"], ["name"], ["name"], ["name"], ["line", "column"]]
abbrev cn (k : Nat) : Str := names.getD k ""
abbrev fl (k : Nat) : List Str := flds.getD k []
abbrev Ca (K : PySem.W.Frag) (k : Nat) : Addr := He.ga K (cn k)
/-- what the top tells of the classes -/
structure Txt (P : Program) (w : World) (K : PySem.W.Frag) (mg : Str → Option Value) (base : Heap) : Prop where
  g : ∀ k, k < 15 → mg (cn k) = some (.ref (Ca K k))
  gT : mg "TalkError" = some (.ref (He.ga K "TalkError"))
  f : ∀ k, k < 15 → Fct K (Ca K k)
  ex : ∀ k, k < 4 → PySem.W.excIn K (Ca K k) He.veBase "ValueError.__new__" = true
  ini : ∀ k, 4 ≤ k → k < 15 → ∃ (fI : Addr) (fd : FuncData), PySem.W.findIn K (.ref (Ca K k)) "__init__" = some (some (.ref fI)) ∧ PySem.W.typeIn K (.ref fI) = some (.type "function") ∧ Binds K fd ("self" :: fl k) [] ∧ FnOk P w K mg base CX0 1 fI fd ("self" :: fl k) (spI (Ca K k) (fl k))
  nof : ∀ k n, k < 15 → n ∈ fl k → PySem.W.findIn K (.ref (Ca K k)) n = some none
  is : ∀ i j, i < 15 → j < 15 → PySem.W.kitOne K (.ref (Ca K i)) (.ref (Ca K j)) = some (i == j)
  ve : ∀ k, k < 15 → PySem.W.kitOne K (.ref (Ca K k)) (.type "ValueError") = some true
  te : ∀ k, k < 15 → PySem.W.exmOne K (.ref (Ca K k)) (.ref (He.ga K "TalkError")) = some true
section
variable {X : Cx} {k : Nat} {x : Str} {e : Expr} {es : List Expr} {ta : TA} {p pos : Pos}
theorem mk_no (T : Txt X.prog X.w X.K X.mg X.base) (k : Nat) (hk : k < 4) (hx : x = cn k) (hg : Gl X x) (hdb : (x == ("__debug__" : Str)) = false) : L2N.PMk X (.Call (.Name x p) [] [] pos) (fun _ H Q => Q (.ref (Ca X.K k)) none H) := by
  subst hx
  intro pins s σ H Q I h
  have F := T.f k (by omega)
  exact wpAny_Call_Name_kw (ld_glob I hg (T.g k (by omega)) (PySem.W.callWith_K0 I.kIn F.ox.kC (mk0 (T.ex k hk) (raises_own F.ox.exC F.ox.tyC) (Nat.zero_le _) I h)) hdb)
theorem mk_yes (T : Txt X.prog X.w X.K X.mg X.base) (k : Nat) (h4 : 4 ≤ k) (hk : k < 15) (hx : x = cn k) (hr : Room 2 X.A) (hg : Gl X x) (hdb : (x == ("__debug__" : Str)) = false) (ha : PA X (e :: es) ta) (he : starEach (e :: es) X.env = (false, eval e X.env) :: starEach es X.env := by rfl) (hpl : (backTo pos (starEach es X.env)).any (·.1) = false := by rfl) :
    L2N.PMk X (.Call (.Name x p) (e :: es) [] pos) (fun σ H Q => ta σ H fun vs H1 => vs.length = (fl k).length ∧ ∀ dd, H1 dd = none → Q (.ref (Ca X.K k)) (some dd) (upd H1 dd (.xd ((fl k).zip vs).reverse))) := by
  subst hx
  intro pins s σ H Q I h
  have F := T.f k (by omega)
  obtain ⟨fI, fd, i1, i2, hb, F1⟩ := T.ini k h4 hk
  refine wpAny_Call_Name_kw (ld_glob I hg (T.g k hk) ?_ hdb)
  refine PySem.W.callWith_K (h₀ := X.base) I.ok.mod.kin F.ox.kC (thn (ha.run pos pins s σ H _ I h) fun us s1 ⟨vs, H1, I1, r1, hl, q1⟩ => ⟨I1.kIn, ?_⟩) he hpl
  exact mkI F.ox i1 i2 F1 hr hb pass0 I1 r1 hl (by have : ∀ k, k < 15 → (fl k).length ≤ 1000 := by decide
                                                   exact this k hk) q1
end
def spThrown (K : PySem.W.Frag) : Sp := fun vs H Q E => ∃ (k : Nat) (one two : V), k < 15 ∧ vs = [.int (k : Nat), one, two] ∧ (k < 4 → E (.ref (Ca K k)) none H) ∧ (4 ≤ k → ∀ dd, H dd = none → E (.ref (Ca K k)) (some dd) (upd H dd (.xd ((fl k).zip [one, two]).reverse)))
abbrev nThrown : List Str := ["_law_k", "_law_one", "_law_two"]
theorem scThrown : FnScope nThrown nThrown (defScope (top 20)) := ⟨rfl, rfl, rfl, by decide +kernel, rfl, by decide +kernel, by decide +kernel⟩
theorem lst15 {P : Nat → Prop} (h : ∀ k, k < 15 → P k) : P 0 ∧ P 1 ∧ P 2 ∧ P 3 ∧ P 4 ∧ P 5 ∧ P 6 ∧ P 7 ∧ P 8 ∧ P 9 ∧ P 10 ∧ P 11 ∧ P 12 ∧ P 13 ∧ P 14 :=
  ⟨h 0 (by decide), h 1 (by decide), h 2 (by decide), h 3 (by decide), h 4 (by decide), h 5 (by decide), h 6 (by decide), h 7 (by decide), h 8 (by decide), h 9 (by decide), h 10 (by decide), h 11 (by decide), h 12 (by decide), h 13 (by decide), h 14 (by decide)⟩
section
variable {P : Program} {w : World} {K : PySem.W.Frag} {mg : Str → Option Value} {base : Heap} {f : Addr} {fd : FuncData}
theorem ok_thrown (T : Txt P w K mg base) (F : FnD K "_law_thrown" (top 20) f fd) : FnOk P w K mg base (L2N.CX P w) 3 f fd nThrown (spThrown K) := by
  refine F.ok scThrown (fun vs H Q E h => ?_) (fun cdv A outer s H vs Q E hr h => ?_)
  · obtain ⟨k, one, two, _, rfl, _⟩ := h
    rfl
  · have tk : L2N.Takes (cxOf (L2N.CX P w) P w K mg base nThrown "_law_thrown" (defScope (top 20)) f cdv A outer s H E) (fun cls d _ H => E cls d H) := L2N.takes_of rfl rfl rfl rfl
    have T' : Txt (cxOf (L2N.CX P w) P w K mg base nThrown "_law_thrown" (defScope (top 20)) f cdv A outer s H E).prog (cxOf (L2N.CX P w) P w K mg base nThrown "_law_thrown" (defScope (top 20)) f cdv A outer s H E).w
      (cxOf (L2N.CX P w) P w K mg base nThrown "_law_thrown" (defScope (top 20)) f cdv A outer s H E).K (cxOf (L2N.CX P w) P w K mg base nThrown "_law_thrown" (defScope (top 20)) f cdv A outer s H E).mg (cxOf (L2N.CX P w) P w K mg base nThrown "_law_thrown" (defScope (top 20)) f cdv A outer s H E).base := T
    refine ⟨_, (
      pss_cons (ps_if (pt_cmpR op_lt (pv 0) pe_int (nomark _))
        (pss_cons (ps_if (pt_cmpR op_eq (pv 0) pe_int (nomark _)) (pss_one (L2N.ps_raise rfl tk (mk_no T' 0 (by decide) rfl rfl (by decide)))) pss_nil)
        (pss_cons (ps_if (pt_cmpR op_eq (pv 0) pe_int (nomark _)) (pss_one (L2N.ps_raise rfl tk (mk_no T' 1 (by decide) rfl rfl (by decide)))) pss_nil)
        (pss_cons (ps_if (pt_cmpR op_eq (pv 0) pe_int (nomark _)) (pss_one (L2N.ps_raise rfl tk (mk_no T' 2 (by decide) rfl rfl (by decide)))) pss_nil)
        (pss_one (L2N.ps_raise rfl tk (mk_no T' 3 (by decide) rfl rfl (by decide))))))) pss_nil)
      (pss_cons (ps_if (pt_cmpR op_lt (pv 0) pe_int (nomark _))
        (pss_cons (ps_if (pt_cmpR op_eq (pv 0) pe_int (nomark _)) (pss_one (L2N.ps_raise rfl tk (mk_yes T' 4 (by decide) (by decide) rfl hr rfl (by decide) (pa_cons (pv 1) pa_nil)))) pss_nil)
        (pss_cons (ps_if (pt_cmpR op_eq (pv 0) pe_int (nomark _)) (pss_one (L2N.ps_raise rfl tk (mk_yes T' 5 (by decide) (by decide) rfl hr rfl (by decide) (pa_cons (pv 1) pa_nil)))) pss_nil)
        (pss_cons (ps_if (pt_cmpR op_eq (pv 0) pe_int (nomark _)) (pss_one (L2N.ps_raise rfl tk (mk_yes T' 6 (by decide) (by decide) rfl hr rfl (by decide) (pa_cons (pv 1) pa_nil)))) pss_nil)
        (pss_one (L2N.ps_raise rfl tk (mk_yes T' 7 (by decide) (by decide) rfl hr rfl (by decide) (pa_cons (pv 1) pa_nil))))))) pss_nil)
      (pss_cons (ps_if (pt_cmpR op_lt (pv 0) pe_int (nomark _))
        (pss_cons (ps_if (pt_cmpR op_eq (pv 0) pe_int (nomark _)) (pss_one (L2N.ps_raise rfl tk (mk_yes T' 8 (by decide) (by decide) rfl hr rfl (by decide) (pa_cons (pv 1) pa_nil)))) pss_nil)
        (pss_cons (ps_if (pt_cmpR op_eq (pv 0) pe_int (nomark _)) (pss_one (L2N.ps_raise rfl tk (mk_yes T' 9 (by decide) (by decide) rfl hr rfl (by decide) (pa_cons (pv 1) pa_nil)))) pss_nil)
        (pss_cons (ps_if (pt_cmpR op_eq (pv 0) pe_int (nomark _)) (pss_one (L2N.ps_raise rfl tk (mk_yes T' 10 (by decide) (by decide) rfl hr rfl (by decide) (pa_cons (pv 1) pa_nil)))) pss_nil)
        (pss_one (L2N.ps_raise rfl tk (mk_yes T' 11 (by decide) (by decide) rfl hr rfl (by decide) (pa_cons (pv 1) pa_nil))))))) pss_nil)
      (pss_cons (ps_if (pt_cmpR op_eq (pv 0) pe_int (nomark _)) (pss_one (L2N.ps_raise rfl tk (mk_yes T' 12 (by decide) (by decide) rfl hr rfl (by decide) (pa_cons (pv 1) pa_nil)))) pss_nil)
      (pss_cons (ps_if (pt_cmpR op_eq (pv 0) pe_int (nomark _)) (pss_one (L2N.ps_raise rfl tk (mk_yes T' 13 (by decide) (by decide) rfl hr rfl (by decide) (pa_cons (pv 1) pa_nil)))) pss_nil)
      (pss_one (L2N.ps_raise rfl tk (mk_yes T' 14 (by decide) (by decide) rfl hr rfl (by decide) (pa_cons (pv 1) (pa_cons (pv 2) pa_nil)))))))))), ?_⟩
    obtain ⟨k, one, two, hk, rfl, q1, q2⟩ := h
    have hk' : k = 0 ∨ k = 1 ∨ k = 2 ∨ k = 3 ∨ k = 4 ∨ k = 5 ∨ k = 6 ∨ k = 7 ∨ k = 8 ∨ k = 9 ∨ k = 10 ∨ k = 11 ∨ k = 12 ∨ k = 13 ∨ k = 14 := by omega
    rcases hk' with rfl | rfl | rfl | rfl | rfl | rfl | rfl | rfl | rfl | rfl | rfl | rfl | rfl | rfl | rfl
    all_goals repeat (first
      | exact q1 (by decide)
      | exact ⟨_, rfl, rfl, fun dd hd => q2 (by decide) dd hd⟩
      | exact ⟨_, rfl, _, rfl, rfl, fun dd hd => q2 (by decide) dd hd⟩
      | refine ⟨_, rfl, _, _, rfl, rfl, _, rfl, ?_⟩
      | refine ⟨_, rfl, rfl, _, rfl, ?_⟩
      | rw [if_pos (by decide)]
      | rw [if_neg (by decide)])
end
end K25
set_option maxRecDepth 100000
set_option maxHeartbeats 4000000
namespace K25
open PySem PySem.Spec PyProof.Rows L2 L2H EX

/-! # K25c: the classes and fields of the handled error -/
theorem Fld.new {d : Option Addr} {H : Hp} {p : Addr} {o : HO} (f : Fld d H) (n : H p = none) : Fld d (upd H p o) := fun dd e => by
  obtain ⟨fs, h⟩ := f dd e
  exact ⟨fs, by rw [upd_ne (ne_of_none h n)]; exact h⟩
theorem Same.new {H : Hp} {p : Addr} {o : HO} (n : H p = none) : Same H (upd H p o) := fun b u e => by rw [upd_ne (ne_of_none e n)]; exact e
def bools (k : Nat) (l : List Nat) : List V := l.map fun j => V.bl (k == j)
def spClasses (K : PySem.W.Frag) : SpE := fun a cls d vs H Q _ => vs = [.ref a] ∧ ∃ k, k < 15 ∧ cls = .ref (Ca K k) ∧ Fld d H ∧ ∀ p H', Same H H' → H p = none → H' p = some (.lst (bools k (List.range 15))) → Q (.ref p) H'
abbrev nClasses : List Str := ["_law_e", "_law_first"]
theorem scClasses : FnScope nClasses ["_law_e"] (defScope (top 21)) := ⟨rfl, rfl, rfl, by decide +kernel, rfl, by decide +kernel, by decide +kernel⟩
section
variable {X : Cx}
theorem pe_is {a : Addr} {cls : Value} {d : Option Addr} (T : Txt X.prog X.w X.K X.mg X.base) (he : HotE X a cls d) (gI : X.mg "isinstance" = none) (k : Nat) {x y : Str} {p p2 p3 pos : Pos} {te : TE} (hk : k < 15) (hx : x = cn k) (hgi : Gl X "isinstance") (hg : Gl X x) (hdb : (x == ("__debug__" : Str)) = false) (h : PE X (.Name y p3) te)
    (hs : starEach [.Name y p3, .Name x p2] X.env = (false, eval (.Name y p3) X.env) :: starEach [.Name x p2] X.env := by rfl) (hpl : (backTo pos (starEach [.Name x p2] X.env)).any (·.1) = false := by rfl) :
    PE X (.Call (.Name "isinstance" p) [.Name y p3, .Name x p2] [] pos) (tCB (rIsH X.K a cls d) (tCons te (tCons (tC (.ref (Ca X.K k))) tNil))) := by
  subst hx
  exact pe_callB (call_isH he.held) hgi gI (by decide +kernel) (pa_cons h (pa_cons (pe_glob hg (T.g k hk) rfl hdb) pa_nil)) (by decide) (by decide) hs hpl
end
section
variable {P : Program} {w : World} {K : PySem.W.Frag} {mg : Str → Option Value} {base : Heap} {f : Addr} {fd : FuncData}
theorem ok_classes (T : Txt P w K mg base) (gI : mg "isinstance" = none) (F : FnD K "_law_classes" (top 21) f fd) : FnE P w K mg base 1 f fd ["_law_e"] (spClasses K) := by
  refine fnE_ok F scClasses (fun a c d vs H Q E h => by obtain ⟨rfl, _⟩ := h; rfl) (fun cdv A outer s H vs Q p cls d he hr h => ?_)
  have T' : Txt (cxH CX0 P w K mg base nClasses "_law_classes" (defScope (top 21)) f cdv A outer s H E0 p).prog (cxH CX0 P w K mg base nClasses "_law_classes" (defScope (top 21)) f cdv A outer s H E0 p).w (cxH CX0 P w K mg base nClasses "_law_classes" (defScope (top 21)) f cdv A outer s H E0 p).K
    (cxH CX0 P w K mg base nClasses "_law_classes" (defScope (top 21)) f cdv A outer s H E0 p).mg (cxH CX0 P w K mg base nClasses "_law_classes" (defScope (top 21)) f cdv A outer s H E0 p).base := T
  refine ⟨_, (
    pss_cons (ps_set (i := 1) scClasses.nd rfl (.inl rfl) (pe_lst (pa_cons (pe_is T' he gI 0 (by decide) rfl rfl rfl (by decide) (pv 0)) (pa_cons (pe_is T' he gI 1 (by decide) rfl rfl rfl (by decide) (pv 0)) (pa_cons (pe_is T' he gI 2 (by decide) rfl rfl rfl (by decide) (pv 0)) pa_nil)))))
    (pss_cons (ps_set (i := 1) scClasses.nd rfl (.inl rfl) (pe_op op_cat (pv 1) (pe_lst (pa_cons (pe_is T' he gI 3 (by decide) rfl rfl rfl (by decide) (pv 0)) (pa_cons (pe_is T' he gI 4 (by decide) rfl rfl rfl (by decide) (pv 0)) (pa_cons (pe_is T' he gI 5 (by decide) rfl rfl rfl (by decide) (pv 0)) pa_nil))))))
    (pss_cons (ps_set (i := 1) scClasses.nd rfl (.inl rfl) (pe_op op_cat (pv 1) (pe_lst (pa_cons (pe_is T' he gI 6 (by decide) rfl rfl rfl (by decide) (pv 0)) (pa_cons (pe_is T' he gI 7 (by decide) rfl rfl rfl (by decide) (pv 0)) (pa_cons (pe_is T' he gI 8 (by decide) rfl rfl rfl (by decide) (pv 0)) pa_nil))))))
    (pss_cons (ps_set (i := 1) scClasses.nd rfl (.inl rfl) (pe_op op_cat (pv 1) (pe_lst (pa_cons (pe_is T' he gI 9 (by decide) rfl rfl rfl (by decide) (pv 0)) (pa_cons (pe_is T' he gI 10 (by decide) rfl rfl rfl (by decide) (pv 0)) (pa_cons (pe_is T' he gI 11 (by decide) rfl rfl rfl (by decide) (pv 0)) pa_nil))))))
    (pss_one (ps_ret (pe_op op_cat (pv 1) (pe_lst (pa_cons (pe_is T' he gI 12 (by decide) rfl rfl rfl (by decide) (pv 0)) (pa_cons (pe_is T' he gI 13 (by decide) rfl rfl rfl (by decide) (pv 0)) (pa_cons (pe_is T' he gI 14 (by decide) rfl rfl rfl (by decide) (pv 0)) pa_nil))))))))))), ?_⟩
  obtain ⟨rfl, k, hk, rfl, fld, hQ⟩ := h
  have C := (T.f k hk).is
  have z : ∀ n : Nat, n ≤ 15 → n ≤ sizeLine := fun n h => Nat.le_trans h (by decide)
  have ne : ∀ {G : Hp} {p q : Addr} {o : HO}, upd G p o q = none → p ≠ q := fun {G p q o} h e => by rw [e, upd_same] at h; cases h
  refine ⟨_, rfl, _, _, _, _, rfl, rfl, C, fld, (fun u h => h), T.is k 0 hk (by decide), _, rfl, _, _, _, _, rfl, rfl, C, fld, (fun u h => h), T.is k 1 hk (by decide), _, rfl, _, _, _, _, rfl, rfl, C, fld, (fun u h => h), T.is k 2 hk (by decide), z _ (Nat.le_of_ble_eq_true rfl), fun p1 n1 => ?_⟩
  have fld1 := Fld.new (o := .lst (bools k [0, 1, 2])) fld n1
  refine ⟨_, rfl, _, rfl, _, _, _, _, rfl, rfl, C, fld1, (fun u h => h), T.is k 3 hk (by decide), _, rfl, _, _, _, _, rfl, rfl, C, fld1, (fun u h => h), T.is k 4 hk (by decide), _, rfl, _, _, _, _, rfl, rfl, C, fld1, (fun u h => h), T.is k 5 hk (by decide), z _ (Nat.le_of_ble_eq_true rfl), fun p2 n2 => ?_⟩
  have fld2 := Fld.new (o := .lst (bools k [3, 4, 5])) fld1 n2
  refine ⟨p1, p2, _, _, rfl, rfl, by rw [upd_ne (ne n2), upd_same], upd_same, z _ (Nat.le_of_ble_eq_true rfl), fun p3 n3 => ?_⟩
  have fld3 := Fld.new (o := .lst (bools k [0, 1, 2, 3, 4, 5])) fld2 n3
  refine ⟨_, rfl, _, rfl, _, _, _, _, rfl, rfl, C, fld3, (fun u h => h), T.is k 6 hk (by decide), _, rfl, _, _, _, _, rfl, rfl, C, fld3, (fun u h => h), T.is k 7 hk (by decide), _, rfl, _, _, _, _, rfl, rfl, C, fld3, (fun u h => h), T.is k 8 hk (by decide), z _ (Nat.le_of_ble_eq_true rfl), fun p4 n4 => ?_⟩
  have fld4 := Fld.new (o := .lst (bools k [6, 7, 8])) fld3 n4
  refine ⟨p3, p4, _, _, rfl, rfl, by rw [upd_ne (ne n4), upd_same], upd_same, z _ (Nat.le_of_ble_eq_true rfl), fun p5 n5 => ?_⟩
  have fld5 := Fld.new (o := .lst (bools k [0, 1, 2, 3, 4, 5, 6, 7, 8])) fld4 n5
  refine ⟨_, rfl, _, rfl, _, _, _, _, rfl, rfl, C, fld5, (fun u h => h), T.is k 9 hk (by decide), _, rfl, _, _, _, _, rfl, rfl, C, fld5, (fun u h => h), T.is k 10 hk (by decide), _, rfl, _, _, _, _, rfl, rfl, C, fld5, (fun u h => h), T.is k 11 hk (by decide), z _ (Nat.le_of_ble_eq_true rfl), fun p6 n6 => ?_⟩
  have fld6 := Fld.new (o := .lst (bools k [9, 10, 11])) fld5 n6
  refine ⟨p5, p6, _, _, rfl, rfl, by rw [upd_ne (ne n6), upd_same], upd_same, z _ (Nat.le_of_ble_eq_true rfl), fun p7 n7 => ?_⟩
  have fld7 := Fld.new (o := .lst (bools k [0, 1, 2, 3, 4, 5, 6, 7, 8, 9, 10, 11])) fld6 n7
  refine ⟨_, rfl, _, rfl, _, _, _, _, rfl, rfl, C, fld7, (fun u h => h), T.is k 12 hk (by decide), _, rfl, _, _, _, _, rfl, rfl, C, fld7, (fun u h => h), T.is k 13 hk (by decide), _, rfl, _, _, _, _, rfl, rfl, C, fld7, (fun u h => h), T.is k 14 hk (by decide), z _ (Nat.le_of_ble_eq_true rfl), fun p8 n8 => ?_⟩
  have fld8 := Fld.new (o := .lst (bools k [12, 13, 14])) fld7 n8
  refine ⟨p7, p8, _, _, rfl, rfl, by rw [upd_ne (ne n8), upd_same], upd_same, z _ (Nat.le_of_ble_eq_true rfl), fun p9 n9 => ?_⟩
  have fld9 := Fld.new (o := .lst (bools k [0, 1, 2, 3, 4, 5, 6, 7, 8, 9, 10, 11, 12, 13, 14])) fld8 n9
  exact hQ p9 _ (Same.trans (Same.new n1) (Same.trans (Same.new n2) (Same.trans (Same.new n3) (Same.trans (Same.new n4) (Same.trans (Same.new n5) (Same.trans (Same.new n6) (Same.trans (Same.new n7) (Same.trans (Same.new n8) (Same.new n9))))))))) (Same.free (Same.trans (Same.new n1) (Same.trans (Same.new n2) (Same.trans (Same.new n3) (Same.trans (Same.new n4) (Same.trans (Same.new n5) (Same.trans (Same.new n6) (Same.trans (Same.new n7) (Same.new n8)))))))) n9) upd_same
end
end K25
set_option maxRecDepth 100000
set_option maxHeartbeats 4000000
namespace K25
open PySem PySem.Spec PyProof.Rows L2 L2H EX

/-! # K25d: the fields of the handled error; one error is looked at -/
def spFields (K : PySem.W.Frag) : SpE := fun a cls d vs H Q _ => ∃ (k : Nat) (one two : V), k < 15 ∧ vs = [.int (k : Nat), .ref a] ∧ cls = .ref (Ca K k) ∧ (4 ≤ k → ∃ dd, d = some dd ∧ H dd = some (.xd ((fl k).zip [one, two]).reverse)) ∧
  ∀ p H', Same H H' → H p = none → H' p = some (.lst ([one, two].take (fl k).length)) → Q (.ref p) H'
abbrev nFields : List Str := ["_law_k", "_law_e"]
theorem scFields : FnScope nFields nFields (defScope (top 22)) := ⟨rfl, rfl, rfl, by decide +kernel, rfl, by decide +kernel, by decide +kernel⟩
/-- if k in (a, b, ..): .. -/
theorem in_read {K : PySem.W.Frag} {k : Int} {σ : L2.St} {H : Hp} {D : Ends} {ta : TA} {xs : List V} {A B : TS} (h0 : σ[0]? = some (some (.int k))) (hta : ∀ G Q, Q xs G → ta σ G Q) (hf : xs.all flatV = true) (hl : xs.length ≤ sizeLine)
    (h : ∀ G, Same H G → if inV (.int k) xs = true then A D σ G else B D σ G) : tIfS (tTest (tOp (rIn K false) (tVar 0) (tTup ta))) A B D σ H := by
  refine ⟨_, h0, hta _ _ ⟨hl, fun t nt => ⟨t, xs, rfl, .inr (SqT.of upd_same), rfl, hf, _, rfl, ?_⟩⟩⟩
  exact h _ (Same.new nt)
theorem eq_read {k j : Int} {σ : L2.St} {H : Hp} {D : Ends} {A B : TS} (h0 : σ[0]? = some (some (.int k))) (h : if decide (V.int k = V.int j) = true then A D σ H else B D σ H) : tIfS (tTest (tOp rEq (tVar 0) (tC (.int j)))) A B D σ H :=
  ⟨_, h0, rfl, _, rfl, h⟩
section
variable {P : Program} {w : World} {K : PySem.W.Frag} {mg : Str → Option Value} {base : Heap} {f : Addr} {fd : FuncData}
theorem ok_fields (T : Txt P w K mg base) (F : FnD K "_law_fields" (top 22) f fd) : FnE P w K mg base 1 f fd nFields (spFields K) := by
  refine fnE_ok F scFields (fun a c d vs H Q E h => by obtain ⟨k, one, two, _, rfl, _⟩ := h; rfl) (fun cdv A outer s H vs Q p cls d he hr h => ?_)
  refine ⟨_, (
    pss_cons (ps_if (pt_cmpR op_in_seq (pv 0) (pe_tup (pa_cons pe_int (pa_cons pe_int pa_nil))) (by rfl)) (pss_one (ps_ret (pe_lst (pa_cons (pe_xh he.held (pv 1)) pa_nil)))) pss_nil)
    (pss_cons (ps_if (pt_cmpR op_in_seq (pv 0) (pe_tup (pa_cons pe_int (pa_cons pe_int (pa_cons pe_int pa_nil)))) (by rfl)) (pss_one (ps_ret (pe_lst (pa_cons (pe_xh he.held (pv 1)) pa_nil)))) pss_nil)
    (pss_cons (ps_if (pt_cmpR op_eq (pv 0) pe_int (nomark _)) (pss_one (ps_ret (pe_lst (pa_cons (pe_xh he.held (pv 1)) pa_nil)))) pss_nil)
    (pss_cons (ps_if (pt_cmpR op_eq (pv 0) pe_int (nomark _)) (pss_one (ps_ret (pe_lst (pa_cons (pe_xh he.held (pv 1)) pa_nil)))) pss_nil)
    (pss_cons (ps_if (pt_cmpR op_in_seq (pv 0) (pe_tup (pa_cons pe_int (pa_cons pe_int (pa_cons pe_int pa_nil)))) (by rfl)) (pss_one (ps_ret (pe_lst (pa_cons (pe_xh he.held (pv 1)) pa_nil)))) pss_nil)
    (pss_one (ps_ret (pe_ifExp (pt_cmpR op_eq (pv 0) pe_int (nomark _)) (pe_lst (pa_cons (pe_xh he.held (pv 1)) (pa_cons (pe_xh he.held (pv 1)) pa_nil))) (pe_lst pa_nil))))))))), ?_⟩
  obtain ⟨k, one, two, hk, rfl, rfl, hd, hQ⟩ := h
  have hk' : k = 0 ∨ k = 1 ∨ k = 2 ∨ k = 3 ∨ k = 4 ∨ k = 5 ∨ k = 6 ∨ k = 7 ∨ k = 8 ∨ k = 9 ∨ k = 10 ∨ k = 11 ∨ k = 12 ∨ k = 13 ∨ k = 14 := by omega
  rcases hk' with rfl | rfl | rfl | rfl | rfl | rfl | rfl | rfl | rfl | rfl | rfl | rfl | rfl | rfl | rfl
  all_goals have hd := fun h => hd h
  all_goals refine in_read rfl (fun _ _ q => q) rfl (Nat.le_of_ble_eq_true rfl) fun G1 s1 => ?_
  all_goals first
    | (rw [if_pos (by decide)]
       obtain ⟨dd, rfl, e⟩ := hd (by decide)
       exact ⟨_, rfl, rfl, _, dd, _, _, rfl, (T.f _ (by decide)).fl, T.nof _ _ (by decide) (by decide), rfl, s1 _ _ e, rfl, Nat.le_of_ble_eq_true rfl, fun p np => hQ p _ (s1.trans (Same.new np)) (s1.free np) upd_same⟩)
    | rw [if_neg (by decide)]
  all_goals refine in_read rfl (fun _ _ q => q) rfl (Nat.le_of_ble_eq_true rfl) fun G2 s2 => ?_
  all_goals replace s2 := s1.trans s2
  all_goals first
    | (rw [if_pos (by decide)]
       obtain ⟨dd, rfl, e⟩ := hd (by decide)
       exact ⟨_, rfl, rfl, _, dd, _, _, rfl, (T.f _ (by decide)).fl, T.nof _ _ (by decide) (by decide), rfl, s2 _ _ e, rfl, Nat.le_of_ble_eq_true rfl, fun p np => hQ p _ (s2.trans (Same.new np)) (s2.free np) upd_same⟩)
    | rw [if_neg (by decide)]
  all_goals refine eq_read rfl ?_
  all_goals first
    | (rw [if_pos (by decide)]
       obtain ⟨dd, rfl, e⟩ := hd (by decide)
       exact ⟨_, rfl, rfl, _, dd, _, _, rfl, (T.f _ (by decide)).fl, T.nof _ _ (by decide) (by decide), rfl, s2 _ _ e, rfl, Nat.le_of_ble_eq_true rfl, fun p np => hQ p _ (s2.trans (Same.new np)) (s2.free np) upd_same⟩)
    | rw [if_neg (by decide)]
  all_goals refine eq_read rfl ?_
  all_goals first
    | (rw [if_pos (by decide)]
       obtain ⟨dd, rfl, e⟩ := hd (by decide)
       exact ⟨_, rfl, rfl, _, dd, _, _, rfl, (T.f _ (by decide)).fl, T.nof _ _ (by decide) (by decide), rfl, s2 _ _ e, rfl, Nat.le_of_ble_eq_true rfl, fun p np => hQ p _ (s2.trans (Same.new np)) (s2.free np) upd_same⟩)
    | rw [if_neg (by decide)]
  all_goals refine in_read rfl (fun _ _ q => q) rfl (Nat.le_of_ble_eq_true rfl) fun G3 s3 => ?_
  all_goals replace s3 := s2.trans s3
  all_goals first
    | (rw [if_pos (by decide)]
       obtain ⟨dd, rfl, e⟩ := hd (by decide)
       exact ⟨_, rfl, rfl, _, dd, _, _, rfl, (T.f _ (by decide)).fl, T.nof _ _ (by decide) (by decide), rfl, s3 _ _ e, rfl, Nat.le_of_ble_eq_true rfl, fun p np => hQ p _ (s3.trans (Same.new np)) (s3.free np) upd_same⟩)
    | rw [if_neg (by decide)]
  all_goals refine ⟨_, rfl, rfl, _, rfl, ?_⟩
  all_goals show (if decide (V.int _ = V.int 14) = true then _ else _)
  all_goals first
    | (rw [if_neg (by decide)]
       exact ⟨Nat.zero_le _, fun p np => hQ p _ (s3.trans (Same.new np)) (s3.free np) upd_same⟩)
    | (rw [if_pos (by decide)]
       obtain ⟨dd, rfl, e⟩ := hd (by decide)
       exact ⟨_, rfl, rfl, _, dd, _, _, rfl, (T.f _ (by decide)).fl, T.nof _ _ (by decide) (by decide), rfl, s3 _ _ e, rfl, _, rfl, rfl, _, dd, _, _, rfl, (T.f _ (by decide)).fl, T.nof _ _ (by decide) (by decide), rfl, s3 _ _ e, rfl, Nat.le_of_ble_eq_true rfl, fun p np => hQ p _ (s3.trans (Same.new np)) (s3.free np) upd_same⟩)
end
end K25
set_option maxRecDepth 100000
set_option maxHeartbeats 4000000
namespace K25
open PySem PySem.Spec PyProof.Rows L2 L2H EX

/-! # K25e: one error is looked at -/
theorem Same.tup {K : PySem.W.Frag} {H H' : Hp} {a : Addr} {xs : List V} (e : Same H H') (h : SqT K H a xs) : SqT K H' a xs := by
  rcases h with (h | ⟨o, h⟩) | h
  · exact .inl (.inl (e _ _ h))
  · exact .inl (.inr ⟨o, e _ _ h⟩)
  · exact .inr h
mutual
theorem dp_same {K : PySem.W.Frag} {H H' : Hp} (s : Same H H') : ∀ {v : V} {d : PyData}, Dp K H v d → Dp K H' v d
  | _, _, .non => .non
  | _, _, .bl b => .bl b
  | _, _, .int i => .int i
  | _, _, .str x => .str x
  | _, _, .lst h r => .lst (s.seq h) (dps_same s r)
  | _, _, .tup h r => .tup (Same.tup s h) (dps_same s r)
theorem dps_same {K : PySem.W.Frag} {H H' : Hp} (s : Same H H') : ∀ {vs : List V} {ds : List PyData}, DpAll K H vs ds → DpAll K H' vs ds
  | _, _, .nil => .nil
  | _, _, .cons h r => .cons (dp_same s h) (dps_same s r)
end
theorem dp_bools {K : PySem.W.Frag} {H : Hp} : ∀ bs : List Bool, DpAll K H (bs.map V.bl) (bs.map PyData.bool)
  | [] => .nil
  | b :: r => .cons (.bl b) (dp_bools r)
theorem bools_map (k : Nat) (l : List Nat) : bools k l = (l.map fun j => k == j).map V.bl := by
  unfold bools
  rw [List.map_map] <;> rfl
theorem _root_.EX.HotE.hotC {X : Cx} {a : Addr} {cls : Value} {d : Option Addr} (h : HotE X a cls d) : HotC X := by
  obtain ⟨oe, h1, hm, _⟩ := h.ex
  exact ⟨(a, oe), h1, hm⟩
theorem takes0N {X : Cx} : L2N.Takes X (fun _ _ _ _ => False) := fun _ _ x => by
  obtain ⟨_, _, _, _, _, _, _, _, _, _, _, _, _, _, _, _, z⟩ := x
  exact z.elim
def spRight (K : PySem.W.Frag) : Sp := fun vs H Q _ => ∃ (k : Nat) (one two : V) (d1 d2 : PyData), k < 15 ∧ vs = [.int (k : Nat), one, two] ∧ Dp K H one d1 ∧ Dp K H two d2 ∧ (∀ n, n ≤ 2 → SeqAt.shaped (.list ([d1, d2].take n)) = true) ∧ ∀ H', Same H H' → Q (.bl true) H'
abbrev nRight : List Str := ["_law_k", "_law_one", "_law_two", "_law_good", "_law_due", "_law_e", "_law_other"]
theorem scRight : FnScope nRight ["_law_k", "_law_one", "_law_two"] (defScope (top 23)) := ⟨rfl, rfl, rfl, by decide +kernel, rfl, by decide +kernel, by decide +kernel⟩
def t_suite (K : PySem.W.Frag) : Addr → Value → Option Addr → TS := fun a cls d =>
  tSeq (tAsg (tAndV (tCB (rIsH K a cls d) (tCons (tVar 5) (tCons (tC (.ty "ValueError")) tNil)))
      (tOp (rEqD K) (tCallE (spClasses K) a cls d (tCons (tVar 5) tNil)) (tLc (iRng1 (tCons (tC (.int 15)) tNil)) (gName 6) tYes (tOp rEq (tVar 6) (tVar 0)) [6]))) (gName 3))
    (tSeq (tAsg (tAndV (tVar 3) (tOp (rEqD K) (tCallE (spFields K) a cls d (tCons (tVar 0) (tCons (tVar 5) tNil))) (tVar 4))) (gName 3)) tNext)
theorem cut_due (one two : V) (k : Nat) (hk : k < 15) : cutV [one] none (some (if decide ((3 : Int) < (k : Nat)) = true then 1 else 0)) ++ cutV [two] none (some (if decide ((13 : Int) < (k : Nat)) = true then 1 else 0)) = [one, two].take (fl k).length := by
  have hk' : k = 0 ∨ k = 1 ∨ k = 2 ∨ k = 3 ∨ k = 4 ∨ k = 5 ∨ k = 6 ∨ k = 7 ∨ k = 8 ∨ k = 9 ∨ k = 10 ∨ k = 11 ∨ k = 12 ∨ k = 13 ∨ k = 14 := by omega
  rcases hk' with rfl | rfl | rfl | rfl | rfl | rfl | rfl | rfl | rfl | rfl | rfl | rfl | rfl | rfl | rfl <;> rfl
theorem fl_le {k : Nat} (hk : k < 15) : (fl k).length ≤ 2 := by
  have : ∀ k, k < 15 → (fl k).length ≤ 2 := by decide
  exact this k hk
theorem dps_take {K : PySem.W.Frag} {H : Hp} : ∀ (n : Nat) {vs : List V} {ds : List PyData}, DpAll K H vs ds → DpAll K H (vs.take n) (ds.take n)
  | 0, _, _, _ => .nil
  | n + 1, _, _, .nil => .nil
  | n + 1, _, _, .cons h r => .cons h (dps_take n r)
theorem shaped_bools : ∀ k, k < 15 → SeqAt.shaped (.list (((List.range 15).map fun j => k == j).map PyData.bool)) = true := by decide
theorem suite_ok {P : Program} {w : World} {K : PySem.W.Frag} {mg : Str → Option Value} {base : Heap} (T : Txt P w K mg base) {k : Nat} (hk : k < 15) {one two : V} {d1 d2 : PyData} {G : Hp} {a due : Addr} {d : Option Addr} {D : Ends} (hdue : G due = some (.lst ([one, two].take (fl k).length)))
    (hd : 4 ≤ k → ∃ dd, d = some dd ∧ G dd = some (.xd ((fl k).zip [one, two]).reverse)) (hd0 : k < 4 → d = none) (h1 : Dp K G one d1) (h2 : Dp K G two d2) (hsh : ∀ n, n ≤ 2 → SeqAt.shaped (.list ([d1, d2].take n)) = true)
    (hn : ∀ σ' H', Same G H' → σ'[3]? = some (some (V.bl true)) → D.nx σ' H') : t_suite K a (.ref (Ca K k)) d D [some (.int (k : Nat)), some one, some two, some (.bl false), some (.ref due), some (.ref a), none] G := by
  have fld : Fld d G := fun dd e => by
    by_cases h4 : 4 ≤ k
    · obtain ⟨dd', e', h⟩ := hd h4
      rw [e] at e'
      cases e'
      exact ⟨_, h⟩
    · rw [hd0 (by omega)] at e
      cases e
  refine ⟨_, rfl, _, _, _, _, rfl, rfl, (T.f k hk).is, fld, (fun u h => h), T.ve k hk, _, rfl, iteT ?_⟩
  refine ⟨_, rfl, rfl, k, hk, rfl, fld, fun p H1 s1 np hp => ?_⟩
  refine ⟨15, rfl, by decide, by decide, fun L nL => lc_range (lo := 0) (n := 15) (fun i H' => Same H1 H' ∧ H' L = some (.lst (bools k (List.range i)))) ⟨Same.new nL, upd_same⟩ ?_ ?_⟩
  · rintro i H' hi ⟨s2, hL⟩
    refine ⟨rfl, ?_⟩
    unfold tYes
    dsimp only
    rw [if_pos rfl]
    refine ⟨_, rfl, _, rfl, rfl, _, hL, by unfold bools; rw [List.length_map, List.length_range]; exact small1000 (by omega), fun b o e => ?_, ?_⟩
    · rw [upd_ne (fun z => by rw [z, nL] at e; cases e)]
      exact s2 b o e
    · rw [upd_same, List.range_succ]
      unfold bools
      rw [List.map_append]
      have e : decide (V.int (0 + (i : Int)) = V.int (k : Nat)) = (k == i) := by
        by_cases h : k = i
        · subst h; simp
        · rw [beq_eq_false_iff_ne.mpr h]; exact decide_eq_false fun z => h (by have := V.int.inj z; omega)
      rw [e]
      rfl
  · rintro H2 ⟨s2, hL⟩
    have eL := shaped_bools k hk
    refine ⟨.list (((List.range 15).map fun j => k == j).map PyData.bool), .list (((List.range 15).map fun j => k == j).map PyData.bool), ?_, ?_, eL, eL, ?_⟩
    · exact .lst (SqL.of (s2 _ _ hp)) (by rw [bools_map]; exact dp_bools _)
    · exact .lst (SqL.of hL) (by rw [bools_map]; exact dp_bools _)
    rw [SeqAt.eqv_refl _ (SeqAt.canLay_of_shaped eL)]
    have s3 := s1.trans s2
    refine ⟨_, rfl, _, rfl, iteT ?_⟩
    refine ⟨_, rfl, _, rfl, k, one, two, hk, rfl, rfl, fun h4 => ?_, fun q H3 s4 nq hq => ?_⟩
    · obtain ⟨dd, e, h⟩ := hd h4
      exact ⟨dd, e, s3 _ _ h⟩
    have s5 := s3.trans s4
    have eS := hsh _ (fl_le hk)
    refine ⟨_, rfl, .list ([d1, d2].take (fl k).length), .list ([d1, d2].take (fl k).length), ?_, ?_, eS, eS, ?_⟩
    · exact .lst (SqL.of hq) (dps_take _ (.cons (dp_same s5 h1) (.cons (dp_same s5 h2) .nil)))
    · exact .lst (SqL.of (s5 _ _ hdue)) (dps_take _ (.cons (dp_same s5 h1) (.cons (dp_same s5 h2) .nil)))
    rw [SeqAt.eqv_refl _ (SeqAt.canLay_of_shaped eS)]
    exact hn _ _ s5 rfl
section
variable {P : Program} {w : World} {K : PySem.W.Frag} {mg : Str → Option Value} {base : Heap} {f fT fC fF : Addr} {fd fdT fdC fdF : FuncData}
theorem ok_right (T : Txt P w K mg base) (gI : mg "isinstance" = none) (gV : mg "ValueError" = none) (gi : mg "int" = none) (gr : mg "range" = none) (F : FnD K "_law_right" (top 23) f fd)
    (FT : FnOk P w K mg base (L2N.CX P w) 3 fT fdT nThrown (spThrown K)) (gT : mg "_law_thrown" = some (.ref fT)) (kT : PySem.W.keepIn K (.ref fT) = true) (bT : Binds K fdT nThrown [])
    (FC : FnE P w K mg base 1 fC fdC ["_law_e"] (spClasses K)) (gC : mg "_law_classes" = some (.ref fC)) (kC : PySem.W.keepIn K (.ref fC) = true) (bC : Binds K fdC ["_law_e"] [])
    (FF : FnE P w K mg base 1 fF fdF nFields (spFields K)) (gF : mg "_law_fields" = some (.ref fF)) (kF : PySem.W.keepIn K (.ref fF) = true) (bF : Binds K fdF nFields []) : FnOk P w K mg base CX0 4 f fd ["_law_k", "_law_one", "_law_two"] (spRight K) := by
  refine F.ok scRight (fun vs H Q E h => by obtain ⟨k, one, two, _, _, _, rfl, _⟩ := h; rfl) (fun cdv A outer s H vs Q E hr h => ?_)
  have hu : (A.deeper (envOfC "_law_right" (defScope (top 23)) s.heap.objs.size f cdv)).units + 64 < cLine := by have := hr.un; omega
  have hH : RoomH 1 (A.deeper (envOfC "_law_right" (defScope (top 23)) s.heap.objs.size f cdv)) := ⟨by have := hr.dp; omega, by have := hr.un; omega⟩
  refine ⟨_, PSs.nox (
    pss_cons (ps_set (i := 3) scRight.nd rfl (.inl rfl) pe_bl)
    (pss_cons (ps_set (i := 4) scRight.nd rfl (.inl rfl) (pe_op op_cat (pe_slice sl_list (pe_lst (pa_cons (pv 1) pa_nil)) po_none (po_some (pe_callTy call_int1 (by rfl) gi (by decide +kernel) (pa_cons (pe_cmpR op_gt (pv 0) pe_int (nomark _)) pa_nil))))
      (pe_slice sl_list (pe_lst (pa_cons (pv 2) pa_nil)) po_none (po_some (pe_callTy call_int1 (by rfl) gi (by decide +kernel) (pa_cons (pe_cmpR op_gt (pv 0) pe_int (nomark _)) pa_nil))))))
    (pss_cons (L2N.ps_try_as (i := 5) (tb := fun W => tDrop (tCallS (spThrown K) (WE W) (tCons (tVar 0) (tCons (tVar 1) (tCons (tVar 2) tNil))))) (ts := t_suite K) (Wout := fun _ _ _ _ => False) rfl rfl scRight.nd rfl rfl ⟨rfl, by decide, Or.inl T.gT⟩ takes0N
      (fun W pn xe tk _ => pss_one (ps_expr (by exact (pe_callS FT hr rfl gT kT bT (fun σ => L2N.passAt tk σ) (by exact (pa_cons (pv 0) (pa_cons (pv 1) (pa_cons (pv 2) pa_nil))))))))
      (fun a oe cls d pn hz hf => pss_cons (ps_set (i := 3) scRight.nd rfl (.inl rfl) (by exact (pe_and (pe_callB (call_isH (hot_suite hz hf).held) (by rfl) gI (by decide +kernel) (pa_cons (pv 5) (pa_cons (pe_bltn (by rfl) gV (by decide +kernel) rfl) pa_nil)))
          (pe_one (pe_cmpR (op_eqD (by exact hu)) (pe_callE FC ⟨hH.dp, hH.un⟩ (hot_suite hz hf) rfl gC kC bC (pa_cons (pv 5) pa_nil)) (pe_lcH (own := [("_law_other", 6)]) (g := gName 6) (hot_suite hz hf).hotC scRight.nd (pi_range1H (by rfl) gr (pa_cons pe_int pa_nil)) (blkOk_by (own := [("_law_other", 6)]) (N := nRight) (sc := defScope (top 23)) (by decide +kernel)) (fun _ _ _ _ _ => pg_name (i := 6) scRight.nd rfl (.inl rfl)) (fun _ _ _ _ _ => pe_cmpR op_eq (pv 6) (pv 0) (nomark _))) (nomark _))))))
        (pss_cons (ps_set (i := 3) scRight.nd rfl (.inl rfl) (by exact (pe_and (pv 3) (pe_one (pe_cmpR (op_eqD (by exact hu)) (pe_callE FF ⟨hH.dp, hH.un⟩ (hot_suite hz hf) rfl gF kF bF (pa_cons (pv 0) (pa_cons (pv 5) pa_nil))) (pv 4) (nomark _)))))) pss_nil)))
    (pss_one (ps_ret (pv 3)))))), ?_⟩
  obtain ⟨k, one, two, d1, d2, hk, rfl, h1, h2, hsh, hQ⟩ := h
  refine ⟨_, rfl, (by show 1 ≤ sizeLine; decide), fun p1 n1 => ⟨_, rfl, _, _, rfl, rfl, .inr ⟨_, rfl, _, rfl, p1, _, rfl, SqL.of upd_same, fun p2 n2 => ?_⟩⟩⟩
  refine ⟨_, rfl, (by show 1 ≤ sizeLine; decide), fun p3 n3 => ⟨_, rfl, _, _, rfl, rfl, .inr ⟨_, rfl, _, rfl, p3, _, rfl, SqL.of upd_same, fun p4 n4 => ?_⟩⟩⟩
  have ne : ∀ {G : Hp} {p q : Addr} {o : HO}, upd G p o q = none → p ≠ q := fun {G p q o} h e => by rw [e, upd_same] at h; cases h
  refine ⟨p2, p4, _, _, rfl, rfl, (Same.new n4) p2 _ ((Same.new n3) p2 _ upd_same), upd_same, ?_, fun p5 n5 => ?_⟩
  · have c1 := cutV_length [one] none (some (if decide ((3 : Int) < (k : Nat)) = true then 1 else 0))
    have c2 := cutV_length [two] none (some (if decide ((13 : Int) < (k : Nat)) = true then 1 else 0))
    exact Nat.le_trans (Nat.add_le_add c1 c2) (by show 2 ≤ sizeLine; decide)
  have sG := Same.trans (Same.new n1) (Same.trans (Same.new n2) (Same.trans (Same.new n3) (Same.trans (Same.new n4) (Same.new (o := .lst (cutV [one] none (some (if decide ((3 : Int) < (k : Nat)) = true then 1 else 0)) ++ cutV [two] none (some (if decide ((13 : Int) < (k : Nat)) = true then 1 else 0)))) n5))))
  have hG := upd_same (H := upd (upd (upd (upd H p1 (.lst [one])) p2 (.lst (cutV [one] none (some (if decide ((3 : Int) < (k : Nat)) = true then 1 else 0))))) p3 (.lst [two])) p4 (.lst (cutV [two] none (some (if decide ((13 : Int) < (k : Nat)) = true then 1 else 0))))) (a := p5) (o := .lst (cutV [one] none (some (if decide ((3 : Int) < (k : Nat)) = true then 1 else 0)) ++ cutV [two] none (some (if decide ((13 : Int) < (k : Nat)) = true then 1 else 0))))
  rw [cut_due one two k hk] at sG hG
  show _
  rw [cut_due one two k hk]
  generalize upd (upd (upd (upd (upd H p1 _) p2 _) p3 _) p4 _) p5 _ = G at sG hG ⊢
  have h1' := dp_same sG h1
  have h2' := dp_same sG h2
  refine ⟨_, rfl, _, rfl, _, rfl, k, one, two, hk, rfl, fun h4 => ?_, fun h4 dd hdd => ?_⟩
  · refine ⟨true, T.te k hk, fun _ a _ => ?_, fun q => Bool.noConfusion q⟩
    refine suite_ok T hk hG (fun h => absurd h (by omega)) (fun _ => rfl) h1' h2' hsh fun σ' H' s6 e3 => ⟨.bl true, ?_, hQ H' (sG.trans s6)⟩
    rw [List.getElem?_set_ne (by decide)]
    exact e3
  · refine ⟨true, T.te k hk, fun _ a _ => ?_, fun q => Bool.noConfusion q⟩
    have s0 : Same G (upd G dd (.xd ((fl k).zip [one, two]).reverse)) := Same.new hdd
    refine suite_ok T hk (s0 _ _ hG) (fun _ => ⟨dd, rfl, upd_same⟩) (fun h => absurd h (by omega)) (dp_same s0 h1') (dp_same s0 h2') hsh fun σ' H' s6 e3 => ⟨.bl true, ?_, hQ H' (sG.trans (s0.trans s6))⟩
    rw [List.getElem?_set_ne (by decide)]
    exact e3
end
end K25
set_option maxRecDepth 100000
set_option maxHeartbeats 4000000
namespace K25
open PySem PySem.Spec PyProof.Rows L2 L2H EX

/-! # K25f: the law -/
abbrev nLaw : List Str := ["_law_script", "_law_h", "_law_one", "_law_two", "_law_k"]
theorem scLaw : FnScope nLaw ["_law_script"] (defScope (top 24)) := ⟨rfl, rfl, rfl, by decide +kernel, rfl, by decide +kernel, by decide +kernel⟩
def spLaw (K : PySem.W.Frag) : Sp := fun vs H Q _ => ∃ (a : Addr) (ns : List Int), vs = [.ref a] ∧ SqL K H a (ns.map V.int) ∧ ns.length ≤ 1000 ∧ ∀ H', Q (.bl true) H'
theorem Drw.same {H H' : Hp} {p q : Addr} (d : Drw H p q) (s : Same H H') : Drw H' p q := by
  obtain ⟨st, k, z, ns, h1, h2, r⟩ := d.ex
  exact ⟨st, k, z, ns, s _ _ h1, s _ _ h2, r⟩
theorem Drw.ne {H : Hp} {p q x : Addr} {o : HO} (d : Drw H p q) (h : H x = some o) (ho : ∀ xs, o ≠ .lst xs) : x ≠ p ∧ x ≠ q := by
  obtain ⟨st, k, z, ns, h1, h2, r⟩ := d.ex
  exact ⟨fun e => by rw [e, h1] at h; exact ho _ (Option.some.inj h).symm, fun e => by rw [e, h2] at h; exact ho _ (Option.some.inj h).symm⟩
theorem Drw.neN {H : Hp} {p q x : Addr} (d : Drw H p q) (h : H x = none) : x ≠ p ∧ x ≠ q := by
  obtain ⟨st, k, z, ns, h1, h2, r⟩ := d.ex
  exact ⟨fun e => (by rw [e, h1] at h; cases h), fun e => (by rw [e, h2] at h; cases h)⟩
def list1 : List PyData := [.str "a", .str "", .int 7, .tuple [.str "", .tuple [.int 0]], .none]
def list2 : List PyData := [.tuple [], .str "kind", .int 0]
theorem pick1 {K : PySem.W.Frag} {t0 t1 : Addr} {r : Int} (r0 : 0 ≤ r) (r1 : r < 5) : ∃ v d, atI [V.str "a", .str "", .int 7, .ref t1, .non] r = some v ∧ d ∈ list1 ∧ ∀ G : Hp, G t1 = some (.tup [.str "", .ref t0]) → G t0 = some (.tup [.int 0]) → Dp K G v d := by
  have h : r = 0 ∨ r = 1 ∨ r = 2 ∨ r = 3 ∨ r = 4 := by omega
  rcases h with rfl | rfl | rfl | rfl | rfl
  · exact ⟨_, .str "a", rfl, by simp [list1], fun _ _ _ => .str _⟩
  · exact ⟨_, .str "", rfl, by simp [list1], fun _ _ _ => .str _⟩
  · exact ⟨_, .int 7, rfl, by simp [list1], fun _ _ _ => .int _⟩
  · exact ⟨_, .tuple [.str "", .tuple [.int 0]], rfl, by simp [list1], fun _ h1 h0 => .tup (SqT.of h1) (.cons (.str _) (.cons (.tup (SqT.of h0) (.cons (.int 0) .nil)) .nil))⟩
  · exact ⟨_, .none, rfl, by simp [list1], fun _ _ _ => .non⟩
theorem pick2 {K : PySem.W.Frag} {t0 : Addr} {r : Int} (r0 : 0 ≤ r) (r1 : r < 3) : ∃ v d, atI [V.ref t0, .str "kind", .int 0] r = some v ∧ d ∈ list2 ∧ ∀ G : Hp, G t0 = some (.tup []) → Dp K G v d := by
  have h : r = 0 ∨ r = 1 ∨ r = 2 := by omega
  rcases h with rfl | rfl | rfl
  · exact ⟨_, .tuple [], rfl, by simp [list2], fun _ h0 => .tup (SqT.of h0) .nil⟩
  · exact ⟨_, .str "kind", rfl, by simp [list2], fun _ _ => .str _⟩
  · exact ⟨_, .int 0, rfl, by simp [list2], fun _ _ => .int _⟩
theorem shaped2 : ∀ d1 ∈ list1, ∀ d2 ∈ list2, ∀ n, n ≤ 2 → SeqAt.shaped (.list ([d1, d2].take n)) = true := by
  intro d1 h1 d2 h2 n hn
  have hn' : n = 0 ∨ n = 1 ∨ n = 2 := by omega
  simp only [list1, list2, List.mem_cons, List.not_mem_nil, or_false] at h1 h2
  rcases h1 with rfl | rfl | rfl | rfl | rfl <;> rcases h2 with rfl | rfl | rfl <;> rcases hn' with rfl | rfl | rfl <;> decide +kernel
section
variable {P : Program} {w : World} {K : PySem.W.Frag} {mg : Str → Option Value} {base : Heap} {f fM fN fR : Addr} {fd fdM fdN fdR : FuncData}
theorem ok_law (gr : mg "range" = none) (ga : mg "all" = none) (F : FnD K "law" (top 24) f fd)
    (FM : FnOk P w K mg base CX0 1 fM fdM ["_law_script", "_law_seed"] (spMix K)) (gM : mg "_law_mix" = some (.ref fM)) (kM : PySem.W.keepIn K (.ref fM) = true) (bM : Binds K fdM ["_law_script", "_law_seed"] [])
    (FN : FnOk P w K mg base CX0 1 fN fdN ["_law_h", "_law_bound"] spNext) (gN : mg "_law_next" = some (.ref fN)) (kN : PySem.W.keepIn K (.ref fN) = true) (bN : Binds K fdN ["_law_h", "_law_bound"] [])
    (FR : FnOk P w K mg base CX0 4 fR fdR ["_law_k", "_law_one", "_law_two"] (spRight K)) (gR : mg "_law_right" = some (.ref fR)) (kR : PySem.W.keepIn K (.ref fR) = true) (bR : Binds K fdR ["_law_k", "_law_one", "_law_two"] []) :
    FnOk P w K mg base CX0 5 f fd ["_law_script"] (spLaw K) := by
  refine F.ok scLaw (fun vs H Q E h => by obtain ⟨a, ns, rfl, _⟩ := h; rfl) (fun cdv A outer s H vs Q E hr h => ⟨_, PSs.nox (
    pss_cons (ps_set (i := 1) scLaw.nd rfl (.inl rfl) (pe_call FM (hr.mono (by decide)) rfl gM kM bM .nil pass0 (pa_cons (pv 0) (pa_cons pe_int pa_nil))))
    (pss_cons (ps_set (i := 2) scLaw.nd rfl (.inr rfl) (pe_ix ix_list (pe_lst (pa_cons pe_str (pa_cons pe_str (pa_cons pe_int (pa_cons (pe_tup (pa_cons pe_str (pa_cons (pe_tup (pa_cons pe_int pa_nil)) pa_nil))) (pa_cons pe_non pa_nil))))))
      (pe_call FN (hr.mono (by decide)) rfl gN kN bN .nil pass0 (pa_cons (pv 1) (pa_cons pe_int pa_nil))) (fun _ _ => rfl)))
    (pss_cons (ps_set (i := 3) scLaw.nd rfl (.inr rfl) (pe_ix ix_list (pe_lst (pa_cons (pe_tup pa_nil) (pa_cons pe_str (pa_cons pe_int pa_nil))))
      (pe_call FN (hr.mono (by decide)) rfl gN kN bN .nil pass0 (pa_cons (pv 1) (pa_cons pe_int pa_nil))) (fun _ _ => rfl)))
    (pss_one (ps_ret (pe_callB (cr_all rfl) (by rfl) ga (by decide +kernel) (pa_cons (pe_lc (own := [("_law_k", 4)]) (g := gName 4) (tt := tYes) rfl scLaw.nd (pi_range1 (by rfl) gr (pa_cons pe_int pa_nil)) (blkOk_by (N := nLaw) (sc := defScope (top 24)) (by decide +kernel)) (fun _ _ _ _ _ => pg_name (i := 4) scLaw.nd rfl (.inl rfl))
      (fun _ _ _ _ _ => pts_nil) (fun _ _ _ _ _ => pe_call FR hr rfl gR kR bR .nil pass0 (pa_cons (pv 4) (pa_cons (pv 2) (pa_cons (pv 3) pa_nil))))) pa_nil))))))), ?_⟩)
  obtain ⟨a, ns, rfl, hS, hl, hQ⟩ := h
  have ns0 : ∀ {n : Nat}, n ≤ 15 → n ≤ sizeLine := fun h => Nat.le_trans h (by decide)
  refine ⟨_, rfl, a, ns, 25, rfl, by decide, by decide, hl, hS, fun p q H1 d1 s1 _ _ => ?_⟩
  refine ⟨ns0 (by decide), fun t0 n0 => ⟨ns0 (Nat.le_of_ble_eq_true rfl), fun t1 n1 => ⟨ns0 (Nat.le_of_ble_eq_true rfl), fun L nL => ?_⟩⟩⟩
  have s2 : Same H1 (upd (upd (upd H1 t0 (.tup [.int 0])) t1 (.tup [.str "", .ref t0])) L (.lst [.str "a", .str "", .int 7, .ref t1, .non])) := Same.trans (Same.new n0) (Same.trans (Same.new n1) (Same.new nL))
  have d2 := d1.same s2
  have ne : ∀ {G : Hp} {p q : Addr} {o : HO}, upd G p o q = none → q ≠ p := fun {G p q o} h e => by rw [e, upd_same] at h; cases h
  have a1 : (upd (upd (upd H1 t0 (.tup [.int 0])) t1 (.tup [.str "", .ref t0])) L (.lst [.str "a", .str "", .int 7, .ref t1, .non])) t1 = some (.tup [.str "", .ref t0]) := Same.new nL _ _ upd_same
  have a0 : (upd (upd (upd H1 t0 (.tup [.int 0])) t1 (.tup [.str "", .ref t0])) L (.lst [.str "a", .str "", .int 7, .ref t1, .non])) t0 = some (.tup [.int 0]) := Same.new nL _ _ (Same.new n1 _ _ upd_same)
  have aL : (upd (upd (upd H1 t0 (.tup [.int 0])) t1 (.tup [.str "", .ref t0])) L (.lst [.str "a", .str "", .int 7, .ref t1, .non])) L = some (.lst [.str "a", .str "", .int 7, .ref t1, .non]) := upd_same
  have nLp : L ≠ p ∧ L ≠ q := d1.neN ((Same.trans (Same.new n0) (Same.new n1)).free nL)
  refine ⟨_, rfl, p, q, 5, rfl, by decide, by decide, d2, fun r H2 r0 r1 d3 k3 => ?_⟩
  obtain ⟨one, e1, hat, hm1, dp1⟩ := pick1 (K := K) (t0 := t0) (t1 := t1) r0 r1
  have b1 := k3 _ _ (d2.ne a1 (fun _ z => nomatch z)).1 (d2.ne a1 (fun _ z => nomatch z)).2 a1
  have b0 := k3 _ _ (d2.ne a0 (fun _ z => nomatch z)).1 (d2.ne a0 (fun _ z => nomatch z)).2 a0
  refine ⟨L, _, _, one, rfl, rfl, SqL.of (k3 _ _ nLp.1 nLp.2 aL), hat, ?_⟩
  refine ⟨ns0 (Nat.le_of_ble_eq_true rfl), fun u0 m0 => ⟨ns0 (Nat.le_of_ble_eq_true rfl), fun M nM => ?_⟩⟩
  have s4 := Same.trans (Same.new (o := .tup []) m0) (Same.new (o := .lst [.ref u0, .str "kind", .int 0]) nM)
  have d4 := d3.same s4
  have c0 : (upd (upd H2 u0 (.tup [])) M (.lst [.ref u0, .str "kind", .int 0])) u0 = some (.tup []) := Same.new nM _ _ upd_same
  have cM : (upd (upd H2 u0 (.tup [])) M (.lst [.ref u0, .str "kind", .int 0])) M = some (.lst [.ref u0, .str "kind", .int 0]) := upd_same
  have nMp : M ≠ p ∧ M ≠ q := d3.neN ((Same.new m0).free nM)
  refine ⟨_, rfl, p, q, 3, rfl, by decide, by decide, d4, fun r' H3 r0' r1' d5 k5 => ?_⟩
  obtain ⟨two, e2, hat2, hm2, dp2⟩ := pick2 (K := K) (t0 := u0) r0' r1'
  have f1 := k5 _ _ (d4.ne (s4 _ _ b1) (fun _ z => nomatch z)).1 (d4.ne (s4 _ _ b1) (fun _ z => nomatch z)).2 (s4 _ _ b1)
  have f0 := k5 _ _ (d4.ne (s4 _ _ b0) (fun _ z => nomatch z)).1 (d4.ne (s4 _ _ b0) (fun _ z => nomatch z)).2 (s4 _ _ b0)
  have g0 := k5 _ _ (d4.ne c0 (fun _ z => nomatch z)).1 (d4.ne c0 (fun _ z => nomatch z)).2 c0
  refine ⟨M, _, _, two, rfl, rfl, SqL.of (k5 _ _ nMp.1 nMp.2 cM), hat2, ?_⟩
  have D1 := dp1 H3 f1 f0
  have D2 := dp2 H3 g0
  refine ⟨15, rfl, by decide, by decide, fun R nR => lc_range (lo := 0) (n := 15) (fun i H' => Same H3 H' ∧ H' R = some (.lst ((List.replicate i true).map V.bl))) ⟨Same.new nR, upd_same⟩ ?_ ?_⟩
  · rintro i G hi ⟨s6, hR⟩
    refine ⟨rfl, ?_⟩
    unfold tYes
    dsimp only
    rw [if_pos rfl]
    refine ⟨_, rfl, _, rfl, _, rfl, i, one, two, e1, e2, hi, by rw [Int.zero_add] <;> rfl, dp_same s6 D1, dp_same s6 D2, shaped2 _ hm1 _ hm2, fun H' s7 => ?_⟩
    refine ⟨_, s7 _ _ hR, by rw [List.length_map, List.length_replicate]; exact small1000 (by omega), fun b o e => ?_, ?_⟩
    · rw [upd_ne (fun z => by rw [z, nR] at e; cases e)]
      exact s7 _ _ (s6 _ _ e)
    · rw [upd_same, List.replicate_succ', List.map_append] <;> rfl
  · rintro G ⟨s6, hR⟩
    refine ⟨R, List.replicate 15 true, rfl, SqL.of hR, hQ _⟩
end
end K25
set_option maxRecDepth 100000
set_option maxHeartbeats 2000000
namespace EX
open PySem PySem.Spec PyProof.Rows L2

/-! # X5: a head's facts with one more Bool of the written part -/
abbrev AlB : Type := He.AlD × Bool
def obsB (n : Nat) (fa : List He.Fa) (fn : List He.DefD) (ex : PySem.W.Frag → Bool) (g : Addr → Option Obj) : AlB :=
  (fun K : PySem.W.Frag => (He.obsD fa fn K, ex K)) (He.frG g (He.asD g n))
def hookB (n : Nat) (fa : List He.Fa) (fn : List He.DefD) (ex : PySem.W.Frag → Bool) : PySem.W.Hook where
  α := AlB
  obs := fun s => obsB n fa fn ex s.heap.get?
  val := fun _ => (He.valD fn, true)
  says := fun _ h => ∃ K : PySem.W.Frag, K.In h ∧ He.SaysD fa fn K ∧ ex K = true
  of := fun _ _ e => ⟨_, He.frG_in, congrArg (fun z : AlB => z.1) e, congrArg (fun z : AlB => z.2) e⟩
  keeps := fun _ _ _ ⟨K, hK, c1, c2⟩ k => ⟨K, PySem.W.Frag.In.keeps hK k, c1, c2⟩
theorem obsB_eq {n : Nat} {fa : List He.Fa} {fn : List He.DefD} {ex : PySem.W.Frag → Bool} {g : Addr → Option Obj} {s : Shared} (h : ∀ a, g a = s.heap.get? a) : obsB n fa fn ex g = (hookB n fa fn ex).obs s := by
  have e : g = s.heap.get? := funext h
  rw [e] <;> rfl
end EX
set_option maxRecDepth 100000
set_option maxHeartbeats 0
namespace K25
open PySem PySem.Spec PyProof.Rows L2 L2H EX

/-! # K25g: what the top leaves -/
def mI (K : PySem.W.Frag) (k : Nat) : Addr := He.ma K (Ca K k) "__init__"
def exB (K : PySem.W.Frag) : Bool := ((List.range 15).all fun k => fctB K (Ca K k)) && (((List.range 4).all fun k => PySem.W.excIn K (Ca K k) He.veBase "ValueError.__new__") && (((List.range 15).all fun k => decide (k < 4) || (decide (PySem.W.findIn K (.ref (Ca K k)) "__init__" = some (some (.ref (mI K k)))) && decide (PySem.W.typeIn K (.ref (mI K k)) = some (.type "function")))) &&
  (((List.range 15).all fun k => (fl k).all fun n => decide (PySem.W.findIn K (.ref (Ca K k)) n = some none)) && (((List.range 15).all fun i => (List.range 15).all fun j => decide (PySem.W.kitOne K (.ref (Ca K i)) (.ref (Ca K j)) = some (i == j))) &&
  (((List.range 15).all fun k => decide (PySem.W.kitOne K (.ref (Ca K k)) (.type "ValueError") = some true)) && ((List.range 15).all fun k => decide (PySem.W.exmOne K (.ref (Ca K k)) (.ref (He.ga K "TalkError")) = some true)))))))
def dD (x : Str) (i : Nat) : He.DefD := ⟨(x, none), x, x, defArgs (top i), defBody (top i), defScope (top i), [], []⟩
def dI (k i : Nat) : He.DefD := ⟨(cn k, some "__init__"), "__init__", cn k ++ ".__init__", defArgs (inClass (top i) 0), defBody (inClass (top i) 0), defScope (inClass (top i) 0), [], []⟩
def fn : List He.DefD := [dD "_law_mix" 18, dD "_law_next" 19, dD "_law_thrown" 20, dD "_law_classes" 21, dD "_law_fields" 22, dD "_law_right" 23, dD "law" 24,
  dI 4 4, dI 5 5, dI 6 6, dI 7 7, dI 8 9, dI 9 11, dI 10 12, dI 11 13, dI 12 14, dI 13 15, dI 14 16]
def fa : List He.Fa := [.glo "_law_mix", .glo "_law_next", .glo "_law_thrown", .glo "_law_classes", .glo "_law_fields", .glo "_law_right", .glo "law", .glo "TalkError",
  .free "int", .free "max", .free "len", .free "list", .free "range", .free "isinstance", .free "all", .free "ValueError"] ++ names.map .glo
abbrev R : PySem.W.OpenRow := PySem.W.OpenLaw.row PySem.Challenge.rw_askedtwice_k25_errors_apart
abbrev hk : PySem.W.Hook := hookB 5 fa fn exB
def ob (s : PySem.W.SharedT) : AlB := obsB 5 fa fn exB (HandSHeadRun.getT s)
theorem ob_eq (s : PySem.W.SharedT) : ob s = hk.obs s.abs := obsB_eq (HandSHeadRun.getT_eq s)
def loose : List Str := (["__name__", "TalkError", "InvalidSlots", "InvalidTopics", "InvalidStatement", "UnknownPlace", "InvalidAct", "Possible", "NotComparable", "InvalidWish", "InvalidNumber", "UnknownMend", "UnknownKind", "BadName", "Taken", "NoWish", "InvalidText", "_law_mix", "_law_next", "_law_thrown", "_law_classes", "_law_fields", "_law_right"] : List Str)
theorem run (w : World) : HandSHeadRun.RunEq R (PySem.W.view R.prog [24]) hk ob 8000 loose w := by
  intro os
  kernel_rfl
end K25
set_option maxRecDepth 100000
set_option maxHeartbeats 4000000
namespace K25
open PySem PySem.Spec PyProof.Rows L2 L2H EX

/-! # K25h: the facts -/
theorem and7 {a b c d e f g : Bool} (h : (a && (b && (c && (d && (e && (f && g)))))) = true) : a = true ∧ b = true ∧ c = true ∧ d = true ∧ e = true ∧ f = true ∧ g = true := by
  simpa [Bool.and_eq_true] using h
theorem rg {n k : Nat} {p : Nat → Bool} (h : ((List.range n).all p) = true) (hk : k < n) : p k = true := List.all_eq_true.mp h k (List.mem_range.mpr hk)
theorem noD (x : Str) (h : (x == ("__debug__" : Str)) = false ∧ (x == ("__classdict__" : Str)) = false) : (x == ("__debug__" : Str)) = false ∧ (x == ("__classdict__" : Str)) = false := h
section
variable {P : Program} {w : World} {K : PySem.W.Frag} {h : Heap} {mg : Str → Option Value} {base : Heap}
theorem txt_of (X : K.In h) (G : h.Ns mainGlobals mg) (c : He.SaysD fa fn K) (e : exB K = true) : Txt P w K mg base := by
  obtain ⟨e1, e2, e3, e4, e5, e6, e7⟩ := and7 e
  have f : ∀ k, k < 15 → Fct K (Ca K k) := fun k hk => by
    have q := rg e1 hk
    exact fctB_ok q
  have no : ∀ k n, k < 15 → n ∈ fl k → PySem.W.findIn K (.ref (Ca K k)) n = some none := fun k n hk hn => by
    have q := rg e4 hk
    exact of_decide_eq_true (List.all_eq_true.mp q n hn)
  refine ⟨fun k hk => ?_, He.glo_ok X G (c.fact 7 (f := .glo "TalkError") rfl), f, fun k hk => (by have q := rg e2 hk; exact q), fun k h4 hk => ?_, no, fun i j hi hj => (by have q := rg (rg e5 hi) hj; exact of_decide_eq_true q), fun k hk => (by have q := rg e6 hk; exact of_decide_eq_true q), fun k hk => (by have q := rg e7 hk; exact of_decide_eq_true q)⟩
  · refine He.glo_ok X G (c.fact (16 + k) (f := .glo (cn k)) ?_)
    have hk' : k = 0 ∨ k = 1 ∨ k = 2 ∨ k = 3 ∨ k = 4 ∨ k = 5 ∨ k = 6 ∨ k = 7 ∨ k = 8 ∨ k = 9 ∨ k = 10 ∨ k = 11 ∨ k = 12 ∨ k = 13 ∨ k = 14 := by omega
    rcases hk' with rfl | rfl | rfl | rfl | rfl | rfl | rfl | rfl | rfl | rfl | rfl | rfl | rfl | rfl | rfl <;> rfl
  · have e3k := rg e3 hk
    rw [decide_eq_false (by omega : ¬ k < 4), Bool.false_or] at e3k
    obtain ⟨i1, i2⟩ := Bool.and_eq_true_iff.mp e3k
    have i1 := of_decide_eq_true i1
    have i2 := of_decide_eq_true i2
    have hk' : k = 4 ∨ k = 5 ∨ k = 6 ∨ k = 7 ∨ k = 8 ∨ k = 9 ∨ k = 10 ∨ k = 11 ∨ k = 12 ∨ k = 13 ∨ k = 14 := by omega
    rcases hk' with rfl | rfl | rfl | rfl | rfl | rfl | rfl | rfl | rfl | rfl | rfl
    · obtain ⟨fd, F⟩ := c.def_ 7 (d := dI 4 4) rfl
      exact ⟨_, fd, i1, i2, F.bindsN fun _ _ _ _ _ _ us hl => match us, hl with | [_, _], _ => rfl, ok_init1 (f 4 (by decide)).ox (no 4 _ (by decide) (by decide)) ⟨rfl, rfl, rfl, by decide +kernel, rfl, by decide +kernel, by decide +kernel⟩ (by decide) F (by decide +kernel) (by decide +kernel)⟩
    · obtain ⟨fd, F⟩ := c.def_ 8 (d := dI 5 5) rfl
      exact ⟨_, fd, i1, i2, F.bindsN fun _ _ _ _ _ _ us hl => match us, hl with | [_, _], _ => rfl, ok_init1 (f 5 (by decide)).ox (no 5 _ (by decide) (by decide)) ⟨rfl, rfl, rfl, by decide +kernel, rfl, by decide +kernel, by decide +kernel⟩ (by decide) F (by decide +kernel) (by decide +kernel)⟩
    · obtain ⟨fd, F⟩ := c.def_ 9 (d := dI 6 6) rfl
      exact ⟨_, fd, i1, i2, F.bindsN fun _ _ _ _ _ _ us hl => match us, hl with | [_, _], _ => rfl, ok_init1 (f 6 (by decide)).ox (no 6 _ (by decide) (by decide)) ⟨rfl, rfl, rfl, by decide +kernel, rfl, by decide +kernel, by decide +kernel⟩ (by decide) F (by decide +kernel) (by decide +kernel)⟩
    · obtain ⟨fd, F⟩ := c.def_ 10 (d := dI 7 7) rfl
      exact ⟨_, fd, i1, i2, F.bindsN fun _ _ _ _ _ _ us hl => match us, hl with | [_, _], _ => rfl, ok_init1 (f 7 (by decide)).ox (no 7 _ (by decide) (by decide)) ⟨rfl, rfl, rfl, by decide +kernel, rfl, by decide +kernel, by decide +kernel⟩ (by decide) F (by decide +kernel) (by decide +kernel)⟩
    · obtain ⟨fd, F⟩ := c.def_ 11 (d := dI 8 9) rfl
      exact ⟨_, fd, i1, i2, F.bindsN fun _ _ _ _ _ _ us hl => match us, hl with | [_, _], _ => rfl, ok_init1 (f 8 (by decide)).ox (no 8 _ (by decide) (by decide)) ⟨rfl, rfl, rfl, by decide +kernel, rfl, by decide +kernel, by decide +kernel⟩ (by decide) F (by decide +kernel) (by decide +kernel)⟩
    · obtain ⟨fd, F⟩ := c.def_ 12 (d := dI 9 11) rfl
      exact ⟨_, fd, i1, i2, F.bindsN fun _ _ _ _ _ _ us hl => match us, hl with | [_, _], _ => rfl, ok_init1 (f 9 (by decide)).ox (no 9 _ (by decide) (by decide)) ⟨rfl, rfl, rfl, by decide +kernel, rfl, by decide +kernel, by decide +kernel⟩ (by decide) F (by decide +kernel) (by decide +kernel)⟩
    · obtain ⟨fd, F⟩ := c.def_ 13 (d := dI 10 12) rfl
      exact ⟨_, fd, i1, i2, F.bindsN fun _ _ _ _ _ _ us hl => match us, hl with | [_, _], _ => rfl, ok_init1 (f 10 (by decide)).ox (no 10 _ (by decide) (by decide)) ⟨rfl, rfl, rfl, by decide +kernel, rfl, by decide +kernel, by decide +kernel⟩ (by decide) F (by decide +kernel) (by decide +kernel)⟩
    · obtain ⟨fd, F⟩ := c.def_ 14 (d := dI 11 13) rfl
      exact ⟨_, fd, i1, i2, F.bindsN fun _ _ _ _ _ _ us hl => match us, hl with | [_, _], _ => rfl, ok_init1 (f 11 (by decide)).ox (no 11 _ (by decide) (by decide)) ⟨rfl, rfl, rfl, by decide +kernel, rfl, by decide +kernel, by decide +kernel⟩ (by decide) F (by decide +kernel) (by decide +kernel)⟩
    · obtain ⟨fd, F⟩ := c.def_ 15 (d := dI 12 14) rfl
      exact ⟨_, fd, i1, i2, F.bindsN fun _ _ _ _ _ _ us hl => match us, hl with | [_, _], _ => rfl, ok_init1 (f 12 (by decide)).ox (no 12 _ (by decide) (by decide)) ⟨rfl, rfl, rfl, by decide +kernel, rfl, by decide +kernel, by decide +kernel⟩ (by decide) F (by decide +kernel) (by decide +kernel)⟩
    · obtain ⟨fd, F⟩ := c.def_ 16 (d := dI 13 15) rfl
      exact ⟨_, fd, i1, i2, F.bindsN fun _ _ _ _ _ _ us hl => match us, hl with | [_, _], _ => rfl, ok_init1 (f 13 (by decide)).ox (no 13 _ (by decide) (by decide)) ⟨rfl, rfl, rfl, by decide +kernel, rfl, by decide +kernel, by decide +kernel⟩ (by decide) F (by decide +kernel) (by decide +kernel)⟩
    · obtain ⟨fd, F⟩ := c.def_ 17 (d := dI 14 16) rfl
      exact ⟨_, fd, i1, i2, F.bindsN fun _ _ _ _ _ _ us hl => match us, hl with | [_, _, _], _ => rfl, ok_init2 (f 14 (by decide)).ox (no 14 _ (by decide) (by decide)) (no 14 _ (by decide) (by decide)) ⟨rfl, rfl, rfl, by decide +kernel, rfl, by decide +kernel, by decide +kernel⟩ (by decide) (by decide) F (by decide +kernel) (by decide +kernel) (by decide +kernel)⟩
end
end K25
set_option maxRecDepth 100000
set_option maxHeartbeats 4000000
namespace K25
open PySem PySem.Spec PyProof.Rows L2 L2H EX
theorem facts {P : Program} {w : World} {K : PySem.W.Frag} {h : Heap} {mg : Str → Option Value} {f : Addr} (X : K.In h) (G : h.Ns mainGlobals mg) (hfa : mg ("law" : Str) = some (.ref f)) (c : He.SaysD fa fn K) (e : exB K = true) :
    ∃ fd : FuncData, (∀ (s : Shared) (v : Value), BindsTo s fd ⟨[v], []⟩ [("_law_script", v)]) ∧ ∀ base : Heap, K.In base → base.Ns mainGlobals mg → FnOk P w K mg base CX0 5 f fd ["_law_script"] (spLaw K) := by
  obtain ⟨fdM, FM⟩ := c.def_ 0 (d := dD "_law_mix" 18) rfl
  obtain ⟨fdN, FN⟩ := c.def_ 1 (d := dD "_law_next" 19) rfl
  obtain ⟨fdT, FT⟩ := c.def_ 2 (d := dD "_law_thrown" 20) rfl
  obtain ⟨fdC, FC⟩ := c.def_ 3 (d := dD "_law_classes" 21) rfl
  obtain ⟨fdF, FF⟩ := c.def_ 4 (d := dD "_law_fields" 22) rfl
  obtain ⟨fdR, FR⟩ := c.def_ 5 (d := dD "_law_right" 23) rfl
  obtain ⟨fd, F⟩ := c.def_ 6 (d := dD "law" 24) rfl
  have e0 := hfa.symm.trans (He.glo_ok X G (c.fact 6 (f := .glo "law") rfl))
  cases e0
  have b := FunD.bindsA (ps := ["_law_script"]) F fun _ _ _ _ _ _ us hl => match us, hl with | [_], _ => rfl
  have bM := FM.bindsN (ps := ["_law_script", "_law_seed"]) fun _ _ _ _ _ _ us hl => match us, hl with | [_, _], _ => rfl
  have bN := FN.bindsN (ps := ["_law_h", "_law_bound"]) fun _ _ _ _ _ _ us hl => match us, hl with | [_, _], _ => rfl
  have bT := FT.bindsN (ps := nThrown) fun _ _ _ _ _ _ us hl => match us, hl with | [_, _, _], _ => rfl
  have bC := FC.bindsN (ps := ["_law_e"]) fun _ _ _ _ _ _ us hl => match us, hl with | [_], _ => rfl
  have bF := FF.bindsN (ps := nFields) fun _ _ _ _ _ _ us hl => match us, hl with | [_, _], _ => rfl
  have bR := FR.bindsN (ps := ["_law_k", "_law_one", "_law_two"]) fun _ _ _ _ _ _ us hl => match us, hl with | [_, _, _], _ => rfl
  have gM := He.glo_ok X G (c.fact 0 (f := .glo "_law_mix") rfl)
  have gN := He.glo_ok X G (c.fact 1 (f := .glo "_law_next") rfl)
  have gT := He.glo_ok X G (c.fact 2 (f := .glo "_law_thrown") rfl)
  have gC := He.glo_ok X G (c.fact 3 (f := .glo "_law_classes") rfl)
  have gF := He.glo_ok X G (c.fact 4 (f := .glo "_law_fields") rfl)
  have gR := He.glo_ok X G (c.fact 5 (f := .glo "_law_right") rfl)
  have gi := He.free_ok X G (c.fact 8 (f := .free "int") rfl)
  have gm := He.free_ok X G (c.fact 9 (f := .free "max") rfl)
  have gl := He.free_ok X G (c.fact 10 (f := .free "len") rfl)
  have gli := He.free_ok X G (c.fact 11 (f := .free "list") rfl)
  have gr := He.free_ok X G (c.fact 12 (f := .free "range") rfl)
  have gI := He.free_ok X G (c.fact 13 (f := .free "isinstance") rfl)
  have ga := He.free_ok X G (c.fact 14 (f := .free "all") rfl)
  have gV := He.free_ok X G (c.fact 15 (f := .free "ValueError") rfl)
  refine ⟨fd, fun s v => b s [v] rfl, fun base _ _ => ?_⟩
  have T : Txt P w K mg base := txt_of X G c e
  have oT := ok_thrown (f := He.ga K "_law_thrown") T FT
  have oC := ok_classes (f := He.ga K "_law_classes") T gI FC
  have oF := ok_fields (f := He.ga K "_law_fields") T FF
  have oR := ok_right (f := He.ga K "_law_right") T gI gV gi gr FR oT gT FT.kp bT oC gC FC.kp bC oF gF FF.kp bF
  exact ok_law gr ga F (ok_mix FM gi gli) gM FM.kp bM (ok_next FN gi gm gl) gN FN.kp bN oR gR FR.kp bR
end K25
open PySem PySem.W PySem.Calls PyProof.Rows
theorem PySem.Challenge.cw_askedtwice_k25_errors_apart_holds : PySem.Challenge.rw_askedtwice_k25_errors_apart.Holds := by
  w_on; o_law
  refine HandSHeadRun.head_any (r := OpenLaw.row PySem.Challenge.rw_askedtwice_k25_errors_apart) (q := view (OpenLaw.row PySem.Challenge.rw_askedtwice_k25_errors_apart).prog [24]) (H := K25.hk) (ob := K25.ob) (M := 8000) (loose := K25.loose) (d := HandSHeadRun.topDef (OpenLaw.row PySem.Challenge.rw_askedtwice_k25_errors_apart).prog 24) (kwd := []) K25.ob_eq
    (by kernel_rfl) (fun s => by kernel_rfl) K25.run (by kernel_rfl) (by kernel_rfl) (by kernel_rfl) (by rfl) (by first | assumption | decide +kernel) (by decide +kernel) ⟨rfl, rfl, rfl, rfl, rfl, by decide +kernel⟩ ?hw ?hc
  case hw => w_witness2
  case hc =>
    refine L2.walk_ofE (l := PySem.Challenge.rw_askedtwice_k25_errors_apart) (n := 63) (k := 5) (x := "_law_script") (CX := L2.CX0) rfl (by decide) (by kernel_rfl) ⟨rfl, by decide, by decide⟩ ?F (fun _ _ _ _ z => z)
    intro w mg fa h Y G hmg0
    obtain ⟨K, KX, c, e⟩ := Y
    have hmg : mg ("law" : PySem.Str) = some (.ref fa) := by
      have e : (HandSHeadRun.topDef (OpenLaw.row PySem.Challenge.rw_askedtwice_k25_errors_apart).prog 24).name = ("law" : PySem.Str) := by kernel_rfl
      rw [← e]
      exact hmg0
    obtain ⟨fd, hb, hF⟩ := K25.facts (P := (PySem.Challenge.rw_askedtwice_k25_errors_apart).prog) (w := w) KX G hmg c e
    exact ⟨K, fd, K25.spLaw K, KX, hb, fun H a ns hl _ hS => ⟨a, ns, rfl, hS, Nat.le_trans hl (by decide), fun _ => rfl⟩, hF⟩
