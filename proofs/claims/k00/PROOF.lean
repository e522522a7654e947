import PyProof.Rows.All
import Wide.All
import OpenK.AllK
import Wide.FinOn
import KE.KIsAll
import HandS.ForMost
import HandS.Exc
import HandS.ExcInit
import HandS.ExcIs
import HandS.ExcField
import HandS.Defaults
import KE.KExcIs
import HandS.ExcOwn
import HandS.ExcValue
import HandS.IsInst
import PyProof.ReprRoads
import PyProof.CallFns
import PyProof.StrLawsRepr
import PyProof.FitsInt
import HandS.EndBits
import HandS.HeadEnd
import HandS.Wide
import HandS.HeadHook2
import KE.KStateDown
import Lean
import HandS.Head0
import HandS.Head1
import HandS.Head2
import HandS.HeadHook1
import HandS.Evl
import PySem.Challenge.RW_scaleborn_k00_errors_keep_their_fields
set_option Elab.async false
set_option linter.all false
set_option maxRecDepth 100000
set_option maxHeartbeats 0
/-! own exceptions as values: made by place and by name, their fields, isinstance of them -/
namespace PySem
namespace KXE
open PySem.W PySem.Calls PyProof.Rows PySem.HandSPX
section
variable {M : Model} {A : Around} {E : Value → Shared → Prop} {hh : Heap} {gs : Array GenState} {dr : Drawn} {tk : Nat} {os : OsState}
variable {nm qn : Str} {C N : Addr} {bs bm bB : List Value} {hd : Bool} {sn : List Str} {sb : List Value} {ab : Bool} {co : Option Bool} {dd : Option Addr} {k0 k1 k2 k3 k5 : Option Value} {B nw ini : String}
theorem chk_new (F : ExcBaseFacts B nw ini bB) (hT : ∀ Y : String, bm.contains (.type Y) = bB.contains (.type Y)) {us : List Value} {kw : List (Str × Value)} {Q : Unit → Shared → Prop}
    (hC : hh.get? C = some (excClassObj nm qn C N bs bm hd sn sb ab co dd k0 k1 k2 k3 k5 nw)) (q : Q () ⟨hh, gs, dr, tk, os⟩) :
    wpAny M A (checkBuiltinCall nw ⟨.ref C :: us, kw⟩) Q E ⟨hh, gs, dr, tk, os⟩ := by
  have e1 : (Value.ref C :: bm).contains (.type B) = true := by
    rw [List.contains_cons, hT, F.hasB, Bool.or_true]
  have e2 := F.noStar
  simp only [checkBuiltinCall, F.newKind, F.newSplit, F.newRow]
  repeat (first
    | refine wpAny_loadPart_at hC ?_
    | (refine wpAny_isSubtype_exc hC ?_; rw [e1])
    | refine wpAny_staticBase_exc hC ?_
    | refine wpAny_madeBy_exc hC ?_
    | simp only [bne_self_eq_false, Bool.false_eq_true, if_false]
    | wp_step)
  exact q
end
section
variable {prog : Program} {w : World} {A : Around} {E : Value → Shared → Prop} {R : Result → Shared → Prop} {hh : Heap} {gs : Array GenState} {dr : Drawn} {tk : Nat} {os : OsState}
variable {nm qn : Str} {C N : Addr} {bs bm bB : List Value} {hd : Bool} {sn : List Str} {sb : List Value} {ab : Bool} {co : Option Bool} {dd : Option Addr} {k0 k1 k2 k3 k5 : Option Value} {B nw ini : String}
theorem run_new (F : ExcBaseFacts B nw ini bB) (hT : ∀ Y : String, bm.contains (.type Y) = bB.contains (.type Y)) {us : List Value} {kw : List (Str × Value)}
    (hC : hh.get? C = some (excClassObj nm qn C N bs bm hd sn sb ab co dd k0 k1 k2 k3 k5 nw))
    (q : R (.ok (.ret (.ref (hh.objs.size + 1)))) ⟨(hh.push { cls := .type "tuple", data := .seq us.toArray }).push (excO C hh.objs.size), gs, dr, tk, os⟩) (hl : us.length ≤ sizeLine) :
    codeAny (model prog w) A (.builtin nw ⟨.ref C :: us, kw⟩) R ⟨hh, gs, dr, tk, os⟩ := by
  have e0 := F.ends
  have e1 : (Value.ref C :: bm).contains (.type B) = true := by
    rw [List.contains_cons, hT, F.hasB, Bool.or_true]
  have e2 : (Value.ref C :: bm).contains (.type "AttributeError") = false := by
    rw [List.contains_cons, hT, F.noAttr]
    rfl
  have e3 : (Value.ref C :: bm).contains (.type "NameError") = false := by
    rw [List.contains_cons, hT, F.noName]
    rfl
  refine codeAny_builtinAt F.entry ?_
  unfold Builtin.«BaseException.__new__»
  refine wpAt_bind ?_
  show wpAt _ _ _ (stack >>= _) _ _ _
  refine wpAt_bind (wpAt_stack fun p z => wpAt_of_wpAny ?_)
  wp_walk
  refine wpAt_of_wpAny ?_
  rw [F.owner]
  repeat (first
    | with_reducible refine wpAny_madeHere_exc F.canon hC ?_
    | with_reducible refine wpAny_loadPart_at hC ?_
    | (with_reducible refine wpAny_isSubtype_exc hC ?_; first | rw [e1] | rw [e2] | rw [e3])
    | wp_step)
  show R _ _
  rw [Heap.size_push]
  exact q
theorem run_tcall (F : ExcBaseFacts B nw ini bB) (hT : ∀ Y : String, bm.contains (.type Y) = bB.contains (.type Y)) {us : List Value} {kw : List (Str × Value)} {fI : Addr} {Q : Fin → Shared → Prop}
    (hC : hh.get? C = some (excClassObj nm qn C N bs bm hd sn sb ab co dd k0 k1 k2 k3 k5 nw)) (hi : W.Looks (model prog w) hh (typeLookup (.ref C) "__init__") (some (.ref fI)))
    (hb : ∀ z, W.Looks (model prog w) hh (bindSpecial (.ref fI) z) (.ref fI, [z])) (hl : us.length ≤ sizeLine)
    (q : codeAny (model prog w) A (.call (.ref fI) ⟨.ref (hh.objs.size + 1) :: us, kw⟩)
      (fun r s => match r with | .ok (.ret v) => v = .none ∧ Q (.done (.ret (.ref (hh.objs.size + 1)))) s | .ok _ => False | .error e => E e s)
      ⟨(hh.push (W.kdv_tup us)).push (excO C hh.objs.size), gs, dr, tk, os⟩) :
    wpAny (model prog w) A (Builtin.«type.__call__» ⟨.ref C :: us, kw⟩) Q E ⟨hh, gs, dr, tk, os⟩ := by
  repeat (first
    | with_reducible refine wpAny_loadPart_at hC ?_
    | with_reducible refine wpAny_madeBy_exc hC ?_
    | wp_step)
  refine codeAny_call_builtin_code (Code.quiet_builtin _ F.quiet) (chk_new F hT hC ?_)
  refine run_new F hT hC ?_ hl
  show wpAny _ _ _ _ _ _
  have kk : ∀ b o, hh.get? b = some o → ((hh.push (W.kdv_tup us)).push (excO C hh.objs.size)).get? b = some o := fun b o z =>
    Heap.get?_push_of_some _ (Heap.get?_push_of_some _ z)
  have hC2 := kk _ _ hC
  have hg2 : ((hh.push (W.kdv_tup us)).push (excO C hh.objs.size)).get? (hh.objs.size + 1) = some (excO C hh.objs.size) := by
    heap_get
  have eC : (Value.ref C :: bm).contains (.ref C) = true := by
    simp
  have i2 := hi.keeps kk
  have b2 := (hb (.ref (hh.objs.size + 1))).keeps kk
  unfold isInstance
  repeat (first
    | with_reducible refine wpAny_loadPart_at hg2 ?_
    | (with_reducible refine wpAny_isSubtype_exc hC2 ?_; rw [eC])
    | wp_step)
  show wpAny _ _ (typeLookup (.ref C) _) _ _ _
  refine i2.at ?_
  refine wpAny_holding (wpAny_bind (b2.at ?_))
  refine wpAny_bind (wpAny_call (codeAny_mono q fun r s z => ?_))
  cases r with
  | error e => exact z
  | ok fl =>
    cases fl with
    | next => exact z.elim
    | brk => exact z.elim
    | cont => exact z.elim
    | ret v =>
      obtain ⟨ev, z⟩ := z
      subst ev
      first
        | exact wpAny_pure (wpAny_pure z)
        | (wp_walk; exact z)
theorem run_call (F : ExcBaseFacts B nw ini bB) (hT : ∀ Y : String, bm.contains (.type Y) = bB.contains (.type Y)) {us : List Value} {kw : List (Str × Value)} {fI : Addr}
    (hC : hh.get? C = some (excClassObj nm qn C N bs bm hd sn sb ab co dd k0 k1 k2 k3 k5 nw)) (hi : W.Looks (model prog w) hh (typeLookup (.ref C) "__init__") (some (.ref fI)))
    (hb : ∀ z, W.Looks (model prog w) hh (bindSpecial (.ref fI) z) (.ref fI, [z])) (hl : us.length ≤ sizeLine)
    (q : codeAny (model prog w) (A.under (.builtin "type.__call__" ⟨.ref C :: us, kw⟩)) (.call (.ref fI) ⟨.ref (hh.objs.size + 1) :: us, kw⟩) (W.InitBack (hh.objs.size + 1) R)
      ⟨(hh.push (W.kdv_tup us)).push (excO C hh.objs.size), gs, dr, tk, os⟩) :
    codeAny (model prog w) A (.call (.ref C) ⟨us, kw⟩) R ⟨hh, gs, dr, tk, os⟩ := by
  have z1 := tc_lookup
  have z2 := tc_bind (.ref C)
  have zT : (⟨hh, gs, dr, tk, os⟩ : Shared).TypeIs (.ref C) "type" := ⟨_, hC, rfl⟩
  refine codeAny_of_tree ?_
  show wpAny _ _ (callAny (.ref C) _) _ _ _
  repeat (any_goals (first
    | assumption
    | with_reducible refine wpAny_loadPart_at hC ?_
    | wp_step))
  refine ⟨rfl, ?_⟩
  refine codeAny_call_builtin_at (Code.quiet_builtin _ (by decide +kernel)) entry_typeCall (wpAny_check_type_call_sub hC (run_tcall F hT hC hi hb hl ?_))
  refine codeAny_mono q fun r s z => ?_
  rcases r with e | (v | _ | _ | _) <;> exact z
end
end KXE
end PySem
namespace KX
open PySem PySem.Spec PyProof.Rows L2
/-! ### what the written part says of an exception class -/
def oexB (K : PySem.W.Frag) (C : Addr) : Bool := match K.lookup C with
  | some ⟨.type ty, _, .cls cd, sl⟩ => ty == "type" && (match cd.mro, sl.toList with
    | .ref C2 :: bm, [_, _, _, _, some (.builtin n), _] => C2 == C && (n == "ValueError.__new__" && (!cd.hasDel && (cd.hasDict && PySem.HandSPX.refsVE bm)))
    | _, _ => false)
  | _ => false
theorem oexB_ok {K : PySem.W.Frag} {C : Addr} (h : oexB K C = true) :
    ∃ nm q N bs bm sn sub ab col dd k0 k1 k2 k3 k5, K.lookup C = some (excClassObj nm q C N bs bm true sn sub ab col dd k0 k1 k2 k3 k5 "ValueError.__new__") ∧ PySem.HandSPX.refsVE bm = true := by
  unfold oexB at h
  split at h
  · rename_i ty dd cd sl hl
    obtain ⟨hty, h⟩ := Bool.and_eq_true_iff.mp h
    split at h
    · rename_i C2 bm k0 k1 k2 k3 n k5 hm hs
      simp only [Bool.and_eq_true, beq_iff_eq, Bool.not_eq_true'] at h hty
      obtain ⟨rfl, rfl, h3, h4, h5⟩ := h
      subst hty
      obtain ⟨nm, bs, mro, ns, qn, hd, sn, sb, ab, co, del⟩ := cd
      dsimp only at hm h3 h4
      subst hm h3 h4
      have e : sl = #[k0, k1, k2, k3, some (.builtin "ValueError.__new__"), k5] := by
        obtain ⟨l⟩ := sl
        simp only at hs
        rw [hs]
      subst e
      exact ⟨nm, qn, ns, bs, bm, sn, sb, ab, co, dd, k0, k1, k2, k3, k5, hl, h5⟩
    · cases h
  · cases h
def isEq (a : Option (Option Value)) (b : Option (Option Value)) : Bool := decide (a = b)
/-- all that is asked of an exception class at once -/
def exB (K : PySem.W.Frag) (C : Addr) : Bool :=
  oexB K C && (isEq (PySem.W.findIn K (.ref C) "__setattr__") (some (some (.builtin "object.__setattr__"))) && (decide (PySem.W.subIn K (.ref C) (.type "BaseException") = some true) &&
  (decide (PySem.W.typeIn K (.ref C) = some (.type "type")) && (PySem.W.keepIn K (.ref C) && (isEq (PySem.W.findIn K (.ref C) "__getattribute__") (some (some (.builtin "BaseException.__getattribute__"))) &&
  (isEq (PySem.W.findIn K (.ref C) "__getattr__") (some none) && (PySem.W.hasDictIn K C && (isEq (PySem.W.findIn K (.ref C) "__class__") (some (some (.builtin "object.__class__"))) &&
  (isEq (PySem.W.specialIn K (.builtin "object.__class__") "__get__") (some (some (.builtin "getset_descriptor.__get__"))) && (decide (PySem.W.takesIn K (.builtin "object.__class__") = some true) &&
  decide (PySem.W.mroIn K C (.type "object") = some true)))))))))))
structure ExK (K : PySem.W.Frag) (C : Addr) : Prop where
  o : OexC K C
  x : XfC K C
  i : ExcC K C
theorem exB_ok {K : PySem.W.Frag} {C : Addr} (h : exB K C = true) : ExK K C := by
  unfold exB isEq at h
  simp only [Bool.and_eq_true, decide_eq_true_eq] at h
  obtain ⟨h1, h2, h3, h4, h5, h6, h7, h8, h9, h10, h11, h12⟩ := h
  exact ⟨⟨oexB_ok h1, h2, h3, h4, h5⟩, ⟨h6, h7, h3, h8⟩, ⟨h6, h7, h3, h8, h9, h10, h11, h12⟩⟩
/-! ### a made exception in the abstract heap -/
/-- at a: an exception of the class at C, its fields fs at d -/
def ExV (H : Hp) (a C d : Addr) (fs : List (Str × V)) : Prop := H a = some (exo a C (some d)) ∧ H d = some (exd d fs)
section
variable {X : Cx} {CX : CXT} {k : Nat} {C fI : Addr} {fd : FuncData} {ps ks : List Str} {sp : Sp} {x : Str} {p pos : Pos} {e : Expr} {es : List Expr} {ta tk : TA} {te : TE} {kws : List Keyword} {n : Str}
/-- C(e, ..) as a value; sp: what the own __init__ keeps -/
def tNewX (C : Addr) (gV : List V → List V → List V) (sp : Sp) (ta tk : TA) : TE := fun σ H Q => ta σ H fun vs H1 => tk σ H1 fun zs H2 => vs.length ≤ 1000 ∧
  ∀ a, H2 a = none → sp (gV (.ref a :: vs) zs) (upd H2 a (exo a C none)) (fun v H3 => v = .non ∧ Q (.ref a) H3) E0
theorem run_newX {pins : List (Addr × Obj)} {σ : L2.St} {H : Hp} {s : Shared} {Q : VK} {us ws : List Value} {vs zs : List V} {m : Nat} {g : List Value → List Value → List Value} {gV : List V → List V → List V} (T : OexC X.K C)
    (iC : PySem.W.findIn X.K (.ref C) "__init__" = some (some (.ref fI))) (tI : PySem.W.typeIn X.K (.ref fI) = some (.type "function")) (F : FnOk X.prog X.w X.K X.mg X.base CX k fI fd ps sp) (hr : Room (k + 1) X.A)
    (hb : KBn X.K fd ps (m + 1) ks g gV) (hx : Passes CX X E0) (I : Inv X pins σ H s) (r : Vals vs us) (rz : Vals zs ws) (l1 : vs.length = m) (l2 : zs.length = ks.length) (hl : vs.length ≤ 1000)
    (h : ∀ a, H a = none → sp (gV (.ref a :: vs) zs) (upd H a (exo a C none)) (fun v H3 => v = .non ∧ Q (.ref a) H3) E0) :
    wpAny (model X.prog X.w) X.A (call (.ref C) us (ks.zip ws)) (EP X pins σ Q) X.xe s := by
  obtain ⟨nm, q, N, bs, bm, sn, sb, ab, co, dd, k0, k1, k2, k3, k5, hC, hbm⟩ := T.cls
  obtain ⟨hp, gs, dr, tk, os⟩ := s
  have hn : H (hp.objs.size + 1) = none := I.hok.fresh (Nat.le_succ _)
  have hq := h (hp.objs.size + 1) hn
  have kk : ∀ b o, hp.get? b = some o → ((hp.push (PySem.W.kdv_tup us)).push (PySem.HandSPX.excO C hp.objs.size)).get? b = some o := fun b o z =>
    Heap.get?_push_of_some _ (Heap.get?_push_of_some _ z)
  have hget : ((hp.push (PySem.W.kdv_tup us)).push (PySem.HandSPX.excO C hp.objs.size)).get? (hp.objs.size + 1) = some (PySem.HandSPX.excO C hp.objs.size) := by
    heap_get
  have J : Inv X pins σ (upd H (hp.objs.size + 1) (exo (hp.objs.size + 1) C none)) ⟨(hp.push (PySem.W.kdv_tup us)).push (PySem.HandSPX.excO C hp.objs.size), gs, dr, tk, os⟩ :=
    I.laid (a := hp.objs.size + 1) (o := exo (hp.objs.size + 1) C none) (t' := tk) kk (Nat.le_succ _) (exo_ok hget)
  have r1 : Vals (V.ref (hp.objs.size + 1) :: vs) (Value.ref (hp.objs.size + 1) :: us) := .cons rfl r
  have r2 := hb.rel r1 rz
  have e1 : (Value.ref (hp.objs.size + 1) :: us).length = m + 1 := by
    rw [← r1.length, List.length_cons, l1]
  have e2 : ws.length = ks.length := by
    rw [← rz.length, l2]
  have hus : us.length ≤ sizeLine := by
    rw [← r.length, sizeLine_eq]
    omega
  refine wpAny_call (PySem.KXE.run_call PySem.F.excBase_ValueError (fun Y => PySem.HandSPX.refsVE_contains Y bm hbm) (I.kIn _ _ hC) (PySem.W.looks_findIn I.kIn iC) (fun z => PySem.W.bind_fn I.kIn z tI) hus ?_)
  refine codeAny_mono (F.run _ X.stack _ _ ⟨Value.ref (hp.objs.size + 1) :: us, ks.zip ws⟩ (g (Value.ref (hp.objs.size + 1) :: us) ws) _ _ E0 (hr.make C us (ks.zip ws)) (J.env0.make C us (ks.zip ws)) (hb.to _ _ ws J.kIn e1 e2) r2 hq) fun r s' z => ?_
  cases r with
  | error er => exact hx pins σ _ _ er s' J z
  | ok fl =>
    cases fl with
    | next => exact False.elim z
    | brk => exact False.elim z
    | cont => exact False.elim z
    | ret u =>
      obtain ⟨v, H', J2, rv, ev, q2⟩ := J.after z
      subst ev
      exact ⟨rv, ⟨V.ref (hp.objs.size + 1), H', J2, rfl, q2⟩⟩
/-- C(e, ..) -/
theorem pe_newX {m : Nat} {gV : List V → List V → List V} {g : List Value → List Value → List Value} (T : OexC X.K C) (iC : PySem.W.findIn X.K (.ref C) "__init__" = some (some (.ref fI))) (tI : PySem.W.typeIn X.K (.ref fI) = some (.type "function"))
    (F : FnOk X.prog X.w X.K X.mg X.base CX k fI fd ps sp) (hr : Room (k + 1) X.A) (hb : KBn X.K fd ps (m + 1) [] g gV) (hx : Passes CX X E0) (hg : Gl X x) (hm : X.mg x = some (.ref C)) (ha : PA X (e :: es) ta)
    (hdb : (x == ("__debug__" : Str)) = false := by decide) (he : starEach (e :: es) X.env = (false, eval e X.env) :: starEach es X.env := by rfl) (hpl : (backTo pos (starEach es X.env)).any (·.1) = false := by rfl) :
    PE X (.Call (.Name x p) (e :: es) [] pos) (fun σ H Q => ta σ H fun vs H1 => vs.length = m ∧ vs.length ≤ 1000 ∧ ∀ a, H1 a = none → sp (gV (.ref a :: vs) []) (upd H1 a (exo a C none)) (fun v H3 => v = .non ∧ Q (.ref a) H3) E0) := by
  refine ⟨fun pins s σ H Q I h => ?_⟩
  refine wpAny_Call_Name_kw (ld_glob I hg hm ?_ hdb)
  refine PySem.W.callWith_K (h₀ := X.base) I.ok.mod.kin T.kC (thn (ha.run pos pins s σ H _ I h) fun us s1 hh => ?_) he hpl
  obtain ⟨vs, H1, I1, r, l1, hl, q⟩ := hh
  exact ⟨I1.kIn, run_newX T iC tI F hr hb hx I1 r .nil l1 rfl hl q⟩
/-- C(f = e, ..) -/
theorem pe_newK {gV : List V → List V → List V} {g : List Value → List Value → List Value} (T : OexC X.K C) (iC : PySem.W.findIn X.K (.ref C) "__init__" = some (some (.ref fI))) (tI : PySem.W.typeIn X.K (.ref fI) = some (.type "function"))
    (F : FnOk X.prog X.w X.K X.mg X.base CX k fI fd ps sp) (hr : Room (k + 1) X.A) (hb : KBn X.K fd ps 1 ks g gV) (hx : Passes CX X E0) (hg : Gl X x) (hm : X.mg x = some (.ref C)) (hkw : PK X kws tk)
    (hall : (backToKw pos (keywordEach kws X.env)).all (·.1.isSome) = true := by rfl) (hks : (backToKw pos (keywordEach kws X.env)).filterMap (·.1) = ks := by rfl)
    (hdb : (x == ("__debug__" : Str)) = false := by decide) (hpl : ((backTo pos (starEach [] X.env)).any (·.1) || (backToKw pos (keywordEach kws X.env)).any (·.1.isNone)) = false := by rfl) :
    PE X (.Call (.Name x p) [] kws pos) (fun σ H Q => tk σ H fun zs H1 => zs.length = ks.length ∧ ∀ a, H1 a = none → sp (gV [.ref a] zs) (upd H1 a (exo a C none)) (fun v H3 => v = .non ∧ Q (.ref a) H3) E0) := by
  refine ⟨fun pins s σ H Q I h => ?_⟩
  refine wpAny_Call_Name_kw (ld_glob I hg hm ?_ hdb)
  refine PySem.W.callWith_KW0 (h₀ := X.base) I.ok.mod.kin T.kC hall (thn (hkw.run pos pins s σ H _ I h) fun ws s1 hh => ?_) hpl
  obtain ⟨zs, H1, I1, r, l2, q⟩ := hh
  refine ⟨I1.kIn, ?_⟩
  rw [hks]
  exact run_newX (m := 0) (vs := []) T iC tI F hr hb hx I1 .nil r rfl l2 (Nat.zero_le _) q
/-- C(), no own __init__ anywhere -/
theorem pe_newX0 {bB : List Value} {B nw ini : String} (F : ExcBaseFacts B nw ini bB) (q : PySem.W.excIn X.K C bB nw = true) (hg : Gl X x) (hm : X.mg x = some (.ref C)) (kC : PySem.W.keepIn X.K (.ref C) = true)
    (hdb : (x == ("__debug__" : Str)) = false := by decide) : PE X (.Call (.Name x p) [] [] pos) (fun _ H Q => ∀ a, H a = none → Q (.ref a) (upd H a (exo a C none))) := by
  refine ⟨fun pins s σ H Q I h => ?_⟩
  refine wpAny_Call_Name_kw (ld_glob I hg hm ?_ hdb)
  refine PySem.W.callWith_K0 I.kIn kC ?_
  show wpAny _ _ (call (.ref C) []) _ _ _
  obtain ⟨bm, N, nm, qn, bs, hd, sn, sb, ab, co, dd, k0, k1, k2, k3, k5, mN, hC, hN, hni, T⟩ := exc_obj I.kIn q
  refine wpAny_call_exc_subT F T hC hN hni (fun h' a hmk => ?_) (Nat.zero_le _)
  have hn : H a = none := I.hok.gone hmk.new
  obtain ⟨t, ht, _, _⟩ := hmk.there
  exact ⟨.ref a, upd H a (exo a C none), I.laidN hmk.keeps hmk.new hn (exo_ok ht), rfl, h a hn⟩
/-- e.n, e a made exception -/
def tExf (K : PySem.W.Frag) (n : Str) (te : TE) : TE := fun σ H Q => te σ H fun x H1 => ∃ (a C d : Addr) (fs : List (Str × V)) (v : V), x = .ref a ∧ ExV H1 a C d fs ∧ XfC K C ∧ PySem.W.findIn K (.ref C) n = some none ∧ fs.lookup n = some v ∧ Q v H1
theorem pe_exf (he : PE X e te) (hb : attributeBase e n X.env (eval e X.env) = eval e X.env := by rfl) : PE X (.Attribute e n pos) (tExf X.K n te) := by
  refine ⟨fun pins s σ H Q I h => ?_⟩
  refine attr_of hb (thn (he.run pins s σ H _ I h) fun u s1 hh => ?_)
  obtain ⟨x, H1, I1, rx, a, C, d, fs, v, ex, ev, T, hno, hl, q⟩ := hh
  subst ex
  cases (show u = Value.ref a from rx)
  obtain ⟨t1, ho⟩ := exo_at I1.hok ev.1
  obtain ⟨mA, hns, hrel⟩ := exd_at I1.hok ev.2
  obtain ⟨od, hod, hlk⟩ := lookIn_ns hns
  obtain ⟨z, hz, rz⟩ := RelO.some_of (v := v) (o := mA n) (by rw [← hl]; exact hrel n)
  have J : PySem.W.InstAt s1.heap a _ C (some od) := ⟨ho, rfl, rfl, hod⟩
  exact PySem.HandSPX.exc_get I1.kIn J T.ga T.gg T.exC (PySem.W.findObj_own T.hdC hno rfl (by rw [hlk, hz])) (handed_of rz) ⟨v, H1, I1.tok _, rz, q⟩
/-- isinstance(e, c), e a made exception -/
def rIsX (K : PySem.W.Frag) : List V → Hp → VK → Prop := fun xs H Q => ∃ (a C : Addr) (d : Option Addr) (c : V) (cv : Value) (b : Bool), xs = [.ref a, c] ∧ H a = some (exo a C d) ∧ (∀ dd, d = some dd → ∃ fs, H dd = some (exd dd fs)) ∧
  (∀ u, RelV c u → u = cv) ∧ ExcC K C ∧ PySem.W.kitOne K (.ref C) cv = some b ∧ Q (.bl b) H
theorem call_isX : CallR X (.builtin "isinstance") (rIsX X.K) := by
  intro pins s σ H xs us Q I r h
  obtain ⟨a, C, d, c, cv, b, rfl, ha, hd, hcv, T, hk, q⟩ := h
  cases r with
  | cons r1 r =>
    cases r with
    | cons r2 r =>
      cases r
      cases r1
      have ec := hcv _ r2
      subst ec
      obtain ⟨t1, ho⟩ := exo_at I.hok ha
      have hcl : (PySem.W.clsIn X.K C).isSome = true := by
        obtain ⟨cd, z, _⟩ := PySem.W.any_some T.hd
        rw [z]
        rfl
      have J : ∃ od, PySem.W.InstAt s.heap a { cls := .ref C, dict := d, data := .fields #[.ref t1, .none, .none, .none, .bool false, .none] } C od := by
        cases d with
        | none => exact ⟨none, ho, rfl, rfl, trivial⟩
        | some dd =>
          obtain ⟨fs, hf⟩ := hd dd rfl
          obtain ⟨mA, hns, _⟩ := exd_at I.hok hf
          obtain ⟨od, hod, _⟩ := lookIn_ns hns
          exact ⟨some od, ho, rfl, rfl, hod⟩
      obtain ⟨od, J⟩ := J
      exact PySem.W.kia_one (PySem.W.kitx_exc hcl T.hg T.hk T.hs T.ha T.hn T.ht T.hm) I.kIn J hk (fun z => nomatch z) fun tk => ⟨.bl b, H, I.kept (t' := tk) fun _ _ z => z, rfl, q⟩
end
end KX
/-! repr of data, over the abstract heap -/
namespace KX
open PySem PySem.Spec PyProof.Rows L2
/-! ### data in the abstract heap -/
mutual
inductive HD (H : Hp) : V → PyData → Prop
  | non : HD H .non .none
  | bl (b : Bool) : HD H (.bl b) (.bool b)
  | int (i : Int) : HD H (.int i) (.int i)
  | str (x : Str) : HD H (.str x) (.str x)
  | lst {a : Addr} {xs : List V} {ds : List PyData} : H a = some (.lst xs) → HDs H xs ds → HD H (.ref a) (.list ds)
  | tup {a : Addr} {xs : List V} {ds : List PyData} : H a = some (.tup xs) → HDs H xs ds → HD H (.ref a) (.tuple ds)
  | dic {a : Addr} {kvs : List (Key × V)} {es : List (PyData × PyData)} : H a = some (.dK kvs) → HDs H (kvs.map fun p => kV p.1) (es.map (·.1)) → HDs H (kvs.map (·.2)) (es.map (·.2)) → HD H (.ref a) (.dict es)
inductive HDs (H : Hp) : List V → List PyData → Prop
  | nil : HDs H [] []
  | cons {x : V} {d : PyData} {xs : List V} {ds : List PyData} : HD H x d → HDs H xs ds → HDs H (x :: xs) (d :: ds)
end
mutual
theorem HD.mono {H H' : Hp} (k : ∀ b o, H b = some o → H' b = some o) : ∀ {v : V} {d : PyData}, HD H v d → HD H' v d
  | _, _, .non => .non
  | _, _, .bl b => .bl b
  | _, _, .int i => .int i
  | _, _, .str x => .str x
  | _, _, .lst h r => .lst (k _ _ h) (HDs.mono k r)
  | _, _, .tup h r => .tup (k _ _ h) (HDs.mono k r)
  | _, _, .dic h r q => .dic (k _ _ h) (HDs.mono k r) (HDs.mono k q)
theorem HDs.mono {H H' : Hp} (k : ∀ b o, H b = some o → H' b = some o) : ∀ {v : List V} {d : List PyData}, HDs H v d → HDs H' v d
  | _, _, .nil => .nil
  | _, _, .cons h r => .cons (HD.mono k h) (HDs.mono k r)
end
theorem keys_vals {P : Program} {w : World} : ∀ {es : List DictEntry} {us : List (Key × Value)} {kvs : List (Key × V)}, Pairs (mixKind P w) es us → KV kvs us →
    Vals (kvs.map fun p => kV p.1) (es.map (·.key)) ∧ Vals (kvs.map (·.2)) (es.map (·.val))
  | _, _, _, .nil, .nil => ⟨.nil, .nil⟩
  | _, _, _, .cons (e := e) (kv := kv) h1 h2 t, .cons (a := p) r rt => by
    obtain ⟨i1, i2⟩ := keys_vals t rt
    obtain ⟨r1, r2⟩ := r
    refine ⟨.cons ?_ i1, .cons (by show RelV p.2 e.val; rw [h2]; exact r2) i2⟩
    rw [← r1] at h1
    show RelV (kV p.1) e.key
    rcases keyIs_shape h1 with ⟨i, tk, e1, e2⟩ | ⟨x, tk, e1, e2⟩
    · rw [e1, e2]
      exact ⟨tk, rfl⟩
    · rw [e1, e2]
      exact ⟨tk, rfl⟩
mutual
theorem HD.reads {P : Program} {w : World} {H : Hp} {h : Heap} (ok : HOk P w H h) : ∀ {v : V} {d : PyData} {u : Value}, HD H v d → RelV v u → ∃ as, Reads h u d as ∧ ∀ a ∈ as, H a ≠ none
  | _, _, u, .non, r => by
    cases (show u = Value.none from r)
    exact ⟨[], .none, fun _ z => nomatch z⟩
  | _, _, u, .bl b, r => by
    cases (show u = Value.bool b from r)
    exact ⟨[], .bool b, fun _ z => nomatch z⟩
  | _, _, u, .int i, r => by
    obtain ⟨t, rfl⟩ := (show ∃ t, u = Value.int i t from r)
    exact ⟨[], .int i t, fun _ z => nomatch z⟩
  | _, _, u, .str x, r => by
    obtain ⟨t, rfl⟩ := (show ∃ t, u = Value.str x t from r)
    exact ⟨[], .str x t, fun _ z => nomatch z⟩
  | _, _, u, .lst (a := a) (xs := xs) e hs, r => by
    cases (show u = Value.ref a from r)
    have z : ObjOk P w H h a (.lst xs) := ok a _ e
    obtain ⟨_, its, n, rv, ho⟩ := z
    obtain ⟨as, rd, na⟩ := HDs.reads ok hs rv
    refine ⟨a :: as, .list (vs := its.toArray) ho rfl rfl rd, fun b hb => ?_⟩
    rcases List.mem_cons.mp hb with q | q
    · rw [q, e]
      exact fun z => nomatch z
    · exact na b q
  | _, _, u, .tup (a := a) (xs := xs) e hs, r => by
    cases (show u = Value.ref a from r)
    have z : ObjOk P w H h a (.tup xs) := ok a _ e
    obtain ⟨_, its, rv, o, ho, hc, n, hd⟩ := z
    obtain ⟨as, rd, na⟩ := HDs.reads ok hs rv
    exact ⟨as, .tuple (vs := its.toArray) ho hc hd rd, na⟩
  | _, _, u, .dic (a := a) (kvs := kvs) e hk hv, r => by
    cases (show u = Value.ref a from r)
    have z : ObjOk P w H h a (.dK kvs) := ok a _ e
    obtain ⟨_, _, us, rk, o, es, ep, ho, hx, hd, _, hp, _⟩ := z
    obtain ⟨v1, v2⟩ := keys_vals hp rk
    obtain ⟨as, rd, na⟩ := HDs.reads ok hk v1
    obtain ⟨bs, rb, nb⟩ := HDs.reads ok hv v2
    refine ⟨a :: as ++ bs, .dict ho hx.1 hd rd rb, fun b hb => ?_⟩
    rcases List.mem_append.mp hb with hb | hb
    · rcases List.mem_cons.mp hb with q | q
      · rw [q, e]
        exact fun z => nomatch z
      · exact na b q
    · exact nb b hb
theorem HDs.reads {P : Program} {w : World} {H : Hp} {h : Heap} (ok : HOk P w H h) : ∀ {vs : List V} {ds : List PyData} {us : List Value}, HDs H vs ds → Vals vs us → ∃ as, ReadsAll h us ds as ∧ ∀ a ∈ as, H a ≠ none
  | _, _, _, .nil, .nil => ⟨[], .nil, fun _ z => nomatch z⟩
  | _, _, _, .cons e hs, .cons r rs => by
    obtain ⟨as, rd, na⟩ := HD.reads ok e r
    obtain ⟨bs, rb, nb⟩ := HDs.reads ok hs rs
    exact ⟨as ++ bs, .cons rd rb, fun b hb => (List.mem_append.mp hb).elim (na b) (nb b)⟩
end
/-! ### repr(x) -/
/-- the text of a datum, and that it may be shown -/
def okD (d : PyData) : Prop := d.showable = true ∧ d.depth ≤ 60 ∧ d.shown.length ≤ sizeLine
def rRepr : List V → Hp → VK → Prop := fun xs H Q => ∃ (v : V) (d : PyData), xs = [v] ∧ HD H v d ∧ okD d ∧ Q (.str d.shown) H
theorem call_repr {X : Cx} (hg : X.A.guards = some []) (hu : X.A.units + 64 < cLine) (hsm : (X.K.lookup sysModules).isSome = true) : CallR X (.builtin "repr") rRepr := by
  intro pins s σ H xs us Q I r h
  obtain ⟨v, d, rfl, hd, ⟨h1, h2, h3⟩, q⟩ := h
  cases r with
  | cons rv rn =>
    cases rn
    rename_i u
    obtain ⟨as, rd, na⟩ := HD.reads I.hok hd rv
    have hno : sysModules ∉ as := fun z => by
      obtain ⟨o, ho⟩ := Option.isSome_iff_exists.mp hsm
      exact na _ z (I.bs _ o (I.ok.mod.kin _ _ ho)).2
    have fin : ∀ h' t tk, (∀ b o, s.heap.get? b = some o → h'.get? b = some o) → EP X pins σ Q (.str d.shown t) { s with heap := h', toks := tk } := fun h' t tk k =>
      ⟨.str d.shown, H, I.kept (t' := tk) k, ⟨t, rfl⟩, q⟩
    have old : ∀ b o, s.heap.get? b = some o → s.heap.get? b = some o := fun _ _ z => z
    cases rd with
    | none =>
      refine P.repr_of_none ?_
      have z := fin s.heap s.toks (s.toks + 1) old
      simp only [PyData.shown] at z
      exact z
    | bool b =>
      refine P.repr_of_bool ?_
      have z := fin s.heap s.toks (s.toks + 1) old
      simp only [PyData.shown] at z
      exact z
    | int i t =>
      refine P.repr_of_int (by simpa [PyData.showable] using h1) ?_
      have z := fin s.heap s.toks (s.toks + 1) old
      simp only [PyData.shown] at z
      exact z
    | str x t =>
      refine P.repr_of_str ?_ (by simpa only [PyData.shown] using h3)
      have z := fin s.heap s.toks (s.toks + 1) old
      simp only [PyData.shown] at z
      exact z
    | list e1 e2 e3 e4 => exact repr_of_reads' (.list e1 e2 e3 e4) h1 (fun _ => hno) hg (by omega) old fin h3
    | tuple e1 e2 e3 e4 => exact repr_of_reads' (.tuple e1 e2 e3 e4) h1 (fun _ => hno) hg (by omega) old fin h3
    | dict e1 e2 e3 e4 e5 => exact repr_of_reads' (.dict e1 e2 e3 e4 e5) h1 (fun _ => hno) hg (by omega) old fin h3
/-! ### how long the texts are -/
mutual
def lenD : PyData → Nat
  | .none => 4
  | .bool _ => 5
  | .int _ => 1921
  | .str x => (reprText x).length
  | .list xs => lenDs xs + 2
  | .tuple xs => lenDs xs + 3
  | .dict kvs => lenKv kvs + 2
def lenDs : List PyData → Nat
  | [] => 0
  | x :: xs => lenD x + 2 + lenDs xs
def lenKv : List (PyData × PyData) → Nat
  | [] => 0
  | (k, v) :: r => lenD k + lenD v + 4 + lenKv r
end
theorem join_piled (ts : List Str) : (Str.join ", " ts).length ≤ piled ts := by
  by_cases h : ts = []
  · rw [h]
    exact Nat.le_refl _
  · have e := join_length_add ts h
    omega
theorem textFrom_le : ∀ (ts : List Str) (n : Nat) (acc : Str), (textFrom n acc ts).length ≤ acc.length + piled ts
  | [], n, acc => Nat.le_refl _
  | t :: ts, n, acc => by
    have z := textFrom_le ts (n + 1) (acc ++ (if n > 0 then ", " else "" : String) ++ t)
    rw [strLen_append, strLen_append] at z
    have y : (((if n > 0 then ", " else "" : String) : String) : Str).length ≤ 2 := by
      split <;> decide
    rw [piled_cons]
    show (textFrom (n + 1) _ ts).length ≤ _
    omega
mutual
theorem shown_le : ∀ d : PyData, d.showable = true → d.shown.length ≤ lenD d
  | .none, _ => by
    simp only [PyData.shown, lenD]
    decide
  | .bool b, _ => by
    simp only [PyData.shown, lenD]
    cases b <;> decide
  | .int i, h => by
    simp only [PyData.shown, lenD]
    have e := int_text_length_le (a := i) (k := 1920) (by decide) (by simpa [PyData.showable] using h)
    rw [PySem.ofString_length]
    exact e
  | .str x, _ => by
    simp only [PyData.shown, lenD]
    exact Nat.le_refl _
  | .list xs, h => by
    simp only [PyData.shown, lenD]
    have z := shownAll_le xs (by simpa [PyData.showable] using h)
    have y := textFrom_le (PyData.shownAll xs) 0 "["
    show (textFrom 0 "[" (PyData.shownAll xs) ++ "]").length ≤ _
    rw [strLen_append]
    have e1 : (("[" : String) : Str).length = 1 := rfl
    have e2 : (("]" : String) : Str).length = 1 := rfl
    omega
  | .tuple xs, h => by
    simp only [PyData.shown, lenD]
    have z := shownAll_le xs (by simpa [PyData.showable] using h)
    have y := join_piled (PyData.shownAll xs)
    unfold tupleText
    rw [strLen_append, strLen_append]
    have e1 : (("(" : String) : Str).length = 1 := rfl
    have e2 : (((if (PyData.shownAll xs).length == 1 then ",)" else ")" : String) : String) : Str).length ≤ 2 := by
      split <;> decide
    omega
  | .dict kvs, h => by
    simp only [PyData.shown, lenD]
    have z := shownKv_le kvs (by simpa [PyData.showable] using h)
    have y := join_piled (PyData.shownKv kvs)
    unfold dictText
    rw [strLen_append, strLen_append]
    have e1 : (("{" : String) : Str).length = 1 := rfl
    have e2 : (("}" : String) : Str).length = 1 := rfl
    omega
theorem shownAll_le : ∀ ds : List PyData, PyData.showableAll ds = true → piled (PyData.shownAll ds) ≤ lenDs ds
  | [], _ => Nat.le_refl _
  | d :: ds, h => by
    have h2 : d.showable = true ∧ PyData.showableAll ds = true := by simpa [PyData.showableAll] using h
    have z1 := shown_le d h2.1
    have z2 := shownAll_le ds h2.2
    simp only [PyData.shownAll, lenDs, piled_cons]
    omega
theorem shownKv_le : ∀ ds : List (PyData × PyData), PyData.showableKv ds = true → piled (PyData.shownKv ds) ≤ lenKv ds
  | [], _ => Nat.le_refl _
  | (a, b) :: ds, h => by
    have h2 : (a.showable = true ∧ b.showable = true) ∧ PyData.showableKv ds = true := by simpa [PyData.showableKv] using h
    have z1 := shown_le a h2.1.1
    have z2 := shown_le b h2.1.2
    have z3 := shownKv_le ds h2.2
    simp only [PyData.shownKv, lenKv, piled_cons]
    rw [strLen_append, strLen_append]
    have e1 : ((": " : String) : Str).length = 2 := rfl
    omega
end
theorem okD_of {d : PyData} (h1 : d.showable = true) (h2 : d.depth ≤ 60) (h3 : lenD d ≤ 100000) : okD d :=
  ⟨h1, h2, Nat.le_trans (shown_le d h1) (Nat.le_trans h3 (by decide))⟩
end KX
/-! defs that are called where no repr runs (A.guards is known): their promise, body, call; a law's end -/
namespace KX
open PySem PySem.Spec PyProof.Rows L2
structure FnOkG (P : Program) (w : World) (K : PySem.W.Frag) (mg : Str → Option Value) (base : Heap) (CX : CXT) (k : Nat) (f : Addr) (fd : FuncData) (ps : List Str) (sp : Sp) : Prop where
  len : ∀ vs H Q E, sp vs H Q E → vs.length = ps.length
  run : ∀ (A : Around) (outer : List Env) (s : Shared) (H : Hp) (args : Args) (us : List Value) (vs : List V) (Q : VK) (E : XK), A.guards = some [] → Room k A →
    Env0 P w K mg base A outer s H → BindsTo s fd args (ps.zip us) → Vals vs us → sp vs H Q E → codeAny (model P w) A (.call (.ref f) args) (CR CX outer P w H s Q E) s
section
variable {P : Program} {w : World} {K : PySem.W.Frag} {mg : Str → Option Value} {base : Heap} {CX : CXT} {k : Nat} {f : Addr} {fd : FuncData} {ps : List Str} {sp : Sp}
theorem FnOkG.of (F : FnOk P w K mg base CX k f fd ps sp) : FnOkG P w K mg base CX k f fd ps sp :=
  ⟨F.len, fun A outer s H args us vs Q E _ hr he hb hv hs => F.run A outer s H args us vs Q E hr he hb hv hs⟩
theorem okG {x qual : Str} {params : Arguments} {body : List Stmt} {scope : Scope} {dvs : List V} {kws : List (Str × V)} {N : List Str} (F : FunD K x qual params body scope dvs kws f fd) (S : FnScope N ps scope)
    (len : ∀ vs H Q E, sp vs H Q E → vs.length = ps.length)
    (walk : ∀ (cdv : Value) (A : Around) (outer : List Env) (s : Shared) (H : Hp) (vs : List V) (Q : VK) (E : XK), (A.deeper (envOfC qual scope s.heap.objs.size f cdv)).guards = some [] →
      Room k (A.deeper (envOfC qual scope s.heap.objs.size f cdv)) → sp vs H Q E →
      ∃ t, PSs (cxOf CX P w K mg base N qual scope f cdv A outer s H E) body t ∧ t { nx := fun _ H' => Q .non H', rt := Q } (start N vs) H) : FnOkG P w K mg base CX (k + 1) f fd ps sp := by
  obtain ⟨oc, od, dV, kV, doc, pm, an, cdv, ct, osl, rfl, lk, hcd, _, _⟩ := F.ex
  refine ⟨len, fun A outer s H args us vs Q E hg hr e0 hb r hs => ?_⟩
  have KX : K.In s.heap := e0.mod.kin.keeps fun b o z => (e0.bs b o z).1
  have lim : s.heap.NoLimit := e0.mod.nolimit.keeps fun b o z => (e0.bs b o z).1
  have kinds : ∀ y ∈ ps.zip us, scope.names.lookup y.1 = some .local ∨ (scope.names.lookup y.1 = some .cell ∧ ((cellsFrom (s.heap.objs.size + 1) scope.names []).lookup y.1).isSome = true) := by
    rintro ⟨n, v⟩ hy
    rcases S.par n (List.of_mem_zip hy).1 with q | q
    · exact .inl q
    · exact .inr ⟨q, PySem.W.cellsFrom_some _ _ _ (.inl q)⟩
  refine codeAny_call_function hr.depth (KX _ _ lk) rfl S.co S.gen rfl (PySem.W.codeRec_of KX hcd) (hb _ _ _ _ ?_)
  refine wpAny_newFunctionEnv_cells S.kind kinds fun env he s1 x => ?_
  subst he
  refine ⟨lim.keeps x.toInCall.keep, codeAny_func ?_⟩
  obtain ⟨t, ht, hq⟩ := walk cdv A outer s H vs Q E hg (hr.deeper _) hs
  refine wpAny_mono (ht.run [] s1 (start N vs) H _ (inv_start S hr.hd e0 (len _ _ _ _ hs) r x) hq) (fun fl s' hf => ?_) fun e s' z => z
  cases fl with
  | ret u =>
    obtain ⟨v, σ', H', J, rv, q⟩ := hf
    exact ⟨v, H', J.os, J.bare, J.base, J.hok, rv, q⟩
  | next =>
    obtain ⟨σ', H', J, q⟩ := hf
    exact ⟨V.non, H', J.os, J.bare, J.base, J.hok, rfl, q⟩
  | brk =>
    obtain ⟨_, _, _, q⟩ := hf
    exact q.elim
  | cont =>
    obtain ⟨_, _, _, q⟩ := hf
    exact q.elim
end
/-- f(e, ..) -/
theorem pe_callG {X : Cx} {CX : CXT} {k : Nat} {f : Addr} {fd : FuncData} {ps : List Str} {sp : Sp} {dvs : List V} {ds : List Value} {E : XK} {x : Str} {p pos : Pos} {e : Expr} {es : List Expr} {t : TA}
    (F : FnOkG X.prog X.w X.K X.mg X.base CX k f fd ps sp) (hgd : X.A.guards = some []) (hr : Room k X.A) (hg : Gl X x) (hm : X.mg x = some (.ref f)) (hk : PySem.W.keepIn X.K (.ref f) = true) (hb : Binds X.K fd ps ds) (hd : Vals dvs ds)
    (hx : Passes CX X E) (ha : PA X (e :: es) t) (hdb : (x == ("__debug__" : Str)) = false := by decide) (he : starEach (e :: es) X.env = (false, eval e X.env) :: starEach es X.env := by rfl)
    (hpl : (backTo pos (starEach es X.env)).any (·.1) = false := by rfl) : PE X (.Call (.Name x p) (e :: es) [] pos) (tCall sp dvs E t) := by
  refine ⟨fun pins s σ H Q I h => ?_⟩
  refine wpAny_Call_Name_kw (ld_glob I hg hm ?_ hdb)
  refine PySem.W.callWith_K (h₀ := X.base) I.ok.mod.kin hk (thn (ha.run pos pins s σ H _ I h) fun us s1 hh => ?_) he hpl
  obtain ⟨vs, H1, I1, r, q⟩ := hh
  refine ⟨I1.kIn, ?_⟩
  have r2 : Vals (vs ++ dvs) (us ++ ds) := r.append hd
  have hl : (us ++ ds).length = ps.length := by
    rw [← r2.length]
    exact F.len _ _ _ _ q
  refine wpAny_call (codeAny_mono (F.run X.A X.stack s1 H1 ⟨us, []⟩ (us ++ ds) (vs ++ dvs) Q E hgd hr I1.env0 (hb s1 us I1.kIn hl) r2 q) fun r s' hq => ?_)
  cases r with
  | error e => exact hx pins σ H1 s1 e s' I1 hq
  | ok fl =>
    cases fl with
    | ret u => exact I1.after hq
    | next => exact hq.elim
    | brk => exact hq.elim
    | cont => exact hq.elim
/-! ### a law's end -/
theorem law_callG {P : Program} {w : World} {K : PySem.W.Frag} {mg mb : Str → Option Value} {CX : CXT} {k : Nat} {fa a : Addr} {fd : FuncData} {x : Str} {sp : Sp} {s1 : Shared} {vs : List Value} {ns : List Int}
    (KX : K.In s1.heap) (hns : s1.heap.Ns mainGlobals mg) (hb : s1.heap.Ns builtinsNs mb) (hbb : ∀ y : Str, y ≠ "__name__" → mb y = bootBuiltins y) (lim : s1.heap.NoLimit) (hgn : s1.gens = #[])
    (ha : s1.heap.get? a = some { cls := .type "list", data := .seq vs.toArray }) (hi : IntsAre vs ns) (hl : ns.length ≤ sizeLine) (hr : Room k callerA)
    (F : ∀ base : Heap, K.In base → base.Ns mainGlobals mg → FnOkG P w K mg base CX k fa fd [x] sp) (bnd : ∀ (s : Shared) (u : Value), BindsTo s fd ⟨[u], []⟩ [(x, u)])
    (hsp : ∀ H : Hp, Only H → SqL K H a (ns.map V.int) → sp [.ref a] H (fun v _ => v = .bl true) fun _ _ _ => False) (hCX : ∀ H e s', CX [] H s1 (fun _ _ _ => False) e s' → False) :
    codeAny (model P w) callerA (.call (.ref fa) ⟨[.ref a], []⟩) (fun r s' => r = .ok (.ret (.bool true)) ∧ OldK s1.heap s'.heap ∧ s'.os = s1.os ∧ AllBare s'.gens) s1 := by
  have rv := vals_ints hi
  have ln := hi.length
  have core : ∀ H : Hp, Only H → SqL K H a (ns.map V.int) → HOk P w H s1.heap → (∀ b, H b ≠ none → b = a) → (H a ≠ none → K.lookup a = none) →
      codeAny (model P w) callerA (.call (.ref fa) ⟨[.ref a], []⟩) (fun r s' => r = .ok (.ret (.bool true)) ∧ OldK s1.heap s'.heap ∧ s'.os = s1.os ∧ AllBare s'.gens) s1 := by
    intro H hO hS ok hA hK
    have isA : ∀ {b : Addr} {u : HO}, H b = some u → b = a := fun {b u} z => hA b (by rw [z]; exact fun y => nomatch y)
    have noA : ∀ {b : Addr} {o : Obj} {es : Array DictEntry} {ep : Nat}, s1.heap.get? b = some o → o.data = .dict es ep → H b = none := by
      intro b o es ep z y
      cases q : H b with
      | none => rfl
      | some u =>
        rw [isA q, ha] at z
        cases z
        exact absurd y (fun y2 => nomatch (show Data.seq vs.toArray _ = Data.dict es ep from y2))
    have nsB : ∀ {b : Addr} {m : Str → Option Value}, s1.heap.Ns b m → (hidT s1.heap H).Ns b m := fun {b m} hz => by
      obtain ⟨o, es, ep, z, y, r⟩ := hz
      exact ⟨o, es, ep, hidT_get z (noA z y), y, r⟩
    have KB : K.In (hidT s1.heap H) := fun b o z => hidT_get (KX b o z) (by
      cases q : H b with
      | none => rfl
      | some u =>
        have e := isA q
        subst e
        rw [hK (by rw [q]; exact fun y => nomatch y)] at z
        cases z)
    have M : Mod K mg (hidT s1.heap H) := by
      obtain ⟨mc, h1, h2⟩ := lim
      exact ⟨KB, nsB hns, ⟨mb, nsB hb, hbb⟩, ⟨mc, nsB h1, h2⟩⟩
    have e0 : Env0 P w K mg (hidT s1.heap H) callerA [] s1 H := by
      refine ⟨rfl, M, fun b o z => of_hidT z, Nat.le_of_eq (hidT_size _ _), trivial, fun b z => ?_, ok, .of_eq hgn⟩
      exact absurd (show b ∈ ([] : List Addr) from z) (by simp)
    refine codeAny_mono ((F _ KB (nsB hns)).run callerA [] s1 H ⟨[.ref a], []⟩ [.ref a] [.ref a] _ _ rfl hr e0 (bnd s1 (.ref a)) (.cons rfl .nil) (hsp H hO hS)) fun r s' hz => ?_
    cases r with
    | error e => exact (hCX H e s' hz).elim
    | ok fl =>
      cases fl with
      | next => exact False.elim hz
      | brk => exact False.elim hz
      | cont => exact False.elim hz
      | ret u =>
        obtain ⟨v, H', os, bare, un, ok2, rv2, q⟩ := hz
        cases (show v = .bl true from q)
        cases (show u = Value.bool true from rv2)
        refine ⟨rfl, OldK.of_keep fun b o z => ?_, os, bare⟩
        cases y : H b with
        | none => exact un.keep b o z y (fun m => absurd (show b ∈ ([] : List Addr) from m) (by simp)) (by simp)
        | some u2 =>
          rcases hO b with n | ⟨ob, xs, n⟩
          · rw [n] at y
            cases y
          · obtain ⟨e1, _⟩ := ok b _ n
            obtain ⟨e2, _⟩ := ok2 b _ (un.frzs b ob _ n)
            rw [z] at e1
            cases e1
            exact e2
  cases hk : K.lookup a with
  | some o =>
    have e := KX a o hk
    rw [ha] at e
    cases e
    refine core (fun _ => none) (fun _ => .inl rfl) (.inr ⟨_, vs.toArray, _, hk, rfl, rfl, rfl, ?_, ?_⟩) (fun b u z => nomatch (show (none : Option HO) = some u from z)) (fun b z => absurd rfl z) fun z => absurd rfl z
    · rw [List.size_toArray, ln]
      exact hl
    · simpa using rv
  | none =>
    let H0 : Hp := fun b => if b = a then some (.frz { cls := .type "list", data := .seq vs.toArray } (.lst (ns.map V.int))) else none
    have at_ : H0 a = some (.frz { cls := .type "list", data := .seq vs.toArray } (.lst (ns.map V.int))) := if_pos rfl
    have off : ∀ {b : Addr}, b ≠ a → H0 b = none := fun {b} z => if_neg z
    refine core H0 (fun b => ?_) (.inl (.inr ⟨_, at_⟩)) (fun b u z => ?_) (fun b z => ?_) fun _ => hk
    · by_cases q : b = a
      · exact .inr ⟨_, _, by rw [q]; exact at_⟩
      · exact .inl (off q)
    · by_cases q : b = a
      · subst q
        rw [at_] at z
        cases z
        exact ⟨ha, by rw [List.length_map]; exact hl, vs, _, rv, ha⟩
      · rw [off q] at z
        cases z
    · by_cases q : b = a
      · exact q
      · exact absurd (off q) z
theorem walk_G {l : PySem.W.OpenLaw} {n k : Nat} {q : Program} {loose : List Str} {XP : (Str → Option Value) → Heap → Prop} {YP : World → Heap → Prop} {d : DefRec} {CX : World → CXT} {x : Str}
    (hn : l.most = some n) (hn2 : n ≤ sizeLine) (hdf : d.params.defaults = []) (hr : Room k callerA)
    (F : ∀ (w : World) (mg : Str → Option Value) (fa : Addr) (h : Heap), YP w h → h.Ns mainGlobals mg → mg d.name = some (.ref fa) →
      ∃ (K : PySem.W.Frag) (fd : FuncData) (sp : Sp), K.In h ∧ (∀ (s : Shared) (u : Value), BindsTo s fd ⟨[u], []⟩ [(x, u)]) ∧
        (∀ (H : Hp) (a : Addr) (ns : List Int), ns.length ≤ n → (∀ z ∈ ns, Builtin.Int.intBits z ≤ 1048576) → Only H → SqL K H a (ns.map V.int) → sp [.ref a] H (fun v _ => v = .bl true) fun _ _ _ => False) ∧
        ∀ base : Heap, K.In base → base.Ns mainGlobals mg → FnOkG l.prog w K mg base (CX w) k fa fd [x] sp)
    (hCX : ∀ (w : World) (H : Hp) (s : Shared) (e : Value) (s' : Shared), CX w [] H s (fun _ _ _ => False) e s' → False) :
    PySem.W.WalkO q loose XP YP l.row.toRowW d [] (fun f vs => PySem.call f vs) := by
  refine Att.attach_callB hn hdf fun w s0 s1 mg mb fa o pm cd doc a vs ns G Y ho hd hcd hmg hobj hints hlen hbits hg => ?_
  obtain ⟨K, fd, sp, KX, hb, hsp, hF⟩ := F w mg fa _ Y G.T.g hmg
  exact law_callG KX G.T.g G.T.b G.T.builtins G.T.nolimit hg hobj hints (Nat.le_trans hlen hn2) hr hF hb (fun H hO hS => hsp H a ns hlen hbits hO hS) fun H e s' => hCX w H s1 e s'
end KX
/-! short words: a def that may be called; what draws (the law's till) -/
namespace KX
open PySem PySem.Spec PyProof.Rows L2
/-- the def of the name x may be called and keeps sp -/
def Callee (P : Program) (w : World) (K : PySem.W.Frag) (mg : Str → Option Value) (base : Heap) (k : Nat) (x : Str) (ps : List Str) (sp : Sp) : Prop :=
  ∃ (f : Addr) (fd : FuncData), mg x = some (.ref f) ∧ PySem.W.keepIn K (.ref f) = true ∧ Binds K fd ps [] ∧ FnOk P w K mg base CX0 k f fd ps sp
section
variable {X : Cx} {k j : Nat} {x : Str} {ps : List Str} {sp : Sp} {p pos : Pos} {e : Expr} {es : List Expr} {t : TA}
theorem pe_c (C : Callee X.prog X.w X.K X.mg X.base k x ps sp) (hr : Room j X.A) (hj : k ≤ j) (hg : Gl X x) (ha : PA X (e :: es) t) (hdb : (x == ("__debug__" : Str)) = false := by decide)
    (he : starEach (e :: es) X.env = (false, eval e X.env) :: starEach es X.env := by rfl) (hpl : (backTo pos (starEach es X.env)).any (·.1) = false := by rfl) : PE X (.Call (.Name x p) (e :: es) [] pos) (tCall sp [] E0 t) := by
  obtain ⟨f, fd, h1, h2, h3, h4⟩ := C
  exact pe_call h4 (hr.mono hj) hg h1 h2 h3 .nil pass0 ha hdb he hpl
end
/-! ### the heap -/
theorem same_upd {H : Hp} {p : Addr} {o : HO} (h : H p = none) : Same H (upd H p o) := fun b x e => by
  rw [upd_ne (ne_of_none e h)]
  exact e
theorem sq_in {K : PySem.W.Frag} {H H' : Hp} {a : Addr} {xs : List V} (k : ∀ b o, H b = some o → H' b = some o) (h : SqL K H a xs) : SqL K H' a xs := Same.seq k h
/-! ### the till: cells, how many were begun, what is left of a great one -/
structure Till (H : Hp) (t c : Addr) (cells : List Int) (at_ : Nat) (great : Int) : Prop where
  here : H t = some (.lst [.ref c, .int at_, .int great])
  box : H c = some (.lst (cells.map V.int))
  ne : t ≠ c
  len : cells.length ≤ 62
theorem Till.mono {H H' : Hp} {t c : Addr} {cells : List Int} {at_ : Nat} {great : Int} (T : Till H t c cells at_ great) (k : ∀ b o, H b = some o → H' b = some o) : Till H' t c cells at_ great :=
  ⟨k _ _ T.here, k _ _ T.box, T.ne, T.len⟩
/-- the till further on -/
def drawn (H : Hp) (t c : Addr) (at_ : Nat) (great : Int) : Hp := upd H t (.lst [.ref c, .int at_, .int great])
theorem Till.next {H : Hp} {t c : Addr} {cells : List Int} {at_ a2 : Nat} {great g2 : Int} (T : Till H t c cells at_ great) : Till (drawn H t c a2 g2) t c cells a2 g2 :=
  ⟨upd_same, by unfold drawn; rw [upd_ne T.ne.symm]; exact T.box, T.ne, T.len⟩
/-- all but what stands at t is as it was -/
def But (t : Addr) (H H' : Hp) : Prop := ∀ b o, b ≠ t → H b = some o → H' b = some o
theorem But.refl {t : Addr} {H : Hp} : But t H H := fun _ _ _ e => e
theorem But.trans {t : Addr} {H H1 H2 : Hp} (a : But t H H1) (b : But t H1 H2) : But t H H2 := fun c o n e => b c o n (a c o n e)
theorem But.upd {t : Addr} {H H' : Hp} {o : HO} (a : But t H H') : But t H (L2.upd H' t o) := fun c u n e => by
  rw [upd_ne n]
  exact a c u n e
theorem But.new {t p : Addr} {H H' : Hp} {o : HO} (a : But t H H') (h : H' p = none) : But t H (L2.upd H' p o) := fun c u n e => by
  rw [upd_ne (ne_of_none (a c u n e) h)]
  exact a c u n e
theorem But.of {t : Addr} {H H' : Hp} (a : Same H H') : But t H H' := fun c o _ e => a c o e
/-- an integer from 0 below many is drawn -/
def spCoin (most : Nat) : Sp := fun vs H Q _ => ∃ (t c : Addr) (cells : List Int) (at_ : Nat) (great many : Int), vs = [.ref t, .int many] ∧ Till H t c cells at_ great ∧ at_ ≤ most ∧ 0 < many ∧ many.natAbs < 2 ^ 8000 ∧
  ∀ (r : Int) (a2 : Nat) (g2 : Int) (H' : Hp), 0 ≤ r → r < many → a2 ≤ at_ + 1 → Till H' t c cells a2 g2 → But t H H' → Q (.int r) H'
theorem nil_eqv (l : List Int) : PyData.eqv (.list (l.map PyData.int)) (.list []) = l.isEmpty := by
  cases l with
  | nil => simp [PyData.eqv, PyData.eqvAll]
  | cons a r => simp [PyData.eqv, PyData.eqvAll]
theorem dp_ints {K : PySem.W.Frag} {H : Hp} : ∀ l : List Int, DpAll K H (l.map V.int) (l.map PyData.int)
  | [] => .nil
  | a :: r => .cons (.int a) (dp_ints r)
theorem ints_ok : ∀ l : List Int, PyData.canLayAll0 (l.map PyData.int) = true
  | [] => rfl
  | a :: r => by
    show (PyData.canLay0 (.int a) && PyData.canLayAll0 (r.map PyData.int)) = true
    rw [ints_ok r]
    rfl
theorem ints_depth : ∀ l : List Int, PyData.depthAll (l.map PyData.int) = 0
  | [] => rfl
  | a :: r => by
    show max (PyData.depth (.int a)) (PyData.depthAll (r.map PyData.int)) = 0
    rw [ints_depth r]
    rfl
theorem ints_shaped (l : List Int) : SeqAt.shaped (.list (l.map PyData.int)) = true := by
  unfold SeqAt.shaped PyData.canLay0 PyData.depth
  rw [ints_ok, ints_depth]
  rfl
theorem emod_atI {l : List Int} {a : Nat} (h : l ≠ []) : ∃ z, z ∈ l ∧ atI (l.map V.int) ((a : Int) % (l.length : Int)) = some (.int z) := by
  have hl : 0 < l.length := List.length_pos_iff.mpr h
  have e : ((a : Int) % (l.length : Int)) = ((a % l.length : Nat) : Int) := by
    omega
  have hb : a % l.length < l.length := Nat.mod_lt _ hl
  refine ⟨l[a % l.length], List.getElem_mem hb, ?_⟩
  rw [e]
  refine atI_nat ?_
  rw [List.getElem?_map, List.getElem?_eq_getElem hb]
  rfl
theorem mix_ok {y c1 c2 c3 : Int} {a : Nat} (h0 : 0 ≤ y) (h1 : y < 2147483647) (ha : a ≤ 100000) (d1 : 0 ≤ c1) (e1 : c1 ≤ 1000000) (d2 : 0 ≤ c2) (e2 : c2 ≤ 1000000) (d3 : 0 ≤ c3) (e3 : c3 ≤ 100000) :
    (y * (2 * (a : Int) + c3) + c1 * (a : Int) * (a : Int) + c2).natAbs < 2 ^ 64 := by
  have m1 : y * (2 * (a : Int) + c3) ≤ 2147483647 * (2 * (a : Int) + c3) := Int.mul_le_mul_of_nonneg_right (by omega) (by omega)
  have m0 : 0 ≤ y * (2 * (a : Int) + c3) := Int.mul_nonneg h0 (by omega)
  have n0 : 0 ≤ c1 * (a : Int) := Int.mul_nonneg d1 (by omega)
  have n1 : c1 * (a : Int) ≤ 1000000 * (a : Int) := Int.mul_le_mul_of_nonneg_right e1 (by omega)
  have p0 : 0 ≤ c1 * (a : Int) * (a : Int) := Int.mul_nonneg n0 (by omega)
  have p1 : c1 * (a : Int) * (a : Int) ≤ 100000000000 * (a : Int) := Int.mul_le_mul_of_nonneg_right (by omega) (by omega)
  omega
end KX
/-! a reading read from the left, a step a lemma -/
namespace KX
open PySem PySem.Spec PyProof.Rows L2
/-! built-ins by named readings -/
def rInt : List V → Hp → VK → Prop := fun xs H Q => (∃ i, xs = [.int i] ∧ Q (.int i) H) ∨ ∃ k, xs = [.bl k] ∧ Q (.int (if k then 1 else 0)) H
theorem c_int {X : Cx} : CallR X (.type "int") rInt := call_int1
def rLenQ (K : PySem.W.Frag) : List V → Hp → VK → Prop := fun xs H Q => ∃ p ys, xs = [.ref p] ∧ (SqL K H p ys ∨ SqT K H p ys) ∧ Q (.int ys.length) H
theorem c_len {X : Cx} : CallR X (.builtin "len") (rLenQ X.K) := call_len_seq
def rAbs : List V → Hp → VK → Prop := fun xs H Q => ∃ i, xs = [.int i] ∧ Q (.int (if i < 0 then -i else i)) H
theorem c_abs {X : Cx} : CallR X (.builtin "abs") rAbs := call_abs
section
variable {i : Nat} {σ : L2.St} {H : Hp} {Q : VK} {v x y : V} {ta tb te to ti : TE} {tr : TA} {r : R2} {D : Ends} {t u : TS} {g : TG} {c c2 : TT} {K : PySem.W.Frag} {p : Addr} {xs : List V} {k : Int} {j : Nat} {b : Bool}
theorem rd_var (e : σ[i]? = some (some v)) (q : Q v H) : tVar i σ H Q := ⟨v, e, q⟩
theorem rd_c (q : Q v H) : tC v σ H Q := q
theorem rd_op (q : ta σ H fun x H1 => tb σ H1 fun y H2 => r x y H2 Q) : tOp r ta tb σ H Q := q
theorem rd_un {r : V → Hp → VK → Prop} (q : ta σ H fun x H1 => r x H1 Q) : tUn r ta σ H Q := q
theorem rd_cb {r : List V → Hp → VK → Prop} (q : tr σ H fun vs H1 => r vs H1 Q) : tCB r tr σ H Q := q
theorem rd_cons {Q : List V → Hp → Prop} (q : ta σ H fun x H1 => tr σ H1 fun xs H2 => Q (x :: xs) H2) : tCons ta tr σ H Q := q
theorem rd_nil {Q : List V → Hp → Prop} (q : Q [] H) : tNil σ H Q := q
theorem rd_I0 {f : Int → Int → V} {m n : Int} (q : Q (f m n) H) : rI0 f (.int m) (.int n) H Q := ⟨m, n, rfl, rfl, q⟩
theorem rd_I {C : Int → Int → Prop} {f : Int → Int → V} {m n : Int} (e : C m n) (q : Q (f m n) H) : rI C f (.int m) (.int n) H Q := ⟨m, n, rfl, rfl, e, q⟩
theorem rd_U {f : Int → V} {m : Int} (q : Q (f m) H) : rU f (.int m) H Q := ⟨m, rfl, q⟩
theorem rd_eq (e : scal x y = true) (q : Q (.bl (decide (x = y))) H) : rEq x y H Q := ⟨e, q⟩
theorem rd_ne (e : scal x y = true) (q : Q (.bl (!decide (x = y))) H) : rNe x y H Q := ⟨e, q⟩
theorem rd_seq (q : t { D with nx := u D } σ H) : tSeq t u D σ H := q
theorem rd_asg (q : te σ H fun x H1 => g x σ H1 D.nx) : tAsg te g D σ H := q
theorem rd_drop (q : te σ H fun _ H1 => D.nx σ H1) : tDrop te D σ H := q
theorem rd_gname {Q : L2.St → Hp → Prop} (q : Q (σ.set i (some v)) H) : gName i v σ H Q := q
theorem rd_gsub {s : TSet} {Q : L2.St → Hp → Prop} (q : to σ H fun o H1 => ti σ H1 fun i H2 => s o i v H2 fun H3 => Q σ H3) : gSub to ti s v σ H Q := q
theorem rd_set {Q : Hp → Prop} (h : H p = some (.lst xs)) (hj : ixN xs.length k = some j) (q : Q (upd H p (.lst (xs.set j v)))) : rSetL (.ref p) (.int k) v H Q := ⟨p, xs, k, j, rfl, rfl, h, hj, q⟩
theorem rd_ifs (q : c σ H fun b H1 => if b = true then t D σ H1 else u D σ H1) : tIfS c t u D σ H := q
theorem rd_if (q : c σ H fun b H1 => if b = true then ta σ H1 Q else tb σ H1 Q) : tIf c ta tb σ H Q := q
theorem rd_test {Q : Bool → Hp → Prop} (q : te σ H fun x H1 => ∃ k, x = .bl k ∧ Q k H1) : tTest te σ H Q := q
theorem rd_B {Q : Bool → Hp → Prop} (q : te σ H fun x H1 => ∃ k, x = .bl k ∧ Q k H1) : tB te σ H Q := q
theorem rd_bl {Z : Bool → Prop} (q : Z b) : ∃ k, V.bl b = .bl k ∧ Z k := ⟨b, rfl, q⟩
theorem rd_andV (q : ta σ H fun x H1 => ∃ c, x = .bl c ∧ if c = true then tb σ H1 Q else Q (.bl false) H1) : tAndV ta tb σ H Q := q
theorem rd_orV (q : ta σ H fun x H1 => ∃ c, x = .bl c ∧ if c = true then Q (.bl true) H1 else tb σ H1 Q) : tOrV ta tb σ H Q := q
theorem rd_notV (q : ta σ H fun x H1 => ∃ c, x = .bl c ∧ Q (.bl (!c)) H1) : tNotV ta σ H Q := q
theorem rd_yes {Q : Bool → Hp → Prop} (q : Q true H) : tYes σ H Q := q
theorem rd_T {A B : Prop} (e : b = true) (q : A) : if b = true then A else B := by
  rw [if_pos e]
  exact q
theorem rd_F {A B : Prop} (e : b = false) (q : B) : if b = true then A else B := by
  rw [e, if_neg Bool.false_ne_true]
  exact q
theorem rd_and {Q : Bool → Hp → Prop} (q : c σ H fun b H1 => if b = true then c2 σ H1 Q else Q false H1) : tAnd c c2 σ H Q := q
theorem rd_or {Q : Bool → Hp → Prop} (q : c σ H fun b H1 => if b = true then Q true H1 else c2 σ H1 Q) : tOr c c2 σ H Q := q
theorem rd_not {Q : Bool → Hp → Prop} (q : c σ H fun b H1 => Q (!b) H1) : tNot c σ H Q := q
theorem rd_ret (q : te σ H D.rt) : tRet te D σ H := q
theorem rd_next (q : D.nx σ H) : tNext D σ H := q
theorem rd_nx {n bk ct : L2.St → Hp → Prop} {rt : VK} (q : n σ H) : Ends.nx ⟨n, rt, bk, ct⟩ σ H := q
theorem rd_rt {n bk ct : L2.St → Hp → Prop} {rt : VK} (q : rt v H) : Ends.rt ⟨n, rt, bk, ct⟩ v H := q
theorem rd_ix (h : SqL K H p xs) (a : atI xs k = some v) (q : Q v H) : rIxL K (.ref p) (.int k) H Q := ⟨p, xs, k, v, rfl, rfl, h, a, q⟩
theorem rd_int {m : Int} (q : Q (.int m) H) : rInt [.int m] H Q := .inl ⟨m, rfl, q⟩
theorem rd_intB (q : Q (.int (if b then 1 else 0)) H) : rInt [.bl b] H Q := .inr ⟨b, rfl, q⟩
theorem rd_abs {m : Int} (q : Q (.int (if m < 0 then -m else m)) H) : rAbs [.int m] H Q := ⟨m, rfl, q⟩
theorem rd_len (h : SqL K H p xs) (q : Q (.int xs.length) H) : rLenQ K [.ref p] H Q := ⟨p, xs, rfl, .inl h, q⟩
theorem rd_lst (q : tr σ H fun xs H1 => xs.length ≤ sizeLine ∧ ∀ p, H1 p = none → Q (.ref p) (upd H1 p (.lst xs))) : tLst tr σ H Q := q
theorem rd_tup (q : tr σ H fun xs H1 => xs.length ≤ sizeLine ∧ ∀ p, H1 p = none → Q (.ref p) (upd H1 p (.tup xs))) : tTup tr σ H Q := q
theorem rd_call {sp : Sp} {dvs : List V} {E : XK} (q : tr σ H fun vs H1 => sp (vs ++ dvs) H1 Q E) : tCall sp dvs E tr σ H Q := q
end
end KX
local macro_rules | `(tactic| walk_at "kx1") => `(tactic| with_reducible first
  | refine KX.rd_seq ?_ | refine KX.rd_asg ?_ | refine KX.rd_op ?_ | refine KX.rd_c ?_ | refine KX.rd_cb ?_ | refine KX.rd_cons ?_ | refine KX.rd_nil ?_ | refine KX.rd_un ?_ | refine KX.rd_nx ?_ | refine KX.rd_rt ?_ | refine KX.rd_next ?_ | refine KX.rd_ret ?_
  | refine KX.rd_ifs ?_ | refine KX.rd_if ?_ | refine KX.rd_test ?_ | refine KX.rd_B ?_ | refine KX.rd_bl ?_ | refine KX.rd_and ?_ | refine KX.rd_or ?_ | refine KX.rd_not ?_ | refine KX.rd_I0 ?_ | refine KX.rd_U ?_ | refine KX.rd_int ?_ | refine KX.rd_intB ?_ | refine KX.rd_abs ?_
  | refine KX.rd_gname ?_ | refine KX.rd_gsub ?_ | refine KX.rd_call ?_ | refine KX.rd_drop ?_ | refine KX.rd_yes ?_ | refine KX.rd_andV ?_ | refine KX.rd_orV ?_ | refine KX.rd_notV ?_)
local macro_rules | `(tactic| walk_at "hp") => `(tactic| first
  | assumption
  | exact upd_same
  | (refine Eq.trans (upd_ne (by assumption)) ?_; walk_at "hp")
  | (refine Eq.trans (upd_ne (Ne.symm (by assumption))) ?_; walk_at "hp"))
/-! error classes whose __init__ keeps its parameters -/
namespace KX
open PySem PySem.Spec PyProof.Rows L2
/-- a class of errors: its name, the class that has its __init__, the parameters -/
structure ErrRow where
  name : Str
  host : Str
  fields : List Str
def ErrRow.ok (K : PySem.W.Frag) (r : ErrRow) : Bool :=
  exB K (He.ga K r.name) && (isEq (PySem.W.findIn K (.ref (He.ga K r.name)) "__init__") (some (some (.ref (He.ma K (He.ga K r.host) "__init__")))) &&
  (decide (PySem.W.typeIn K (.ref (He.ma K (He.ga K r.host) "__init__")) = some (.type "function")) && r.fields.all fun f => isEq (PySem.W.findIn K (.ref (He.ga K r.name)) f) (some none)))
/-- the error of the row r with the values ys stands at a -/
def ErrAt (K : PySem.W.Frag) (H : Hp) (r : ErrRow) (ys : List V) (a : Addr) : Prop := (r.fields = [] ∧ H a = some (exo a (He.ga K r.name) none)) ∨ ∃ d, ExV H a (He.ga K r.name) d (r.fields.zip ys).reverse
theorem ErrAt.mono {K : PySem.W.Frag} {H H' : Hp} {r : ErrRow} {ys : List V} {a : Addr} (k : ∀ b o, H b = some o → H' b = some o) (h : ErrAt K H r ys a) : ErrAt K H' r ys a := by
  rcases h with ⟨e, h⟩ | ⟨d, h1, h2⟩
  · exact .inl ⟨e, k _ _ h⟩
  · exact .inr ⟨d, k _ _ h1, k _ _ h2⟩
/-- its __init__ -/
def spIni (K : PySem.W.Frag) (r : ErrRow) : Sp := fun vs H Q _ => ∃ (a : Addr) (ys : List V), vs = .ref a :: ys ∧ ys.length = r.fields.length ∧ H a = some (exo a (He.ga K r.name) none) ∧
  ∀ dx H2, (∀ b o, b ≠ a → H b = some o → H2 b = some o) → ExV H2 a (He.ga K r.name) dx (r.fields.zip ys).reverse → Q .non H2
section
variable {P : Program} {w : World} {K : PySem.W.Frag} {mg : Str → Option Value} {base : Heap} {f : Addr} {fd : FuncData} {qual : Str} {params : Arguments} {scope : Scope} {r : ErrRow}
theorem ok_ini1 {x : Str} {p1 p2 p3 p4 : Pos} (F : FunD K "__init__" qual params [.Assign [.Attribute (.Name "self" p1) x p2] (.Name x p3) p4] scope [] [] f fd) (S : FnScope ["self", x] ["self", x] scope)
    (v0 : scope.names.lookup ("self" : Str) = some NameKind.local) (v1 : scope.names.lookup x = some NameKind.local) (d1 : (x == ("__debug__" : Str)) = false) (d2 : (x == ("__classdict__" : Str)) = false) (hr : r.fields = [x]) (T : ExK K (He.ga K r.name))
    (hno : PySem.W.findIn K (.ref (He.ga K r.name)) x = some none) : FnOk P w K mg base CX0 1 f fd ["self", x] (spIni K r) := by
  refine F.ok S (fun vs H Q E h => ?_) (fun cdv A outer s H vs Q E hrm h => ?_)
  · obtain ⟨a, ys, rfl, hl, _⟩ := h
    rw [hr] at hl
    exact congrArg Nat.succ hl
  · obtain ⟨a, ys, rfl, hl, ha, q⟩ := h
    rw [hr] at hl q
    obtain ⟨y, rfl⟩ : ∃ y, ys = [y] := by
      match ys, hl with
      | [y], _ => exact ⟨y, rfl⟩
    refine ⟨_, PSs.nox (pss_one (ps_ost (pv 0 rfl (.inl v0)) (pv 1 rfl (.inl v1) d1 d2))), ?_⟩
    refine ⟨y, rfl, .ref a, rfl, a, _, rfl, T.o, hno, .inl ⟨ha, fun dx hd hne => ?_⟩⟩
    refine q dx _ (fun b o hb e => ?_) ⟨upd_same, ?_⟩
    · rw [upd_ne hb, upd_ne (ne_of_none e hd)]
      exact e
    · rw [upd_ne hne, upd_same]
      rfl
theorem ok_ini2 {x z : Str} {p1 p2 p3 p4 q1 q2 q3 q4 : Pos} (F : FunD K "__init__" qual params [.Assign [.Attribute (.Name "self" p1) x p2] (.Name x p3) p4, .Assign [.Attribute (.Name "self" q1) z q2] (.Name z q3) q4] scope [] [] f fd)
    (S : FnScope ["self", x, z] ["self", x, z] scope) (v0 : scope.names.lookup ("self" : Str) = some NameKind.local) (v1 : scope.names.lookup x = some NameKind.local) (v2 : scope.names.lookup z = some NameKind.local) (d1 : (x == ("__debug__" : Str)) = false) (d2 : (x == ("__classdict__" : Str)) = false)
    (d3 : (z == ("__debug__" : Str)) = false) (d4 : (z == ("__classdict__" : Str)) = false) (hr : r.fields = [x, z]) (T : ExK K (He.ga K r.name)) (hno : PySem.W.findIn K (.ref (He.ga K r.name)) x = some none) (hnz : PySem.W.findIn K (.ref (He.ga K r.name)) z = some none) :
    FnOk P w K mg base CX0 1 f fd ["self", x, z] (spIni K r) := by
  refine F.ok S (fun vs H Q E h => ?_) (fun cdv A outer s H vs Q E hrm h => ?_)
  · obtain ⟨a, ys, rfl, hl, _⟩ := h
    rw [hr] at hl
    exact congrArg Nat.succ hl
  · obtain ⟨a, ys, rfl, hl, ha, q⟩ := h
    rw [hr] at hl q
    obtain ⟨y, y2, rfl⟩ : ∃ y y2, ys = [y, y2] := by
      match ys, hl with
      | [y, y2], _ => exact ⟨y, y2, rfl⟩
    refine ⟨_, PSs.nox (pss_cons (ps_ost (pv 0 rfl (.inl v0)) (pv 1 rfl (.inl v1) d1 d2)) (pss_one (ps_ost (pv 0 rfl (.inl v0)) (pv 2 rfl (.inl v2) d3 d4)))), ?_⟩
    refine ⟨y, rfl, .ref a, rfl, a, _, rfl, T.o, hno, .inl ⟨ha, fun dx hd hne => ?_⟩⟩
    refine ⟨y2, rfl, .ref a, rfl, a, _, rfl, T.o, hnz, .inr ⟨dx, [(x, y)], upd_same, ?_, (show 1 ≤ 900 by decide), ?_⟩⟩
    · rw [upd_ne hne, upd_same]
    · refine q dx _ (fun b o hb e => ?_) ⟨?_, upd_same⟩
      · have hbd : b ≠ dx := ne_of_none e hd
        rw [upd_ne hbd, upd_ne hb, upd_ne hbd]
        exact e
      · rw [upd_ne (Ne.symm hne), upd_same]
end
/-- a class that may be called: by place, by name (in the order turned) -/
structure ErrOk (P : Program) (w : World) (K : PySem.W.Frag) (mg : Str → Option Value) (base : Heap) (r : ErrRow) : Prop where
  here : mg r.name = some (.ref (He.ga K r.name))
  ex : ExK K (He.ga K r.name)
  ini : PySem.W.findIn K (.ref (He.ga K r.name)) "__init__" = some (some (.ref (He.ma K (He.ga K r.host) "__init__")))
  ty : PySem.W.typeIn K (.ref (He.ma K (He.ga K r.host) "__init__")) = some (.type "function")
  no : ∀ f ∈ r.fields, PySem.W.findIn K (.ref (He.ga K r.name)) f = some none
  fn : ∃ fd : FuncData, FnOk P w K mg base CX0 1 (He.ma K (He.ga K r.host) "__init__") fd ("self" :: r.fields) (spIni K r) ∧
    KBn K fd ("self" :: r.fields) (r.fields.length + 1) [] (fun us _ => us) (fun vs _ => vs) ∧ KBn K fd ("self" :: r.fields) 1 r.fields.reverse (fun us ws => us ++ ws.reverse) (fun vs zs => vs ++ zs.reverse)
theorem vals_rev : ∀ {vs : List V} {us : List Value}, Vals vs us → Vals vs.reverse us.reverse
  | _, _, .nil => .nil
  | _, _, .cons r t => by
    rw [List.reverse_cons, List.reverse_cons]
    exact Vals.append (vals_rev t) (.cons r .nil)
section
variable {X : Cx} {r : ErrRow} {x : Str} {p pos : Pos} {e : Expr} {es : List Expr} {ta tk : TA} {te : TE} {kws : List Keyword} {k : Nat}
/-- a new error of the row r -/
def tErr (K : PySem.W.Frag) (r : ErrRow) (turn : Bool) (ta : TA) : TE := fun σ H Q => ta σ H fun vs H1 => vs.length = r.fields.length ∧
  ∀ a H2, H1 a = none → Same H1 H2 → ErrAt K H2 r (if turn then vs.reverse else vs) a → Q (.ref a) H2
theorem PE.weak {t t' : TE} (h : PE X e t) (k : ∀ σ H Q, t' σ H Q → t σ H Q) : PE X e t' := ⟨fun pins s σ H Q I q => h.run pins s σ H Q I (k σ H Q q)⟩
theorem pe_err (O : ErrOk X.prog X.w X.K X.mg X.base r) (hr : Room k X.A) (hk : 2 ≤ k) (hx : Passes CX0 X E0) (hn : r.name = x) (hf : r.fields.length ≤ 1000) (hg : Gl X x) (ha : PA X (e :: es) ta)
    (hdb : (x == ("__debug__" : Str)) = false := by decide) (he : starEach (e :: es) X.env = (false, eval e X.env) :: starEach es X.env := by rfl) (hpl : (backTo pos (starEach es X.env)).any (·.1) = false := by rfl) :
    PE X (.Call (.Name x p) (e :: es) [] pos) (tErr X.K r false ta) := by
  subst hn
  obtain ⟨fd, F, b, _⟩ := O.fn
  refine ⟨fun pins s σ H Q I h => ?_⟩
  refine wpAny_Call_Name_kw (ld_glob I hg O.here ?_ hdb)
  refine PySem.W.callWith_K (h₀ := X.base) I.ok.mod.kin O.ex.o.kC (thn (ha.run pos pins s σ H _ I h) fun us s1 hh => ?_) he hpl
  obtain ⟨vs, H1, I1, rv, hl, q⟩ := hh
  refine ⟨I1.kIn, ?_⟩
  refine run_newX (ws := []) (zs := []) O.ex.o O.ini O.ty F (hr.mono hk) b hx I1 rv .nil hl rfl (by omega) fun a ha => ?_
  refine ⟨a, vs, rfl, hl, upd_same, fun dx H2 kk ev => ⟨rfl, ?_⟩⟩
  refine q a H2 ha (fun b o z => ?_) (.inr ⟨dx, ev⟩)
  have hb : b ≠ a := ne_of_none z ha
  exact kk b o hb (by rw [upd_ne hb]; exact z)
theorem pe_errK (O : ErrOk X.prog X.w X.K X.mg X.base r) (hr : Room k X.A) (hk : 2 ≤ k) (hx : Passes CX0 X E0) (hn : r.name = x) (hg : Gl X x) (hkw : PK X kws tk)
    (hall : (backToKw pos (keywordEach kws X.env)).all (·.1.isSome) = true := by rfl) (hks : (backToKw pos (keywordEach kws X.env)).filterMap (·.1) = r.fields.reverse := by rfl)
    (hdb : (x == ("__debug__" : Str)) = false := by decide) (hpl : ((backTo pos (starEach [] X.env)).any (·.1) || (backToKw pos (keywordEach kws X.env)).any (·.1.isNone)) = false := by rfl) :
    PE X (.Call (.Name x p) [] kws pos) (tErr X.K r true tk) := by
  subst hn
  obtain ⟨fd, F, _, b⟩ := O.fn
  refine ⟨fun pins s σ H Q I h => ?_⟩
  refine wpAny_Call_Name_kw (ld_glob I hg O.here ?_ hdb)
  refine PySem.W.callWith_KW0 (h₀ := X.base) I.ok.mod.kin O.ex.o.kC hall (thn (hkw.run pos pins s σ H _ I h) fun ws s1 hh => ?_) hpl
  obtain ⟨zs, H1, I1, rz, hl, q⟩ := hh
  refine ⟨I1.kIn, ?_⟩
  rw [hks]
  refine run_newX (m := 0) (vs := []) (us := []) O.ex.o O.ini O.ty F (hr.mono hk) b hx I1 .nil rz rfl (by rw [List.length_reverse]; exact hl) (Nat.zero_le _) fun a ha => ?_
  refine ⟨a, zs.reverse, rfl, by rw [List.length_reverse]; exact hl, upd_same, fun dx H2 kk ev => ⟨rfl, ?_⟩⟩
  refine q a H2 ha (fun b o z => ?_) (.inr ⟨dx, ev⟩)
  have hb : b ≠ a := ne_of_none z ha
  exact kk b o hb (by rw [upd_ne hb]; exact z)
end
section
variable {P : Program} {w : World} {K : PySem.W.Frag} {mg : Str → Option Value} {base : Heap} {fd : FuncData} {qual : Str} {st : Stmt} {r : ErrRow}
theorem ErrRow.parts (h : r.ok K = true) : ExK K (He.ga K r.name) ∧ PySem.W.findIn K (.ref (He.ga K r.name)) "__init__" = some (some (.ref (He.ma K (He.ga K r.host) "__init__"))) ∧
    PySem.W.typeIn K (.ref (He.ma K (He.ga K r.host) "__init__")) = some (.type "function") ∧ ∀ f ∈ r.fields, PySem.W.findIn K (.ref (He.ga K r.name)) f = some none := by
  unfold ErrRow.ok isEq at h
  simp only [Bool.and_eq_true, decide_eq_true_eq, List.all_eq_true] at h
  exact ⟨exB_ok h.1, h.2.1, h.2.2.1, h.2.2.2⟩
theorem mk1 {x : Str} {p1 p2 p3 p4 : Pos} (g : mg r.name = some (.ref (He.ga K r.name))) (ok : r.ok K = true) (hf : r.fields = [x]) (F : FunD K "__init__" qual (defArgs st) (defBody st) (defScope st) [] [] (He.ma K (He.ga K r.host) "__init__") fd)
    (hb : defBody st = [.Assign [.Attribute (.Name "self" p1) x p2] (.Name x p3) p4]) (S : FnScope ["self", x] ["self", x] (defScope st)) (v0 : (defScope st).names.lookup ("self" : Str) = some NameKind.local) (v1 : (defScope st).names.lookup x = some NameKind.local)
    (d1 : (x == ("__debug__" : Str)) = false) (d2 : (x == ("__classdict__" : Str)) = false)
    (b1 : ∀ (kV doc pm : Value) (an : Option Addr) (cdv ct : Value) (us : List Value), us.length = 2 → bindArgs (PySem.W.fnOf "__init__" qual (defArgs st) (defBody st) (defScope st) .none kV doc pm an cdv ct) ⟨us, []⟩ = pure ((["self", x] : List Str).zip us))
    (b2 : ∀ (kV doc pm : Value) (an : Option Addr) (cdv ct u v : Value), bindArgs (PySem.W.fnOf "__init__" qual (defArgs st) (defBody st) (defScope st) .none kV doc pm an cdv ct) ⟨[u], [(x, v)]⟩ = pure [(("self" : Str), u), (x, v)]) : ErrOk P w K mg base r := by
  obtain ⟨T, h1, h2, h3⟩ := ErrRow.parts ok
  refine ⟨g, T, h1, h2, h3, fd, ?_, ?_, ?_⟩
  · rw [hf]
    rw [hb] at F
    exact ok_ini1 F S v0 v1 d1 d2 hf T (h3 x (by rw [hf]; exact List.mem_cons_self ..))
  · rw [hf]
    obtain ⟨oc, od, dV, kV, doc, pm, an, cdv, ct, osl, rfl, lk, hcd, hD, hK⟩ := F.ex
    rcases hD with ⟨_, rfl⟩ | ⟨z, _⟩
    · refine ⟨fun s us ws _ l1 l2 => ?_, fun r1 _ => r1⟩
      have e : ws = [] := List.length_eq_zero_iff.mp l2
      subst e
      exact BindsTo.of_eq (b1 kV doc pm an cdv ct us l1)
    · exact absurd rfl z
  · rw [hf]
    obtain ⟨oc, od, dV, kV, doc, pm, an, cdv, ct, osl, rfl, lk, hcd, hD, hK⟩ := F.ex
    rcases hD with ⟨_, rfl⟩ | ⟨z, _⟩
    · refine ⟨fun s us ws _ l1 l2 => ?_, fun r1 r2 => Vals.append r1 (vals_rev r2)⟩
      match us, ws, l1, l2 with
      | [u], [v], _, _ => exact BindsTo.of_eq (b2 kV doc pm an cdv ct u v)
    · exact absurd rfl z
theorem mk2 {x y : Str} {p1 p2 p3 p4 q1 q2 q3 q4 : Pos} (g : mg r.name = some (.ref (He.ga K r.name))) (ok : r.ok K = true) (hf : r.fields = [x, y]) (F : FunD K "__init__" qual (defArgs st) (defBody st) (defScope st) [] [] (He.ma K (He.ga K r.host) "__init__") fd)
    (hb : defBody st = [.Assign [.Attribute (.Name "self" p1) x p2] (.Name x p3) p4, .Assign [.Attribute (.Name "self" q1) y q2] (.Name y q3) q4]) (S : FnScope ["self", x, y] ["self", x, y] (defScope st))
    (v0 : (defScope st).names.lookup ("self" : Str) = some NameKind.local) (v1 : (defScope st).names.lookup x = some NameKind.local) (v2 : (defScope st).names.lookup y = some NameKind.local)
    (d1 : (x == ("__debug__" : Str)) = false) (d2 : (x == ("__classdict__" : Str)) = false) (d3 : (y == ("__debug__" : Str)) = false) (d4 : (y == ("__classdict__" : Str)) = false)
    (b1 : ∀ (kV doc pm : Value) (an : Option Addr) (cdv ct : Value) (us : List Value), us.length = 3 → bindArgs (PySem.W.fnOf "__init__" qual (defArgs st) (defBody st) (defScope st) .none kV doc pm an cdv ct) ⟨us, []⟩ = pure ((["self", x, y] : List Str).zip us))
    (b2 : ∀ (kV doc pm : Value) (an : Option Addr) (cdv ct u v z : Value), bindArgs (PySem.W.fnOf "__init__" qual (defArgs st) (defBody st) (defScope st) .none kV doc pm an cdv ct) ⟨[u], [(y, v), (x, z)]⟩ = pure [(("self" : Str), u), (x, z), (y, v)]) : ErrOk P w K mg base r := by
  obtain ⟨T, h1, h2, h3⟩ := ErrRow.parts ok
  refine ⟨g, T, h1, h2, h3, fd, ?_, ?_, ?_⟩
  · rw [hf]
    rw [hb] at F
    refine ok_ini2 F S v0 v1 v2 d1 d2 d3 d4 hf T (h3 x ?_) (h3 y ?_)
    · rw [hf]
      exact List.mem_cons_self ..
    · rw [hf]
      exact List.mem_cons_of_mem _ (List.mem_cons_self ..)
  · rw [hf]
    obtain ⟨oc, od, dV, kV, doc, pm, an, cdv, ct, osl, rfl, lk, hcd, hD, hK⟩ := F.ex
    rcases hD with ⟨_, rfl⟩ | ⟨z, _⟩
    · refine ⟨fun s us ws _ l1 l2 => ?_, fun r1 _ => r1⟩
      have e : ws = [] := List.length_eq_zero_iff.mp l2
      subst e
      exact BindsTo.of_eq (b1 kV doc pm an cdv ct us l1)
    · exact absurd rfl z
  · rw [hf]
    obtain ⟨oc, od, dV, kV, doc, pm, an, cdv, ct, osl, rfl, lk, hcd, hD, hK⟩ := F.ex
    rcases hD with ⟨_, rfl⟩ | ⟨z, _⟩
    · refine ⟨fun s us ws _ l1 l2 => ?_, fun r1 r2 => Vals.append r1 (vals_rev r2)⟩
      match us, ws, l1, l2 with
      | [u], [v, z], _, _ => exact BindsTo.of_eq (b2 kV doc pm an cdv ct u v z)
    · exact absurd rfl z
end
/-! ### lists of errors, read from the left -/
/-- the values vs are the errors of these rows with these values -/
abbrev ErrsAt (K : PySem.W.Frag) (H : Hp) (rs : List (ErrRow × List V)) (vs : List V) : Prop := Paired (fun (p : ErrRow × List V) (v : V) => ∃ a, v = .ref a ∧ ErrAt K H p.1 p.2 a) rs vs
theorem ErrsAt.mono {K : PySem.W.Frag} {H H' : Hp} (k : Same H H') {rs : List (ErrRow × List V)} {vs : List V} (h : ErrsAt K H rs vs) : ErrsAt K H' rs vs :=
  Paired.mapP h fun p v ⟨a, e, z⟩ => ⟨a, e, ErrAt.mono k z⟩
theorem ErrsAt.append {K : PySem.W.Frag} {H : Hp} : ∀ {rs qs : List (ErrRow × List V)} {vs us : List V}, ErrsAt K H rs vs → ErrsAt K H qs us → ErrsAt K H (rs ++ qs) (vs ++ us)
  | _, _, _, _, .nil, z => z
  | _, _, _, _, .cons r t, z => .cons r (ErrsAt.append t z)
theorem ErrsAt.get {K : PySem.W.Frag} {H : Hp} : ∀ {rs : List (ErrRow × List V)} {vs : List V} {i : Nat} {v : V}, ErrsAt K H rs vs → vs[i]? = some v → ∃ p a, rs[i]? = some p ∧ v = .ref a ∧ ErrAt K H p.1 p.2 a
  | _, _, _, _, .nil, e => by simp at e
  | _, _, 0, v, .cons (a := p) ⟨a, e, z⟩ _, h => ⟨p, a, rfl, by rw [← Option.some.inj h]; exact e, z⟩
  | _, _, i + 1, v, .cons _ t, h => by
    obtain ⟨p, a, e, r⟩ := ErrsAt.get (i := i) (v := v) t (by simpa using h)
    exact ⟨p, a, by simpa using e, r⟩
/-- an argument list of errors -/
def TelA (K : PySem.W.Frag) (tr : TA) (σ : L2.St) (rs : List (ErrRow × List V)) : Prop := ∀ (H : Hp) (Q : List V → Hp → Prop), (∀ vs H1, Same H H1 → ErrsAt K H1 rs vs → Q vs H1) → tr σ H Q
theorem tel_nil {K : PySem.W.Frag} {σ : L2.St} : TelA K tNil σ [] := fun H Q q => q [] H (Same.refl H) .nil
theorem tel_cons {K : PySem.W.Frag} {σ : L2.St} {r : ErrRow} {turn : Bool} {ta tr : TA} {ys : List V} {rs : List (ErrRow × List V)} (ha : ∀ (H : Hp) (Q : List V → Hp → Prop), Q (if turn then ys.reverse else ys) H → ta σ H Q) (hl : ys.length = r.fields.length)
    (hr : TelA K tr σ rs) : TelA K (tCons (tErr K r turn ta) tr) σ ((r, ys) :: rs) := fun H Q q => by
  refine ha H _ ⟨?_, fun a H2 hn k z => ?_⟩
  · split
    · rw [List.length_reverse, hl]
    · exact hl
  · have e : (if turn = true then (if turn = true then ys.reverse else ys).reverse else (if turn = true then ys.reverse else ys)) = ys := by
      cases turn
      · rfl
      · exact List.reverse_reverse ys
    rw [e] at z
    exact hr H2 _ fun vs H1 k2 z2 => q (.ref a :: vs) H1 (k.trans k2) (.cons ⟨a, rfl, ErrAt.mono k2 z⟩ z2)
/-- C(), a class without an __init__ of its own -/
theorem pe_err0 {X : Cx} {r : ErrRow} {x : Str} {p pos : Pos} {bB : List Value} {B nw ini : String} (F : ExcBaseFacts B nw ini bB) (q : PySem.W.excIn X.K (He.ga X.K r.name) bB nw = true) (hm : X.mg r.name = some (.ref (He.ga X.K r.name)))
    (kC : PySem.W.keepIn X.K (.ref (He.ga X.K r.name)) = true) (hn : r.name = x) (hf : r.fields = []) (hg : Gl X x) (hdb : (x == ("__debug__" : Str)) = false := by decide) : PE X (.Call (.Name x p) [] [] pos) (tErr X.K r false tNil) := by
  subst hn
  refine PE.weak (pe_newX0 F q hg hm kC hdb) fun σ H Q h a ha => ?_
  obtain ⟨_, h⟩ := h
  exact h a _ ha (fun b o z => by rw [upd_ne (ne_of_none z ha)]; exact z) (.inl ⟨hf, upd_same⟩)
/-! ### isinstance of errors -/
theorem ErrAt.is {K : PySem.W.Frag} {H : Hp} {r : ErrRow} {ys : List V} {a : Addr} (h : ErrAt K H r ys a) : ∃ d, H a = some (exo a (He.ga K r.name) d) ∧ ∀ dd, d = some dd → ∃ fs, H dd = some (exd dd fs) := by
  rcases h with ⟨_, h⟩ | ⟨d, h1, h2⟩
  · exact ⟨none, h, fun _ z => nomatch z⟩
  · exact ⟨some d, h1, fun dd z => by cases z; exact ⟨_, h2⟩⟩
theorem rd_isX {K : PySem.W.Frag} {H : Hp} {Q : VK} {r : ErrRow} {ys : List V} {a : Addr} {c : V} {cv : Value} {b : Bool} (h : ErrAt K H r ys a) (T : ExK K (He.ga K r.name)) (hcv : ∀ u, RelV c u → u = cv) (hk : PySem.W.kitOne K (.ref (He.ga K r.name)) cv = some b)
    (q : Q (.bl b) H) : rIsX K [.ref a, c] H Q := by
  obtain ⟨d, h1, h2⟩ := h.is
  exact ⟨a, _, d, c, cv, b, rfl, h1, h2, hcv, T.i, hk, q⟩
/-- e.n -/
def rExf (K : PySem.W.Frag) (n : Str) (x : V) (H1 : Hp) (Q : VK) : Prop := ∃ (a C d : Addr) (fs : List (Str × V)) (v : V), x = .ref a ∧ ExV H1 a C d fs ∧ XfC K C ∧ PySem.W.findIn K (.ref C) n = some none ∧ fs.lookup n = some v ∧ Q v H1
theorem rd_tExf {K : PySem.W.Frag} {n : Str} {te : TE} {σ : L2.St} {H : Hp} {Q : VK} (q : te σ H fun x H1 => rExf K n x H1 Q) : tExf K n te σ H Q := q
theorem rd_exf {K : PySem.W.Frag} {H : Hp} {Q : VK} {r : ErrRow} {ys : List V} {a : Addr} {n : Str} {v : V} (h : ErrAt K H r ys a) (T : ExK K (He.ga K r.name)) (hno : PySem.W.findIn K (.ref (He.ga K r.name)) n = some none) (hl : ((r.fields.zip ys).reverse).lookup n = some v)
    (hne : r.fields ≠ []) (q : Q v H) : rExf K n (.ref a) H Q := by
  rcases h with ⟨z, _⟩ | ⟨d, h⟩
  · exact absurd z hne
  · exact ⟨a, _, d, _, v, rfl, h, T.x, hno, hl, q⟩
end KX
/-! the head's facts, with one more truth and the table of modules among what is looked at -/
namespace KX
open PySem PySem.Spec PyProof.Rows L2
abbrev AlZ : Type := He.AlD × Bool
def frZ (n : Nat) (g : Addr → Option Obj) : PySem.W.Frag := He.frG g (sysModules :: He.asD g n)
def obsZ (n : Nat) (fa : List He.Fa) (fn : List He.DefD) (ex : PySem.W.Frag → Bool) (g : Addr → Option Obj) : AlZ :=
  (He.obsD fa fn (frZ n g), (((frZ n g).lookup sysModules).isSome && ex (frZ n g)))
def SaysZ (fa : List He.Fa) (fn : List He.DefD) (ex : PySem.W.Frag → Bool) (K : PySem.W.Frag) : Prop := He.SaysD fa fn K ∧ (K.lookup sysModules).isSome = true ∧ ex K = true
def hookZ (n : Nat) (fa : List He.Fa) (fn : List He.DefD) (ex : PySem.W.Frag → Bool) : PySem.W.Hook where
  α := AlZ
  obs := fun s => obsZ n fa fn ex s.heap.get?
  val := fun _ => (He.valD fn, true)
  says := fun _ h => ∃ K : PySem.W.Frag, K.In h ∧ SaysZ fa fn ex K
  of := fun _ s e => ⟨frZ n s.heap.get?, He.frG_in, congrArg Prod.fst e, Bool.and_eq_true_iff.mp (congrArg Prod.snd e)⟩
  keeps := fun _ _ _ ⟨K, hK, c⟩ k => ⟨K, PySem.W.Frag.In.keeps hK k, c⟩
theorem obsZ_eq {n : Nat} {fa : List He.Fa} {fn : List He.DefD} {ex : PySem.W.Frag → Bool} {g : Addr → Option Obj} {s : Shared} (h : ∀ a, g a = s.heap.get? a) :
    obsZ n fa fn ex g = (hookZ n fa fn ex).obs s := by
  have e : g = s.heap.get? := funext h
  subst e
  rfl
theorem factsZ {fa : List He.Fa} {fn : List He.DefD} {K : PySem.W.Frag} (c : He.SaysD fa fn K) {f : He.Fa} (h : f ∈ fa) : f.ok K = true := by
  have c1 := (He.ba (show ((fa.all fun f => f.ok K) && fn.all fun d => d.ok K) = true from congrArg (fun z : He.AlD => z.1) c)).1
  exact List.all_eq_true.mp c1 f h
end KX
namespace K0
open PySem PySem.Spec PyProof.Rows L2 KX
abbrev topZ (i : Nat) : Stmt := PySem.Challenge.pw_scaleborn_k00_errors_keep_their_fields.main.body.getD i (.Pass ⟨0, 0, 0, 0⟩)
/-- the rows of the classes that have parameters, in the order of the law's lists; the last one: the base of two of them -/
def r0 : ErrRow := ⟨"BadRatio", "BadRatio", ["part"]⟩
def r1 : ErrRow := ⟨"BadBalance", "BadBalance", ["part"]⟩
def r2 : ErrRow := ⟨"BadComparison", "BadComparison", ["part"]⟩
def r3 : ErrRow := ⟨"BadPair", "BadPair", ["part"]⟩
def r4 : ErrRow := ⟨"BadSort", "BadSort", ["part"]⟩
def r5 : ErrRow := ⟨"BadScale", "BadScale", ["part"]⟩
def r6 : ErrRow := ⟨"BadBook", "BadBook", ["part"]⟩
def r7 : ErrRow := ⟨"BadSaying", "BadSaying", ["part"]⟩
def r8 : ErrRow := ⟨"BadHands", "BadHands", ["part"]⟩
def r9 : ErrRow := ⟨"BadNumber", "BadNumber", ["part"]⟩
def r10 : ErrRow := ⟨"BadPaper", "BadPaper", ["part"]⟩
def r11 : ErrRow := ⟨"BadLive", "BadLive", ["part"]⟩
def r12 : ErrRow := ⟨"BadDesk", "BadDesk", ["part"]⟩
def r13 : ErrRow := ⟨"BadOrder", "BadOrder", ["part"]⟩
def r14 : ErrRow := ⟨"NoThing", "Missing", ["name"]⟩
def r15 : ErrRow := ⟨"NoName", "Missing", ["name"]⟩
def r16 : ErrRow := ⟨"Twice", "Twice", ["name"]⟩
def r17 : ErrRow := ⟨"NoPair", "NoPair", ["pair"]⟩
def r18 : ErrRow := ⟨"Unlike", "Unlike", ["what"]⟩
def r19 : ErrRow := ⟨"Impossible", "Impossible", ["paper"]⟩
def r20 : ErrRow := ⟨"NotAbove", "NotAbove", ["scale"]⟩
def r21 : ErrRow := ⟨"NotCarried", "NotCarried", ["one", "other"]⟩
def r22 : ErrRow := ⟨"Hanging", "Hanging", ["kept", "broken"]⟩
def r23 : ErrRow := ⟨"TooMany", "TooMany", ["what", "most"]⟩
def r24 : ErrRow := ⟨"BadText", "BadText", ["line", "word"]⟩
def r25 : ErrRow := ⟨"BadLine", "BadLine", ["line", "error"]⟩
def r26 : ErrRow := ⟨"Missing", "Missing", ["name"]⟩
def rows : List ErrRow := [r0, r1, r2, r3, r4, r5, r6, r7, r8, r9, r10, r11, r12, r13, r14, r15, r16, r17, r18, r19, r20, r21, r22, r23, r24, r25, r26]
def kin27 : List Str := (["BadRatio", "BadBalance", "BadComparison", "BadPair", "BadSort", "BadScale", "BadBook", "BadSaying", "BadHands", "BadNumber", "BadPaper", "BadLive", "BadDesk", "BadOrder"] : List Str) ++ (["NoThing", "NoName", "Twice", "NoPair", "Unlike", "Impossible", "NotAbove", "NotCarried", "Hanging", "TooMany", "BadText", "BadLine", "Nothing"] : List Str)
def all28 : List Str := kin27 ++ (["Missing"] : List Str)
def asked : List Str := kin27 ++ (["Missing", "ScaleError"] : List Str)
def plainB : List String := ["ValueError", "LookupError", "TypeError", "ArithmeticError", "RuntimeError", "AttributeError"]
def freeN : List Str := ["int", "len", "abs", "isinstance", "repr", "enumerate", "range", "ValueError", "LookupError", "TypeError", "ArithmeticError", "RuntimeError", "AttributeError"]
abbrev cScaleError : Stmt := topZ 1
abbrev cBadRatio : Stmt := topZ 2
abbrev cBadBalance : Stmt := topZ 3
abbrev cBadComparison : Stmt := topZ 4
abbrev cBadPair : Stmt := topZ 5
abbrev cBadSort : Stmt := topZ 6
abbrev cBadScale : Stmt := topZ 7
abbrev cBadBook : Stmt := topZ 8
abbrev cBadSaying : Stmt := topZ 9
abbrev cBadHands : Stmt := topZ 10
abbrev cBadOrder : Stmt := topZ 11
abbrev cBadNumber : Stmt := topZ 12
abbrev cBadPaper : Stmt := topZ 13
abbrev cBadLive : Stmt := topZ 14
abbrev cBadDesk : Stmt := topZ 15
abbrev cMissing : Stmt := topZ 16
abbrev cNoThing : Stmt := topZ 17
abbrev cNoName : Stmt := topZ 18
abbrev cNoPair : Stmt := topZ 19
abbrev cTwice : Stmt := topZ 20
abbrev cUnlike : Stmt := topZ 21
abbrev cImpossible : Stmt := topZ 22
abbrev cNotAbove : Stmt := topZ 23
abbrev cNotCarried : Stmt := topZ 24
abbrev cHanging : Stmt := topZ 25
abbrev cNothing : Stmt := topZ 26
abbrev cTooMany : Stmt := topZ 27
abbrev cBadText : Stmt := topZ 28
abbrev cBadLine : Stmt := topZ 29
abbrev sTill : Stmt := topZ 31
abbrev sCoin : Stmt := topZ 32
abbrev sOf : Stmt := topZ 33
abbrev sParts : Stmt := topZ 34
abbrev sOthers : Stmt := topZ 35
abbrev sOthersNamed : Stmt := topZ 36
abbrev sFields : Stmt := topZ 37
abbrev sKin : Stmt := topZ 38
abbrev sStandsRight : Stmt := topZ 39
abbrev sAllRight : Stmt := topZ 40
abbrev sLaw : Stmt := topZ 41
def d0 : He.DefD := ⟨("BadRatio", some "__init__"), "__init__", "BadRatio.__init__", defArgs (inClass cBadRatio 0), defBody (inClass cBadRatio 0), defScope (inClass cBadRatio 0), [], []⟩
def d1 : He.DefD := ⟨("BadBalance", some "__init__"), "__init__", "BadBalance.__init__", defArgs (inClass cBadBalance 0), defBody (inClass cBadBalance 0), defScope (inClass cBadBalance 0), [], []⟩
def d2 : He.DefD := ⟨("BadComparison", some "__init__"), "__init__", "BadComparison.__init__", defArgs (inClass cBadComparison 0), defBody (inClass cBadComparison 0), defScope (inClass cBadComparison 0), [], []⟩
def d3 : He.DefD := ⟨("BadPair", some "__init__"), "__init__", "BadPair.__init__", defArgs (inClass cBadPair 0), defBody (inClass cBadPair 0), defScope (inClass cBadPair 0), [], []⟩
def d4 : He.DefD := ⟨("BadSort", some "__init__"), "__init__", "BadSort.__init__", defArgs (inClass cBadSort 0), defBody (inClass cBadSort 0), defScope (inClass cBadSort 0), [], []⟩
def d5 : He.DefD := ⟨("BadScale", some "__init__"), "__init__", "BadScale.__init__", defArgs (inClass cBadScale 0), defBody (inClass cBadScale 0), defScope (inClass cBadScale 0), [], []⟩
def d6 : He.DefD := ⟨("BadBook", some "__init__"), "__init__", "BadBook.__init__", defArgs (inClass cBadBook 0), defBody (inClass cBadBook 0), defScope (inClass cBadBook 0), [], []⟩
def d7 : He.DefD := ⟨("BadSaying", some "__init__"), "__init__", "BadSaying.__init__", defArgs (inClass cBadSaying 0), defBody (inClass cBadSaying 0), defScope (inClass cBadSaying 0), [], []⟩
def d8 : He.DefD := ⟨("BadHands", some "__init__"), "__init__", "BadHands.__init__", defArgs (inClass cBadHands 0), defBody (inClass cBadHands 0), defScope (inClass cBadHands 0), [], []⟩
def d9 : He.DefD := ⟨("BadNumber", some "__init__"), "__init__", "BadNumber.__init__", defArgs (inClass cBadNumber 0), defBody (inClass cBadNumber 0), defScope (inClass cBadNumber 0), [], []⟩
def d10 : He.DefD := ⟨("BadPaper", some "__init__"), "__init__", "BadPaper.__init__", defArgs (inClass cBadPaper 0), defBody (inClass cBadPaper 0), defScope (inClass cBadPaper 0), [], []⟩
def d11 : He.DefD := ⟨("BadLive", some "__init__"), "__init__", "BadLive.__init__", defArgs (inClass cBadLive 0), defBody (inClass cBadLive 0), defScope (inClass cBadLive 0), [], []⟩
def d12 : He.DefD := ⟨("BadDesk", some "__init__"), "__init__", "BadDesk.__init__", defArgs (inClass cBadDesk 0), defBody (inClass cBadDesk 0), defScope (inClass cBadDesk 0), [], []⟩
def d13 : He.DefD := ⟨("BadOrder", some "__init__"), "__init__", "BadOrder.__init__", defArgs (inClass cBadOrder 0), defBody (inClass cBadOrder 0), defScope (inClass cBadOrder 0), [], []⟩
def d14 : He.DefD := ⟨("Missing", some "__init__"), "__init__", "Missing.__init__", defArgs (inClass cMissing 0), defBody (inClass cMissing 0), defScope (inClass cMissing 0), [], []⟩
def d15 : He.DefD := ⟨("Twice", some "__init__"), "__init__", "Twice.__init__", defArgs (inClass cTwice 0), defBody (inClass cTwice 0), defScope (inClass cTwice 0), [], []⟩
def d16 : He.DefD := ⟨("NoPair", some "__init__"), "__init__", "NoPair.__init__", defArgs (inClass cNoPair 0), defBody (inClass cNoPair 0), defScope (inClass cNoPair 0), [], []⟩
def d17 : He.DefD := ⟨("Unlike", some "__init__"), "__init__", "Unlike.__init__", defArgs (inClass cUnlike 0), defBody (inClass cUnlike 0), defScope (inClass cUnlike 0), [], []⟩
def d18 : He.DefD := ⟨("Impossible", some "__init__"), "__init__", "Impossible.__init__", defArgs (inClass cImpossible 0), defBody (inClass cImpossible 0), defScope (inClass cImpossible 0), [], []⟩
def d19 : He.DefD := ⟨("NotAbove", some "__init__"), "__init__", "NotAbove.__init__", defArgs (inClass cNotAbove 0), defBody (inClass cNotAbove 0), defScope (inClass cNotAbove 0), [], []⟩
def d20 : He.DefD := ⟨("NotCarried", some "__init__"), "__init__", "NotCarried.__init__", defArgs (inClass cNotCarried 0), defBody (inClass cNotCarried 0), defScope (inClass cNotCarried 0), [], []⟩
def d21 : He.DefD := ⟨("Hanging", some "__init__"), "__init__", "Hanging.__init__", defArgs (inClass cHanging 0), defBody (inClass cHanging 0), defScope (inClass cHanging 0), [], []⟩
def d22 : He.DefD := ⟨("TooMany", some "__init__"), "__init__", "TooMany.__init__", defArgs (inClass cTooMany 0), defBody (inClass cTooMany 0), defScope (inClass cTooMany 0), [], []⟩
def d23 : He.DefD := ⟨("BadText", some "__init__"), "__init__", "BadText.__init__", defArgs (inClass cBadText 0), defBody (inClass cBadText 0), defScope (inClass cBadText 0), [], []⟩
def d24 : He.DefD := ⟨("BadLine", some "__init__"), "__init__", "BadLine.__init__", defArgs (inClass cBadLine 0), defBody (inClass cBadLine 0), defScope (inClass cBadLine 0), [], []⟩
def d25 : He.DefD := ⟨("_law_till", none), "_law_till", "_law_till", defArgs sTill, defBody sTill, defScope sTill, [], []⟩
def d26 : He.DefD := ⟨("_law_coin", none), "_law_coin", "_law_coin", defArgs sCoin, defBody sCoin, defScope sCoin, [], []⟩
def d27 : He.DefD := ⟨("_law_of", none), "_law_of", "_law_of", defArgs sOf, defBody sOf, defScope sOf, [], []⟩
def d28 : He.DefD := ⟨("_law_parts", none), "_law_parts", "_law_parts", defArgs sParts, defBody sParts, defScope sParts, [], []⟩
def d29 : He.DefD := ⟨("_law_others", none), "_law_others", "_law_others", defArgs sOthers, defBody sOthers, defScope sOthers, [], []⟩
def d30 : He.DefD := ⟨("_law_others_named", none), "_law_others_named", "_law_others_named", defArgs sOthersNamed, defBody sOthersNamed, defScope sOthersNamed, [], []⟩
def d31 : He.DefD := ⟨("_law_fields", none), "_law_fields", "_law_fields", defArgs sFields, defBody sFields, defScope sFields, [], []⟩
def d32 : He.DefD := ⟨("_law_kin", none), "_law_kin", "_law_kin", defArgs sKin, defBody sKin, defScope sKin, [], []⟩
def d33 : He.DefD := ⟨("_law_stands_right", none), "_law_stands_right", "_law_stands_right", defArgs sStandsRight, defBody sStandsRight, defScope sStandsRight, [], []⟩
def d34 : He.DefD := ⟨("_law_all_right", none), "_law_all_right", "_law_all_right", defArgs sAllRight, defBody sAllRight, defScope sAllRight, [], []⟩
def d35 : He.DefD := ⟨("law", none), "law", "law", defArgs sLaw, defBody sLaw, defScope sLaw, [], []⟩
def fn : List He.DefD := [d0, d1, d2, d3, d4, d5, d6, d7, d8, d9, d10, d11, d12, d13, d14, d15, d16, d17, d18, d19, d20, d21, d22, d23, d24, d25, d26, d27, d28, d29, d30, d31, d32, d33, d34, d35]
def fa : List He.Fa := (((["BadRatio", "BadBalance", "BadComparison", "BadPair", "BadSort", "BadScale", "BadBook", "BadSaying", "BadHands", "BadNumber", "BadPaper", "BadLive", "BadDesk", "BadOrder", "NoThing", "NoName", "Twice", "NoPair", "Unlike", "Impossible"] : List Str) ++ (["NotAbove", "NotCarried", "Hanging", "TooMany", "BadText", "BadLine", "Nothing", "Missing", "ScaleError", "_law_till", "_law_coin", "_law_of", "_law_parts", "_law_others", "_law_others_named", "_law_fields", "_law_kin", "_law_stands_right", "_law_all_right", "law"] : List Str) : List Str).map He.Fa.glo) ++ freeN.map He.Fa.free
def loose : List Str := (["ScaleError", "BadRatio", "BadBalance", "BadComparison", "BadPair", "BadSort", "BadScale", "BadBook", "BadSaying", "BadHands", "BadOrder", "BadNumber", "BadPaper", "BadLive", "BadDesk", "Missing", "NoThing", "NoName", "NoPair", "Twice", "Unlike", "Impossible", "NotAbove", "NotCarried", "Hanging"] : List Str) ++ (["Nothing", "TooMany", "BadText", "BadLine", "_law_till", "_law_coin", "_law_of", "_law_parts", "_law_others", "_law_others_named", "_law_fields", "_law_kin", "_law_stands_right", "_law_all_right"] : List Str)
/-- whether an error of the class n is one of the class c -/
def isKin (n c : Str) : Bool := n == c || (c == "ScaleError" || (c == "Missing" && (n == "NoThing" || n == "NoName")))
def ex (K : PySem.W.Frag) : Bool :=
  rows.all (ErrRow.ok K) && (exB K (He.ga K "Nothing") && (PySem.W.excIn K (He.ga K "Nothing") He.veBase "ValueError.__new__" &&
  ((all28.all fun n => asked.all fun c => decide (PySem.W.kitOne K (.ref (He.ga K n)) (.ref (He.ga K c)) = some (isKin n c))) &&
   (all28.all fun n => plainB.all fun c => decide (PySem.W.kitOne K (.ref (He.ga K n)) (.type c) = some (c == "ValueError"))))))
abbrev R : PySem.W.OpenRow := PySem.W.OpenLaw.row PySem.Challenge.rw_scaleborn_k00_errors_keep_their_fields
abbrev hk : PySem.W.Hook := hookZ 5 fa fn ex
def ob (s : PySem.W.SharedT) : AlZ := obsZ 5 fa fn ex (HandSHeadRun.getT s)
theorem ob_eq (s : PySem.W.SharedT) : ob s = hk.obs s.abs := obsZ_eq (HandSHeadRun.getT_eq s)
theorem run (w : World) : HandSHeadRun.RunEq R (PySem.W.view R.prog [41]) hk ob 100000 loose w := by
  intro os
  kernel_rfl
section
variable {P : Program} {w : World} {K : PySem.W.Frag} {mg : Str → Option Value} {base : Heap}
theorem e0 (c : He.SaysD fa fn K) (ok : r0.ok K = true) (g : mg r0.name = some (.ref (He.ga K r0.name))) : ErrOk P w K mg base r0 := by
  obtain ⟨fd, F⟩ := c.def_ 0 (d := d0) rfl
  exact mk1 (st := inClass cBadRatio 0) (qual := "BadRatio.__init__") g ok rfl F rfl ⟨rfl, rfl, rfl, by decide +kernel, rfl, by decide +kernel, by decide +kernel⟩ rfl rfl (by decide) (by decide) (fun _ _ _ _ _ _ us hl => match us, hl with | [_, _], _ => rfl) (fun _ _ _ _ _ _ _ _ => rfl)
theorem e1 (c : He.SaysD fa fn K) (ok : r1.ok K = true) (g : mg r1.name = some (.ref (He.ga K r1.name))) : ErrOk P w K mg base r1 := by
  obtain ⟨fd, F⟩ := c.def_ 1 (d := d1) rfl
  exact mk1 (st := inClass cBadBalance 0) (qual := "BadBalance.__init__") g ok rfl F rfl ⟨rfl, rfl, rfl, by decide +kernel, rfl, by decide +kernel, by decide +kernel⟩ rfl rfl (by decide) (by decide) (fun _ _ _ _ _ _ us hl => match us, hl with | [_, _], _ => rfl) (fun _ _ _ _ _ _ _ _ => rfl)
theorem e2 (c : He.SaysD fa fn K) (ok : r2.ok K = true) (g : mg r2.name = some (.ref (He.ga K r2.name))) : ErrOk P w K mg base r2 := by
  obtain ⟨fd, F⟩ := c.def_ 2 (d := d2) rfl
  exact mk1 (st := inClass cBadComparison 0) (qual := "BadComparison.__init__") g ok rfl F rfl ⟨rfl, rfl, rfl, by decide +kernel, rfl, by decide +kernel, by decide +kernel⟩ rfl rfl (by decide) (by decide) (fun _ _ _ _ _ _ us hl => match us, hl with | [_, _], _ => rfl) (fun _ _ _ _ _ _ _ _ => rfl)
theorem e3 (c : He.SaysD fa fn K) (ok : r3.ok K = true) (g : mg r3.name = some (.ref (He.ga K r3.name))) : ErrOk P w K mg base r3 := by
  obtain ⟨fd, F⟩ := c.def_ 3 (d := d3) rfl
  exact mk1 (st := inClass cBadPair 0) (qual := "BadPair.__init__") g ok rfl F rfl ⟨rfl, rfl, rfl, by decide +kernel, rfl, by decide +kernel, by decide +kernel⟩ rfl rfl (by decide) (by decide) (fun _ _ _ _ _ _ us hl => match us, hl with | [_, _], _ => rfl) (fun _ _ _ _ _ _ _ _ => rfl)
theorem e4 (c : He.SaysD fa fn K) (ok : r4.ok K = true) (g : mg r4.name = some (.ref (He.ga K r4.name))) : ErrOk P w K mg base r4 := by
  obtain ⟨fd, F⟩ := c.def_ 4 (d := d4) rfl
  exact mk1 (st := inClass cBadSort 0) (qual := "BadSort.__init__") g ok rfl F rfl ⟨rfl, rfl, rfl, by decide +kernel, rfl, by decide +kernel, by decide +kernel⟩ rfl rfl (by decide) (by decide) (fun _ _ _ _ _ _ us hl => match us, hl with | [_, _], _ => rfl) (fun _ _ _ _ _ _ _ _ => rfl)
theorem e5 (c : He.SaysD fa fn K) (ok : r5.ok K = true) (g : mg r5.name = some (.ref (He.ga K r5.name))) : ErrOk P w K mg base r5 := by
  obtain ⟨fd, F⟩ := c.def_ 5 (d := d5) rfl
  exact mk1 (st := inClass cBadScale 0) (qual := "BadScale.__init__") g ok rfl F rfl ⟨rfl, rfl, rfl, by decide +kernel, rfl, by decide +kernel, by decide +kernel⟩ rfl rfl (by decide) (by decide) (fun _ _ _ _ _ _ us hl => match us, hl with | [_, _], _ => rfl) (fun _ _ _ _ _ _ _ _ => rfl)
theorem e6 (c : He.SaysD fa fn K) (ok : r6.ok K = true) (g : mg r6.name = some (.ref (He.ga K r6.name))) : ErrOk P w K mg base r6 := by
  obtain ⟨fd, F⟩ := c.def_ 6 (d := d6) rfl
  exact mk1 (st := inClass cBadBook 0) (qual := "BadBook.__init__") g ok rfl F rfl ⟨rfl, rfl, rfl, by decide +kernel, rfl, by decide +kernel, by decide +kernel⟩ rfl rfl (by decide) (by decide) (fun _ _ _ _ _ _ us hl => match us, hl with | [_, _], _ => rfl) (fun _ _ _ _ _ _ _ _ => rfl)
theorem e7 (c : He.SaysD fa fn K) (ok : r7.ok K = true) (g : mg r7.name = some (.ref (He.ga K r7.name))) : ErrOk P w K mg base r7 := by
  obtain ⟨fd, F⟩ := c.def_ 7 (d := d7) rfl
  exact mk1 (st := inClass cBadSaying 0) (qual := "BadSaying.__init__") g ok rfl F rfl ⟨rfl, rfl, rfl, by decide +kernel, rfl, by decide +kernel, by decide +kernel⟩ rfl rfl (by decide) (by decide) (fun _ _ _ _ _ _ us hl => match us, hl with | [_, _], _ => rfl) (fun _ _ _ _ _ _ _ _ => rfl)
theorem e8 (c : He.SaysD fa fn K) (ok : r8.ok K = true) (g : mg r8.name = some (.ref (He.ga K r8.name))) : ErrOk P w K mg base r8 := by
  obtain ⟨fd, F⟩ := c.def_ 8 (d := d8) rfl
  exact mk1 (st := inClass cBadHands 0) (qual := "BadHands.__init__") g ok rfl F rfl ⟨rfl, rfl, rfl, by decide +kernel, rfl, by decide +kernel, by decide +kernel⟩ rfl rfl (by decide) (by decide) (fun _ _ _ _ _ _ us hl => match us, hl with | [_, _], _ => rfl) (fun _ _ _ _ _ _ _ _ => rfl)
theorem e9 (c : He.SaysD fa fn K) (ok : r9.ok K = true) (g : mg r9.name = some (.ref (He.ga K r9.name))) : ErrOk P w K mg base r9 := by
  obtain ⟨fd, F⟩ := c.def_ 9 (d := d9) rfl
  exact mk1 (st := inClass cBadNumber 0) (qual := "BadNumber.__init__") g ok rfl F rfl ⟨rfl, rfl, rfl, by decide +kernel, rfl, by decide +kernel, by decide +kernel⟩ rfl rfl (by decide) (by decide) (fun _ _ _ _ _ _ us hl => match us, hl with | [_, _], _ => rfl) (fun _ _ _ _ _ _ _ _ => rfl)
theorem e10 (c : He.SaysD fa fn K) (ok : r10.ok K = true) (g : mg r10.name = some (.ref (He.ga K r10.name))) : ErrOk P w K mg base r10 := by
  obtain ⟨fd, F⟩ := c.def_ 10 (d := d10) rfl
  exact mk1 (st := inClass cBadPaper 0) (qual := "BadPaper.__init__") g ok rfl F rfl ⟨rfl, rfl, rfl, by decide +kernel, rfl, by decide +kernel, by decide +kernel⟩ rfl rfl (by decide) (by decide) (fun _ _ _ _ _ _ us hl => match us, hl with | [_, _], _ => rfl) (fun _ _ _ _ _ _ _ _ => rfl)
theorem e11 (c : He.SaysD fa fn K) (ok : r11.ok K = true) (g : mg r11.name = some (.ref (He.ga K r11.name))) : ErrOk P w K mg base r11 := by
  obtain ⟨fd, F⟩ := c.def_ 11 (d := d11) rfl
  exact mk1 (st := inClass cBadLive 0) (qual := "BadLive.__init__") g ok rfl F rfl ⟨rfl, rfl, rfl, by decide +kernel, rfl, by decide +kernel, by decide +kernel⟩ rfl rfl (by decide) (by decide) (fun _ _ _ _ _ _ us hl => match us, hl with | [_, _], _ => rfl) (fun _ _ _ _ _ _ _ _ => rfl)
theorem e12 (c : He.SaysD fa fn K) (ok : r12.ok K = true) (g : mg r12.name = some (.ref (He.ga K r12.name))) : ErrOk P w K mg base r12 := by
  obtain ⟨fd, F⟩ := c.def_ 12 (d := d12) rfl
  exact mk1 (st := inClass cBadDesk 0) (qual := "BadDesk.__init__") g ok rfl F rfl ⟨rfl, rfl, rfl, by decide +kernel, rfl, by decide +kernel, by decide +kernel⟩ rfl rfl (by decide) (by decide) (fun _ _ _ _ _ _ us hl => match us, hl with | [_, _], _ => rfl) (fun _ _ _ _ _ _ _ _ => rfl)
theorem e13 (c : He.SaysD fa fn K) (ok : r13.ok K = true) (g : mg r13.name = some (.ref (He.ga K r13.name))) : ErrOk P w K mg base r13 := by
  obtain ⟨fd, F⟩ := c.def_ 13 (d := d13) rfl
  exact mk1 (st := inClass cBadOrder 0) (qual := "BadOrder.__init__") g ok rfl F rfl ⟨rfl, rfl, rfl, by decide +kernel, rfl, by decide +kernel, by decide +kernel⟩ rfl rfl (by decide) (by decide) (fun _ _ _ _ _ _ us hl => match us, hl with | [_, _], _ => rfl) (fun _ _ _ _ _ _ _ _ => rfl)
theorem e14 (c : He.SaysD fa fn K) (ok : r14.ok K = true) (g : mg r14.name = some (.ref (He.ga K r14.name))) : ErrOk P w K mg base r14 := by
  obtain ⟨fd, F⟩ := c.def_ 14 (d := d14) rfl
  exact mk1 (st := inClass cMissing 0) (qual := "Missing.__init__") g ok rfl F rfl ⟨rfl, rfl, rfl, by decide +kernel, rfl, by decide +kernel, by decide +kernel⟩ rfl rfl (by decide) (by decide) (fun _ _ _ _ _ _ us hl => match us, hl with | [_, _], _ => rfl) (fun _ _ _ _ _ _ _ _ => rfl)
theorem e15 (c : He.SaysD fa fn K) (ok : r15.ok K = true) (g : mg r15.name = some (.ref (He.ga K r15.name))) : ErrOk P w K mg base r15 := by
  obtain ⟨fd, F⟩ := c.def_ 14 (d := d14) rfl
  exact mk1 (st := inClass cMissing 0) (qual := "Missing.__init__") g ok rfl F rfl ⟨rfl, rfl, rfl, by decide +kernel, rfl, by decide +kernel, by decide +kernel⟩ rfl rfl (by decide) (by decide) (fun _ _ _ _ _ _ us hl => match us, hl with | [_, _], _ => rfl) (fun _ _ _ _ _ _ _ _ => rfl)
theorem e16 (c : He.SaysD fa fn K) (ok : r16.ok K = true) (g : mg r16.name = some (.ref (He.ga K r16.name))) : ErrOk P w K mg base r16 := by
  obtain ⟨fd, F⟩ := c.def_ 15 (d := d15) rfl
  exact mk1 (st := inClass cTwice 0) (qual := "Twice.__init__") g ok rfl F rfl ⟨rfl, rfl, rfl, by decide +kernel, rfl, by decide +kernel, by decide +kernel⟩ rfl rfl (by decide) (by decide) (fun _ _ _ _ _ _ us hl => match us, hl with | [_, _], _ => rfl) (fun _ _ _ _ _ _ _ _ => rfl)
theorem e17 (c : He.SaysD fa fn K) (ok : r17.ok K = true) (g : mg r17.name = some (.ref (He.ga K r17.name))) : ErrOk P w K mg base r17 := by
  obtain ⟨fd, F⟩ := c.def_ 16 (d := d16) rfl
  exact mk1 (st := inClass cNoPair 0) (qual := "NoPair.__init__") g ok rfl F rfl ⟨rfl, rfl, rfl, by decide +kernel, rfl, by decide +kernel, by decide +kernel⟩ rfl rfl (by decide) (by decide) (fun _ _ _ _ _ _ us hl => match us, hl with | [_, _], _ => rfl) (fun _ _ _ _ _ _ _ _ => rfl)
theorem e18 (c : He.SaysD fa fn K) (ok : r18.ok K = true) (g : mg r18.name = some (.ref (He.ga K r18.name))) : ErrOk P w K mg base r18 := by
  obtain ⟨fd, F⟩ := c.def_ 17 (d := d17) rfl
  exact mk1 (st := inClass cUnlike 0) (qual := "Unlike.__init__") g ok rfl F rfl ⟨rfl, rfl, rfl, by decide +kernel, rfl, by decide +kernel, by decide +kernel⟩ rfl rfl (by decide) (by decide) (fun _ _ _ _ _ _ us hl => match us, hl with | [_, _], _ => rfl) (fun _ _ _ _ _ _ _ _ => rfl)
theorem e19 (c : He.SaysD fa fn K) (ok : r19.ok K = true) (g : mg r19.name = some (.ref (He.ga K r19.name))) : ErrOk P w K mg base r19 := by
  obtain ⟨fd, F⟩ := c.def_ 18 (d := d18) rfl
  exact mk1 (st := inClass cImpossible 0) (qual := "Impossible.__init__") g ok rfl F rfl ⟨rfl, rfl, rfl, by decide +kernel, rfl, by decide +kernel, by decide +kernel⟩ rfl rfl (by decide) (by decide) (fun _ _ _ _ _ _ us hl => match us, hl with | [_, _], _ => rfl) (fun _ _ _ _ _ _ _ _ => rfl)
theorem e20 (c : He.SaysD fa fn K) (ok : r20.ok K = true) (g : mg r20.name = some (.ref (He.ga K r20.name))) : ErrOk P w K mg base r20 := by
  obtain ⟨fd, F⟩ := c.def_ 19 (d := d19) rfl
  exact mk1 (st := inClass cNotAbove 0) (qual := "NotAbove.__init__") g ok rfl F rfl ⟨rfl, rfl, rfl, by decide +kernel, rfl, by decide +kernel, by decide +kernel⟩ rfl rfl (by decide) (by decide) (fun _ _ _ _ _ _ us hl => match us, hl with | [_, _], _ => rfl) (fun _ _ _ _ _ _ _ _ => rfl)
theorem e21 (c : He.SaysD fa fn K) (ok : r21.ok K = true) (g : mg r21.name = some (.ref (He.ga K r21.name))) : ErrOk P w K mg base r21 := by
  obtain ⟨fd, F⟩ := c.def_ 20 (d := d20) rfl
  exact mk2 (st := inClass cNotCarried 0) (qual := "NotCarried.__init__") g ok rfl F rfl ⟨rfl, rfl, rfl, by decide +kernel, rfl, by decide +kernel, by decide +kernel⟩ rfl rfl rfl (by decide) (by decide) (by decide) (by decide) (fun _ _ _ _ _ _ us hl => match us, hl with | [_, _, _], _ => rfl) (fun _ _ _ _ _ _ _ _ _ => rfl)
theorem e22 (c : He.SaysD fa fn K) (ok : r22.ok K = true) (g : mg r22.name = some (.ref (He.ga K r22.name))) : ErrOk P w K mg base r22 := by
  obtain ⟨fd, F⟩ := c.def_ 21 (d := d21) rfl
  exact mk2 (st := inClass cHanging 0) (qual := "Hanging.__init__") g ok rfl F rfl ⟨rfl, rfl, rfl, by decide +kernel, rfl, by decide +kernel, by decide +kernel⟩ rfl rfl rfl (by decide) (by decide) (by decide) (by decide) (fun _ _ _ _ _ _ us hl => match us, hl with | [_, _, _], _ => rfl) (fun _ _ _ _ _ _ _ _ _ => rfl)
theorem e23 (c : He.SaysD fa fn K) (ok : r23.ok K = true) (g : mg r23.name = some (.ref (He.ga K r23.name))) : ErrOk P w K mg base r23 := by
  obtain ⟨fd, F⟩ := c.def_ 22 (d := d22) rfl
  exact mk2 (st := inClass cTooMany 0) (qual := "TooMany.__init__") g ok rfl F rfl ⟨rfl, rfl, rfl, by decide +kernel, rfl, by decide +kernel, by decide +kernel⟩ rfl rfl rfl (by decide) (by decide) (by decide) (by decide) (fun _ _ _ _ _ _ us hl => match us, hl with | [_, _, _], _ => rfl) (fun _ _ _ _ _ _ _ _ _ => rfl)
theorem e24 (c : He.SaysD fa fn K) (ok : r24.ok K = true) (g : mg r24.name = some (.ref (He.ga K r24.name))) : ErrOk P w K mg base r24 := by
  obtain ⟨fd, F⟩ := c.def_ 23 (d := d23) rfl
  exact mk2 (st := inClass cBadText 0) (qual := "BadText.__init__") g ok rfl F rfl ⟨rfl, rfl, rfl, by decide +kernel, rfl, by decide +kernel, by decide +kernel⟩ rfl rfl rfl (by decide) (by decide) (by decide) (by decide) (fun _ _ _ _ _ _ us hl => match us, hl with | [_, _, _], _ => rfl) (fun _ _ _ _ _ _ _ _ _ => rfl)
theorem e25 (c : He.SaysD fa fn K) (ok : r25.ok K = true) (g : mg r25.name = some (.ref (He.ga K r25.name))) : ErrOk P w K mg base r25 := by
  obtain ⟨fd, F⟩ := c.def_ 24 (d := d24) rfl
  exact mk2 (st := inClass cBadLine 0) (qual := "BadLine.__init__") g ok rfl F rfl ⟨rfl, rfl, rfl, by decide +kernel, rfl, by decide +kernel, by decide +kernel⟩ rfl rfl rfl (by decide) (by decide) (by decide) (by decide) (fun _ _ _ _ _ _ us hl => match us, hl with | [_, _, _], _ => rfl) (fun _ _ _ _ _ _ _ _ _ => rfl)
theorem e26 (c : He.SaysD fa fn K) (ok : r26.ok K = true) (g : mg r26.name = some (.ref (He.ga K r26.name))) : ErrOk P w K mg base r26 := by
  obtain ⟨fd, F⟩ := c.def_ 14 (d := d14) rfl
  exact mk1 (st := inClass cMissing 0) (qual := "Missing.__init__") g ok rfl F rfl ⟨rfl, rfl, rfl, by decide +kernel, rfl, by decide +kernel, by decide +kernel⟩ rfl rfl (by decide) (by decide) (fun _ _ _ _ _ _ us hl => match us, hl with | [_, _], _ => rfl) (fun _ _ _ _ _ _ _ _ => rfl)
end
end K0
namespace K0
open PySem PySem.Spec PyProof.Rows L2 KX
theorem scTill : FnScope ["_law_script", "_law_cell"] ["_law_script"] (defScope sTill) := ⟨rfl, rfl, rfl, by decide +kernel, rfl, by decide +kernel, by decide +kernel⟩
theorem scCoin : FnScope ["_law_till_here", "_law_many", "_law_digit", "_law_at", "_law_cell", "_law_great", "_law_mixed"] ["_law_till_here", "_law_many"] (defScope sCoin) := ⟨rfl, rfl, rfl, by decide +kernel, rfl, by decide +kernel, by decide +kernel⟩
theorem scOf : FnScope ["_law_till_here", "_law_some"] ["_law_till_here", "_law_some"] (defScope sOf) := ⟨rfl, rfl, rfl, by decide +kernel, rfl, by decide +kernel, by decide +kernel⟩
local macro_rules | `(tactic| walk_at "kx1") => `(tactic| with_reducible first
  | refine KX.rd_seq ?_ | refine KX.rd_asg ?_ | refine KX.rd_op ?_ | refine KX.rd_c ?_ | refine KX.rd_cb ?_ | refine KX.rd_cons ?_ | refine KX.rd_nil ?_ | refine KX.rd_un ?_ | refine KX.rd_nx ?_ | refine KX.rd_rt ?_ | refine KX.rd_next ?_ | refine KX.rd_ret ?_
  | refine KX.rd_ifs ?_ | refine KX.rd_if ?_ | refine KX.rd_test ?_ | refine KX.rd_B ?_ | refine KX.rd_bl ?_ | refine KX.rd_and ?_ | refine KX.rd_or ?_ | refine KX.rd_not ?_ | refine KX.rd_I0 ?_ | refine KX.rd_U ?_ | refine KX.rd_int ?_ | refine KX.rd_intB ?_ | refine KX.rd_abs ?_
  | refine KX.rd_gname ?_ | refine KX.rd_gsub ?_ | refine KX.rd_call ?_ | refine KX.rd_drop ?_ | refine KX.rd_yes ?_ | refine KX.rd_andV ?_ | refine KX.rd_orV ?_ | refine KX.rd_notV ?_)
local macro_rules | `(tactic| walk_at "hp") => `(tactic| first
  | assumption
  | exact upd_same
  | (refine Eq.trans (upd_ne (by assumption)) ?_; walk_at "hp")
  | (refine Eq.trans (upd_ne (Ne.symm (by assumption))) ?_; walk_at "hp"))
local macro_rules | `(tactic| walk_at "kx2") => `(tactic| first
  | walk_at "kx1"
  | ((with_reducible refine KX.rd_T ?e ?_); (case e => rfl))
  | ((with_reducible refine KX.rd_F ?e ?_); (case e => rfl))
  | ((with_reducible refine' KX.rd_var ?e ?_); (case e => rfl))
  | ((with_reducible refine' KX.rd_I ?e ?_); (case e => first | assumption | decide | exact Or.inl ⟨by omega, by omega⟩ | exact ⟨by decide, by decide, by decide⟩ | exact ⟨by decide, by decide⟩))
  | ((with_reducible refine' KX.rd_eq ?e ?_); (case e => rfl))
  | ((with_reducible refine' KX.rd_ne ?e ?_); (case e => rfl))
  | ((with_reducible refine' KX.rd_ix ?e ?e2 ?_); (case e => first | assumption | exact SqL.of (by walk_at "hp")); (case e2 => first | assumption | rfl))
  | ((with_reducible refine' KX.rd_len ?e ?_); (case e => first | assumption | exact SqL.of (by walk_at "hp")))
  | ((with_reducible refine' KX.rd_set ?e ?e2 ?_); (case e => walk_at "hp"); (case e2 => rfl)))
local macro_rules | `(tactic| walk_at "kx") => `(tactic| repeat walk_at "kx2")
section
variable {P : Program} {w : World} {K : PySem.W.Frag} {mg : Str → Option Value} {base : Heap}
theorem ok_coin {f : Addr} {fd : FuncData} (F : FunD K "_law_coin" "_law_coin" (defArgs sCoin) (defBody sCoin) (defScope sCoin) [] [] f fd) (mi : mg "int" = none) (ml : mg "len" = none) (ma : mg "abs" = none) :
    FnOk P w K mg base CX0 1 f fd ["_law_till_here", "_law_many"] (spCoin 100000) := by
  refine F.ok scCoin (fun vs H Q E h => ?_) (fun cdv A outer s H vs Q E hr h => ?_)
  · obtain ⟨t, c, cells, at_, great, many, rfl, _⟩ := h
    rfl
  · obtain ⟨t, c, cells, at_, great, many, rfl, T, hat, hm0, hm1, q⟩ := h
    refine ⟨_, PSs.nox (pss_cons (ps_if (pt_cmpR op_gt (pe_ix ix_list (pv 0) pe_int (fun _ _ => rfl)) pe_int (nomark _)) (pss_cons (ps_set (i := 2) scCoin.nd rfl (Or.inl rfl) (pe_op op_mod (pe_callTy c_int (by rfl) mi (by decide +kernel) (pa_cons (pe_ix ix_list (pv 0) pe_int (fun _ _ => rfl)) pa_nil)) (pv 1)))
  (pss_cons (ps_asg (pe_op op_fdivW (pe_callTy c_int (by rfl) mi (by decide +kernel) (pa_cons (pe_ix ix_list (pv 0) pe_int (fun _ _ => rfl)) pa_nil)) (pv 1)) (pg_sub (pv 0) pe_int set_list))
  (pss_one (ps_ret (pv 2))))) pss_nil)
  (pss_cons (ps_set (i := 3) scCoin.nd rfl (Or.inl rfl) (pe_ix ix_list (pv 0) pe_int (fun _ _ => rfl)))
  (pss_cons (ps_asg (pe_op op_add (pv 3) pe_int) (pg_sub (pv 0) pe_int set_list))
  (pss_cons (ps_set (i := 4) scCoin.nd rfl (Or.inl rfl) (pe_op op_add (pe_op op_mul pe_int (pv 3)) pe_int))
  (pss_cons (ps_if (pt_cmpR (op_neD hr.units) (pe_ix ix_list (pv 0) pe_int (fun _ _ => rfl)) (pe_lst pa_nil) (nomark _)) (pss_one (ps_set (i := 4) scCoin.nd rfl (Or.inl rfl) (pe_ix ix_list (pe_ix ix_list (pv 0) pe_int (fun _ _ => rfl)) (pe_op op_mod (pe_callTy c_int (by rfl) mi (by decide +kernel) (pa_cons (pv 3) pa_nil)) (pe_callB c_len (by rfl) ml PySem.boot_len (pa_cons (pe_ix ix_list (pv 0) pe_int (fun _ _ => rfl)) pa_nil))) (fun _ _ => rfl)))) pss_nil)
  (pss_cons (ps_if (PW.pt (pw_and (pt_cmpR op_lt (pv 3) (pe_callB c_len (by rfl) ml PySem.boot_len (pa_cons (pe_ix ix_list (pv 0) pe_int (fun _ _ => rfl)) pa_nil)) (nomark _)) (pw_and1 (pt_cmpR op_ge (pe_callB c_abs (by rfl) ma (by decide +kernel) (pa_cons (pv 4) pa_nil)) (pe_op op_pow pe_int pe_int) (nomark _))))) (pss_cons (ps_set (i := 5) scCoin.nd rfl (Or.inl rfl) (pe_op op_add (pe_op op_mul pe_int (pe_op op_sub (pe_callB c_abs (by rfl) ma (by decide +kernel) (pa_cons (pv 4) pa_nil)) (pe_op op_pow pe_int pe_int))) (pe_callTy c_int (by rfl) mi (by decide +kernel) (pa_cons (pe_cmpR op_lt (pv 4) pe_int (nomark _)) pa_nil))))
  (pss_cons (ps_asg (pe_op op_fdivW (pe_callTy c_int (by rfl) mi (by decide +kernel) (pa_cons (pv 5) pa_nil)) (pv 1)) (pg_sub (pv 0) pe_int set_list))
  (pss_one (ps_ret (pe_op op_mod (pe_callTy c_int (by rfl) mi (by decide +kernel) (pa_cons (pv 5) pa_nil)) (pv 1)))))) pss_nil)
  (pss_cons (ps_set (i := 6) scCoin.nd rfl (Or.inl rfl) (pe_op op_mod (pe_callTy c_int (by rfl) mi (by decide +kernel) (pa_cons (pe_op op_pow (pe_op op_add (pe_op op_add (pe_op op_mod (pe_callTy c_int (by rfl) mi (by decide +kernel) (pa_cons (pv 4) pa_nil)) pe_int) (pe_op op_mul pe_int (pv 3))) pe_int) pe_int) pa_nil)) pe_int))
  (pss_cons (ps_set (i := 6) scCoin.nd rfl (Or.inl rfl) (pe_op op_mod (pe_callTy c_int (by rfl) mi (by decide +kernel) (pa_cons (pe_op op_pow (pe_op op_add (pe_op op_add (pe_op op_mul (pv 6) (pe_op op_add (pe_op op_mul pe_int (pv 3)) pe_int)) (pe_op op_mul (pe_op op_mul pe_int (pv 3)) (pv 3))) pe_int) pe_int) pa_nil)) pe_int))
  (pss_one (ps_ret (pe_op op_mod (pe_callTy c_int (by rfl) mi (by decide +kernel) (pa_cons (pe_op op_fdiv (pv 6) pe_int) pa_nil)) (pv 1)))))))))))), ?_⟩
    have h0 := T.here
    have hb := T.box
    have hm2 : CDivW great many := by
      refine wide_div hm0 hm1 (by decide) (by decide)
    have hne := T.ne
    walk_at "kx"
    refine ite2 (fun e => ?_) (fun e => ?_)
    · walk_at "kx"
      exact q _ at_ _ _ (Int.emod_nonneg _ (by omega)) (Int.emod_lt_of_pos _ hm0) (by omega) T.next (But.upd But.refl)
    · walk_at "kx"
      refine KX.rd_lst ?_
      walk_at "kx"
      refine ⟨Nat.zero_le _, fun p np => ?_⟩
      have T1 : Till (upd (upd H t (.lst [.ref c, .int ((at_ : Int) + 1), .int great])) p (.lst [])) t c cells (at_ + 1) great :=
        Till.mono (T.next (a2 := at_ + 1) (g2 := great)) (same_upd np)
      have B1 : But t H (upd (upd H t (.lst [.ref c, .int ((at_ : Int) + 1), .int great])) p (.lst [])) := But.new (But.upd But.refl) np
      refine ⟨.list (cells.map .int), .list [], .lst (SqL.of T1.box) (dp_ints cells), .lst (SqL.of upd_same) .nil, ints_shaped _, rfl, ?_⟩
      rw [nil_eqv]
      have e1 : (upd (upd H t (.lst ([V.ref c, V.int at_, V.int great].set (Int.toNat 1) (V.int (at_ + 1))))) p (.lst [])) = (upd (upd H t (.lst [.ref c, .int ((at_ : Int) + 1), .int great])) p (.lst [])) := rfl
      rw [e1]
      generalize (upd (upd H t (.lst [.ref c, .int ((at_ : Int) + 1), .int great])) p (.lst [])) = H1 at T1 B1 ⊢
      clear e1 h0 hb
      have h0 := T1.here
      have hb := T1.box
      walk_at "kx"
      have hl : (cells.map V.int).length = cells.length := List.length_map ..
      have key : (∃ z : Int, z ∈ cells ∧ atI (cells.map V.int) ((at_ : Int) % ((cells.map V.int).length : Int)) = some (.int z) ∧ (0 : Int) < ((cells.map V.int).length : Int)) ∨ (!cells.isEmpty) = false := by
        cases hc : cells with
        | nil => exact .inr rfl
        | cons a r =>
          obtain ⟨z, hz, e⟩ := emod_atI (l := a :: r) (a := at_) (fun y => nomatch y)
          refine .inl ⟨z, hz, ?_, ?_⟩
          · rw [List.length_map]
            exact e
          · rw [List.length_map, List.length_cons]
            omega
      refine ite2 (fun e => ?_) (fun e => ?_)
      · obtain ⟨z, _, hz, hpos⟩ := key.resolve_right (fun y => by rw [y] at e; cases e)
        walk_at "kx"
        refine ite2 (fun e2 => ?_) (fun e2 => ?_)
        all_goals (try with_reducible refine iteF ?_)
        all_goals walk_at "kx"
        all_goals (try with_reducible refine ite2 (fun e3 => ?_) (fun e3 => ?_))
        all_goals walk_at "kx"
        all_goals (try exact q _ (at_ + 1) _ _ (Int.emod_nonneg _ (by omega)) (Int.emod_lt_of_pos _ hm0) (by omega) T1.next (But.upd B1))
        all_goals
          refine KX.rd_I ⟨by decide, by decide, ?_⟩ ?_
          · omega
          walk_at "kx"
          generalize hy : ((z % 2147483629 + 64007 * (at_ : Int) + 5591) ^ (Int.toNat 5) % 2147483647) = y
          have y0 : 0 ≤ y := by
            rw [← hy]
            exact Int.emod_nonneg _ (by decide)
          have y1 : y < 2147483647 := by
            rw [← hy]
            exact Int.emod_lt_of_pos _ (by decide)
          refine KX.rd_I ⟨by decide, by decide, mix_ok y0 y1 hat (by decide) (by decide) (by decide) (by decide) (by decide) (by decide)⟩ ?_
          walk_at "kx"
          exact q _ (at_ + 1) _ _ (Int.emod_nonneg _ (by omega)) (Int.emod_lt_of_pos _ hm0) (by omega) T1 B1
      · walk_at "kx"
        refine ite2 (fun e2 => ?_) (fun e2 => ?_)
        all_goals (try with_reducible refine iteF ?_)
        all_goals walk_at "kx"
        all_goals (try with_reducible refine ite2 (fun e3 => ?_) (fun e3 => ?_))
        all_goals walk_at "kx"
        all_goals (try exact q _ (at_ + 1) _ _ (Int.emod_nonneg _ (by omega)) (Int.emod_lt_of_pos _ hm0) (by omega) T1.next (But.upd B1))
        all_goals
          refine KX.rd_I ⟨by decide, by decide, ?_⟩ ?_
          · omega
          walk_at "kx"
          generalize hy : (((61657 * (at_ : Int) + 5591) % 2147483629 + 64007 * (at_ : Int) + 5591) ^ (Int.toNat 5) % 2147483647) = y
          have y0 : 0 ≤ y := by
            rw [← hy]
            exact Int.emod_nonneg _ (by decide)
          have y1 : y < 2147483647 := by
            rw [← hy]
            exact Int.emod_lt_of_pos _ (by decide)
          refine KX.rd_I ⟨by decide, by decide, mix_ok y0 y1 hat (by decide) (by decide) (by decide) (by decide) (by decide) (by decide)⟩ ?_
          walk_at "kx"
          exact q _ (at_ + 1) _ _ (Int.emod_nonneg _ (by omega)) (Int.emod_lt_of_pos _ hm0) (by omega) T1 B1
end
end K0
namespace K0
open PySem PySem.Spec PyProof.Rows L2 KX
def rN : ErrRow := ⟨"Nothing", "", []⟩
/-- what the head tells -/
structure Fx (P : Program) (w : World) (K : PySem.W.Frag) (mg : Str → Option Value) (base : Heap) : Prop where
  err : ∀ r ∈ rows, ErrOk P w K mg base r
  glo : ∀ n ∈ asked, mg n = some (.ref (He.ga K n))
  free : ∀ n ∈ freeN, mg n = none
  kin : ∀ n ∈ all28, ∀ c ∈ asked, PySem.W.kitOne K (.ref (He.ga K n)) (.ref (He.ga K c)) = some (isKin n c)
  kinB : ∀ n ∈ all28, ∀ c ∈ plainB, PySem.W.kitOne K (.ref (He.ga K n)) (.type c) = some (c == "ValueError")
  non : PySem.W.excIn K (He.ga K rN.name) He.veBase "ValueError.__new__" = true
  nonX : ExK K (He.ga K "Nothing")
  sys : (K.lookup sysModules).isSome = true
local macro_rules | `(tactic| walk_at "kx1") => `(tactic| with_reducible first
  | refine KX.rd_seq ?_ | refine KX.rd_asg ?_ | refine KX.rd_op ?_ | refine KX.rd_c ?_ | refine KX.rd_cb ?_ | refine KX.rd_cons ?_ | refine KX.rd_nil ?_ | refine KX.rd_un ?_ | refine KX.rd_nx ?_ | refine KX.rd_rt ?_ | refine KX.rd_next ?_ | refine KX.rd_ret ?_
  | refine KX.rd_ifs ?_ | refine KX.rd_if ?_ | refine KX.rd_test ?_ | refine KX.rd_B ?_ | refine KX.rd_bl ?_ | refine KX.rd_and ?_ | refine KX.rd_or ?_ | refine KX.rd_not ?_ | refine KX.rd_I0 ?_ | refine KX.rd_U ?_ | refine KX.rd_int ?_ | refine KX.rd_intB ?_ | refine KX.rd_abs ?_
  | refine KX.rd_gname ?_ | refine KX.rd_gsub ?_ | refine KX.rd_call ?_ | refine KX.rd_drop ?_ | refine KX.rd_yes ?_ | refine KX.rd_andV ?_ | refine KX.rd_orV ?_ | refine KX.rd_notV ?_)
local macro_rules | `(tactic| walk_at "hp") => `(tactic| first
  | assumption
  | exact upd_same
  | (refine Eq.trans (upd_ne (by assumption)) ?_; walk_at "hp")
  | (refine Eq.trans (upd_ne (Ne.symm (by assumption))) ?_; walk_at "hp"))
local macro_rules | `(tactic| walk_at "kx2") => `(tactic| first
  | walk_at "kx1"
  | ((with_reducible refine KX.rd_T ?e ?_); (case e => rfl))
  | ((with_reducible refine KX.rd_F ?e ?_); (case e => rfl))
  | ((with_reducible refine' KX.rd_var ?e ?_); (case e => rfl))
  | ((with_reducible refine' KX.rd_I ?e ?_); (case e => first | assumption | decide | exact Or.inl ⟨by omega, by omega⟩ | exact ⟨by decide, by decide, by decide⟩ | exact ⟨by decide, by decide⟩))
  | ((with_reducible refine' KX.rd_eq ?e ?_); (case e => rfl))
  | ((with_reducible refine' KX.rd_ne ?e ?_); (case e => rfl))
  | ((with_reducible refine' KX.rd_ix ?e ?e2 ?_); (case e => first | assumption | exact SqL.of (by walk_at "hp")); (case e2 => first | assumption | rfl))
  | ((with_reducible refine' KX.rd_len ?e ?_); (case e => first | assumption | exact SqL.of (by walk_at "hp")))
  | ((with_reducible refine' KX.rd_set ?e ?e2 ?_); (case e => walk_at "hp"); (case e2 => rfl)))
local macro_rules | `(tactic| walk_at "kx") => `(tactic| repeat walk_at "kx2")
theorem scParts : FnScope ["_law_part", "_law_turned", "_law_some"] ["_law_part", "_law_turned"] (defScope sParts) := ⟨rfl, rfl, rfl, by decide +kernel, rfl, by decide +kernel, by decide +kernel⟩
theorem scOthers : FnScope ["_law_one", "_law_two", "_law_some"] ["_law_one", "_law_two"] (defScope sOthers) := ⟨rfl, rfl, rfl, by decide +kernel, rfl, by decide +kernel, by decide +kernel⟩
theorem scNamed : FnScope ["_law_one", "_law_two", "_law_some"] ["_law_one", "_law_two"] (defScope sOthersNamed) := ⟨rfl, rfl, rfl, by decide +kernel, rfl, by decide +kernel, by decide +kernel⟩
/-- the errors of the first list, of the second one -/
def partRows (x : V) : List (ErrRow × List V) := [(r0, [x]), (r1, [x]), (r2, [x]), (r3, [x]), (r4, [x]), (r5, [x]), (r6, [x]), (r7, [x]), (r8, [x]), (r9, [x]), (r10, [x]), (r11, [x]), (r12, [x]), (r13, [x])]
def otherRows (x y : V) : List (ErrRow × List V) := [(r14, [x]), (r15, [x]), (r16, [x]), (r17, [x]), (r18, [x]), (r19, [x]), (r20, [x]), (r21, [x, y]), (r22, [x, y]), (r23, [x, y]), (r24, [x, y]), (r25, [x, y]), (rN, [])]
/-- a new list of these errors -/
def gives (K : PySem.W.Frag) (rs : List (ErrRow × List V)) (H : Hp) (Q : VK) : Prop := ∀ l vs H', Same H H' → H' l = some (.lst vs) → ErrsAt K H' rs vs → Q (.ref l) H'
def spParts (K : PySem.W.Frag) : Sp := fun vs H Q _ => ∃ (x : V) (t : Bool), vs = [x, .bl t] ∧ gives K (partRows x) H Q
def spOthers (K : PySem.W.Frag) : Sp := fun vs H Q _ => ∃ x y : V, vs = [x, y] ∧ gives K (otherRows x y) H Q
section
variable {P : Program} {w : World} {K : PySem.W.Frag} {mg : Str → Option Value} {base : Heap} {f : Addr} {fd : FuncData}
/-- a new list of errors is made -/
theorem rd_made {tr : TA} {σ : L2.St} {H : Hp} {Q : VK} {rs : List (ErrRow × List V)} (h : TelA K tr σ rs) (hl : rs.length ≤ 1000) (q : ∀ l vs H', Same H H' → H' l = some (.lst vs) → ErrsAt K H' rs vs → Q (.ref l) H') : tLst tr σ H Q := by
  refine h H _ fun vs H1 k z => ⟨?_, fun p hp => ?_⟩
  · rw [← Paired.length z]
    exact Nat.le_of_lt (small1000 hl)
  · exact q p vs _ (k.trans (same_upd hp)) upd_same (ErrsAt.mono (same_upd hp) z)
/-- the sum of two -/
theorem rd_sum {H : Hp} {Q : VK} {l b : Addr} {vs us : List V} {rs qs : List (ErrRow × List V)} (h1 : H l = some (.lst vs)) (h2 : H b = some (.lst us)) (z1 : ErrsAt K H rs vs) (z2 : ErrsAt K H qs us) (hl : rs.length + qs.length ≤ 1000)
    (q : ∀ p H', Same H H' → H' p = some (.lst (vs ++ us)) → ErrsAt K H' (rs ++ qs) (vs ++ us) → Q (.ref p) H') : rCat (.ref l) (.ref b) H Q := by
  refine ⟨l, b, vs, us, rfl, rfl, h1, h2, ?_, fun p hp => ?_⟩
  · rw [← Paired.length z1, ← Paired.length z2]
    exact Nat.le_of_lt (small1000 hl)
  · exact q p _ (same_upd hp) upd_same (ErrsAt.mono (same_upd hp) (z1.append z2))
theorem ok_parts (F : FunD K "_law_parts" "_law_parts" (defArgs sParts) (defBody sParts) (defScope sParts) [] [] f fd) (FX : Fx P w K mg base) : FnOk P w K mg base CX0 3 f fd ["_law_part", "_law_turned"] (spParts K) := by
  refine F.ok scParts (fun vs H Q E h => ?_) (fun cdv A outer s H vs Q E hr h => ?_)
  · obtain ⟨x, t, rfl, _⟩ := h
    rfl
  · obtain ⟨x, t, rfl, q⟩ := h
    refine ⟨_, PSs.nox (pss_cons (ps_set (i := 2) scParts.nd rfl (Or.inl rfl) (pe_lst (pa_cons (pe_err (FX.err r0 (List.mem_of_getElem? (i := 0) rfl)) hr (by decide) pass0 rfl (by decide) rfl (pa_cons (pv 0) pa_nil)) (pa_cons (pe_errK (FX.err r1 (List.mem_of_getElem? (i := 1) rfl)) hr (by decide) pass0 rfl rfl  (pk_cons (pv 0) pk_nil)) (pa_cons (pe_err (FX.err r2 (List.mem_of_getElem? (i := 2) rfl)) hr (by decide) pass0 rfl (by decide) rfl (pa_cons (pv 0) pa_nil)) (pa_cons (pe_errK (FX.err r3 (List.mem_of_getElem? (i := 3) rfl)) hr (by decide) pass0 rfl rfl  (pk_cons (pv 0) pk_nil)) (pa_cons (pe_err (FX.err r4 (List.mem_of_getElem? (i := 4) rfl)) hr (by decide) pass0 rfl (by decide) rfl (pa_cons (pv 0) pa_nil)) pa_nil)))))))
  (pss_cons (ps_set (i := 2) scParts.nd rfl (Or.inl rfl) (pe_op op_cat (pv 2) (pe_lst (pa_cons (pe_errK (FX.err r5 (List.mem_of_getElem? (i := 5) rfl)) hr (by decide) pass0 rfl rfl  (pk_cons (pv 0) pk_nil)) (pa_cons (pe_err (FX.err r6 (List.mem_of_getElem? (i := 6) rfl)) hr (by decide) pass0 rfl (by decide) rfl (pa_cons (pv 0) pa_nil)) (pa_cons (pe_errK (FX.err r7 (List.mem_of_getElem? (i := 7) rfl)) hr (by decide) pass0 rfl rfl  (pk_cons (pv 0) pk_nil)) (pa_cons (pe_err (FX.err r8 (List.mem_of_getElem? (i := 8) rfl)) hr (by decide) pass0 rfl (by decide) rfl (pa_cons (pv 0) pa_nil)) (pa_cons (pe_errK (FX.err r9 (List.mem_of_getElem? (i := 9) rfl)) hr (by decide) pass0 rfl rfl  (pk_cons (pv 0) pk_nil)) pa_nil))))))))
  (pss_cons (ps_set (i := 2) scParts.nd rfl (Or.inl rfl) (pe_op op_cat (pv 2) (pe_lst (pa_cons (pe_err (FX.err r10 (List.mem_of_getElem? (i := 10) rfl)) hr (by decide) pass0 rfl (by decide) rfl (pa_cons (pv 0) pa_nil)) (pa_cons (pe_errK (FX.err r11 (List.mem_of_getElem? (i := 11) rfl)) hr (by decide) pass0 rfl rfl  (pk_cons (pv 0) pk_nil)) (pa_cons (pe_err (FX.err r12 (List.mem_of_getElem? (i := 12) rfl)) hr (by decide) pass0 rfl (by decide) rfl (pa_cons (pv 0) pa_nil)) (pa_cons (pe_errK (FX.err r13 (List.mem_of_getElem? (i := 13) rfl)) hr (by decide) pass0 rfl rfl  (pk_cons (pv 0) pk_nil)) pa_nil)))))))
  (pss_cons (ps_if (pt_not (pt_val (pv 1))) (pss_one (ps_ret (pv 2))) pss_nil)
  (pss_cons (ps_set (i := 2) scParts.nd rfl (Or.inl rfl) (pe_lst (pa_cons (pe_errK (FX.err r0 (List.mem_of_getElem? (i := 0) rfl)) hr (by decide) pass0 rfl rfl  (pk_cons (pv 0) pk_nil)) (pa_cons (pe_err (FX.err r1 (List.mem_of_getElem? (i := 1) rfl)) hr (by decide) pass0 rfl (by decide) rfl (pa_cons (pv 0) pa_nil)) (pa_cons (pe_errK (FX.err r2 (List.mem_of_getElem? (i := 2) rfl)) hr (by decide) pass0 rfl rfl  (pk_cons (pv 0) pk_nil)) (pa_cons (pe_err (FX.err r3 (List.mem_of_getElem? (i := 3) rfl)) hr (by decide) pass0 rfl (by decide) rfl (pa_cons (pv 0) pa_nil)) (pa_cons (pe_errK (FX.err r4 (List.mem_of_getElem? (i := 4) rfl)) hr (by decide) pass0 rfl rfl  (pk_cons (pv 0) pk_nil)) pa_nil)))))))
  (pss_cons (ps_set (i := 2) scParts.nd rfl (Or.inl rfl) (pe_op op_cat (pv 2) (pe_lst (pa_cons (pe_err (FX.err r5 (List.mem_of_getElem? (i := 5) rfl)) hr (by decide) pass0 rfl (by decide) rfl (pa_cons (pv 0) pa_nil)) (pa_cons (pe_errK (FX.err r6 (List.mem_of_getElem? (i := 6) rfl)) hr (by decide) pass0 rfl rfl  (pk_cons (pv 0) pk_nil)) (pa_cons (pe_err (FX.err r7 (List.mem_of_getElem? (i := 7) rfl)) hr (by decide) pass0 rfl (by decide) rfl (pa_cons (pv 0) pa_nil)) (pa_cons (pe_errK (FX.err r8 (List.mem_of_getElem? (i := 8) rfl)) hr (by decide) pass0 rfl rfl  (pk_cons (pv 0) pk_nil)) (pa_cons (pe_err (FX.err r9 (List.mem_of_getElem? (i := 9) rfl)) hr (by decide) pass0 rfl (by decide) rfl (pa_cons (pv 0) pa_nil)) pa_nil))))))))
  (pss_one (ps_ret (pe_op op_cat (pv 2) (pe_lst (pa_cons (pe_errK (FX.err r10 (List.mem_of_getElem? (i := 10) rfl)) hr (by decide) pass0 rfl rfl  (pk_cons (pv 0) pk_nil)) (pa_cons (pe_err (FX.err r11 (List.mem_of_getElem? (i := 11) rfl)) hr (by decide) pass0 rfl (by decide) rfl (pa_cons (pv 0) pa_nil)) (pa_cons (pe_errK (FX.err r12 (List.mem_of_getElem? (i := 12) rfl)) hr (by decide) pass0 rfl rfl  (pk_cons (pv 0) pk_nil)) (pa_cons (pe_err (FX.err r13 (List.mem_of_getElem? (i := 13) rfl)) hr (by decide) pass0 rfl (by decide) rfl (pa_cons (pv 0) pa_nil)) pa_nil)))))))))))))), ?_⟩
    walk_at "kx"
    refine rd_made (K := K) (rs := [(r0, [x]), (r1, [x]), (r2, [x]), (r3, [x]), (r4, [x])]) ?_ (by simp) fun l1 vs1 H1 k1 e1 z1 => ?_
    · repeat (refine tel_cons (fun H Q q => ⟨x, rfl, q⟩) rfl ?_)
      exact tel_nil
    walk_at "kx"
    refine rd_made (K := K) (rs := [(r5, [x]), (r6, [x]), (r7, [x]), (r8, [x]), (r9, [x])]) ?_ (by simp) fun l2 vs2 H2 k2 e2 z2 => ?_
    · repeat (refine tel_cons (fun H Q q => ⟨x, rfl, q⟩) rfl ?_)
      exact tel_nil
    refine rd_sum (k2 _ _ e1) e2 (ErrsAt.mono k2 z1) z2 (by simp) fun l3 H3 k3 e3 z3 => ?_
    walk_at "kx"
    refine rd_made (K := K) (rs := [(r10, [x]), (r11, [x]), (r12, [x]), (r13, [x])]) ?_ (by simp) fun l4 vs4 H4 k4 e4 z4 => ?_
    · repeat (refine tel_cons (fun H Q q => ⟨x, rfl, q⟩) rfl ?_)
      exact tel_nil
    refine rd_sum (k4 _ _ e3) e4 (ErrsAt.mono k4 z3) z4 (by simp) fun l5 H5 k5 e5 z5 => ?_
    walk_at "kx"
    have kk : Same H H5 := (((k1.trans k2).trans k3).trans k4).trans k5
    cases t with
    | false =>
      refine iteT ?_
      walk_at "kx"
      exact q _ _ _ kk e5 z5
    | true =>
      refine iteF ?_
      walk_at "kx"
      clear e1 z1 k1 e2 z2 k2 e3 z3 k3 e4 z4 k4 e5 z5 k5
      refine rd_made (K := K) (rs := [(r0, [x]), (r1, [x]), (r2, [x]), (r3, [x]), (r4, [x])]) ?_ (by simp) fun l1 vs1 H1 k1 e1 z1 => ?_
      · repeat (refine tel_cons (fun H Q q => ⟨x, rfl, q⟩) rfl ?_)
        exact tel_nil
      walk_at "kx"
      refine rd_made (K := K) (rs := [(r5, [x]), (r6, [x]), (r7, [x]), (r8, [x]), (r9, [x])]) ?_ (by simp) fun l2 vs2 H2 k2 e2 z2 => ?_
      · repeat (refine tel_cons (fun H Q q => ⟨x, rfl, q⟩) rfl ?_)
        exact tel_nil
      refine rd_sum (k2 _ _ e1) e2 (ErrsAt.mono k2 z1) z2 (by simp) fun l3 H3 k3 e3 z3 => ?_
      walk_at "kx"
      refine rd_made (K := K) (rs := [(r10, [x]), (r11, [x]), (r12, [x]), (r13, [x])]) ?_ (by simp) fun l4 vs4 H4 k4 e4 z4 => ?_
      · repeat (refine tel_cons (fun H Q q => ⟨x, rfl, q⟩) rfl ?_)
        exact tel_nil
      refine rd_sum (k4 _ _ e3) e4 (ErrsAt.mono k4 z3) z4 (by simp) fun l5 H5 k5 e5 z5 => ?_
      exact q _ _ _ ((((kk.trans k1).trans k2).trans k3).trans k4 |>.trans k5) e5 z5
theorem ok_others (F : FunD K "_law_others" "_law_others" (defArgs sOthers) (defBody sOthers) (defScope sOthers) [] [] f fd) (FX : Fx P w K mg base) : FnOk P w K mg base CX0 3 f fd ["_law_one", "_law_two"] (spOthers K) := by
  refine F.ok scOthers (fun vs H Q E h => ?_) (fun cdv A outer s H vs Q E hr h => ?_)
  · obtain ⟨x, t, rfl, _⟩ := h
    rfl
  · obtain ⟨x, y, rfl, q⟩ := h
    refine ⟨_, PSs.nox (pss_cons (ps_set (i := 2) scOthers.nd rfl (Or.inl rfl) (pe_lst (pa_cons (pe_err (FX.err r14 (List.mem_of_getElem? (i := 14) rfl)) hr (by decide) pass0 rfl (by decide) rfl (pa_cons (pv 0) pa_nil)) (pa_cons (pe_err (FX.err r15 (List.mem_of_getElem? (i := 15) rfl)) hr (by decide) pass0 rfl (by decide) rfl (pa_cons (pv 0) pa_nil)) (pa_cons (pe_err (FX.err r16 (List.mem_of_getElem? (i := 16) rfl)) hr (by decide) pass0 rfl (by decide) rfl (pa_cons (pv 0) pa_nil)) (pa_cons (pe_err (FX.err r17 (List.mem_of_getElem? (i := 17) rfl)) hr (by decide) pass0 rfl (by decide) rfl (pa_cons (pv 0) pa_nil)) (pa_cons (pe_err (FX.err r18 (List.mem_of_getElem? (i := 18) rfl)) hr (by decide) pass0 rfl (by decide) rfl (pa_cons (pv 0) pa_nil)) (pa_cons (pe_err (FX.err r19 (List.mem_of_getElem? (i := 19) rfl)) hr (by decide) pass0 rfl (by decide) rfl (pa_cons (pv 0) pa_nil)) (pa_cons (pe_err (FX.err r20 (List.mem_of_getElem? (i := 20) rfl)) hr (by decide) pass0 rfl (by decide) rfl (pa_cons (pv 0) pa_nil)) pa_nil)))))))))
  (pss_one (ps_ret (pe_op op_cat (pv 2) (pe_lst (pa_cons (pe_err (FX.err r21 (List.mem_of_getElem? (i := 21) rfl)) hr (by decide) pass0 rfl (by decide) rfl (pa_cons (pv 0) (pa_cons (pv 1) pa_nil))) (pa_cons (pe_err (FX.err r22 (List.mem_of_getElem? (i := 22) rfl)) hr (by decide) pass0 rfl (by decide) rfl (pa_cons (pv 0) (pa_cons (pv 1) pa_nil))) (pa_cons (pe_err (FX.err r23 (List.mem_of_getElem? (i := 23) rfl)) hr (by decide) pass0 rfl (by decide) rfl (pa_cons (pv 0) (pa_cons (pv 1) pa_nil))) (pa_cons (pe_err (FX.err r24 (List.mem_of_getElem? (i := 24) rfl)) hr (by decide) pass0 rfl (by decide) rfl (pa_cons (pv 0) (pa_cons (pv 1) pa_nil))) (pa_cons (pe_err (FX.err r25 (List.mem_of_getElem? (i := 25) rfl)) hr (by decide) pass0 rfl (by decide) rfl (pa_cons (pv 0) (pa_cons (pv 1) pa_nil))) (pa_cons (pe_err0 (r := rN) PySem.F.excBase_ValueError FX.non (FX.glo "Nothing" (List.mem_of_getElem? (i := 26) rfl)) FX.nonX.o.kC rfl rfl rfl ) pa_nil))))))))))), ?_⟩
    walk_at "kx"
    refine rd_made (K := K) (rs := [(r14, [x]), (r15, [x]), (r16, [x]), (r17, [x]), (r18, [x]), (r19, [x]), (r20, [x])]) ?_ (by simp) fun l1 vs1 H1 k1 e1 z1 => ?_
    · repeat (refine tel_cons (fun H Q q => ⟨x, rfl, q⟩) rfl ?_)
      exact tel_nil
    walk_at "kx"
    refine rd_made (K := K) (rs := [(r21, [x, y]), (r22, [x, y]), (r23, [x, y]), (r24, [x, y]), (r25, [x, y]), (rN, [])]) ?_ (by simp) fun l2 vs2 H2 k2 e2 z2 => ?_
    · repeat (refine tel_cons (ys := [x, y]) (fun H Q q => ⟨x, rfl, y, rfl, q⟩) rfl ?_)
      exact tel_cons (fun H Q q => q) rfl tel_nil
    refine rd_sum (k2 _ _ e1) e2 (ErrsAt.mono k2 z1) z2 (by simp) fun l3 H3 k3 e3 z3 => ?_
    exact q _ _ _ ((k1.trans k2).trans k3) e3 z3
theorem ok_named (F : FunD K "_law_others_named" "_law_others_named" (defArgs sOthersNamed) (defBody sOthersNamed) (defScope sOthersNamed) [] [] f fd) (FX : Fx P w K mg base) : FnOk P w K mg base CX0 3 f fd ["_law_one", "_law_two"] (spOthers K) := by
  refine F.ok scNamed (fun vs H Q E h => ?_) (fun cdv A outer s H vs Q E hr h => ?_)
  · obtain ⟨x, t, rfl, _⟩ := h
    rfl
  · obtain ⟨x, y, rfl, q⟩ := h
    refine ⟨_, PSs.nox (pss_cons (ps_set (i := 2) scNamed.nd rfl (Or.inl rfl) (pe_lst (pa_cons (pe_errK (FX.err r14 (List.mem_of_getElem? (i := 14) rfl)) hr (by decide) pass0 rfl rfl  (pk_cons (pv 0) pk_nil)) (pa_cons (pe_errK (FX.err r15 (List.mem_of_getElem? (i := 15) rfl)) hr (by decide) pass0 rfl rfl  (pk_cons (pv 0) pk_nil)) (pa_cons (pe_errK (FX.err r16 (List.mem_of_getElem? (i := 16) rfl)) hr (by decide) pass0 rfl rfl  (pk_cons (pv 0) pk_nil)) (pa_cons (pe_errK (FX.err r17 (List.mem_of_getElem? (i := 17) rfl)) hr (by decide) pass0 rfl rfl  (pk_cons (pv 0) pk_nil)) (pa_cons (pe_errK (FX.err r18 (List.mem_of_getElem? (i := 18) rfl)) hr (by decide) pass0 rfl rfl  (pk_cons (pv 0) pk_nil)) pa_nil)))))))
  (pss_cons (ps_set (i := 2) scNamed.nd rfl (Or.inl rfl) (pe_op op_cat (pv 2) (pe_lst (pa_cons (pe_errK (FX.err r19 (List.mem_of_getElem? (i := 19) rfl)) hr (by decide) pass0 rfl rfl  (pk_cons (pv 0) pk_nil)) (pa_cons (pe_errK (FX.err r20 (List.mem_of_getElem? (i := 20) rfl)) hr (by decide) pass0 rfl rfl  (pk_cons (pv 0) pk_nil)) (pa_cons (pe_errK (FX.err r21 (List.mem_of_getElem? (i := 21) rfl)) hr (by decide) pass0 rfl rfl  (pk_cons (pv 1) (pk_cons (pv 0) pk_nil))) (pa_cons (pe_errK (FX.err r22 (List.mem_of_getElem? (i := 22) rfl)) hr (by decide) pass0 rfl rfl  (pk_cons (pv 1) (pk_cons (pv 0) pk_nil))) pa_nil)))))))
  (pss_one (ps_ret (pe_op op_cat (pv 2) (pe_lst (pa_cons (pe_errK (FX.err r23 (List.mem_of_getElem? (i := 23) rfl)) hr (by decide) pass0 rfl rfl  (pk_cons (pv 1) (pk_cons (pv 0) pk_nil))) (pa_cons (pe_errK (FX.err r24 (List.mem_of_getElem? (i := 24) rfl)) hr (by decide) pass0 rfl rfl  (pk_cons (pv 1) (pk_cons (pv 0) pk_nil))) (pa_cons (pe_errK (FX.err r25 (List.mem_of_getElem? (i := 25) rfl)) hr (by decide) pass0 rfl rfl  (pk_cons (pv 1) (pk_cons (pv 0) pk_nil))) (pa_cons (pe_err0 (r := rN) PySem.F.excBase_ValueError FX.non (FX.glo "Nothing" (List.mem_of_getElem? (i := 26) rfl)) FX.nonX.o.kC rfl rfl rfl ) pa_nil)))))))))), ?_⟩
    walk_at "kx"
    refine rd_made (K := K) (rs := [(r14, [x]), (r15, [x]), (r16, [x]), (r17, [x]), (r18, [x])]) ?_ (by simp) fun l1 vs1 H1 k1 e1 z1 => ?_
    · repeat (refine tel_cons (fun H Q q => ⟨x, rfl, q⟩) rfl ?_)
      exact tel_nil
    walk_at "kx"
    refine rd_made (K := K) (rs := [(r19, [x]), (r20, [x]), (r21, [x, y]), (r22, [x, y])]) ?_ (by simp) fun l2 vs2 H2 k2 e2 z2 => ?_
    · refine tel_cons (fun H Q q => ⟨x, rfl, q⟩) rfl (tel_cons (fun H Q q => ⟨x, rfl, q⟩) rfl ?_)
      repeat (refine tel_cons (ys := [x, y]) (fun H Q q => ⟨y, rfl, x, rfl, q⟩) rfl ?_)
      exact tel_nil
    refine rd_sum (k2 _ _ e1) e2 (ErrsAt.mono k2 z1) z2 (by simp) fun l3 H3 k3 e3 z3 => ?_
    walk_at "kx"
    refine rd_made (K := K) (rs := [(r23, [x, y]), (r24, [x, y]), (r25, [x, y]), (rN, [])]) ?_ (by simp) fun l4 vs4 H4 k4 e4 z4 => ?_
    · repeat (refine tel_cons (ys := [x, y]) (fun H Q q => ⟨y, rfl, x, rfl, q⟩) rfl ?_)
      exact tel_cons (fun H Q q => q) rfl tel_nil
    refine rd_sum (k4 _ _ e3) e4 (ErrsAt.mono k4 z3) z4 (by simp) fun l5 H5 k5 e5 z5 => ?_
    exact q _ _ _ ((((k1.trans k2).trans k3).trans k4).trans k5) e5 z5
end
local macro_rules | `(tactic| walk_at "k0f") => `(tactic| (
  (with_reducible refine KX.rd_tExf ?_)
  walk_at "kx"
  refine' KX.rd_exf (by assumption) (Fx.err (by assumption) _ ?m1).ex ((Fx.err (by assumption) _ ?m2).no _ ?m3) ?e ?h ?q
  (case m1 => simp only [rows, List.mem_cons, true_or, or_true])
  (case m2 => simp only [rows, List.mem_cons, true_or, or_true])
  (case m3 => decide)
  (case e => rfl)
  (case h => decide)
  walk_at "kx"))
theorem scFields : FnScope ["_law_error", "_law_place"] ["_law_error", "_law_place"] (defScope sFields) := ⟨rfl, rfl, rfl, by decide +kernel, rfl, by decide +kernel, by decide +kernel⟩
/-- all of them, by their places -/
def allRows (x y : V) : List (ErrRow × List V) := partRows x ++ otherRows x y
theorem all_len (x y : V) : (allRows x y).length = 27 := rfl
def spFields (K : PySem.W.Frag) : Sp := fun vs H Q _ => ∃ (a : Addr) (i : Nat) (x y : V) (r : ErrRow) (ys : List V), vs = [.ref a, .int i] ∧ (allRows x y)[i]? = some (r, ys) ∧ ErrAt K H r ys a ∧ ∀ l H', Same H H' → H' l = some (.lst ys) → Q (.ref l) H'
theorem upto27 {i : Nat} (h : i < 27) : i = 0 ∨ i = 1 ∨ i = 2 ∨ i = 3 ∨ i = 4 ∨ i = 5 ∨ i = 6 ∨ i = 7 ∨ i = 8 ∨ i = 9 ∨ i = 10 ∨ i = 11 ∨ i = 12 ∨ i = 13 ∨ i = 14 ∨ i = 15 ∨ i = 16 ∨ i = 17 ∨ i = 18 ∨ i = 19 ∨ i = 20 ∨ i = 21 ∨ i = 22 ∨ i = 23 ∨ i = 24 ∨ i = 25 ∨ i = 26 := by
  omega
section
variable {P : Program} {w : World} {K : PySem.W.Frag} {mg : Str → Option Value} {base : Heap} {f : Addr} {fd : FuncData}
theorem ok_fields (F : FunD K "_law_fields" "_law_fields" (defArgs sFields) (defBody sFields) (defScope sFields) [] [] f fd) (FX : Fx P w K mg base) : FnOk P w K mg base CX0 1 f fd ["_law_error", "_law_place"] (spFields K) := by
  refine F.ok scFields (fun vs H Q E h => ?_) (fun cdv A outer s H vs Q E hr h => ?_)
  · obtain ⟨a, i, x, y, r, ys, rfl, _⟩ := h
    rfl
  · obtain ⟨a, i, x, y, r, ys, rfl, hi, hE, q⟩ := h
    refine ⟨_, PSs.nox (pss_cons (ps_if (pt_cmpR op_lt (pv 1) pe_int (nomark _)) (pss_one (ps_ret (pe_lst (pa_cons (pe_exf (pv 0)) pa_nil)))) pss_nil)
  (pss_cons (ps_if (pt_cmpR op_lt (pv 1) pe_int (nomark _)) (pss_one (ps_ret (pe_lst (pa_cons (pe_exf (pv 0)) pa_nil)))) pss_nil)
  (pss_cons (ps_if (pt_cmpR op_lt (pv 1) pe_int (nomark _)) (pss_one (ps_ret (pe_ifExp (pt_cmpR op_eq (pv 1) pe_int (nomark _)) (pe_lst (pa_cons (pe_exf (pv 0)) pa_nil)) (pe_ifExp (pt_cmpR op_eq (pv 1) pe_int (nomark _)) (pe_lst (pa_cons (pe_exf (pv 0)) pa_nil)) (pe_ifExp (pt_cmpR op_eq (pv 1) pe_int (nomark _)) (pe_lst (pa_cons (pe_exf (pv 0)) pa_nil)) (pe_lst (pa_cons (pe_exf (pv 0)) pa_nil))))))) pss_nil)
  (pss_cons (ps_if (pt_cmpR op_lt (pv 1) pe_int (nomark _)) (pss_one (ps_ret (pe_ifExp (pt_cmpR op_eq (pv 1) pe_int (nomark _)) (pe_lst (pa_cons (pe_exf (pv 0)) (pa_cons (pe_exf (pv 0)) pa_nil))) (pe_lst (pa_cons (pe_exf (pv 0)) (pa_cons (pe_exf (pv 0)) pa_nil)))))) pss_nil)
  (pss_cons (ps_if (pt_cmpR op_lt (pv 1) pe_int (nomark _)) (pss_one (ps_ret (pe_ifExp (pt_cmpR op_eq (pv 1) pe_int (nomark _)) (pe_lst (pa_cons (pe_exf (pv 0)) (pa_cons (pe_exf (pv 0)) pa_nil))) (pe_ifExp (pt_cmpR op_eq (pv 1) pe_int (nomark _)) (pe_lst (pa_cons (pe_exf (pv 0)) (pa_cons (pe_exf (pv 0)) pa_nil))) (pe_lst (pa_cons (pe_exf (pv 0)) (pa_cons (pe_exf (pv 0)) pa_nil))))))) pss_nil)
  (pss_one (ps_ret (pe_lst pa_nil)))))))), ?_⟩
    have hlt : i < 27 := by
      have z := (List.getElem?_eq_some_iff.mp hi).1
      rw [all_len] at z
      exact z
    rcases upto27 hlt with rfl | rfl | rfl | rfl | rfl | rfl | rfl | rfl | rfl | rfl | rfl | rfl | rfl | rfl | rfl | rfl | rfl | rfl | rfl | rfl | rfl | rfl | rfl | rfl | rfl | rfl | rfl
    all_goals
      change some _ = some _ at hi
      injection hi with hi
      injection hi with h1 h2
      subst h1 h2
      walk_at "kx"
      refine KX.rd_lst ?_
      walk_at "kx"
      repeat walk_at "k0f"
      exact ⟨Evl.sz_of (by simp), fun p hp => q _ _ (same_upd hp) upd_same⟩
end
end K0
namespace K0
open PySem PySem.Spec PyProof.Rows L2 KX
local macro_rules | `(tactic| walk_at "kx1") => `(tactic| with_reducible first
  | refine KX.rd_seq ?_ | refine KX.rd_asg ?_ | refine KX.rd_op ?_ | refine KX.rd_c ?_ | refine KX.rd_cb ?_ | refine KX.rd_cons ?_ | refine KX.rd_nil ?_ | refine KX.rd_un ?_ | refine KX.rd_nx ?_ | refine KX.rd_rt ?_ | refine KX.rd_next ?_ | refine KX.rd_ret ?_
  | refine KX.rd_ifs ?_ | refine KX.rd_if ?_ | refine KX.rd_test ?_ | refine KX.rd_B ?_ | refine KX.rd_bl ?_ | refine KX.rd_and ?_ | refine KX.rd_or ?_ | refine KX.rd_not ?_ | refine KX.rd_I0 ?_ | refine KX.rd_U ?_ | refine KX.rd_int ?_ | refine KX.rd_intB ?_ | refine KX.rd_abs ?_
  | refine KX.rd_gname ?_ | refine KX.rd_gsub ?_ | refine KX.rd_call ?_ | refine KX.rd_drop ?_ | refine KX.rd_yes ?_ | refine KX.rd_andV ?_ | refine KX.rd_orV ?_ | refine KX.rd_notV ?_)
local macro_rules | `(tactic| walk_at "hp") => `(tactic| first
  | assumption
  | exact upd_same
  | (refine Eq.trans (upd_ne (by assumption)) ?_; walk_at "hp")
  | (refine Eq.trans (upd_ne (Ne.symm (by assumption))) ?_; walk_at "hp"))
local macro_rules | `(tactic| walk_at "kx2") => `(tactic| first
  | walk_at "kx1"
  | ((with_reducible refine KX.rd_T ?e ?_); (case e => rfl))
  | ((with_reducible refine KX.rd_F ?e ?_); (case e => rfl))
  | ((with_reducible refine' KX.rd_var ?e ?_); (case e => rfl))
  | ((with_reducible refine' KX.rd_I ?e ?_); (case e => first | assumption | decide | exact Or.inl ⟨by omega, by omega⟩ | exact ⟨by decide, by decide, by decide⟩ | exact ⟨by decide, by decide⟩))
  | ((with_reducible refine' KX.rd_eq ?e ?_); (case e => rfl))
  | ((with_reducible refine' KX.rd_ne ?e ?_); (case e => rfl))
  | ((with_reducible refine' KX.rd_ix ?e ?e2 ?_); (case e => first | assumption | exact SqL.of (by walk_at "hp")); (case e2 => first | assumption | rfl))
  | ((with_reducible refine' KX.rd_len ?e ?_); (case e => first | assumption | exact SqL.of (by walk_at "hp")))
  | ((with_reducible refine' KX.rd_set ?e ?e2 ?_); (case e => walk_at "hp"); (case e2 => rfl)))
local macro_rules | `(tactic| walk_at "kx") => `(tactic| repeat walk_at "kx2")
theorem scKin : FnScope ["_law_error", "_law_kin_here"] ["_law_error"] (defScope sKin) := ⟨rfl, rfl, rfl, by decide +kernel, rfl, by decide +kernel, by decide +kernel⟩
/-- which of the classes asked it is -/
def kinOf (n : Str) : List V := kin27.map fun c => V.bl (isKin n c)
def spKin (K : PySem.W.Frag) : Sp := fun vs H Q _ => ∃ (a : Addr) (r : ErrRow) (ys : List V), vs = [.ref a] ∧ r.name ∈ all28 ∧ ErrAt K H r ys a ∧ ∀ l H', Same H H' → H' l = some (.lst (kinOf r.name)) → Q (.ref l) H'
section
variable {P : Program} {w : World} {K : PySem.W.Frag} {mg : Str → Option Value} {base : Heap} {f : Addr} {fd : FuncData}
/-- a step: isinstance of a class of the text -/
theorem rd_isC {H : Hp} {Q : VK} {r : ErrRow} {ys : List V} {a : Addr} {c : Str} (FX : Fx P w K mg base) (hE : ErrAt K H r ys a) (T : ExK K (He.ga K r.name)) (hr : r.name ∈ all28) (hc : c ∈ asked) (q : Q (.bl (isKin r.name c)) H) : rIsX K [.ref a, .ref (He.ga K c)] H Q :=
  rd_isX hE T (fun u h => h) (FX.kin _ hr _ hc) q
theorem rd_isB {H : Hp} {Q : VK} {r : ErrRow} {ys : List V} {a : Addr} {c : String} (FX : Fx P w K mg base) (hE : ErrAt K H r ys a) (T : ExK K (He.ga K r.name)) (hr : r.name ∈ all28) (hc : c ∈ plainB) (q : Q (.bl (c == "ValueError")) H) : rIsX K [.ref a, .ty c] H Q :=
  rd_isX hE T (fun u h => h) (FX.kinB _ hr _ hc) q
/-- a list of such answers -/
def TelB (K : PySem.W.Frag) (tr : TA) (σ : L2.St) (r : ErrRow) (ys : List V) (a : Addr) (cs : List Str) : Prop := ∀ (H : Hp) (Q : List V → Hp → Prop), ErrAt K H r ys a → Q (cs.map fun c => V.bl (isKin r.name c)) H → tr σ H Q
theorem telb_nil {σ : L2.St} {r : ErrRow} {ys : List V} {a : Addr} : TelB K tNil σ r ys a [] := fun H Q _ q => q
theorem telb_cons {σ : L2.St} {r : ErrRow} {ys : List V} {a : Addr} {c : Str} {cs : List Str} {tr : TA} (FX : Fx P w K mg base) (T : ExK K (He.ga K r.name)) (hr : r.name ∈ all28) (h0 : σ[0]? = some (some (.ref a))) (hc : c ∈ asked) (h : TelB K tr σ r ys a cs) :
    TelB K (tCons (tCB (rIsX K) (tCons (tVar 0) (tCons (tC (.ref (He.ga K c))) tNil))) tr) σ r ys a (c :: cs) := fun H Q hE q => by
  refine ⟨_, h0, ?_⟩
  show rIsX K [.ref a, .ref (He.ga K c)] H fun x H1 => tr σ H1 fun xs H2 => Q (x :: xs) H2
  exact rd_isC FX hE T hr hc (h H _ hE q)
theorem rd_kins {tr : TA} {σ : L2.St} {H : Hp} {Q : VK} {r : ErrRow} {ys : List V} {a : Addr} {cs : List Str} (h : TelB K tr σ r ys a cs) (hE : ErrAt K H r ys a) (hl : cs.length ≤ 1000)
    (q : ∀ p H', Same H H' → H' p = some (.lst (cs.map fun c => V.bl (isKin r.name c))) → ErrAt K H' r ys a → Q (.ref p) H') : tLst tr σ H Q := by
  refine h H _ hE ⟨?_, fun p hp => q p _ (same_upd hp) upd_same (ErrAt.mono (same_upd hp) hE)⟩
  rw [List.length_map]
  exact Nat.le_of_lt (small1000 hl)
theorem rd_kcat {H : Hp} {Q : VK} {r : ErrRow} {ys : List V} {a l b : Addr} {cs ds : List Str} (hE : ErrAt K H r ys a) (h1 : H l = some (.lst (cs.map fun c => V.bl (isKin r.name c)))) (h2 : H b = some (.lst (ds.map fun c => V.bl (isKin r.name c)))) (hl : cs.length + ds.length ≤ 1000)
    (q : ∀ p H', Same H H' → H' p = some (.lst ((cs ++ ds).map fun c => V.bl (isKin r.name c))) → ErrAt K H' r ys a → Q (.ref p) H') : rCat (.ref l) (.ref b) H Q := by
  refine ⟨l, b, _, _, rfl, rfl, h1, h2, ?_, fun p hp => q p _ (same_upd hp) ?_ (ErrAt.mono (same_upd hp) hE)⟩
  · rw [List.length_map, List.length_map]
    exact Nat.le_of_lt (small1000 hl)
  · rw [upd_same, List.map_append]
theorem ok_kin (F : FunD K "_law_kin" "_law_kin" (defArgs sKin) (defBody sKin) (defScope sKin) [] [] f fd) (FX : Fx P w K mg base) (ex : ∀ n ∈ all28, ExK K (He.ga K n)) : FnOk P w K mg base CX0 1 f fd ["_law_error"] (spKin K) := by
  refine F.ok scKin (fun vs H Q E h => ?_) (fun cdv A outer s H vs Q E hr h => ?_)
  · obtain ⟨a, r, ys, rfl, _⟩ := h
    rfl
  · obtain ⟨a, r, ys, rfl, hn, hE, q⟩ := h
    have T := ex _ hn
    refine ⟨_, PSs.nox (pss_cons (ps_set (i := 1) scKin.nd rfl (Or.inl rfl) (pe_lst (pa_cons (pe_callB call_isX (by rfl) (FX.free "isinstance" (List.mem_of_getElem? (i := 3) rfl)) (by decide +kernel) (pa_cons (pv 0) (pa_cons (pe_glob (v := .ref (He.ga K "BadRatio")) rfl (FX.glo "BadRatio" (List.mem_of_getElem? (i := 0) rfl)) rfl) pa_nil))) (pa_cons (pe_callB call_isX (by rfl) (FX.free "isinstance" (List.mem_of_getElem? (i := 3) rfl)) (by decide +kernel) (pa_cons (pv 0) (pa_cons (pe_glob (v := .ref (He.ga K "BadBalance")) rfl (FX.glo "BadBalance" (List.mem_of_getElem? (i := 1) rfl)) rfl) pa_nil))) (pa_cons (pe_callB call_isX (by rfl) (FX.free "isinstance" (List.mem_of_getElem? (i := 3) rfl)) (by decide +kernel) (pa_cons (pv 0) (pa_cons (pe_glob (v := .ref (He.ga K "BadComparison")) rfl (FX.glo "BadComparison" (List.mem_of_getElem? (i := 2) rfl)) rfl) pa_nil))) pa_nil)))))
  (pss_cons (ps_set (i := 1) scKin.nd rfl (Or.inl rfl) (pe_op op_cat (pv 1) (pe_lst (pa_cons (pe_callB call_isX (by rfl) (FX.free "isinstance" (List.mem_of_getElem? (i := 3) rfl)) (by decide +kernel) (pa_cons (pv 0) (pa_cons (pe_glob (v := .ref (He.ga K "BadPair")) rfl (FX.glo "BadPair" (List.mem_of_getElem? (i := 3) rfl)) rfl) pa_nil))) (pa_cons (pe_callB call_isX (by rfl) (FX.free "isinstance" (List.mem_of_getElem? (i := 3) rfl)) (by decide +kernel) (pa_cons (pv 0) (pa_cons (pe_glob (v := .ref (He.ga K "BadSort")) rfl (FX.glo "BadSort" (List.mem_of_getElem? (i := 4) rfl)) rfl) pa_nil))) (pa_cons (pe_callB call_isX (by rfl) (FX.free "isinstance" (List.mem_of_getElem? (i := 3) rfl)) (by decide +kernel) (pa_cons (pv 0) (pa_cons (pe_glob (v := .ref (He.ga K "BadScale")) rfl (FX.glo "BadScale" (List.mem_of_getElem? (i := 5) rfl)) rfl) pa_nil))) pa_nil))))))
  (pss_cons (ps_set (i := 1) scKin.nd rfl (Or.inl rfl) (pe_op op_cat (pv 1) (pe_lst (pa_cons (pe_callB call_isX (by rfl) (FX.free "isinstance" (List.mem_of_getElem? (i := 3) rfl)) (by decide +kernel) (pa_cons (pv 0) (pa_cons (pe_glob (v := .ref (He.ga K "BadBook")) rfl (FX.glo "BadBook" (List.mem_of_getElem? (i := 6) rfl)) rfl) pa_nil))) (pa_cons (pe_callB call_isX (by rfl) (FX.free "isinstance" (List.mem_of_getElem? (i := 3) rfl)) (by decide +kernel) (pa_cons (pv 0) (pa_cons (pe_glob (v := .ref (He.ga K "BadSaying")) rfl (FX.glo "BadSaying" (List.mem_of_getElem? (i := 7) rfl)) rfl) pa_nil))) (pa_cons (pe_callB call_isX (by rfl) (FX.free "isinstance" (List.mem_of_getElem? (i := 3) rfl)) (by decide +kernel) (pa_cons (pv 0) (pa_cons (pe_glob (v := .ref (He.ga K "BadHands")) rfl (FX.glo "BadHands" (List.mem_of_getElem? (i := 8) rfl)) rfl) pa_nil))) pa_nil))))))
  (pss_cons (ps_set (i := 1) scKin.nd rfl (Or.inl rfl) (pe_op op_cat (pv 1) (pe_lst (pa_cons (pe_callB call_isX (by rfl) (FX.free "isinstance" (List.mem_of_getElem? (i := 3) rfl)) (by decide +kernel) (pa_cons (pv 0) (pa_cons (pe_glob (v := .ref (He.ga K "BadNumber")) rfl (FX.glo "BadNumber" (List.mem_of_getElem? (i := 9) rfl)) rfl) pa_nil))) (pa_cons (pe_callB call_isX (by rfl) (FX.free "isinstance" (List.mem_of_getElem? (i := 3) rfl)) (by decide +kernel) (pa_cons (pv 0) (pa_cons (pe_glob (v := .ref (He.ga K "BadPaper")) rfl (FX.glo "BadPaper" (List.mem_of_getElem? (i := 10) rfl)) rfl) pa_nil))) (pa_cons (pe_callB call_isX (by rfl) (FX.free "isinstance" (List.mem_of_getElem? (i := 3) rfl)) (by decide +kernel) (pa_cons (pv 0) (pa_cons (pe_glob (v := .ref (He.ga K "BadLive")) rfl (FX.glo "BadLive" (List.mem_of_getElem? (i := 11) rfl)) rfl) pa_nil))) pa_nil))))))
  (pss_cons (ps_set (i := 1) scKin.nd rfl (Or.inl rfl) (pe_op op_cat (pv 1) (pe_lst (pa_cons (pe_callB call_isX (by rfl) (FX.free "isinstance" (List.mem_of_getElem? (i := 3) rfl)) (by decide +kernel) (pa_cons (pv 0) (pa_cons (pe_glob (v := .ref (He.ga K "BadDesk")) rfl (FX.glo "BadDesk" (List.mem_of_getElem? (i := 12) rfl)) rfl) pa_nil))) (pa_cons (pe_callB call_isX (by rfl) (FX.free "isinstance" (List.mem_of_getElem? (i := 3) rfl)) (by decide +kernel) (pa_cons (pv 0) (pa_cons (pe_glob (v := .ref (He.ga K "BadOrder")) rfl (FX.glo "BadOrder" (List.mem_of_getElem? (i := 13) rfl)) rfl) pa_nil))) (pa_cons (pe_callB call_isX (by rfl) (FX.free "isinstance" (List.mem_of_getElem? (i := 3) rfl)) (by decide +kernel) (pa_cons (pv 0) (pa_cons (pe_glob (v := .ref (He.ga K "NoThing")) rfl (FX.glo "NoThing" (List.mem_of_getElem? (i := 14) rfl)) rfl) pa_nil))) (pa_cons (pe_callB call_isX (by rfl) (FX.free "isinstance" (List.mem_of_getElem? (i := 3) rfl)) (by decide +kernel) (pa_cons (pv 0) (pa_cons (pe_glob (v := .ref (He.ga K "NoName")) rfl (FX.glo "NoName" (List.mem_of_getElem? (i := 15) rfl)) rfl) pa_nil))) pa_nil)))))))
  (pss_cons (ps_set (i := 1) scKin.nd rfl (Or.inl rfl) (pe_op op_cat (pv 1) (pe_lst (pa_cons (pe_callB call_isX (by rfl) (FX.free "isinstance" (List.mem_of_getElem? (i := 3) rfl)) (by decide +kernel) (pa_cons (pv 0) (pa_cons (pe_glob (v := .ref (He.ga K "Twice")) rfl (FX.glo "Twice" (List.mem_of_getElem? (i := 16) rfl)) rfl) pa_nil))) (pa_cons (pe_callB call_isX (by rfl) (FX.free "isinstance" (List.mem_of_getElem? (i := 3) rfl)) (by decide +kernel) (pa_cons (pv 0) (pa_cons (pe_glob (v := .ref (He.ga K "NoPair")) rfl (FX.glo "NoPair" (List.mem_of_getElem? (i := 17) rfl)) rfl) pa_nil))) (pa_cons (pe_callB call_isX (by rfl) (FX.free "isinstance" (List.mem_of_getElem? (i := 3) rfl)) (by decide +kernel) (pa_cons (pv 0) (pa_cons (pe_glob (v := .ref (He.ga K "Unlike")) rfl (FX.glo "Unlike" (List.mem_of_getElem? (i := 18) rfl)) rfl) pa_nil))) pa_nil))))))
  (pss_cons (ps_set (i := 1) scKin.nd rfl (Or.inl rfl) (pe_op op_cat (pv 1) (pe_lst (pa_cons (pe_callB call_isX (by rfl) (FX.free "isinstance" (List.mem_of_getElem? (i := 3) rfl)) (by decide +kernel) (pa_cons (pv 0) (pa_cons (pe_glob (v := .ref (He.ga K "Impossible")) rfl (FX.glo "Impossible" (List.mem_of_getElem? (i := 19) rfl)) rfl) pa_nil))) (pa_cons (pe_callB call_isX (by rfl) (FX.free "isinstance" (List.mem_of_getElem? (i := 3) rfl)) (by decide +kernel) (pa_cons (pv 0) (pa_cons (pe_glob (v := .ref (He.ga K "NotAbove")) rfl (FX.glo "NotAbove" (List.mem_of_getElem? (i := 20) rfl)) rfl) pa_nil))) (pa_cons (pe_callB call_isX (by rfl) (FX.free "isinstance" (List.mem_of_getElem? (i := 3) rfl)) (by decide +kernel) (pa_cons (pv 0) (pa_cons (pe_glob (v := .ref (He.ga K "NotCarried")) rfl (FX.glo "NotCarried" (List.mem_of_getElem? (i := 21) rfl)) rfl) pa_nil))) pa_nil))))))
  (pss_cons (ps_set (i := 1) scKin.nd rfl (Or.inl rfl) (pe_op op_cat (pv 1) (pe_lst (pa_cons (pe_callB call_isX (by rfl) (FX.free "isinstance" (List.mem_of_getElem? (i := 3) rfl)) (by decide +kernel) (pa_cons (pv 0) (pa_cons (pe_glob (v := .ref (He.ga K "Hanging")) rfl (FX.glo "Hanging" (List.mem_of_getElem? (i := 22) rfl)) rfl) pa_nil))) (pa_cons (pe_callB call_isX (by rfl) (FX.free "isinstance" (List.mem_of_getElem? (i := 3) rfl)) (by decide +kernel) (pa_cons (pv 0) (pa_cons (pe_glob (v := .ref (He.ga K "TooMany")) rfl (FX.glo "TooMany" (List.mem_of_getElem? (i := 23) rfl)) rfl) pa_nil))) (pa_cons (pe_callB call_isX (by rfl) (FX.free "isinstance" (List.mem_of_getElem? (i := 3) rfl)) (by decide +kernel) (pa_cons (pv 0) (pa_cons (pe_glob (v := .ref (He.ga K "BadText")) rfl (FX.glo "BadText" (List.mem_of_getElem? (i := 24) rfl)) rfl) pa_nil))) pa_nil))))))
  (pss_one (ps_ret (pe_op op_cat (pv 1) (pe_lst (pa_cons (pe_callB call_isX (by rfl) (FX.free "isinstance" (List.mem_of_getElem? (i := 3) rfl)) (by decide +kernel) (pa_cons (pv 0) (pa_cons (pe_glob (v := .ref (He.ga K "BadLine")) rfl (FX.glo "BadLine" (List.mem_of_getElem? (i := 25) rfl)) rfl) pa_nil))) (pa_cons (pe_callB call_isX (by rfl) (FX.free "isinstance" (List.mem_of_getElem? (i := 3) rfl)) (by decide +kernel) (pa_cons (pv 0) (pa_cons (pe_glob (v := .ref (He.ga K "Nothing")) rfl (FX.glo "Nothing" (List.mem_of_getElem? (i := 26) rfl)) rfl) pa_nil))) pa_nil)))))))))))))), ?_⟩
    walk_at "kx"
    refine rd_kins (K := K) (r := r) (ys := ys) (a := a) (cs := ["BadRatio", "BadBalance", "BadComparison"]) ?_ hE (by simp) fun l1 H1 k1 e1 hE => ?_
    · repeat (refine telb_cons FX T hn rfl (by decide +kernel) ?_)
      exact telb_nil
    walk_at "kx"
    refine rd_kins (K := K) (r := r) (ys := ys) (a := a) (cs := ["BadPair", "BadSort", "BadScale"]) ?_ hE (by simp) fun l2 H2 k2 e2 hE => ?_
    · repeat (refine telb_cons FX T hn rfl (by decide +kernel) ?_)
      exact telb_nil
    refine rd_kcat (K := K) hE (k2 _ _ e1) e2 (by simp) fun m2 G2 j2 c2 hE => ?_
    walk_at "kx"
    refine rd_kins (K := K) (r := r) (ys := ys) (a := a) (cs := ["BadBook", "BadSaying", "BadHands"]) ?_ hE (by simp) fun l3 H3 k3 e3 hE => ?_
    · repeat (refine telb_cons FX T hn rfl (by decide +kernel) ?_)
      exact telb_nil
    refine rd_kcat (K := K) hE (k3 _ _ c2) e3 (by simp) fun m3 G3 j3 c3 hE => ?_
    walk_at "kx"
    refine rd_kins (K := K) (r := r) (ys := ys) (a := a) (cs := ["BadNumber", "BadPaper", "BadLive"]) ?_ hE (by simp) fun l4 H4 k4 e4 hE => ?_
    · repeat (refine telb_cons FX T hn rfl (by decide +kernel) ?_)
      exact telb_nil
    refine rd_kcat (K := K) hE (k4 _ _ c3) e4 (by simp) fun m4 G4 j4 c4 hE => ?_
    walk_at "kx"
    refine rd_kins (K := K) (r := r) (ys := ys) (a := a) (cs := ["BadDesk", "BadOrder", "NoThing", "NoName"]) ?_ hE (by simp) fun l5 H5 k5 e5 hE => ?_
    · repeat (refine telb_cons FX T hn rfl (by decide +kernel) ?_)
      exact telb_nil
    refine rd_kcat (K := K) hE (k5 _ _ c4) e5 (by simp) fun m5 G5 j5 c5 hE => ?_
    walk_at "kx"
    refine rd_kins (K := K) (r := r) (ys := ys) (a := a) (cs := ["Twice", "NoPair", "Unlike"]) ?_ hE (by simp) fun l6 H6 k6 e6 hE => ?_
    · repeat (refine telb_cons FX T hn rfl (by decide +kernel) ?_)
      exact telb_nil
    refine rd_kcat (K := K) hE (k6 _ _ c5) e6 (by simp) fun m6 G6 j6 c6 hE => ?_
    walk_at "kx"
    refine rd_kins (K := K) (r := r) (ys := ys) (a := a) (cs := ["Impossible", "NotAbove", "NotCarried"]) ?_ hE (by simp) fun l7 H7 k7 e7 hE => ?_
    · repeat (refine telb_cons FX T hn rfl (by decide +kernel) ?_)
      exact telb_nil
    refine rd_kcat (K := K) hE (k7 _ _ c6) e7 (by simp) fun m7 G7 j7 c7 hE => ?_
    walk_at "kx"
    refine rd_kins (K := K) (r := r) (ys := ys) (a := a) (cs := ["Hanging", "TooMany", "BadText"]) ?_ hE (by simp) fun l8 H8 k8 e8 hE => ?_
    · repeat (refine telb_cons FX T hn rfl (by decide +kernel) ?_)
      exact telb_nil
    refine rd_kcat (K := K) hE (k8 _ _ c7) e8 (by simp) fun m8 G8 j8 c8 hE => ?_
    walk_at "kx"
    refine rd_kins (K := K) (r := r) (ys := ys) (a := a) (cs := ["BadLine", "Nothing"]) ?_ hE (by simp) fun l9 H9 k9 e9 hE => ?_
    · repeat (refine telb_cons FX T hn rfl (by decide +kernel) ?_)
      exact telb_nil
    refine rd_kcat (K := K) hE (k9 _ _ c8) e9 (by simp) fun m9 G9 j9 c9 hE => ?_
    exact q _ _ ((((((((((((((((k1.trans k2).trans j2).trans k3).trans j3).trans k4).trans j4).trans k5).trans j5).trans k6).trans j6).trans k7).trans j7).trans k8).trans j8).trans k9).trans j9) c9
end
end K0
namespace K0
open PySem PySem.Spec PyProof.Rows L2 KX
local macro_rules | `(tactic| walk_at "kx1") => `(tactic| with_reducible first
  | refine KX.rd_seq ?_ | refine KX.rd_asg ?_ | refine KX.rd_op ?_ | refine KX.rd_c ?_ | refine KX.rd_cb ?_ | refine KX.rd_cons ?_ | refine KX.rd_nil ?_ | refine KX.rd_un ?_ | refine KX.rd_nx ?_ | refine KX.rd_rt ?_ | refine KX.rd_next ?_ | refine KX.rd_ret ?_
  | refine KX.rd_ifs ?_ | refine KX.rd_if ?_ | refine KX.rd_test ?_ | refine KX.rd_B ?_ | refine KX.rd_bl ?_ | refine KX.rd_and ?_ | refine KX.rd_or ?_ | refine KX.rd_not ?_ | refine KX.rd_I0 ?_ | refine KX.rd_U ?_ | refine KX.rd_int ?_ | refine KX.rd_intB ?_ | refine KX.rd_abs ?_
  | refine KX.rd_gname ?_ | refine KX.rd_gsub ?_ | refine KX.rd_call ?_ | refine KX.rd_drop ?_ | refine KX.rd_yes ?_ | refine KX.rd_andV ?_ | refine KX.rd_orV ?_ | refine KX.rd_notV ?_)
local macro_rules | `(tactic| walk_at "hp") => `(tactic| first
  | assumption
  | exact upd_same
  | (refine Eq.trans (upd_ne (by assumption)) ?_; walk_at "hp")
  | (refine Eq.trans (upd_ne (Ne.symm (by assumption))) ?_; walk_at "hp"))
local macro_rules | `(tactic| walk_at "kx2") => `(tactic| first
  | walk_at "kx1"
  | ((with_reducible refine KX.rd_T ?e ?_); (case e => rfl))
  | ((with_reducible refine KX.rd_F ?e ?_); (case e => rfl))
  | ((with_reducible refine' KX.rd_var ?e ?_); (case e => rfl))
  | ((with_reducible refine' KX.rd_I ?e ?_); (case e => first | assumption | decide | exact Or.inl ⟨by omega, by omega⟩ | exact ⟨by decide, by decide, by decide⟩ | exact ⟨by decide, by decide⟩))
  | ((with_reducible refine' KX.rd_eq ?e ?_); (case e => rfl))
  | ((with_reducible refine' KX.rd_ne ?e ?_); (case e => rfl))
  | ((with_reducible refine' KX.rd_ix ?e ?e2 ?_); (case e => first | assumption | exact SqL.of (by walk_at "hp")); (case e2 => first | assumption | rfl))
  | ((with_reducible refine' KX.rd_len ?e ?_); (case e => first | assumption | exact SqL.of (by walk_at "hp")))
  | ((with_reducible refine' KX.rd_set ?e ?e2 ?_); (case e => walk_at "hp"); (case e2 => rfl)))
local macro_rules | `(tactic| walk_at "kx") => `(tactic| repeat walk_at "kx2")
abbrev nmscStands : List Str := ["_law_error", "_law_place", "_law_at"]
theorem scStands : FnScope nmscStands ["_law_error", "_law_place"] (defScope sStandsRight) := ⟨rfl, rfl, rfl, by decide +kernel, rfl, by decide +kernel, by decide +kernel⟩
/-- the places that are the i-th one -/
def only (i : Nat) : List Bool := (List.range 27).map fun j => decide (i = j)
theorem name_at {x y : V} {i : Nat} {r : ErrRow} {ys : List V} (h : (allRows x y)[i]? = some (r, ys)) : i < 27 ∧ kin27[i]? = some r.name := by
  have hl : i < 27 := by
    have z := (List.getElem?_eq_some_iff.mp h).1
    rw [all_len] at z
    exact z
  refine ⟨hl, ?_⟩
  have e : (allRows x y).map (fun p => p.1.name) = kin27 := rfl
  rw [← e, List.getElem?_map, h]
  rfl
theorem kin_only : ∀ i : Fin 27, kin27.map (isKin (kin27.getD i.val "")) = only i.val := by decide +kernel
theorem kin_miss : ∀ i : Fin 27, isKin (kin27.getD i.val "") "Missing" = (i.val == 14 || i.val == 15) := by decide +kernel
theorem at_getD {i : Nat} {n : Str} (h : kin27[i]? = some n) : kin27.getD i "" = n := by
  rw [List.getD_eq_getElem?_getD, h]
  rfl
theorem only_of {i : Nat} {n : Str} (hi : i < 27) (h : kin27[i]? = some n) : kin27.map (isKin n) = only i := by
  have z := kin_only ⟨i, hi⟩
  rw [at_getD h] at z
  exact z
theorem miss_of {i : Nat} {n : Str} (hi : i < 27) (h : kin27[i]? = some n) : isKin n "Missing" = (i == 14 || i == 15) := by
  have z := kin_miss ⟨i, hi⟩
  rw [at_getD h] at z
  exact z
theorem scale_of (n : Str) : isKin n "ScaleError" = true := by
  unfold isKin
  rw [show (("ScaleError" : Str) == "ScaleError") = true by decide, Bool.true_or, Bool.or_true]
theorem bools_dp {K : PySem.W.Frag} {H : Hp} : ∀ l : List Bool, DpAll K H (l.map V.bl) (l.map PyData.bool)
  | [] => .nil
  | a :: r => .cons (.bl a) (bools_dp r)
theorem bools_lay : ∀ l : List Bool, PyData.canLayAll0 (l.map PyData.bool) = true
  | [] => rfl
  | a :: r => by
    show (PyData.canLay0 (.bool a) && PyData.canLayAll0 (r.map PyData.bool)) = true
    rw [bools_lay r]
    rfl
theorem bools_depth : ∀ l : List Bool, PyData.depthAll (l.map PyData.bool) = 0
  | [] => rfl
  | a :: r => by
    show max (PyData.depth (.bool a)) (PyData.depthAll (r.map PyData.bool)) = 0
    rw [bools_depth r]
    rfl
theorem bools_shaped (l : List Bool) : SeqAt.shaped (.list (l.map PyData.bool)) = true := by
  unfold SeqAt.shaped PyData.canLay0 PyData.depth
  rw [bools_lay, bools_depth]
  rfl
theorem in1415 (i : Nat) : inV (.int i) [.int 14, .int 15] = (i == 14 || i == 15) := by
  by_cases h1 : i = 14
  · subst h1
    decide
  · by_cases h2 : i = 15
    · subst h2
      decide
    · have e1 : ((i : Int) == 14) = false := by
        rw [beq_eq_false_iff_ne]
        omega
      have e2 : ((i : Int) == 15) = false := by
        rw [beq_eq_false_iff_ne]
        omega
      have e3 : (i == 14) = false := by
        rw [beq_eq_false_iff_ne]
        omega
      have e4 : (i == 15) = false := by
        rw [beq_eq_false_iff_ne]
        omega
      rw [e3, e4]
      simp [inV, eqV, e1, e2]
      omega
def spStands (K : PySem.W.Frag) : Sp := fun vs H Q _ => ∃ (a : Addr) (i : Nat) (x y : V) (r : ErrRow) (ys : List V), vs = [.ref a, .int i] ∧ (allRows x y)[i]? = some (r, ys) ∧ ErrAt K H r ys a ∧ ∀ H', Same H H' → Q (.bl true) H'
section
variable {P : Program} {w : World} {K : PySem.W.Frag} {mg : Str → Option Value} {base : Heap} {f : Addr} {fd : FuncData}
theorem ok_stands (F : FunD K "_law_stands_right" "_law_stands_right" (defArgs sStandsRight) (defBody sStandsRight) (defScope sStandsRight) [] [] f fd) (FX : Fx P w K mg base) (ex : ∀ n ∈ all28, ExK K (He.ga K n))
    (CK : Callee P w K mg base 1 "_law_kin" ["_law_error"] (spKin K)) : FnOk P w K mg base CX0 2 f fd ["_law_error", "_law_place"] (spStands K) := by
  refine F.ok scStands (fun vs H Q E h => ?_) (fun cdv A outer s H vs Q E hr h => ?_)
  · obtain ⟨a, i, x, y, r, ys, rfl, _⟩ := h
    rfl
  · obtain ⟨a, i, x, y, r, ys, rfl, hi, hE, q⟩ := h
    obtain ⟨hlt, hn⟩ := name_at hi
    have hmem : r.name ∈ all28 := List.mem_append_left _ (List.mem_of_getElem? hn)
    have T := ex _ hmem
    refine ⟨_, PSs.nox (pss_cons (ps_if (pt_cmpR (op_neD hr.units) (pe_c CK hr (by decide) rfl (pa_cons (pv 0) pa_nil)) (pe_lc (own := [("_law_at", 2)]) (g := gName 2) (tt := tYes) rfl scStands.nd (pi_range1 rfl (FX.free "range" (List.mem_of_getElem? (i := 6) rfl)) (pa_cons pe_int pa_nil)) (blkOk_by (N := nmscStands) (sc := defScope sStandsRight) (by decide +kernel)) (fun _ _ _ _ _ => pg_name (i := 2) scStands.nd rfl (Or.inl rfl)) (fun _ _ _ _ _ => pts_nil) (fun _ _ _ _ _ => (pe_cmpR op_eq (pv 1) (pv 2) (nomark _)))) (nomark _)) (pss_one (ps_ret pe_bl)) pss_nil)
  (pss_cons (ps_if (PW.pt (pw_or (pt_not (pt_val (pe_callB call_isX (by rfl) (FX.free "isinstance" (List.mem_of_getElem? (i := 3) rfl)) (by decide +kernel) (pa_cons (pv 0) (pa_cons (pe_glob (v := .ref (He.ga K "ScaleError")) rfl (FX.glo "ScaleError" (List.mem_of_getElem? (i := 28) rfl)) rfl) pa_nil))))) (pw_or1 (pt_not (pt_val (pe_callB call_isX (by rfl) (FX.free "isinstance" (List.mem_of_getElem? (i := 3) rfl)) (by decide +kernel) (pa_cons (pv 0) (pa_cons (pe_bltn (v := .ty "ValueError") (by rfl) (FX.free "ValueError" (List.mem_of_getElem? (i := 7) rfl)) (by decide +kernel) rfl) pa_nil)))))))) (pss_one (ps_ret pe_bl)) pss_nil)
  (pss_cons (ps_if (pt_cmpR op_ne (pe_callB call_isX (by rfl) (FX.free "isinstance" (List.mem_of_getElem? (i := 3) rfl)) (by decide +kernel) (pa_cons (pv 0) (pa_cons (pe_glob (v := .ref (He.ga K "Missing")) rfl (FX.glo "Missing" (List.mem_of_getElem? (i := 27) rfl)) rfl) pa_nil))) (pe_cmpR op_in_seq (pv 1) (pe_tup (pa_cons pe_int (pa_cons pe_int pa_nil))) (by rfl)) (nomark _)) (pss_one (ps_ret pe_bl)) pss_nil)
  (pss_cons (ps_if (PW.pt (pw_or (pt_val (pe_callB call_isX (by rfl) (FX.free "isinstance" (List.mem_of_getElem? (i := 3) rfl)) (by decide +kernel) (pa_cons (pv 0) (pa_cons (pe_bltn (v := .ty "LookupError") (by rfl) (FX.free "LookupError" (List.mem_of_getElem? (i := 8) rfl)) (by decide +kernel) rfl) pa_nil)))) (pw_or (pt_val (pe_callB call_isX (by rfl) (FX.free "isinstance" (List.mem_of_getElem? (i := 3) rfl)) (by decide +kernel) (pa_cons (pv 0) (pa_cons (pe_bltn (v := .ty "TypeError") (by rfl) (FX.free "TypeError" (List.mem_of_getElem? (i := 9) rfl)) (by decide +kernel) rfl) pa_nil)))) (pw_or1 (pt_val (pe_callB call_isX (by rfl) (FX.free "isinstance" (List.mem_of_getElem? (i := 3) rfl)) (by decide +kernel) (pa_cons (pv 0) (pa_cons (pe_bltn (v := .ty "ArithmeticError") (by rfl) (FX.free "ArithmeticError" (List.mem_of_getElem? (i := 10) rfl)) (by decide +kernel) rfl) pa_nil)))))))) (pss_one (ps_ret pe_bl)) pss_nil)
  (pss_one (ps_ret (pe_and (pe_not (pe_callB call_isX (by rfl) (FX.free "isinstance" (List.mem_of_getElem? (i := 3) rfl)) (by decide +kernel) (pa_cons (pv 0) (pa_cons (pe_bltn (v := .ty "RuntimeError") (by rfl) (FX.free "RuntimeError" (List.mem_of_getElem? (i := 11) rfl)) (by decide +kernel) rfl) pa_nil)))) (pe_one (pe_not (pe_callB call_isX (by rfl) (FX.free "isinstance" (List.mem_of_getElem? (i := 3) rfl)) (by decide +kernel) (pa_cons (pv 0) (pa_cons (pe_bltn (v := .ty "AttributeError") (by rfl) (FX.free "AttributeError" (List.mem_of_getElem? (i := 12) rfl)) (by decide +kernel) rfl) pa_nil)))))))))))), ?_⟩
    walk_at "kx"
    refine ⟨a, r, ys, rfl, hmem, hE, fun l H1 k1 e1 => ?_⟩
    have e1' : H1 l = some (.lst ((only i).map V.bl)) := by
      rw [e1, ← only_of hlt hn, List.map_map]
      rfl
    refine ⟨27, rfl, by decide, by decide, fun D hD => lc_range (lo := 0) (n := 27) (fun j H => But D H1 H ∧ H D = some (.lst (((List.range j).map fun m => decide (i = m)).map V.bl))) ⟨But.new But.refl hD, upd_same⟩ (fun j H hj hp => ?_) fun H2 hp => ?_⟩
    · obtain ⟨hb, hd⟩ := hp
      refine ⟨rfl, ?_⟩
      walk_at "kx"
      refine ⟨_, hd, ?_, hb.upd, ?_⟩
      · rw [List.length_map, List.length_map, List.length_range]
        exact Evl.sz_lt (by omega)
      · rw [upd_same, List.range_succ, List.map_append, List.map_append]
        show _ = some (HO.lst (_ ++ [V.bl (decide (i = j))]))
        have e : decide (V.int (i : Int) = V.int (0 + (j : Int))) = decide (i = j) := by
          by_cases z : i = j
          · subst z
            simp
          · rw [decide_eq_false z]
            refine decide_eq_false fun y => ?_
            injection y with y
            omega
        rw [e]
    · obtain ⟨hb, hd⟩ := hp
      have nl : l ≠ D := fun z => by
        rw [z, hD] at e1
        cases e1
      have hE2 : ErrAt K H2 r ys a := by
        refine ErrAt.mono (fun b o z => ?_) hE
        have z1 := k1 b o z
        exact hb b o (ne_of_none z1 hD) z1
      have kk : Same H H2 := fun b o z => hb b o (ne_of_none (k1 b o z) hD) (k1 b o z)
      refine ⟨.list ((only i).map .bool), .list ((only i).map .bool), .lst (SqL.of (hb l _ nl e1')) (bools_dp _), .lst (SqL.of hd) (bools_dp _), bools_shaped _, bools_shaped _, ?_⟩
      have ev : PyData.eqv (.list ((only i).map .bool)) (.list ((only i).map .bool)) = true := SeqAt.eqv_refl _ (SeqAt.canLay_of_shaped (bools_shaped _))
      rw [ev]
      walk_at "kx"
      refine rd_isC FX hE2 T hmem (by decide +kernel) ?_
      rw [scale_of]
      walk_at "kx"
      refine rd_isB FX hE2 T hmem (by decide +kernel) ?_
      walk_at "kx"
      refine rd_isC FX hE2 T hmem (by decide +kernel) ?_
      walk_at "kx"
      refine ⟨by decide, fun p hp => ?_⟩
      refine ⟨p, _, rfl, .inr (SqT.of upd_same), rfl, rfl, ?_⟩
      have eb : (if (false : Bool) = true then !inV (.int (i : Int)) [.int 14, .int 15] else inV (.int (i : Int)) [.int 14, .int 15]) = isKin r.name "Missing" := by
        rw [if_neg Bool.false_ne_true, miss_of hlt hn, in1415]
      rw [eb]
      dsimp only
      have hE3 := ErrAt.mono (same_upd (o := .tup [.int 14, .int 15]) hp) hE2
      refine KX.rd_ne rfl ?_
      have ez : (!decide (V.bl (isKin r.name "Missing") = V.bl (isKin r.name "Missing"))) = false := by
        rw [decide_eq_true rfl]
        rfl
      rw [ez]
      walk_at "kx"
      refine rd_isB FX hE3 T hmem (by decide +kernel) ?_
      walk_at "kx"
      refine rd_isB FX hE3 T hmem (by decide +kernel) ?_
      walk_at "kx"
      refine rd_isB FX hE3 T hmem (by decide +kernel) ?_
      walk_at "kx"
      refine rd_isB FX hE3 T hmem (by decide +kernel) ?_
      walk_at "kx"
      refine rd_isB FX hE3 T hmem (by decide +kernel) ?_
      walk_at "kx"
      exact q _ (kk.trans (same_upd hp))
end
end K0
namespace K0
open PySem PySem.Spec PyProof.Rows L2 KX
local macro_rules | `(tactic| walk_at "kx1") => `(tactic| with_reducible first
  | refine KX.rd_seq ?_ | refine KX.rd_asg ?_ | refine KX.rd_op ?_ | refine KX.rd_c ?_ | refine KX.rd_cb ?_ | refine KX.rd_cons ?_ | refine KX.rd_nil ?_ | refine KX.rd_un ?_ | refine KX.rd_nx ?_ | refine KX.rd_rt ?_ | refine KX.rd_next ?_ | refine KX.rd_ret ?_
  | refine KX.rd_ifs ?_ | refine KX.rd_if ?_ | refine KX.rd_test ?_ | refine KX.rd_B ?_ | refine KX.rd_bl ?_ | refine KX.rd_and ?_ | refine KX.rd_or ?_ | refine KX.rd_not ?_ | refine KX.rd_I0 ?_ | refine KX.rd_U ?_ | refine KX.rd_int ?_ | refine KX.rd_intB ?_ | refine KX.rd_abs ?_
  | refine KX.rd_gname ?_ | refine KX.rd_gsub ?_ | refine KX.rd_call ?_ | refine KX.rd_drop ?_ | refine KX.rd_yes ?_ | refine KX.rd_andV ?_ | refine KX.rd_orV ?_ | refine KX.rd_notV ?_)
local macro_rules | `(tactic| walk_at "hp") => `(tactic| first
  | assumption
  | exact upd_same
  | (refine Eq.trans (upd_ne (by assumption)) ?_; walk_at "hp")
  | (refine Eq.trans (upd_ne (Ne.symm (by assumption))) ?_; walk_at "hp"))
local macro_rules | `(tactic| walk_at "kx2") => `(tactic| first
  | walk_at "kx1"
  | ((with_reducible refine KX.rd_T ?e ?_); (case e => rfl))
  | ((with_reducible refine KX.rd_F ?e ?_); (case e => rfl))
  | ((with_reducible refine' KX.rd_var ?e ?_); (case e => rfl))
  | ((with_reducible refine' KX.rd_I ?e ?_); (case e => first | assumption | decide | exact Or.inl ⟨by omega, by omega⟩ | exact ⟨by decide, by decide, by decide⟩ | exact ⟨by decide, by decide⟩))
  | ((with_reducible refine' KX.rd_eq ?e ?_); (case e => rfl))
  | ((with_reducible refine' KX.rd_ne ?e ?_); (case e => rfl))
  | ((with_reducible refine' KX.rd_ix ?e ?e2 ?_); (case e => first | assumption | exact SqL.of (by walk_at "hp")); (case e2 => first | assumption | rfl))
  | ((with_reducible refine' KX.rd_len ?e ?_); (case e => first | assumption | exact SqL.of (by walk_at "hp")))
  | ((with_reducible refine' KX.rd_set ?e ?e2 ?_); (case e => walk_at "hp"); (case e2 => rfl)))
local macro_rules | `(tactic| walk_at "kx") => `(tactic| repeat walk_at "kx2")
theorem scAll : FnScope ["_law_one", "_law_two", "_law_made", "_law_place", "_law_error", "_law_due"] ["_law_one", "_law_two", "_law_made"] (defScope sAllRight) := ⟨rfl, rfl, rfl, by decide +kernel, rfl, by decide +kernel, by decide +kernel⟩
/-- a small datum -/
structure Small (H : Hp) (x : V) (d : PyData) : Prop where
  hd : HD H x d
  sh : d.showable = true
  dp : d.depth ≤ 10
  ln : lenD d ≤ 20000
theorem Small.mono {H H' : Hp} {x : V} {d : PyData} (k : Same H H') (h : Small H x d) : Small H' x d := ⟨HD.mono k h.hd, h.sh, h.dp, h.ln⟩
theorem small1 {H : Hp} {x : V} {d : PyData} (h : Small H x d) : okD (.list [d]) := by
  obtain ⟨_, h1, h2, h3⟩ := h
  refine okD_of ?_ ?_ ?_
  · simp [PyData.showable, PyData.showableAll, h1]
  · simp only [PyData.depth, PyData.depthAll]
    omega
  · simp only [lenD, lenDs]
    omega
theorem small2 {H : Hp} {x y : V} {d e : PyData} (h : Small H x d) (g : Small H y e) : okD (.list [d, e]) := by
  obtain ⟨_, h1, h2, h3⟩ := h
  obtain ⟨_, g1, g2, g3⟩ := g
  refine okD_of ?_ ?_ ?_
  · simp [PyData.showable, PyData.showableAll, h1, g1]
  · simp only [PyData.depth, PyData.depthAll]
    omega
  · simp only [lenD, lenDs]
    omega
theorem small0 : okD (.list []) := okD_of rfl (by decide) (by decide)
/-- for i, x in enumerate(xs) over a list that stays -/
theorem for_en {K : PySem.W.Frag} {l : Addr} {xs : List V} {g : TG} {tb : TS} {D : Ends} {σ : L2.St} {H : Hp} (Pv : Nat → L2.St → Hp → Prop) (h0 : Pv 0 σ H) (hl : ∀ i σ H, i ≤ xs.length → Pv i σ H → SqL K H l xs)
    (hs : ∀ i x σ H T, xs[i]? = some x → Pv i σ H → H T = none → g (.ref T) σ (upd H T (.tup [.int (i : Nat), x])) fun σ2 H2 => tb { D with nx := Pv (i + 1), ct := Pv (i + 1), bk := D.nx } σ2 H2)
    (hd : ∀ σ H, Pv xs.length σ H → D.nx σ H) :
    ∃ W : Nat → Nat → L2.St → Hp → Prop, (∃ m, W 0 m σ H) ∧ ∀ i m σ H, W i m σ H →
      ((Ite K l).stop i H ∧ D.nx σ H) ∨ ((Ite K l).go i H ∧ ∃ N : L2.St → Hp → Prop, (∀ σ' H', N σ' H' → ∃ m', m' < m ∧ W (i + 1) m' σ' H') ∧ ∀ x H', (Ite K l).yld i H x H' → g x σ H' fun σ2 H2 => tb { D with nx := N, ct := N, bk := D.nx } σ2 H2) := by
  refine ⟨fun i m σ H => i + m = xs.length ∧ Pv i σ H, ⟨xs.length, by omega, h0⟩, ?_⟩
  rintro i m σ H ⟨e, p⟩
  have q := hl i σ H (by omega) p
  by_cases hlt : i < xs.length
  · refine .inr ⟨⟨xs, xs[i], q, List.getElem?_eq_getElem hlt⟩, Pv (i + 1), fun σ' H' p' => ⟨m - 1, by omega, by omega, p'⟩, fun x H' y => ?_⟩
    obtain ⟨T, z, rfl, nT, rfl, f1⟩ := y
    exact hs i z σ H T (f1 xs q) p nT
  · have e2 : i = xs.length := by omega
    subst e2
    exact .inl ⟨⟨xs, q, Nat.le_refl _⟩, hd σ H p⟩
def spAll (K : PySem.W.Frag) : Sp := fun vs H Q _ => ∃ (x y : V) (l : Addr) (refs : List V) (d e : PyData), vs = [x, y, .ref l] ∧ H l = some (.lst refs) ∧ ErrsAt K H (allRows x y) refs ∧ Small H x d ∧ Small H y e ∧ ∀ H', Same H H' → Q (.bl true) H'
section
variable {P : Program} {w : World} {K : PySem.W.Frag} {mg : Str → Option Value} {base : Heap} {f : Addr} {fd : FuncData}
theorem rd_repr {H : Hp} {Q : VK} {v : V} {d : PyData} (h : HD H v d) (o : okD d) (q : Q (.str d.shown) H) : rRepr [v] H Q := ⟨v, d, rfl, h, o, q⟩
/-- the values of the error at a place, the list that is due -/
theorem due_at {x y : V} {i : Nat} {r : ErrRow} {ys : List V} (h : (allRows x y)[i]? = some (r, ys)) : (i < 21 ∧ ys = [x]) ∨ (21 ≤ i ∧ i < 26 ∧ ys = [x, y]) ∨ (i = 26 ∧ ys = []) := by
  have hl := (name_at h).1
  rcases upto27 hl with rfl | rfl | rfl | rfl | rfl | rfl | rfl | rfl | rfl | rfl | rfl | rfl | rfl | rfl | rfl | rfl | rfl | rfl | rfl | rfl | rfl | rfl | rfl | rfl | rfl | rfl | rfl
  all_goals
    change some _ = some _ at h
    injection h with h
    injection h with h1 h2
    subst h2
    first
      | exact .inl ⟨by decide, rfl⟩
      | exact .inr (.inl ⟨by decide, by decide, rfl⟩)
      | exact .inr (.inr ⟨rfl, rfl⟩)
theorem rd_new1 {tr : TA} {σ : L2.St} {H : Hp} {Q : VK} {ys : List V} (h : ∀ (Q : List V → Hp → Prop), Q ys H → tr σ H Q) (hl : ys.length ≤ 1000) (q : ∀ p H', Same H H' → H' p = some (.lst ys) → Q (.ref p) H') : tLst tr σ H Q :=
  h _ ⟨Nat.le_of_lt (small1000 hl), fun p hp => q p _ (same_upd hp) upd_same⟩
theorem rd_due {σ : L2.St} {H : Hp} {Q : VK} {x y : V} {i : Nat} {r : ErrRow} {ys : List V} (h : (allRows x y)[i]? = some (r, ys)) (s0 : σ[0]? = some (some x)) (s1 : σ[1]? = some (some y)) (s3 : σ[3]? = some (some (.int i)))
    (q : ∀ p H', Same H H' → H' p = some (.lst ys) → Q (.ref p) H') : if decide ((i : Int) < 21) = true then tLst (tCons (tVar 0) tNil) σ H Q
      else tIf (tTest (tOp (rI0 fun i j => V.bl (decide (i < j))) (tVar 3) (tC (V.int 26)))) (tLst (tCons (tVar 0) (tCons (tVar 1) tNil))) (tLst tNil) σ H Q := by
  rcases due_at h with ⟨h1, rfl⟩ | ⟨h1, h2, rfl⟩ | ⟨h1, rfl⟩
  · refine KX.rd_T (decide_eq_true (by omega)) (rd_new1 (fun Q q => ⟨x, s0, q⟩) (by simp) q)
  · refine KX.rd_F (decide_eq_false (by omega)) ⟨.int i, s3, _, _, rfl, rfl, _, rfl, KX.rd_T (decide_eq_true (by omega)) (rd_new1 (fun Q q => ⟨x, s0, y, s1, q⟩) (by simp) q)⟩
  · refine KX.rd_F (decide_eq_false (by omega)) ⟨.int i, s3, _, _, rfl, rfl, _, rfl, KX.rd_F (decide_eq_false (by omega)) (rd_new1 (fun Q q => q) (by decide) q)⟩
theorem ok_all (F : FunD K "_law_all_right" "_law_all_right" (defArgs sAllRight) (defBody sAllRight) (defScope sAllRight) [] [] f fd) (FX : Fx P w K mg base)
    (CF : Callee P w K mg base 1 "_law_fields" ["_law_error", "_law_place"] (spFields K)) (CS : Callee P w K mg base 2 "_law_stands_right" ["_law_error", "_law_place"] (spStands K)) : FnOkG P w K mg base CX0 3 f fd ["_law_one", "_law_two", "_law_made"] (spAll K) := by
  refine okG F scAll (fun vs H Q E h => ?_) (fun cdv A outer s H vs Q E hgd hr h => ?_)
  · obtain ⟨x, y, l, refs, d, e, rfl, _⟩ := h
    rfl
  · obtain ⟨x, y, l, refs, d, e, rfl, hl, hE, hx, hy, q⟩ := h
    refine ⟨_, PSs.nox (pss_cons (ps_for PassesOwn.never rfl (pi_enum rfl (FX.free "enumerate" (List.mem_of_getElem? (i := 5) rfl)) (pa_cons (pv 2) pa_nil)) (pg_tup (by rfl) (pgs_cons (pg_name (i := 3) scAll.nd rfl (Or.inl rfl)) (pgs_cons (pg_name (i := 4) scAll.nd rfl (Or.inl rfl)) pgs_nil))) (pss_cons (ps_set (i := 5) scAll.nd rfl (Or.inl rfl) (pe_ifExp (pt_cmpR op_lt (pv 3) pe_int (nomark _)) (pe_lst (pa_cons (pv 0) pa_nil)) (pe_ifExp (pt_cmpR op_lt (pv 3) pe_int (nomark _)) (pe_lst (pa_cons (pv 0) (pa_cons (pv 1) pa_nil))) (pe_lst pa_nil))))
  (pss_one (ps_if (PW.pt (pw_or (pt_cmpR op_ne (pe_callB (call_repr hgd hr.units FX.sys) (by rfl) (FX.free "repr" (List.mem_of_getElem? (i := 4) rfl)) (by decide +kernel) (pa_cons (pe_c CF hr (by decide) rfl (pa_cons (pv 4) (pa_cons (pv 3) pa_nil))) pa_nil)) (pe_callB (call_repr hgd hr.units FX.sys) (by rfl) (FX.free "repr" (List.mem_of_getElem? (i := 4) rfl)) (by decide +kernel) (pa_cons (pv 5) pa_nil)) (nomark _)) (pw_or1 (pt_not (pt_val (pe_c CS hr (by decide) rfl (pa_cons (pv 4) (pa_cons (pv 3) pa_nil)))))))) (pss_one (ps_ret pe_bl)) pss_nil))))
  (pss_one (ps_ret (pe_cmpR op_eq (pe_callB c_len (by rfl) (FX.free "len" (List.mem_of_getElem? (i := 1) rfl)) (by decide +kernel) (pa_cons (pv 2) pa_nil)) pe_int (nomark _))))), ?_⟩
    walk_at "kx"
    have hlen : refs.length = 27 := by
      rw [← Paired.length hE]
      rfl
    refine ⟨_, rfl, l, refs, rfl, SqL.of hl, for_en (xs := refs) (fun i σ H2 => Same H H2 ∧ ∃ a b c, σ = [some x, some y, some (.ref l), a, b, c]) ⟨Same.refl H, none, none, none, rfl⟩ (fun i σ H2 _ p => SqL.of (p.1 _ _ hl)) (fun i v σ H2 T hv p nT => ?_) (fun σ H2 p => ?_)⟩
    · obtain ⟨k2, b1, b2, b3, rfl⟩ := p
      obtain ⟨⟨r, ys⟩, a, hi, rfl, ha⟩ := ErrsAt.get hE hv
      refine ⟨T, [.int i, .ref a], rfl, SqT.of upd_same, rfl, .int i, [.ref a], rfl, .ref a, [], rfl, rfl, ?_⟩
      have k3 : Same H (upd H2 T (.tup [.int i, .ref a])) := k2.trans (same_upd nT)
      generalize (upd H2 T (.tup [.int i, .ref a])) = H3 at k3 ⊢
      have ha3 := ErrAt.mono k3 ha
      have hd : ∃ ds, HDs H ys ds ∧ okD (.list ds) := by
        rcases due_at hi with ⟨_, rfl⟩ | ⟨_, _, rfl⟩ | ⟨_, rfl⟩
        · exact ⟨[d], .cons hx.hd .nil, small1 hx⟩
        · exact ⟨[d, e], .cons hx.hd (.cons hy.hd .nil), small2 hx hy⟩
        · exact ⟨[], .nil, small0⟩
      obtain ⟨ds, hds, hok⟩ := hd
      walk_at "kx"
      refine rd_due hi rfl rfl rfl fun p H4 k4 e4 => ?_
      walk_at "kx"
      refine ⟨a, i, x, y, r, ys, rfl, hi, ErrAt.mono k4 ha3, fun l2 H5 k5 e5 => ?_⟩
      have k35 : Same H H5 := (k3.trans k4).trans k5
      walk_at "kx"
      refine rd_repr (.lst e5 (HDs.mono k35 hds)) hok ?_
      walk_at "kx"
      refine rd_repr (.lst (k5 _ _ e4) (HDs.mono k35 hds)) hok ?_
      walk_at "kx"
      refine KX.rd_F (by rw [decide_eq_true rfl]; rfl) ?_
      walk_at "kx"
      refine ⟨a, i, x, y, r, ys, rfl, hi, ErrAt.mono (k4.trans k5) ha3, fun H6 k6 => ?_⟩
      walk_at "kx"
      exact ⟨k35.trans k6, _, _, _, rfl⟩
    · obtain ⟨k2, b1, b2, b3, rfl⟩ := p
      walk_at "kx"
      refine KX.rd_len (SqL.of (k2 _ _ hl)) ?_
      rw [hlen]
      dsimp only
      walk_at "kx"
      exact q _ k2
end
end K0
namespace K0
open PySem PySem.Spec PyProof.Rows L2 KX
local macro_rules | `(tactic| walk_at "kx1") => `(tactic| with_reducible first
  | refine KX.rd_seq ?_ | refine KX.rd_asg ?_ | refine KX.rd_op ?_ | refine KX.rd_c ?_ | refine KX.rd_cb ?_ | refine KX.rd_cons ?_ | refine KX.rd_nil ?_ | refine KX.rd_un ?_ | refine KX.rd_nx ?_ | refine KX.rd_rt ?_ | refine KX.rd_next ?_ | refine KX.rd_ret ?_
  | refine KX.rd_ifs ?_ | refine KX.rd_if ?_ | refine KX.rd_test ?_ | refine KX.rd_B ?_ | refine KX.rd_bl ?_ | refine KX.rd_and ?_ | refine KX.rd_or ?_ | refine KX.rd_not ?_ | refine KX.rd_I0 ?_ | refine KX.rd_U ?_ | refine KX.rd_int ?_ | refine KX.rd_intB ?_ | refine KX.rd_abs ?_
  | refine KX.rd_gname ?_ | refine KX.rd_gsub ?_ | refine KX.rd_call ?_ | refine KX.rd_drop ?_ | refine KX.rd_yes ?_ | refine KX.rd_andV ?_ | refine KX.rd_orV ?_ | refine KX.rd_notV ?_)
local macro_rules | `(tactic| walk_at "hp") => `(tactic| first
  | assumption
  | exact upd_same
  | (refine Eq.trans (upd_ne (by assumption)) ?_; walk_at "hp")
  | (refine Eq.trans (upd_ne (Ne.symm (by assumption))) ?_; walk_at "hp"))
local macro_rules | `(tactic| walk_at "kx2") => `(tactic| first
  | walk_at "kx1"
  | ((with_reducible refine KX.rd_T ?e ?_); (case e => rfl))
  | ((with_reducible refine KX.rd_F ?e ?_); (case e => rfl))
  | ((with_reducible refine' KX.rd_var ?e ?_); (case e => rfl))
  | ((with_reducible refine' KX.rd_I ?e ?_); (case e => first | assumption | decide | exact Or.inl ⟨by omega, by omega⟩ | exact ⟨by decide, by decide, by decide⟩ | exact ⟨by decide, by decide⟩))
  | ((with_reducible refine' KX.rd_eq ?e ?_); (case e => rfl))
  | ((with_reducible refine' KX.rd_ne ?e ?_); (case e => rfl))
  | ((with_reducible refine' KX.rd_ix ?e ?e2 ?_); (case e => first | assumption | exact SqL.of (by walk_at "hp")); (case e2 => first | assumption | rfl))
  | ((with_reducible refine' KX.rd_len ?e ?_); (case e => first | assumption | exact SqL.of (by walk_at "hp")))
  | ((with_reducible refine' KX.rd_set ?e ?e2 ?_); (case e => walk_at "hp"); (case e2 => rfl)))
local macro_rules | `(tactic| walk_at "kx") => `(tactic| repeat walk_at "kx2")
abbrev nmscTill : List Str := ["_law_script", "_law_cell"]
/-- as CalleeG, where no repr runs -/
def CalleeG (P : Program) (w : World) (K : PySem.W.Frag) (mg : Str → Option Value) (base : Heap) (k : Nat) (x : Str) (ps : List Str) (sp : Sp) : Prop :=
  ∃ (f : Addr) (fd : FuncData), mg x = some (.ref f) ∧ PySem.W.keepIn K (.ref f) = true ∧ Binds K fd ps [] ∧ FnOkG P w K mg base CX0 k f fd ps sp
section
variable {X : Cx} {k j : Nat} {x : Str} {ps : List Str} {sp : Sp} {p pos : Pos} {e : Expr} {es : List Expr} {t : TA}
theorem pe_cG (C : CalleeG X.prog X.w X.K X.mg X.base k x ps sp) (hgd : X.A.guards = some []) (hr : Room j X.A) (hj : k ≤ j) (hg : Gl X x) (ha : PA X (e :: es) t) (hdb : (x == ("__debug__" : Str)) = false := by decide)
    (he : starEach (e :: es) X.env = (false, eval e X.env) :: starEach es X.env := by rfl) (hpl : (backTo pos (starEach es X.env)).any (·.1) = false := by rfl) : PE X (.Call (.Name x p) (e :: es) [] pos) (tCall sp [] E0 t) := by
  obtain ⟨f, fd, h1, h2, h3, h4⟩ := C
  exact pe_callG h4 hgd (hr.mono hj) hg h1 h2 h3 .nil pass0 ha hdb he hpl
end
/-- a new till over the script's cells -/
def spTill (K : PySem.W.Frag) : Sp := fun vs H Q _ => ∃ (a : Addr) (ns : List Int), vs = [.ref a] ∧ SqL K H a (ns.map V.int) ∧ ∀ t c cells H', Same H H' → H t = none → Till H' t c cells 0 0 → Q (.ref t) H'
/-- one of a list's items -/
def spOf (most : Nat) : Sp := fun vs H Q _ => ∃ (t c : Addr) (cells : List Int) (at_ : Nat) (great : Int) (l : Addr) (xs : List V), vs = [.ref t, .ref l] ∧ Till H t c cells at_ great ∧ at_ ≤ most ∧ l ≠ t ∧ H l = some (.lst xs) ∧ xs ≠ [] ∧ xs.length ≤ 1000 ∧
  ∀ (x : V) (a2 : Nat) (g2 : Int) (H' : Hp), x ∈ xs → a2 ≤ at_ + 1 → Till H' t c cells a2 g2 → But t H H' → Q x H'
theorem cut62 (ns : List Int) : cutV (ns.map V.int) none (some 62) = (ns.take 62).map V.int := by
  unfold cutV
  have e : HT.sIx (ns.map V.int).length (ns.map V.int).length (some 62) = min 62 (ns.map V.int).length := HT.sIx_nat _ _ 62
  rw [HT.sIx_none, List.drop_zero, e, Nat.sub_zero, ← List.take_eq_take_min, List.map_take]
section
variable {P : Program} {w : World} {K : PySem.W.Frag} {mg : Str → Option Value} {base : Heap} {f : Addr} {fd : FuncData}
theorem ok_of (F : FunD K "_law_of" "_law_of" (defArgs sOf) (defBody sOf) (defScope sOf) [] [] f fd) (FX : Fx P w K mg base) (CC : Callee P w K mg base 1 "_law_coin" ["_law_till_here", "_law_many"] (spCoin 100000)) :
    FnOk P w K mg base CX0 2 f fd ["_law_till_here", "_law_some"] (spOf 100000) := by
  refine F.ok scOf (fun vs H Q E h => ?_) (fun cdv A outer s H vs Q E hr h => ?_)
  · obtain ⟨t, c, cells, at_, great, l, xs, rfl, _⟩ := h
    rfl
  · obtain ⟨t, c, cells, at_, great, l, xs, rfl, T, hat, hlt, hl, hne, hlen, q⟩ := h
    refine ⟨_, PSs.nox (pss_one (ps_ret (pe_ix ix_list (pv 1) (pe_c CC hr (by decide) rfl (pa_cons (pv 0) (pa_cons (pe_callB c_len (by rfl) (FX.free "len" (List.mem_of_getElem? (i := 1) rfl)) (by decide +kernel) (pa_cons (pv 1) pa_nil)) pa_nil))) (fun _ _ => rfl)))), ?_⟩
    walk_at "kx"
    have hpos : 0 < xs.length := List.length_pos_iff.mpr hne
    refine ⟨t, c, cells, at_, great, xs.length, rfl, T, hat, by omega, ?_, fun r a2 g2 H' h0 h1 h2 T2 B => ?_⟩
    · show ((xs.length : Nat) : Int).natAbs < 2 ^ 8000
      rw [Int.natAbs_natCast]
      exact Nat.lt_of_lt_of_le (show xs.length < 2 ^ 10 by omega) (Nat.pow_le_pow_right (by decide) (by decide))
    · obtain ⟨n, rfl⟩ := Int.eq_ofNat_of_zero_le h0
      have hn : n < xs.length := by omega
      refine KX.rd_ix (SqL.of (B l _ hlt hl)) (atI_nat (List.getElem?_eq_getElem hn)) ?_
      walk_at "kx"
      exact q _ a2 g2 H' (List.getElem_mem hn) h2 T2 B
theorem ok_till (F : FunD K "_law_till" "_law_till" (defArgs sTill) (defBody sTill) (defScope sTill) [] [] f fd) (FX : Fx P w K mg base) : FnOk P w K mg base CX0 1 f fd ["_law_script"] (spTill K) := by
  refine F.ok scTill (fun vs H Q E h => ?_) (fun cdv A outer s H vs Q E hr h => ?_)
  · obtain ⟨a, ns, rfl, _⟩ := h
    rfl
  · obtain ⟨a, ns, rfl, hS, q⟩ := h
    refine ⟨_, PSs.nox (pss_one (ps_ret (pe_lst (pa_cons (pe_lc (own := [("_law_cell", 1)]) (g := gName 1) (tt := tYes) rfl scTill.nd (pi_list (pe_slice sl_list (pv 0) po_none (po_some pe_int))) (blkOk_by (N := nmscTill) (sc := defScope sTill) (by decide +kernel)) (fun _ _ _ _ _ => pg_name (i := 1) scTill.nd rfl (Or.inl rfl)) (fun _ _ _ _ _ => pts_nil) (fun _ _ _ _ _ => (pe_callTy c_int (by rfl) (FX.free "int" (List.mem_of_getElem? (i := 0) rfl)) (by decide +kernel) (pa_cons (pv 1) pa_nil)))) (pa_cons pe_int (pa_cons pe_int pa_nil)))))), ?_⟩
    walk_at "kx"
    refine KX.rd_lst ?_
    walk_at "kx"
    refine ⟨.ref a, rfl, 62, rfl, a, ns.map V.int, rfl, hS, fun p hp => ⟨p, rfl, ⟨_, SqL.of upd_same⟩, fun D hD => ?_⟩⟩
    rw [cut62]
    have k1 : Same H (upd H p (.lst ((ns.take 62).map V.int))) := same_upd hp
    have e1 : (upd H p (.lst ((ns.take 62).map V.int))) p = some (.lst ((ns.take 62).map V.int)) := upd_same
    rw [cut62] at hD
    have hlen : (ns.take 62).length ≤ 62 := List.length_take_le ..
    generalize (ns.take 62) = cells at k1 e1 hD hlen ⊢
    generalize (upd H p (.lst (cells.map V.int))) = H1 at k1 e1 hD ⊢
    have hpD : p ≠ D := ne_of_none e1 hD
    refine lc_list (xs := cells.map V.int) (fun j H2 => But D H1 H2 ∧ H2 D = some (.lst ((cells.take j).map V.int))) ⟨But.new But.refl hD, upd_same⟩ (fun j H2 _ hp2 => SqL.of (hp2.1 p _ hpD e1)) (fun j x H2 hx hp2 => ?_) (fun H2 hp2 => ?_)
    · obtain ⟨hb, hd⟩ := hp2
      rw [List.getElem?_map] at hx
      obtain ⟨z, hz, rfl⟩ := Option.map_eq_some_iff.mp hx
      refine ⟨rfl, ?_⟩
      walk_at "kx"
      refine ⟨_, hd, ?_, hb.upd, ?_⟩
      · rw [List.length_map]
        exact Evl.sz_lt (by
          have := List.length_take_le j cells
          have := List.length_take_le' j cells
          omega)
      · rw [upd_same, List.take_succ, hz]
        simp
    · obtain ⟨hb, hd⟩ := hp2
      have kk : Same H H2 := fun b o z => hb b o (ne_of_none (k1 b o z) hD) (k1 b o z)
      walk_at "kx"
      refine ⟨Nat.le_of_lt (small1000 (by simp)), fun t ht => ?_⟩
      refine q t D cells _ (kk.trans (same_upd ht)) (Same.free kk ht) ⟨upd_same, ?_, ?_, hlen⟩
      · rw [upd_ne (ne_of_none hd ht), hd, List.length_map, List.take_length]
      · exact (ne_of_none hd ht).symm
end
end K0
namespace K0
open PySem PySem.Spec PyProof.Rows L2 KX
local macro_rules | `(tactic| walk_at "kx1") => `(tactic| with_reducible first
  | refine KX.rd_seq ?_ | refine KX.rd_asg ?_ | refine KX.rd_op ?_ | refine KX.rd_c ?_ | refine KX.rd_cb ?_ | refine KX.rd_cons ?_ | refine KX.rd_nil ?_ | refine KX.rd_un ?_ | refine KX.rd_nx ?_ | refine KX.rd_rt ?_ | refine KX.rd_next ?_ | refine KX.rd_ret ?_
  | refine KX.rd_ifs ?_ | refine KX.rd_if ?_ | refine KX.rd_test ?_ | refine KX.rd_B ?_ | refine KX.rd_bl ?_ | refine KX.rd_and ?_ | refine KX.rd_or ?_ | refine KX.rd_not ?_ | refine KX.rd_I0 ?_ | refine KX.rd_U ?_ | refine KX.rd_int ?_ | refine KX.rd_intB ?_ | refine KX.rd_abs ?_
  | refine KX.rd_gname ?_ | refine KX.rd_gsub ?_ | refine KX.rd_call ?_ | refine KX.rd_drop ?_ | refine KX.rd_yes ?_ | refine KX.rd_andV ?_ | refine KX.rd_orV ?_ | refine KX.rd_notV ?_)
local macro_rules | `(tactic| walk_at "hp") => `(tactic| first
  | assumption
  | exact upd_same
  | (refine Eq.trans (upd_ne (by assumption)) ?_; walk_at "hp")
  | (refine Eq.trans (upd_ne (Ne.symm (by assumption))) ?_; walk_at "hp"))
local macro_rules | `(tactic| walk_at "kx2") => `(tactic| first
  | walk_at "kx1"
  | ((with_reducible refine KX.rd_T ?e ?_); (case e => rfl))
  | ((with_reducible refine KX.rd_F ?e ?_); (case e => rfl))
  | ((with_reducible refine' KX.rd_var ?e ?_); (case e => rfl))
  | ((with_reducible refine' KX.rd_I ?e ?_); (case e => first | assumption | decide | exact Or.inl ⟨by omega, by omega⟩ | exact ⟨by decide, by decide, by decide⟩ | exact ⟨by decide, by decide⟩))
  | ((with_reducible refine' KX.rd_eq ?e ?_); (case e => rfl))
  | ((with_reducible refine' KX.rd_ne ?e ?_); (case e => rfl))
  | ((with_reducible refine' KX.rd_ix ?e ?e2 ?_); (case e => first | assumption | exact SqL.of (by walk_at "hp")); (case e2 => first | assumption | rfl))
  | ((with_reducible refine' KX.rd_len ?e ?_); (case e => first | assumption | exact SqL.of (by walk_at "hp")))
  | ((with_reducible refine' KX.rd_set ?e ?e2 ?_); (case e => walk_at "hp"); (case e2 => rfl)))
local macro_rules | `(tactic| walk_at "kx") => `(tactic| repeat walk_at "kx2")
theorem scLaw : FnScope ["_law_script", "_law_till_here", "_law_number", "_law_plain", "_law_one", "_law_two", "_law_error"] ["_law_script"] (defScope sLaw) := ⟨rfl, rfl, rfl, by decide +kernel, rfl, by decide +kernel, by decide +kernel⟩
/-! ### data that stand off the till -/
def offT (t : Addr) (H : Hp) : Hp := fun b => if b = t then none else H b
theorem offT_at {t b : Addr} {H : Hp} {o : HO} (h : H b = some o) (n : b ≠ t) : offT t H b = some o := by
  unfold offT
  rw [if_neg n]
  exact h
theorem offT_but {t : Addr} {H H' : Hp} (k : But t H H') : Same (offT t H) (offT t H') := fun b o e => by
  unfold offT at e ⊢
  by_cases n : b = t
  · rw [if_pos n] at e
    cases e
  · rw [if_neg n] at e ⊢
    exact k b o n e
theorem offT_le {t : Addr} {H : Hp} : Same (offT t H) H := fun b o e => by
  unfold offT at e
  by_cases n : b = t
  · rw [if_pos n] at e
    cases e
  · rw [if_neg n] at e
    exact e
def SmallT (t : Addr) (H : Hp) (x : V) : Prop := ∃ d, Small (offT t H) x d
theorem SmallT.mono {t : Addr} {H H' : Hp} {x : V} (k : But t H H') (h : SmallT t H x) : SmallT t H' x := by
  obtain ⟨d, h⟩ := h
  exact ⟨d, h.mono (offT_but k)⟩
section
variable {t : Addr} {H : Hp}
theorem st_non : SmallT t H .non := ⟨.none, .non, rfl, by decide, by decide⟩
theorem st_bl {b : Bool} : SmallT t H (.bl b) := ⟨.bool b, .bl b, rfl, Nat.zero_le _, (show 5 ≤ 20000 by decide)⟩
theorem st_int {n : Int} (h : n.natAbs.log2 < 1920) : SmallT t H (.int n) := ⟨.int n, .int n, decide_eq_true h, Nat.zero_le _, (show 1921 ≤ 20000 by decide)⟩
theorem st_str {x : Str} (h : (reprText x).length ≤ 20000) : SmallT t H (.str x) := ⟨.str x, .str x, rfl, Nat.zero_le _, h⟩
theorem st_tup0 {p : Addr} (h : H p = some (.tup [])) (n : p ≠ t) : SmallT t H (.ref p) := ⟨.tuple [], .tup (offT_at h n) .nil, rfl, by decide, by decide⟩
theorem st_lst0 {p : Addr} (h : H p = some (.lst [])) (n : p ≠ t) : SmallT t H (.ref p) := ⟨.list [], .lst (offT_at h n) .nil, rfl, by decide, by decide⟩
theorem st_lst1 {p : Addr} {m : Int} (h : H p = some (.lst [.int m])) (n : p ≠ t) (hm : m.natAbs.log2 < 1920) : SmallT t H (.ref p) :=
  ⟨.list [.int m], .lst (offT_at h n) (.cons (.int m) .nil), by simp [PyData.showable, PyData.showableAll, hm], by simp [PyData.depth, PyData.depthAll], by simp [lenD, lenDs]⟩
theorem st_tup2 {p : Addr} {x : Str} {m : Int} (h : H p = some (.tup [.str x, .int m])) (n : p ≠ t) (hm : m.natAbs.log2 < 1920) (hx : (reprText x).length ≤ 1000) : SmallT t H (.ref p) := by
  refine ⟨.tuple [.str x, .int m], .tup (offT_at h n) (.cons (.str x) (.cons (.int m) .nil)), by simp [PyData.showable, PyData.showableAll, hm], by simp [PyData.depth, PyData.depthAll], ?_⟩
  simp only [lenD, lenDs]
  omega
theorem st_dicI {p : Addr} {k m : Int} (h : H p = some (.dK [(.inl k, .int m)])) (n : p ≠ t) (hk : k.natAbs.log2 < 1920) (hm : m.natAbs.log2 < 1920) : SmallT t H (.ref p) :=
  ⟨.dict [(.int k, .int m)], .dic (offT_at h n) (.cons (.int k) .nil) (.cons (.int m) .nil), by simp [PyData.showable, PyData.showableKv, hk, hm], by simp [PyData.depth, PyData.depthKv], by simp [lenD, lenKv]⟩
theorem st_dicL {p q : Addr} {x : Str} {m : Int} (h : H p = some (.dK [(.inr x, .ref q)])) (n : p ≠ t) (hq : H q = some (.lst [.int m])) (n2 : q ≠ t) (hm : m.natAbs.log2 < 1920) (hx : (reprText x).length ≤ 1000) : SmallT t H (.ref p) := by
  refine ⟨.dict [(.str x, .list [.int m])], .dic (offT_at h n) (.cons (.str x) .nil) (.cons (.lst (offT_at hq n2) (.cons (.int m) .nil)) .nil), by simp [PyData.showable, PyData.showableKv, PyData.showableAll, hm], by simp [PyData.depth, PyData.depthKv, PyData.depthAll], ?_⟩
  simp only [lenD, lenKv, lenDs]
  omega
end
theorem same_disp {H H2 : Hp} {p : Addr} {o o2 : HO} (hp : H p = none) (k : Same (upd H p o) H2) : Same H (upd H2 p o2) := fun b x e => by
  have n := ne_of_none e hp
  rw [upd_ne n]
  exact k _ _ (by rw [upd_ne n]; exact e)
theorem log_lt {n : Int} (h : n.natAbs < 10 ^ 61) : n.natAbs.log2 < 1920 := by
  by_cases z : n.natAbs = 0
  · rw [z]
    decide
  · refine (Nat.log2_lt z).mpr (Nat.lt_of_lt_of_le h ?_)
    exact Nat.le_trans (show 10 ^ 61 ≤ 2 ^ 240 by decide +kernel) (Nat.pow_le_pow_right (by decide) (by decide))
section
variable {D : Ends} {σ : L2.St} {H : Hp} {K : PySem.W.Frag}
theorem rd_par {i j : Nat} {ta : TA} (q : ta σ H fun vs H1 => ∃ v w, vs = [v, w] ∧ D.nx ((σ.set i (some v)).set j (some w)) H1) : tPar i j ta D σ H := q
theorem rd_mul {Q : VK} {m n : Int} (h : CMul m n) (q : Q (.int (m * n)) H) : rI CMul (fun i j => V.int (i * j)) (.int m) (.int n) H Q := ⟨m, n, rfl, rfl, h, q⟩
theorem rd_forM {tr : TA} {g : TG} {tb : TS} {rs : List (ErrRow × List V)} (h : TelA K tr σ rs) (hl : rs.length ≤ 1000)
    (q : ∀ l vs H', Same H H' → H' l = some (.lst vs) → ErrsAt K H' rs vs → ∃ W : Nat → Nat → L2.St → Hp → Prop, (∃ m, W 0 m σ H') ∧ ∀ i m σ H, W i m σ H →
      ((Itl K l).stop i H ∧ D.nx σ H) ∨ ((Itl K l).go i H ∧ ∃ N : L2.St → Hp → Prop, (∀ σ' H', N σ' H' → ∃ m', m' < m ∧ W (i + 1) m' σ' H') ∧ ∀ x H', (Itl K l).yld i H x H' → g x σ H' fun σ2 H2 => tb { D with nx := N, ct := N, bk := D.nx } σ2 H2)) :
    tFor (iList K (tLst tr)) g tb D σ H :=
  rd_made (K := K) (Q := fun x H1 => ∃ a, x = .ref a ∧ (∃ xs, SqL K H1 a xs) ∧ ∃ W : Nat → Nat → L2.St → Hp → Prop, (∃ m, W 0 m σ H1) ∧ ∀ i m σ H, W i m σ H →
      ((Itl K a).stop i H ∧ D.nx σ H) ∨ ((Itl K a).go i H ∧ ∃ N : L2.St → Hp → Prop, (∀ σ' H', N σ' H' → ∃ m', m' < m ∧ W (i + 1) m' σ' H') ∧ ∀ x H', (Itl K a).yld i H x H' → g x σ H' fun σ2 H2 => tb { D with nx := N, ct := N, bk := D.nx } σ2 H2)) h hl
    fun l vs H' k e z => ⟨l, rfl, ⟨_, SqL.of e⟩, q l vs H' k e z⟩
end
theorem miss_none : inV (.bl true) (kinOf "Missing") = false := by decide +kernel
theorem miss_flat : (kinOf "Missing").all flatV = true := by decide +kernel
def spLaw (K : PySem.W.Frag) : Sp := fun vs H Q _ => ∃ (a : Addr) (ns : List Int), vs = [.ref a] ∧ SqL K H a (ns.map V.int) ∧ ∀ H', Q (.bl true) H'
section
variable {P : Program} {w : World} {K : PySem.W.Frag} {mg : Str → Option Value} {base : Heap} {f : Addr} {fd : FuncData}
theorem ok_law (F : FunD K "law" "law" (defArgs sLaw) (defBody sLaw) (defScope sLaw) [] [] f fd) (FX : Fx P w K mg base) (ex : ∀ n ∈ all28, ExK K (He.ga K n))
    (CT : Callee P w K mg base 1 "_law_till" ["_law_script"] (spTill K)) (CC : Callee P w K mg base 1 "_law_coin" ["_law_till_here", "_law_many"] (spCoin 100000)) (CO : Callee P w K mg base 2 "_law_of" ["_law_till_here", "_law_some"] (spOf 100000))
    (CP : Callee P w K mg base 3 "_law_parts" ["_law_part", "_law_turned"] (spParts K)) (CQ : Callee P w K mg base 3 "_law_others" ["_law_one", "_law_two"] (spOthers K)) (CN : Callee P w K mg base 3 "_law_others_named" ["_law_one", "_law_two"] (spOthers K))
    (CK : Callee P w K mg base 1 "_law_kin" ["_law_error"] (spKin K)) (CA : CalleeG P w K mg base 3 "_law_all_right" ["_law_one", "_law_two", "_law_made"] (spAll K)) : FnOkG P w K mg base CX0 4 f fd ["_law_script"] (spLaw K) := by
  refine okG F scLaw (fun vs H Q E h => ?_) (fun cdv A outer s H vs Q E hgd hr h => ?_)
  · obtain ⟨a, ns, rfl, _⟩ := h
    rfl
  · obtain ⟨a, ns, rfl, hS, q⟩ := h
    refine ⟨_, PSs.nox (pss_cons (ps_set (i := 1) scLaw.nd rfl (Or.inl rfl) (pe_c CT hr (by decide) rfl (pa_cons (pv 0) pa_nil)))
  (pss_cons (ps_set (i := 2) scLaw.nd rfl (Or.inl rfl) (pe_op op_mul (pe_c CO hr (by decide) rfl (pa_cons (pv 1) (pa_cons (pe_lst (pa_cons pe_int (pa_cons (pe_un un_neg pe_int) pa_nil))) pa_nil))) (pe_c CC hr (by decide) rfl (pa_cons (pv 1) (pa_cons (pe_op op_pow pe_int pe_int) pa_nil)))))
  (pss_cons (ps_set (i := 3) scLaw.nd rfl (Or.inl rfl) (pe_lst (pa_cons pe_non (pa_cons pe_bl (pa_cons (pv 2) (pa_cons pe_str (pa_cons pe_str (pa_cons (pe_tup (pa_cons pe_str (pa_cons pe_int pa_nil))) (pa_cons (pe_lst (pa_cons (pv 2) pa_nil)) (pa_cons (pe_disp (pps_cons pe_str (pe_lst (pa_cons pe_int pa_nil)) pps_nil) (by rfl) (by rfl) (fun z => by cases z) (by decide)) pa_nil))))))))))
  (pss_cons (ps_par (i := 4) (j := 5) (by rfl) scLaw.nd rfl rfl (by decide) rfl rfl (pa_cons (pe_c CO hr (by decide) rfl (pa_cons (pv 1) (pa_cons (pv 3) pa_nil))) (pa_cons (pe_c CO hr (by decide) rfl (pa_cons (pv 1) (pa_cons (pe_lst (pa_cons pe_int (pa_cons pe_bl (pa_cons pe_str (pa_cons (pe_lst pa_nil) (pa_cons (pe_tup pa_nil) (pa_cons (pe_disp (pps_cons pe_int pe_int pps_nil) (by rfl) (by rfl) (fun z => by cases z) (by decide)) (pa_cons (pe_op op_add (pv 2) pe_int) (pa_cons pe_non pa_nil))))))))) pa_nil))) pa_nil)) (by rfl))
  (pss_cons (ps_if (pt_not (pt_val (pe_cG CA hgd hr (by decide) rfl (pa_cons (pv 4) (pa_cons (pv 5) (pa_cons (pe_op op_cat (pe_c CP hr (by decide) rfl (pa_cons (pv 4) (pa_cons pe_bl pa_nil))) (pe_c CQ hr (by decide) rfl (pa_cons (pv 4) (pa_cons (pv 5) pa_nil)))) pa_nil)))))) (pss_one (ps_ret pe_bl)) pss_nil)
  (pss_cons (ps_if (pt_not (pt_val (pe_cG CA hgd hr (by decide) rfl (pa_cons (pv 4) (pa_cons (pv 5) (pa_cons (pe_op op_cat (pe_c CP hr (by decide) rfl (pa_cons (pv 4) (pa_cons pe_bl pa_nil))) (pe_c CN hr (by decide) rfl (pa_cons (pv 4) (pa_cons (pv 5) pa_nil)))) pa_nil)))))) (pss_one (ps_ret pe_bl)) pss_nil)
  (pss_cons (ps_for PassesOwn.never rfl (pi_list (pe_lst (pa_cons (pe_err (FX.err r26 (List.mem_of_getElem? (i := 26) rfl)) hr (by decide) pass0 rfl (by decide) rfl (pa_cons (pv 4) pa_nil)) (pa_cons (pe_errK (FX.err r26 (List.mem_of_getElem? (i := 26) rfl)) hr (by decide) pass0 rfl rfl  (pk_cons (pv 4) pk_nil)) pa_nil)))) (pg_name (i := 6) scLaw.nd rfl (Or.inl rfl)) (pss_cons (ps_if (PW.pt (pw_or (pt_cmpR op_ne (pe_callB (call_repr hgd hr.units FX.sys) (by rfl) (FX.free "repr" (List.mem_of_getElem? (i := 4) rfl)) (by decide +kernel) (pa_cons (pe_exf (pv 6)) pa_nil)) (pe_callB (call_repr hgd hr.units FX.sys) (by rfl) (FX.free "repr" (List.mem_of_getElem? (i := 4) rfl)) (by decide +kernel) (pa_cons (pv 4) pa_nil)) (nomark _)) (pw_or1 (pt_cmpR op_in_seq pe_bl (pe_c CK hr (by decide) rfl (pa_cons (pv 6) pa_nil)) (by rfl))))) (pss_one (ps_ret pe_bl)) pss_nil)
  (pss_one (ps_if (PW.pt (pw_or (pt_not (pt_val (pe_callB call_isX (by rfl) (FX.free "isinstance" (List.mem_of_getElem? (i := 3) rfl)) (by decide +kernel) (pa_cons (pv 6) (pa_cons (pe_glob (v := .ref (He.ga K "ScaleError")) rfl (FX.glo "ScaleError" (List.mem_of_getElem? (i := 28) rfl)) rfl) pa_nil))))) (pw_or1 (pt_not (pt_val (pe_callB call_isX (by rfl) (FX.free "isinstance" (List.mem_of_getElem? (i := 3) rfl)) (by decide +kernel) (pa_cons (pv 6) (pa_cons (pe_bltn (v := .ty "ValueError") (by rfl) (FX.free "ValueError" (List.mem_of_getElem? (i := 7) rfl)) (by decide +kernel) rfl) pa_nil)))))))) (pss_one (ps_ret pe_bl)) pss_nil))))
  (pss_one (ps_ret pe_bl))))))))), ?_⟩
    walk_at "kx"
    refine ⟨a, ns, rfl, hS, fun t c cells H1 k1 nt T1 => ?_⟩
    walk_at "kx"
    refine KX.rd_lst ?_
    walk_at "kx"
    refine ⟨Nat.le_of_lt (small1000 (by simp)), fun p hp => ?_⟩
    have np : p ≠ t := (ne_of_none T1.here hp).symm
    have T1 := T1.mono (same_upd (o := .lst [.int 1, .int (-1)]) hp)
    have e1 : (upd H1 p (.lst [.int 1, .int (-1)])) p = some (.lst [.int 1, .int (-1)]) := upd_same
    walk_at "kx"
    refine ⟨t, c, cells, 0, 0, p, _, rfl, T1, by decide, np, e1, by simp, by simp, fun u a2 g2 H2 hu ha2 T2 B2 => ?_⟩
    clear T1 e1 np hp
    obtain ⟨uz, rfl, hz⟩ : ∃ uz : Int, u = .int uz ∧ (uz = 1 ∨ uz = -1) := by
      simp only [List.mem_cons, List.not_mem_nil, or_false] at hu
      rcases hu with rfl | rfl
      · exact ⟨1, rfl, .inl rfl⟩
      · exact ⟨-1, rfl, .inr rfl⟩
    walk_at "kx"
    refine ⟨t, c, cells, a2, g2, _, rfl, T2, by omega, (show (0 : Int) < 10 ^ Int.toNat 60 by decide +kernel), (show ((10 : Int) ^ Int.toNat 60).natAbs < 2 ^ 8000 by decide +kernel), fun r a3 g3 H3 h0 h1 ha3 T3 B3 => ?_⟩
    have hb : (uz * r).natAbs < 10 ^ 60 := by
      have h1 : r < 10 ^ 60 := h1
      rcases hz with rfl | rfl <;> omega
    refine rd_mul (by rcases hz with rfl | rfl <;> exact .inl ⟨by decide, by decide⟩) ?_
    generalize uz * r = n at hb ⊢
    have hn : n.natAbs.log2 < 1920 := log_lt (by omega)
    have hn1 : (n + 1).natAbs.log2 < 1920 := log_lt (by omega)
    have ha : a3 ≤ 2 := by omega
    clear h0 h1 ha3 B3 T2 B2 ha2 hu hz hb
    walk_at "kx"
    refine KX.rd_lst ?_
    walk_at "kx"
    refine KX.rd_tup ?_
    walk_at "kx"
    refine ⟨Nat.le_of_lt (small1000 (by simp)), fun pt hpt => ?_⟩
    walk_at "kx"
    have T4 := T3.mono (same_upd (o := .tup [.str "a", .int 1]) hpt)
    have nt4 : pt ≠ t := (ne_of_none T3.here hpt).symm
    have s4 : SmallT t (upd H3 pt (.tup [.str "a", .int 1])) (.ref pt) := st_tup2 upd_same nt4 (by decide) (by decide +kernel)
    generalize (upd H3 pt (.tup [.str "a", .int 1])) = H4 at T4 s4 ⊢
    clear T3 hpt
    refine KX.rd_lst ?_
    walk_at "kx"
    refine ⟨Nat.le_of_lt (small1000 (by simp)), fun pl hpl => ?_⟩
    walk_at "kx"
    have k5 : Same H4 (upd H4 pl (.lst [.int n])) := same_upd hpl
    have nt5 : pl ≠ t := (ne_of_none T4.here hpl).symm
    have s5 : SmallT t (upd H4 pl (.lst [.int n])) (.ref pl) := st_lst1 upd_same nt5 hn
    generalize (upd H4 pl (.lst [.int n])) = H5 at k5 s5 ⊢
    have T5 := T4.mono k5
    have s4 := s4.mono (But.of k5)
    clear T4 hpl k5
    refine fun pd hpd => ?_
    dsimp only [tPairs]
    walk_at "kx"
    refine KX.rd_lst ?_
    walk_at "kx"
    refine ⟨Nat.le_of_lt (small1000 (by simp)), fun pi hpi => ?_⟩
    have nip : pd ≠ pi := fun z => by
      rw [z, upd_same] at hpi
      cases hpi
    refine ⟨by rw [upd_ne nip, upd_same], [(.inr "a", .ref pi)], rfl, by simp, ?_⟩
    have k6 : Same H5 (upd (upd (upd H5 pd (.dK [])) pi (.lst [.int 1])) pd (.dK [(.inr "a", .ref pi)])) := same_disp hpd (same_upd hpi)
    have nt6 : pd ≠ t := (ne_of_none T5.here hpd).symm
    have nt6' : pi ≠ t := (ne_of_none (show upd H5 pd (.dK []) t = some (.lst [.ref c, .int a3, .int g3]) by rw [upd_ne nt6.symm]; exact T5.here) hpi).symm
    have s6 : SmallT t (upd (upd (upd H5 pd (.dK [])) pi (.lst [.int 1])) pd (.dK [(.inr "a", .ref pi)])) (.ref pd) :=
      st_dicL upd_same nt6 (by rw [upd_ne nip.symm, upd_same]) nt6' (by decide) (by decide +kernel)
    have ek : (upd (upd (upd H5 pd (.dK [])) pi (.lst [.int 1])) pd (.dK (mergeK [] [(.inr "a", .ref pi)]))) = (upd (upd (upd H5 pd (.dK [])) pi (.lst [.int 1])) pd (.dK [(.inr "a", .ref pi)])) := rfl
    rw [ek]
    generalize (upd (upd (upd H5 pd (.dK [])) pi (.lst [.int 1])) pd (.dK [(.inr "a", .ref pi)])) = H6 at k6 s6 ⊢
    have T6 := T5.mono k6
    have s4 := s4.mono (But.of k6)
    have s5 := s5.mono (But.of k6)
    clear T5 hpd hpi k6 ek nip nt4 nt5 nt6 nt6'
    walk_at "kx"
    refine ⟨Nat.le_of_lt (small1000 (by simp)), fun pp hpp => ?_⟩
    walk_at "kx"
    have k7 := same_upd (o := .lst [.non, .bl true, .int n, .str "part", .str "", .ref pt, .ref pl, .ref pd]) hpp
    have ntp : pp ≠ t := (ne_of_none T6.here hpp).symm
    have e7 : (upd H6 pp (.lst [.non, .bl true, .int n, .str "part", .str "", .ref pt, .ref pl, .ref pd])) pp = some (.lst [.non, .bl true, .int n, .str "part", .str "", .ref pt, .ref pl, .ref pd]) := upd_same
    generalize (upd H6 pp (.lst [.non, .bl true, .int n, .str "part", .str "", .ref pt, .ref pl, .ref pd])) = H7 at k7 e7 ⊢
    have T7 := T6.mono k7
    have s4 := s4.mono (But.of k7)
    have s5 := s5.mono (But.of k7)
    have s6 := s6.mono (But.of k7)
    clear T6 hpp k7
    refine rd_par ?_
    walk_at "kx"
    refine ⟨t, c, cells, a3, g3, pp, _, rfl, T7, by omega, ntp, e7, by simp, by simp, fun x a4 g4 H8 hx ha4 T8 B8 => ?_⟩
    have sx : SmallT t H8 x := by
      refine SmallT.mono B8 ?_
      simp only [List.mem_cons, List.not_mem_nil, or_false] at hx
      rcases hx with rfl | rfl | rfl | rfl | rfl | rfl | rfl | rfl
      · exact st_non
      · exact st_bl
      · exact st_int hn
      · exact st_str (by decide +kernel)
      · exact st_str (by decide +kernel)
      · exact s4
      · exact s5
      · exact s6
    clear s4 s5 s6 T7 e7 ntp hx B8
    walk_at "kx"
    refine KX.rd_lst ?_
    walk_at "kx"
    refine KX.rd_lst ?_
    walk_at "kx"
    refine ⟨Nat.zero_le _, fun p1 hp1 => ?_⟩
    walk_at "kx"
    have k9 := same_upd (o := .lst []) hp1
    have nt1 : p1 ≠ t := (ne_of_none T8.here hp1).symm
    have s1 : SmallT t (upd H8 p1 (.lst [])) (.ref p1) := st_lst0 upd_same nt1
    generalize (upd H8 p1 (.lst [])) = H9 at k9 s1 ⊢
    have T9 := T8.mono k9
    have sx := sx.mono (But.of k9)
    clear T8 hp1 k9
    refine KX.rd_tup ?_
    walk_at "kx"
    refine ⟨Nat.zero_le _, fun p2 hp2 => ?_⟩
    walk_at "kx"
    have k10 := same_upd (o := .tup []) hp2
    have nt2 : p2 ≠ t := (ne_of_none T9.here hp2).symm
    have s2 : SmallT t (upd H9 p2 (.tup [])) (.ref p2) := st_tup0 upd_same nt2
    generalize (upd H9 p2 (.tup [])) = H10 at k10 s2 ⊢
    have T10 := T9.mono k10
    have sx := sx.mono (But.of k10)
    have s1 := s1.mono (But.of k10)
    clear T9 hp2 k10
    refine fun p3 hp3 => ?_
    dsimp only [tPairs]
    walk_at "kx"
    refine ⟨upd_same, [(.inl 1, .int 2)], rfl, by simp, ?_⟩
    have k11 : Same H10 (upd (upd H10 p3 (.dK [])) p3 (.dK [(.inl 1, .int 2)])) := same_disp hp3 (Same.refl _)
    have nt3 : p3 ≠ t := (ne_of_none T10.here hp3).symm
    have s3 : SmallT t (upd (upd H10 p3 (.dK [])) p3 (.dK [(.inl 1, .int 2)])) (.ref p3) := st_dicI upd_same nt3 (by decide) (by decide)
    have ek : (upd (upd H10 p3 (.dK [])) p3 (.dK (mergeK [] [(.inl 1, .int 2)]))) = (upd (upd H10 p3 (.dK [])) p3 (.dK [(.inl 1, .int 2)])) := rfl
    rw [ek]
    generalize (upd (upd H10 p3 (.dK [])) p3 (.dK [(.inl 1, .int 2)])) = H11 at k11 s3 ⊢
    have T11 := T10.mono k11
    have sx := sx.mono (But.of k11)
    have s1 := s1.mono (But.of k11)
    have s2 := s2.mono (But.of k11)
    clear T10 hp3 k11 ek nt1 nt2 nt3
    walk_at "kx"
    refine ⟨Nat.le_of_lt (small1000 (by simp)), fun p4 hp4 => ?_⟩
    walk_at "kx"
    have k12 := same_upd (o := .lst [.int 0, .bl false, .str "book", .ref p1, .ref p2, .ref p3, .int (n + 1), .non]) hp4
    have nt4 : p4 ≠ t := (ne_of_none T11.here hp4).symm
    have e12 : (upd H11 p4 (.lst [.int 0, .bl false, .str "book", .ref p1, .ref p2, .ref p3, .int (n + 1), .non])) p4 = some (.lst [.int 0, .bl false, .str "book", .ref p1, .ref p2, .ref p3, .int (n + 1), .non]) := upd_same
    generalize (upd H11 p4 (.lst [.int 0, .bl false, .str "book", .ref p1, .ref p2, .ref p3, .int (n + 1), .non])) = H12 at k12 e12 ⊢
    have T12 := T11.mono k12
    have sx := sx.mono (But.of k12)
    have s1 := s1.mono (But.of k12)
    have s2 := s2.mono (But.of k12)
    have s3 := s3.mono (But.of k12)
    clear T11 hp4 k12
    refine ⟨t, c, cells, a4, g4, p4, _, rfl, T12, by omega, nt4, e12, by simp, by simp, fun y a5 g5 H13 hy ha5 T13 B13 => ?_⟩
    have sy : SmallT t H13 y := by
      refine SmallT.mono B13 ?_
      simp only [List.mem_cons, List.not_mem_nil, or_false] at hy
      rcases hy with rfl | rfl | rfl | rfl | rfl | rfl | rfl | rfl
      · exact st_int (by decide)
      · exact st_bl
      · exact st_str (by decide +kernel)
      · exact s1
      · exact s2
      · exact s3
      · exact st_int hn1
      · exact st_non
    have sx := sx.mono B13
    obtain ⟨dx, sx⟩ := sx
    obtain ⟨dy, sy⟩ := sy
    have sx := sx.mono offT_le
    have sy := sy.mono offT_le
    clear s1 s2 s3 T12 e12 nt4 hy B13 T13 ha4 ha5
    walk_at "kx"
    refine ⟨x, y, rfl, ?_⟩
    walk_at "kx"
    refine ⟨x, false, rfl, fun l1 vs1 G1 j1 i1 z1 => ?_⟩
    walk_at "kx"
    refine ⟨x, y, rfl, fun l2 vs2 G2 j2 i2 z2 => ?_⟩
    refine rd_sum (j2 _ _ i1) i2 (ErrsAt.mono j2 z1) z2 (by simp [partRows, otherRows]) fun l3 G3 j3 i3 z3 => ?_
    walk_at "kx"
    have kk := (j1.trans j2).trans j3
    refine ⟨x, y, l3, _, dx, dy, rfl, i3, z3, sx.mono kk, sy.mono kk, fun G4 j4 => ?_⟩
    have sx := (sx.mono kk).mono j4
    have sy := (sy.mono kk).mono j4
    clear i1 z1 j1 i2 z2 j2 i3 z3 j3 kk j4
    walk_at "kx"
    refine ⟨x, true, rfl, fun l1 vs1 G1 j1 i1 z1 => ?_⟩
    walk_at "kx"
    refine ⟨x, y, rfl, fun l2 vs2 G2 j2 i2 z2 => ?_⟩
    refine rd_sum (j2 _ _ i1) i2 (ErrsAt.mono j2 z1) z2 (by simp [partRows, otherRows]) fun l3 G3 j3 i3 z3 => ?_
    walk_at "kx"
    have kk := (j1.trans j2).trans j3
    refine ⟨x, y, l3, _, dx, dy, rfl, i3, z3, sx.mono kk, sy.mono kk, fun G5 j5 => ?_⟩
    have sx := (sx.mono kk).mono j5
    clear i1 z1 j1 i2 z2 j2 i3 z3 j3 kk j5 sy
    walk_at "kx"
    refine rd_forM (K := K) (rs := [(r26, [x]), (r26, [x])]) (tel_cons (fun H Q q => ⟨x, rfl, q⟩) rfl (tel_cons (fun H Q q => ⟨x, rfl, q⟩) rfl tel_nil)) (by simp) fun l vs G6 j6 i6 z6 => ?_
    have sx := sx.mono j6
    refine for_list (xs := vs) (fun i σ H => Same G6 H ∧ ∃ b, σ = [some (.ref a), some (.ref t), some (.int n), some (.ref pp), some x, some y, b]) ⟨Same.refl _, none, rfl⟩ (fun i σ H _ p => SqL.of (p.1 _ _ i6)) (fun i v σ H hv p => ?_) (fun σ H p => ?_)
    · obtain ⟨kk, b, rfl⟩ := p
      obtain ⟨⟨r1, ys⟩, e, hi, rfl, hE⟩ := ErrsAt.get z6 hv
      have hm := List.mem_of_getElem? hi
      obtain ⟨rfl, rfl⟩ : r1 = r26 ∧ ys = [x] := by
        simp only [List.mem_cons, List.not_mem_nil, or_false, or_self, Prod.mk.injEq] at hm
        exact hm
      have hE := ErrAt.mono kk hE
      have hmem : r26.name ∈ all28 := by decide +kernel
      have T : ExK K (He.ga K r26.name) := ex _ hmem
      have sx := sx.mono kk
      have hok : okD dx := okD_of sx.sh (Nat.le_trans sx.dp (by decide)) (Nat.le_trans sx.ln (by decide))
      walk_at "kx"
      refine KX.rd_tExf ?_
      walk_at "kx"
      refine rd_exf hE T ((FX.err r26 (List.mem_of_getElem? (i := 26) rfl)).no "name" (List.mem_cons_self ..)) rfl (fun z => by cases z) ?_
      walk_at "kx"
      refine rd_repr sx.hd hok ?_
      walk_at "kx"
      refine rd_repr sx.hd hok ?_
      walk_at "kx"
      refine KX.rd_F (by rw [decide_eq_true rfl]; rfl) ?_
      walk_at "kx"
      refine ⟨e, r26, [x], rfl, hmem, hE, fun lk G7 j7 i7 => ?_⟩
      refine ⟨lk, _, rfl, .inl (SqL.of i7), rfl, miss_flat, ?_⟩
      have ei : (if (false : Bool) = true then !inV (.bl true) (kinOf r26.name) else inV (.bl true) (kinOf r26.name)) = false := by
        rw [if_neg Bool.false_ne_true]
        exact miss_none
      rw [ei]
      have hE := ErrAt.mono j7 hE
      walk_at "kx"
      refine rd_isC FX hE T hmem (by decide +kernel) ?_
      rw [scale_of]
      walk_at "kx"
      refine rd_isB FX hE T hmem (by decide +kernel) ?_
      walk_at "kx"
      exact ⟨kk.trans j7, _, rfl⟩
    · obtain ⟨kk, b, rfl⟩ := p
      walk_at "kx"
      exact q _
end
end K0
namespace K0
open PySem PySem.Spec PyProof.Rows L2 KX
def gl : List Str := ((["BadRatio", "BadBalance", "BadComparison", "BadPair", "BadSort", "BadScale", "BadBook", "BadSaying", "BadHands", "BadNumber", "BadPaper", "BadLive", "BadDesk", "BadOrder", "NoThing", "NoName", "Twice", "NoPair", "Unlike", "Impossible"] : List Str) ++ (["NotAbove", "NotCarried", "Hanging", "TooMany", "BadText", "BadLine", "Nothing", "Missing", "ScaleError", "_law_till", "_law_coin", "_law_of", "_law_parts", "_law_others", "_law_others_named", "_law_fields", "_law_kin", "_law_stands_right", "_law_all_right", "law"] : List Str) : List Str)
theorem fa_gl : fa = gl.map He.Fa.glo ++ freeN.map He.Fa.free := rfl
theorem asked_gl : ∀ n ∈ asked, n ∈ gl := by decide +kernel
theorem names28 : ∀ n ∈ all28, n = "Nothing" ∨ n ∈ rows.map (·.name) := by decide +kernel
theorem names_gl : ∀ n ∈ rows.map (·.name), n ∈ gl := by decide +kernel
theorem facts {P : Program} {w : World} {K : PySem.W.Frag} {h : Heap} {mg : Str → Option Value} {f : Addr} (X : K.In h) (G : h.Ns mainGlobals mg) (hfa : mg ("law" : Str) = some (.ref f)) (cz : SaysZ fa fn ex K) :
    ∃ fd : FuncData, (∀ (s : Shared) (v : Value), BindsTo s fd ⟨[v], []⟩ [("_law_script", v)]) ∧ ∀ base : Heap, K.In base → base.Ns mainGlobals mg → FnOkG P w K mg base CX0 4 f fd ["_law_script"] (spLaw K) := by
  obtain ⟨c, cs, cx⟩ := cz
  have g : ∀ n ∈ gl, mg n = some (.ref (He.ga K n)) := fun n hn => He.glo_ok X G (factsZ c (by rw [fa_gl]; exact List.mem_append_left _ (List.mem_map_of_mem hn)))
  have fr : ∀ n ∈ freeN, mg n = none := fun n hn => He.free_ok X G (factsZ c (by rw [fa_gl]; exact List.mem_append_right _ (List.mem_map_of_mem hn)))
  unfold ex at cx
  simp only [Bool.and_eq_true, List.all_eq_true, decide_eq_true_eq] at cx
  obtain ⟨x1, x2, x3, x4, x5⟩ := cx
  have exs : ∀ n ∈ all28, ExK K (He.ga K n) := fun n hn => by
    rcases names28 n hn with rfl | hm
    · exact exB_ok x2
    · obtain ⟨r, hr, rfl⟩ := List.mem_map.mp hm
      exact (ErrRow.parts (x1 r hr)).1
  have err : ∀ base, ∀ r ∈ rows, ErrOk P w K mg base r := fun base r hr => by
    have ok := x1 r hr
    have gg := g r.name (names_gl _ (List.mem_map_of_mem hr))
    simp only [rows, List.mem_cons, List.not_mem_nil, or_false] at hr
    rcases hr with rfl | rfl | rfl | rfl | rfl | rfl | rfl | rfl | rfl | rfl | rfl | rfl | rfl | rfl | rfl | rfl | rfl | rfl | rfl | rfl | rfl | rfl | rfl | rfl | rfl | rfl | rfl
    · exact e0 c ok gg
    · exact e1 c ok gg
    · exact e2 c ok gg
    · exact e3 c ok gg
    · exact e4 c ok gg
    · exact e5 c ok gg
    · exact e6 c ok gg
    · exact e7 c ok gg
    · exact e8 c ok gg
    · exact e9 c ok gg
    · exact e10 c ok gg
    · exact e11 c ok gg
    · exact e12 c ok gg
    · exact e13 c ok gg
    · exact e14 c ok gg
    · exact e15 c ok gg
    · exact e16 c ok gg
    · exact e17 c ok gg
    · exact e18 c ok gg
    · exact e19 c ok gg
    · exact e20 c ok gg
    · exact e21 c ok gg
    · exact e22 c ok gg
    · exact e23 c ok gg
    · exact e24 c ok gg
    · exact e25 c ok gg
    · exact e26 c ok gg
  have FX : ∀ base, Fx P w K mg base := fun base => ⟨err base, fun n hn => g n (asked_gl n hn), fr, x4, x5, x3, exB_ok x2, cs⟩
  obtain ⟨_, FT⟩ := c.def_ 25 (d := d25) rfl
  obtain ⟨_, FC⟩ := c.def_ 26 (d := d26) rfl
  obtain ⟨_, FO⟩ := c.def_ 27 (d := d27) rfl
  obtain ⟨_, FP⟩ := c.def_ 28 (d := d28) rfl
  obtain ⟨_, FQ⟩ := c.def_ 29 (d := d29) rfl
  obtain ⟨_, FN⟩ := c.def_ 30 (d := d30) rfl
  obtain ⟨_, FF⟩ := c.def_ 31 (d := d31) rfl
  obtain ⟨_, FK⟩ := c.def_ 32 (d := d32) rfl
  obtain ⟨_, FS⟩ := c.def_ 33 (d := d33) rfl
  obtain ⟨_, FA⟩ := c.def_ 34 (d := d34) rfl
  obtain ⟨_, FL⟩ := c.def_ 35 (d := d35) rfl
  have e := hfa.symm.trans (g "law" (by decide +kernel))
  cases e
  have b := FunD.bindsA (ps := ["_law_script"]) FL fun _ _ _ _ _ _ us hl => match us, hl with | [_], _ => rfl
  refine ⟨_, fun s v => b s [v] rfl, fun base _ _ => ?_⟩
  have fx := FX base
  have CT : Callee P w K mg base 1 "_law_till" ["_law_script"] (spTill K) := ⟨_, _, g _ (by decide +kernel), FT.kp, FT.bindsN (fun _ _ _ _ _ _ us hl => match us, hl with | [_], _ => rfl), ok_till FT fx⟩
  have CC : Callee P w K mg base 1 "_law_coin" ["_law_till_here", "_law_many"] (spCoin 100000) := ⟨_, _, g _ (by decide +kernel), FC.kp, FC.bindsN (fun _ _ _ _ _ _ us hl => match us, hl with | [_, _], _ => rfl), ok_coin FC (fr _ (by decide +kernel)) (fr _ (by decide +kernel)) (fr _ (by decide +kernel))⟩
  have CO : Callee P w K mg base 2 "_law_of" ["_law_till_here", "_law_some"] (spOf 100000) := ⟨_, _, g _ (by decide +kernel), FO.kp, FO.bindsN (fun _ _ _ _ _ _ us hl => match us, hl with | [_, _], _ => rfl), ok_of FO fx CC⟩
  have CP : Callee P w K mg base 3 "_law_parts" ["_law_part", "_law_turned"] (spParts K) := ⟨_, _, g _ (by decide +kernel), FP.kp, FP.bindsN (fun _ _ _ _ _ _ us hl => match us, hl with | [_, _], _ => rfl), ok_parts FP fx⟩
  have CQ : Callee P w K mg base 3 "_law_others" ["_law_one", "_law_two"] (spOthers K) := ⟨_, _, g _ (by decide +kernel), FQ.kp, FQ.bindsN (fun _ _ _ _ _ _ us hl => match us, hl with | [_, _], _ => rfl), ok_others FQ fx⟩
  have CN : Callee P w K mg base 3 "_law_others_named" ["_law_one", "_law_two"] (spOthers K) := ⟨_, _, g _ (by decide +kernel), FN.kp, FN.bindsN (fun _ _ _ _ _ _ us hl => match us, hl with | [_, _], _ => rfl), ok_named FN fx⟩
  have CF : Callee P w K mg base 1 "_law_fields" ["_law_error", "_law_place"] (spFields K) := ⟨_, _, g _ (by decide +kernel), FF.kp, FF.bindsN (fun _ _ _ _ _ _ us hl => match us, hl with | [_, _], _ => rfl), ok_fields FF fx⟩
  have CK : Callee P w K mg base 1 "_law_kin" ["_law_error"] (spKin K) := ⟨_, _, g _ (by decide +kernel), FK.kp, FK.bindsN (fun _ _ _ _ _ _ us hl => match us, hl with | [_], _ => rfl), ok_kin FK fx exs⟩
  have CS : Callee P w K mg base 2 "_law_stands_right" ["_law_error", "_law_place"] (spStands K) := ⟨_, _, g _ (by decide +kernel), FS.kp, FS.bindsN (fun _ _ _ _ _ _ us hl => match us, hl with | [_, _], _ => rfl), ok_stands FS fx exs CK⟩
  have CA : CalleeG P w K mg base 3 "_law_all_right" ["_law_one", "_law_two", "_law_made"] (spAll K) := ⟨_, _, g _ (by decide +kernel), FA.kp, FA.bindsN (fun _ _ _ _ _ _ us hl => match us, hl with | [_, _, _], _ => rfl), ok_all FA fx CF CS⟩
  exact ok_law FL fx exs CT CC CO CP CQ CN CK CA
end K0
open PySem PySem.W PySem.Calls PyProof.Rows
theorem PySem.Challenge.cw_scaleborn_k00_errors_keep_their_fields_holds : PySem.Challenge.rw_scaleborn_k00_errors_keep_their_fields.Holds := by
  w_on; o_law
  refine HandSHeadRun.head_any (r := K0.R) (q := view K0.R.prog [41]) (H := K0.hk) (ob := K0.ob) (M := 100000) (loose := K0.loose) (d := HandSHeadRun.topDef K0.R.prog 41) (kwd := []) K0.ob_eq
    (by kernel_rfl) (fun s => by kernel_rfl) K0.run (by kernel_rfl) (by kernel_rfl) (by kernel_rfl) (by rfl) (by first | assumption | decide +kernel) (by decide +kernel) ⟨rfl, rfl, rfl, rfl, rfl, by decide +kernel⟩ ?hw ?hc
  case hw => w_witness2
  case hc =>
    refine KX.walk_G (l := PySem.Challenge.rw_scaleborn_k00_errors_keep_their_fields) (n := 63) (k := 4) (x := "_law_script") (CX := fun _ => L2.CX0) rfl (by decide) (by kernel_rfl) ⟨rfl, by decide, by decide⟩ ?F (fun _ _ _ _ _ z => z)
    intro w mg fa h Y G hmg0
    obtain ⟨K, kin, c⟩ := Y
    have hmg : mg ("law" : PySem.Str) = some (.ref fa) := by
      have e : (HandSHeadRun.topDef K0.R.prog 41).name = ("law" : PySem.Str) := by kernel_rfl
      rw [← e]
      exact hmg0
    obtain ⟨fd, hb, hF⟩ := K0.facts (P := (PySem.Challenge.rw_scaleborn_k00_errors_keep_their_fields).prog) (w := w) kin G hmg c
    exact ⟨K, fd, K0.spLaw K, kin, hb, fun H a ns hl _ hO hS => ⟨a, ns, rfl, hS, fun _ => rfl⟩, hF⟩
