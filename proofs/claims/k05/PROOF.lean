import PyProof.Rows.All
import Wide.All
import OpenK.AllK
import Wide.FinOn
import KE.KOpsOwn
import KE.KCallOwn
import KE.KFmtOwn
import HandS.ForMost
import HandS.Wide
import HandS.Defaults
import HandS.OwnEq
import HandS.ClsMeth
import HandS.FStr
import HandS.HeadNt
import HandS.RaiseMore
import HandS.Gcd
import HandS.Property
import HandS.MakeKw
import KE.KEqDict
import HandS.DictEq
import HandS.Sort
import PyProof.InstNe
import KE.KStateDown
import Lean
import HandS.Head0
import HandS.Head1
import HandS.Head2
import HandS.HeadEnd
import HandS.HeadHook1
import HandS.HeadHook2
import HandS.IsInst
import HandS.Head3
import PyProof.Rows.TmSorted
import PyProof.Rows.StrMeet
import PyProof.FitsInt
import PyProof.StrLawsRepr
import PyProof.StrLaws
import HandS.Iter
import HandS.Text
import HandS.Comp
import HandS.Walk
import HandS.Conv
import HandS.DictComp
import HandS.Star
import HandS.Style
import HandS.ListItems
import PySem.Challenge.RW_scaleborn_k05_balances_added_and_brought
set_option Elab.async false
set_option linter.all false
set_option maxRecDepth 100000
set_option maxHeartbeats 0
/-! operators that own classes have by their special methods -/
namespace KY
open PySem PySem.Spec PyProof.Rows L2 PySem.W
local macro_rules | `(tactic| walk_at "kylk") => `(tactic| repeat ((fail_if_success (with_reducible show wpAny _ _ (tryMethod _ _ _) _ _ _)); lk))
section
variable {prog : Program} {w : World} {A : Around} {E : Value → Shared → Prop} {s : Shared} {K : PySem.W.Frag} {x y C D L f g : Addr} {h₀ : Heap} {m : Str → Option Value} {ox oy : Obj} {od oe : Option Obj}
/-- x op y where x and y are instances of two classes, neither above the other; the right one's reflected method is not there -/
theorem bin_two {op : Operator} {Q : Value → Shared → Prop} (F : Fr h₀ L s.heap m) (X₀ : K.In h₀) (I : InstAt s.heap x ox C od) (J : InstAt s.heap y oy D oe) (hne : (Value.ref C == Value.ref D) = false) (hc : selfFirst K C = true) (hd : selfFirst K D = true)
    (hs : findIn K (.ref C) (PySem.dunder op.info.2) = some (some (.ref f))) (hf : isFn K (.ref f) = true) (hr : findIn K (.ref C) (dunderR op.info.2) = some none)
    (h1 : findIn K (.ref D) (PySem.dunder op.info.2) = some (some (.ref g))) (h2 : findIn K (.ref D) (dunderR op.info.2) = some none) (hsub : subIn K (.ref D) (.ref C) = some false)
    (h : wpAny (model prog w) A (call (.ref f) [.ref x, .ref y]) (PySem.W.CmpBack Q) E s) : wpAny (model prog w) A (binaryOp op (.ref x) (.ref y)) Q E s := by
  have X := X₀.keeps F.keep
  obtain ⟨cd, rest, hcd, hm⟩ := ksp_first hc
  obtain ⟨ce, rest2, hce, hm2⟩ := ksp_first hd
  rcases hi : op.info with ⟨sym, nm'⟩
  rw [hi] at hs hr h1 h2
  dsimp only at hs hr h1 h2
  have one := ksp_try X I hs hf h
  obtain ⟨hh, gg, d, tt, os⟩ := s
  have L1 : Looks (model prog w) hh (typeOf (.ref x)) (.ref C) := I.type
  have L2 : Looks (model prog w) hh (typeOf (.ref y)) (.ref D) := J.type
  have L3 : Looks (model prog w) hh (fillsNumberSlot (.ref C) nm') true := fills_K X hcd hm hs
  have L4 : Looks (model prog w) hh (fillsNumberSlot (.ref D) nm') true := fills_K X hce hm2 h1
  have L5 : Looks (model prog w) hh (isSubtype (.ref D) (.ref C)) false := looks_subIn X hsub
  have L6 : Looks (model prog w) hh (numberSlotInPython (.ref C) nm') true := ksp_inPy X hs hr (.inl rfl)
  have L7 : Looks (model prog w) hh (numberSlotInPython (.ref D) nm') true := ksp_inPy X h1 h2 (.inl rfl)
  simp only [binaryOp, hi]
  refine wpAny_holding (wpAny_bind ?_)
  unfold binaryOp1
  refine wpAny_bind (L1.at (wpAny_bind (L2.at (wpAny_bind (L3.at ?_)))))
  simp only [hne, Bool.false_eq_true, if_false]
  walk_at "kylk"
  refine wpAny_mono one (fun r s' hr' => ?_) fun _ _ e => e
  obtain ⟨v, rfl, hq⟩ := hr'
  walk_at "kylk"
  exact hq
end
/-- an own class's method for an operator -/
structure Dun (K : PySem.W.Frag) (C g : Addr) (nm : String) : Prop where
  first : selfFirst K C = true
  at_ : findIn K (.ref C) (PySem.dunder nm) = some (some (.ref g))
  fn : isFn K (.ref g) = true
  rf : findIn K (.ref C) (dunderR nm) = some none
/-- what may stand on the right -/
inductive RightOf (K : PySem.W.Frag) (H : Hp) (C : Addr) (nm : String) : V → Prop
  | own {b dy : Addr} {gs : List (Str × V)} : H b = some (.ins C dy gs) → RightOf K H C nm (.ref b)
  | other {b dy D g : Addr} {gs : List (Str × V)} : H b = some (.ins D dy gs) → (Value.ref C == Value.ref D) = false → Dun K D g nm → subIn K (.ref D) (.ref C) = some false → RightOf K H C nm (.ref b)
  | int {i : Int} {fo ro : Option Value} : findIn K (.type "int") (PySem.dunder nm) = some fo → findIn K (.type "int") (dunderR nm) = some ro → subIn K (.type "int") (.ref C) = some false → RightOf K H C nm (.int i)
  | bl {b : Bool} {fo ro : Option Value} : findIn K (.type "bool") (PySem.dunder nm) = some fo → findIn K (.type "bool") (dunderR nm) = some ro → subIn K (.type "bool") (.ref C) = some false → RightOf K H C nm (.bl b)
  | non {fo ro : Option Value} : findIn K (.type "NoneType") (PySem.dunder nm) = some fo → findIn K (.type "NoneType") (dunderR nm) = some ro → subIn K (.type "NoneType") (.ref C) = some false → RightOf K H C nm .non
  | str {z : Str} {fo ro : Option Value} : findIn K (.type "str") (PySem.dunder nm) = some fo → findIn K (.type "str") (dunderR nm) = some ro → subIn K (.type "str") (.ref C) = some false → RightOf K H C nm (.str z)
theorem rel_not {v : V} {u : Value} (r : RelV v u) : u ≠ .notImplemented := by
  intro e
  subst e
  cases v <;> first | exact nomatch (show Value.notImplemented = _ from r) | (obtain ⟨_, z⟩ := r; exact nomatch z) | cases r
theorem back_of {X : Cx} {pins : List (Addr × Obj)} {σ : L2.St} {Q : VK} {u : Value} {s : Shared} (h : EP X pins σ Q u s) : PySem.W.CmpBack (EP X pins σ Q) u s := by
  obtain ⟨v, H', I, r, q⟩ := h
  have n := rel_not r
  cases u <;> first | exact absurd rfl n | exact ⟨v, H', I, r, q⟩
/-- x op y, x an instance of C: the method's promise -/
def rDun (K : PySem.W.Frag) (C : Addr) (nm : String) (sp : Sp) (E : XK) : R2 := fun x y H Q => ∃ a dx fs, x = .ref a ∧ H a = some (.ins C dx fs) ∧ RightOf K H C nm y ∧ sp [x, y] H Q E
section
variable {X : Cx} {CX : CXT} {k : Nat} {C g : Addr} {fd : FuncData} {ps : List Str} {sp : Sp} {E : XK}
theorem inst_of {pins : List (Addr × Obj)} {σ : L2.St} {H : Hp} {s : Shared} {a dx : Addr} {fs : List (Str × V)} (I : Inv X pins σ H s) (e : H a = some (.ins C dx fs)) : ∃ ox od, InstAt s.heap a ox C (some od) := by
  obtain ⟨mA, O, _⟩ := ins_get I.hok e
  obtain ⟨od, J, _⟩ := O.look
  exact ⟨_, od, J⟩
theorem op_dun {op : Operator} (D : Dun X.K C g op.info.2) (F : FnOk X.prog X.w X.K X.mg X.base CX k g fd ps sp) (hr : Room k X.A) (hb : Binds X.K fd ps []) (hx : Passes CX X E) : OpR X (binaryOp op) (rDun X.K C op.info.2 sp E) := by
  intro pins s σ H x y v u Q I rx ry h
  obtain ⟨a, dx, fs, rfl, ha, hR, q⟩ := h
  cases rx
  obtain ⟨ox, od, J⟩ := inst_of I ha
  obtain ⟨m, hF⟩ := I.fr
  have go : wpAny (model X.prog X.w) X.A (call (.ref g) [.ref a, u]) (PySem.W.CmpBack (EP X pins σ Q)) X.xe s :=
    wpAny_mono (run_fn (us := [.ref a, u]) (vs := [.ref a, y]) F hr hb .nil hx I (.cons rfl (.cons ry .nil)) q) (fun _ _ z => back_of z) fun _ _ z => z
  cases hR with
  | own hb2 =>
    cases ry
    obtain ⟨oy, oe, J2⟩ := inst_of I hb2
    exact binop_K hF I.ok.mod.kin J J2.type D.first D.at_ D.fn go
  | other hb2 hne D2 hsub =>
    cases ry
    obtain ⟨oy, oe, J2⟩ := inst_of I hb2
    exact bin_two hF I.ok.mod.kin J J2 hne D.first D2.first D.at_ D.fn D.rf D2.at_ D2.rf hsub go
  | int h1 h2 hsub =>
    obtain ⟨t, rfl⟩ := ry
    exact ksp_binT hF I.ok.mod.kin J rfl D.first D.at_ D.fn D.rf (.inl rfl) h1 h2 hsub go
  | bl h1 h2 hsub =>
    cases ry
    exact ksp_binT hF I.ok.mod.kin J rfl D.first D.at_ D.fn D.rf (.inl rfl) h1 h2 hsub go
  | non h1 h2 hsub =>
    cases ry
    exact ksp_binT hF I.ok.mod.kin J rfl D.first D.at_ D.fn D.rf (.inl rfl) h1 h2 hsub go
  | str h1 h2 hsub =>
    obtain ⟨t, rfl⟩ := ry
    exact ksp_binT hF I.ok.mod.kin J rfl D.first D.at_ D.fn D.rf (.inl rfl) h1 h2 hsub go
/-- -x -/
def rDunU (C : Addr) (sp : Sp) (E : XK) : V → Hp → VK → Prop := fun x H Q => ∃ a dx fs, x = .ref a ∧ H a = some (.ins C dx fs) ∧ sp [x] H Q E
theorem un_dun (hs : findIn X.K (.ref C) "__neg__" = some (some (.ref g))) (hf : isFn X.K (.ref g) = true) (F : FnOk X.prog X.w X.K X.mg X.base CX k g fd ps sp) (hr : Room k X.A) (hb : Binds X.K fd ps []) (hx : Passes CX X E) :
    UnR X (unaryOp .USub) (rDunU C sp E) := by
  intro pins s σ H x v Q I rx h
  obtain ⟨a, dx, fs, rfl, ha, q⟩ := h
  cases rx
  obtain ⟨ox, od, J⟩ := inst_of I ha
  obtain ⟨m, hF⟩ := I.fr
  exact ksp_neg hF I.ok.mod.kin J hs hf (run_fn (us := [.ref a]) (vs := [.ref a]) F hr hb .nil hx I (.cons rfl .nil) q)
end
end KY
/-! texts of own instances; staticmethods; numbers of any size -/
namespace KY
open PySem PySem.Spec PyProof.Rows L2 PySem.W
section
variable {X : Cx} {CX : CXT} {k : Nat} {C g : Addr} {fd : FuncData} {ps : List Str} {sp : Sp} {E : XK}
/-- a def run at a place below the body -/
theorem run_at {A : Around} {pins : List (Addr × Obj)} {σ : L2.St} {H : Hp} {s : Shared} {Q : VK} {us : List Value} {vs : List V} (F : FnOk X.prog X.w X.K X.mg X.base CX k g fd ps sp) (hr : Room k A) (e0 : Env0 X.prog X.w X.K X.mg X.base A X.stack s H)
    (hb : Binds X.K fd ps []) (hx : Passes CX X E) (I : Inv X pins σ H s) (r : Vals vs us) (h : sp vs H Q E) : wpAny (model X.prog X.w) A (call (.ref g) us) (EP X pins σ Q) X.xe s := by
  have hl : us.length = ps.length := by
    rw [← r.length]
    exact F.len _ _ _ _ h
  have hb2 := hb s us I.kIn (by rw [List.append_nil]; exact hl)
  rw [List.append_nil] at hb2
  refine wpAny_call (codeAny_mono (F.run A X.stack s H ⟨us, []⟩ us vs Q E hr e0 hb2 r h) fun r s' hq => ?_)
  cases r with
  | error e => exact hx pins σ H s e s' I hq
  | ok fl =>
    cases fl with
    | ret u => exact I.after hq
    | next => exact hq.elim
    | brk => exact hq.elim
    | cont => exact hq.elim
/-- the promise gives a text -/
def spText (sp : Sp) (x : V) (H : Hp) (Q : VK) (E : XK) : Prop := sp [x] H (fun v H' => ∃ y : Str, v = .str y ∧ Q (.str y) H') E
theorem text_back {pins : List (Addr × Obj)} {σ : L2.St} {Q : VK} {u : Value} {s : Shared} (h : EP X pins σ (fun v H' => ∃ y : Str, v = .str y ∧ Q (.str y) H') u s) : ∃ y t, u = .str y t ∧ EP X pins σ Q (.str y t) s := by
  obtain ⟨v, H', I, r, y, rfl, q⟩ := h
  obtain ⟨t, rfl⟩ := r
  exact ⟨y, t, rfl, .str y, H', I, ⟨t, rfl⟩, q⟩
/-- str(x) of an own instance -/
def rStrO (C : Addr) (sp : Sp) (E : XK) : List V → Hp → VK → Prop := fun xs H Q => ∃ a dx fs, xs = [.ref a] ∧ H a = some (.ins C dx fs) ∧ spText sp (.ref a) H Q E
theorem call_str_own (hs : findIn X.K (.ref C) "__str__" = some (some (.ref g))) (hf : isFn X.K (.ref g) = true) (F : FnOk X.prog X.w X.K X.mg X.base CX k g fd ps sp) (hr : Room (k + 2) X.A) (hb : Binds X.K fd ps []) (hx : Passes CX X E) :
    CallR X (.type "str") (rStrO C sp E) := by
  intro pins s σ H xs us Q I r h
  obtain ⟨a, dx, fs, rfl, ha, q⟩ := h
  cases r with
  | cons r1 r2 =>
    cases r2
    cases r1
    obtain ⟨ox, od, J⟩ := inst_of I ha
    refine kso_call hr.in1.in1.units0 I.kIn J hs hf (wpAny_mono (run_at (us := [.ref a]) (vs := [.ref a]) F hr.in1.in1 I.env0.in1.in1 hb hx I (.cons rfl .nil) q) (fun u s1 z => ?_) fun _ _ z => z)
    obtain ⟨y, t, rfl, z2⟩ := text_back (Q := Q) z
    exact z2
/-- {x} of an own instance in an f-string -/
def tFmtO (C : Addr) (sp : Sp) (E : XK) (te : TE) : TE := fun σ H Q => te σ H fun x H1 => ∃ a dx fs, x = .ref a ∧ H1 a = some (.ins C dx fs) ∧ spText sp (.ref a) H1 Q E
theorem pe_fmtO {e : Expr} {te : TE} {pos : Pos} (he : PE X e te) (hfm : findIn X.K (.ref C) "__format__" = some (some (.builtin "object.__format__"))) (hm : mroIn X.K C (.type "object") = some true) (hs : findIn X.K (.ref C) "__str__" = some (some (.ref g)))
    (hf : isFn X.K (.ref g) = true) (F : FnOk X.prog X.w X.K X.mg X.base CX k g fd ps sp) (hr : Room (k + 1) X.A) (hb : Binds X.K fd ps []) (hx : Passes CX X E) : PE X (.FormattedValue e (-1) none pos) (tFmtO C sp E te) := by
  refine ⟨fun pins s σ H Q I h => ?_⟩
  refine wpAny_FormattedValue_plain (thn (he.run pins s σ H _ I h) fun v s1 hv => ?_)
  obtain ⟨x, H1, I1, r1, a, dx, fs, rfl, ha, q⟩ := hv
  cases r1
  obtain ⟨ox, od, J⟩ := inst_of I1 ha
  have I2 := I1.tok (s1.toks + 1)
  refine kfo_fieldS hr.in1.units0 I1.kIn J hfm hm hs hf (wpAny_mono (run_at (us := [.ref a]) (vs := [.ref a]) F hr.in1 I2.env0.in1 hb hx I2 (.cons rfl .nil) q) (fun u s2 z => ?_) fun _ _ z => z)
  obtain ⟨y, t, rfl, z2⟩ := text_back (Q := Q) z
  exact z2
end
/-! ### a staticmethod, read off its class -/
structure SMet (K : PySem.W.Frag) (C : Addr) (m : Str) (p g : Addr) : Prop where
  rd : ClX.CRead K C (.type "type")
  at_ : findCls K (.ref C) (.type "type") m = some (.get (.builtin "staticmethod.__get__") (.ref p) .none (.ref C))
  rc : ∃ rest, recIn K p "staticmethod" = some (.ref g :: rest)
  kp : keepIn K (.ref g) = true
section
variable {X : Cx} {CX : CXT} {k : Nat} {C g p : Addr} {fd : FuncData} {ps : List Str} {sp : Sp} {E : XK} {m : Str} {o e : Expr} {es : List Expr} {t : TA} {ta : TE} {apos pos : Pos} {pl : Sem Bool}
def tSMeth (C : Addr) (sp : Sp) (E : XK) (ta : TE) (t : TA) : TE := fun σ H Q => ta σ H fun x H1 => x = .ref C ∧ t σ H1 fun vs H2 => sp vs H2 Q E
theorem getmethsm_ok {pins : List (Addr × Obj)} {σ : L2.St} {H : Hp} {s : Shared} {A : Around} {Q : Value × List Value → Shared → Prop} {E : Value → Shared → Prop} (I : Inv X pins σ H s) (M : SMet X.K C m p g)
    (h : Q (.ref g, []) { s with toks := s.toks + 1 }) : wpAny (model X.prog X.w) A (getMethod (.ref C) m pl) Q E s := by
  obtain ⟨rest, hp⟩ := M.rc
  refine method_cls I.kIn M.rd.ga ?_
  exact cls_bind I.kIn M.rd.rd M.at_ (wpAny_call (sm_get (s := { s with toks := s.toks + 1 }) I.kIn hp (handed_on rfl h)))
/-- C.m(e, ..) -/
theorem pe_smeth (he : PE X o ta) (M : SMet X.K C m p g) (F : FnOk X.prog X.w X.K X.mg X.base CX k g fd ps sp) (hr : Room k X.A) (hb : Binds X.K fd ps []) (hx : Passes CX X E) (ha : PA X (e :: es) t)
    (hst : starEach (e :: es) X.env = (false, eval e X.env) :: starEach es X.env := by rfl) (hpl : (backTo pos (starEach es X.env)).any (·.1) = false := by rfl)
    (ht : eval (.Call (.Attribute o m apos) (e :: es) [] pos) X.env = (do
      let ov ← eval o X.env
      standAt apos.atName
      let (f, first) ← holding [ov] (getMethod ov m pl)
      callWith pos f first (backTo pos (starEach (e :: es) X.env)) (backToKw pos (keywordEach [] X.env))) := by rfl) :
    PE X (.Call (.Attribute o m apos) (e :: es) [] pos) (tSMeth C sp E ta t) := by
  refine ⟨fun pins s σ H Q I h => ?_⟩
  refine methodCall_KW (pl := pl) (thn (he.run pins s σ H _ I h) fun u s1 hh => ?_) ht
  obtain ⟨x, H1, I1, rx, rfl, q⟩ := hh
  obtain rfl : u = Value.ref C := rx
  refine getmethsm_ok I1 M ?_
  have I2 := I1.tok (s1.toks + 1)
  refine callWith_K (first := []) (h₀ := X.base) I2.ok.mod.kin M.kp (thn (ha.run pos pins _ σ H1 _ I2 q) fun us s2 hh => ?_) hst hpl
  obtain ⟨vs, H2, I3, r, q2⟩ := hh
  refine ⟨I3.kIn, ?_⟩
  exact run_at F hr I3.env0 hb hx I3 r q2
end
/-! ### a // b of any size, either sign below -/
def CDivZ (_ j : Int) : Prop := j ≠ 0 ∧ j.natAbs.log2 < 9000
section
variable {X : Cx}
theorem op_fdivZ : OpR X (binaryOp .FloorDiv) (rI CDivZ fun i j => .int (i.fdiv j)) := opI fun i j _ _ _ _ _ hc q => floordiv_int hc.1 q (.inl (PyProof.noPylong_of_log2 hc.2))
end
end KY
/-! == of dicts whose values have an own __eq__: the state goes on from value to value -/
namespace KY
open PySem PySem.Spec PyProof.Rows L2 PySem.W
section
variable {prog : Program} {w : World} {κ : Type} [DecidableEq κ] {knd : KeyKind prog w κ} {A : Around} {E : Value → Shared → Prop} {s : Shared} {a b : Addr} {oa ob : Obj} {J : Nat → Shared → Prop} {ps qs : List (κ × Value)}
/-- what is asked of the walk over the pairs -/
structure Walks (knd : KeyKind prog w κ) (A : Around) (E : Value → Shared → Prop) (a b : Addr) (oa ob : Obj) (ps qs : List (κ × Value)) (J : Nat → Shared → Prop) (Q : Bool → Shared → Prop) : Prop where
  na : (a == sysModules) = false
  nb : (b == sysModules) = false
  da : oa.IsDictOf knd ps
  db : ob.IsDictOf knd qs
  at_ : ∀ i s, J i s → s.heap.get? a = some oa ∧ s.heap.get? b = some ob
  less : ps.length ≠ qs.length → ∀ s, J 0 s → Q false s
  turn : ∀ (i : Nat) (k : κ) (v : Value), ps[i]? = some (k, v) → (valueAt qs k = none ∧ ∀ s, J i s → Q false s) ∨ ∃ y, valueAt qs k = some y ∧ ∀ s, J i s → wpAny (model prog w) A (eqBool v y) (fun e s' => if e = true then J (i + 1) s' else Q false s') E s
  fin : ps.length = qs.length → ∀ s, J ps.length s → Q true s
theorem pairsG {nm : String} {Q : Bool → Shared → Prop} (W : Walks knd A E a b oa ob ps qs J Q) (h0 : J 0 s) : wpAny (model prog w) A (Builtin.Dict.samePairs nm a b) Q E s := by
  obtain ⟨xs, n1, hta, hxa, hka, hpa, hna⟩ := W.da
  obtain ⟨ys, n2, htb, hyb, hkb, hpb, hnb⟩ := W.db
  have lx : ps.length = xs.size := by
    rw [← hpa.length, Array.length_toList]
  have ly : qs.length = ys.size := by
    rw [← hpb.length, Array.length_toList]
  have found : ∀ k, findBy knd.is ys k = valueAt qs k := fun k => by
    rw [← hpb.find k]
    clear ly hpb hkb hyb W
    obtain ⟨l⟩ := ys
    simp [findBy]
  obtain ⟨ga0, gb0⟩ := W.at_ 0 s h0
  unfold Builtin.Dict.samePairs Builtin.Dict.showsAll
  rw [if_neg (show ¬ (a == sysModules) = true by rw [W.na]; decide), if_neg (show ¬ (b == sysModules) = true by rw [W.nb]; decide)]
  refine wpAny_bind (wpAny_pure (wpAny_bind (wpAny_pure ?_)))
  refine wpAny_bind (wpAny_dictEntries ga0 hxa ?_)
  dsimp only
  refine wpAny_bind (wpAny_dictEntries gb0 hyb ?_)
  by_cases same : xs.size = ys.size
  case neg =>
    rw [if_pos (by simpa using same)]
    exact wpAny_bind (wpAny_rule (wpAny_pure (W.less (by rw [lx, ly]; exact same) s h0)))
  case pos =>
    have ll : ps.length = qs.length := by rw [lx, ly, same]
    rw [if_neg (by rw [same]; simp)]
    refine wpAny_bind (wpAny_dictEpoch ga0 hxa ?_)
    refine wpAny_bind ?_
    rw [Std.Legacy.Range.forIn_eq_forIn_range']
    simp only [Std.Legacy.Range.size, Nat.sub_zero, Nat.add_sub_cancel, Nat.div_one]
    refine wpAny_forIn_list _ (fun rest q s' => q = (none, ()) ∧ ∃ i, rest = List.range' i (xs.size - i) ∧ i ≤ xs.size ∧ J i s') _ ?_ ?_ _ _ ⟨rfl, 0, by simp, Nat.zero_le _, h0⟩
    · rintro z rest q s' ⟨rfl, i, hr, hi, hj⟩
      have hlt : i < xs.size := by
        rcases Nat.lt_or_ge i xs.size with h | h
        · exact h
        · rw [Nat.sub_eq_zero_of_le h] at hr
          simp at hr
      obtain ⟨rfl, hrest⟩ : z = i ∧ rest = List.range' (i + 1) (xs.size - (i + 1)) := by
        rw [show xs.size - i = (xs.size - (i + 1)) + 1 by omega, List.range'_succ] at hr
        injection hr with h1 h2
        exact ⟨h1, h2⟩
      obtain ⟨ga, gb⟩ := W.at_ _ s' hj
      refine wpAny_bind (wpAny_dictEntries ga hxa ?_)
      rw [Array.getElem?_eq_getElem hlt]
      have hlt2 : z < ps.length := by rw [lx]; exact hlt
      obtain ⟨k, v, hkv⟩ : ∃ k v, ps[z] = (k, v) := ⟨_, _, rfl⟩
      have hget : ps[z]? = some (k, v) := by rw [List.getElem?_eq_getElem hlt2, hkv]
      obtain ⟨hkey, hval⟩ := hpa.get? (i := z) (e := xs[z]) (k := k) (v := v) (by rw [Array.getElem?_toList]; exact Array.getElem?_eq_getElem hlt) hget
      obtain ⟨k2, hk2, hh⟩ := hka xs[z] (Array.getElem_mem hlt)
      have ek : k2 = k := knd.inj _ _ _ hk2 hkey
      rw [ek] at hh
      show wpAny _ _ (holding [xs[z].key, xs[z].val] _ >>= _) _ _ _
      rw [hh]
      refine wpAny_bind (wpAny_holding (wpAny_bind (wpAny_dictFind_of hkey gb hyb hkb ?_)))
      cases hj2 : ys.findIdx? fun e => knd.is k e.key with
      | none =>
        have hn : valueAt qs k = none := by rw [← found k, findBy_of_findIdx?, hj2]
        rcases W.turn z k v hget with ⟨_, q⟩ | ⟨y, hy, _⟩
        · refine wpAny_pure ?_
          show wpAny _ _ (if (!false) = true then _ else _) _ _ _
          rw [if_pos (by decide)]
          exact wpAny_pure (wpAny_pure (q s' hj))
        · rw [hn] at hy
          cases hy
      | some j =>
        obtain ⟨hjlt, _, _⟩ := Array.findIdx?_eq_some_iff_getElem.mp hj2
        have hv2 : valueAt qs k = some ys[j].val := by
          rw [← found k, findBy_of_findIdx?, hj2]
          simp [Array.getElem?_eq_getElem hjlt]
        refine wpAny_bind (wpAny_dictEntries gb hyb ?_)
        rw [Array.getElem?_eq_getElem hjlt]
        rcases W.turn z k v hget with ⟨hn, _⟩ | ⟨y, hy, step⟩
        · rw [hv2] at hn
          cases hn
        · have ey : ys[j].val = y := Option.some.inj (hv2.symm.trans hy)
          have st := step s' hj
          rw [← ey, ← hval] at st
          refine wpAny_holding (wpAny_mono st (fun e s2 z2 => ?_) fun _ _ z2 => z2)
          cases e with
          | false =>
            show wpAny _ _ (if (!false) = true then _ else _) _ _ _
            rw [if_pos (by decide)]
            exact wpAny_pure (wpAny_pure z2)
          | true =>
            have z3 : J (z + 1) s2 := z2
            obtain ⟨ga2, _⟩ := W.at_ _ s2 z3
            show wpAny _ _ (if (!true) = true then _ else _) _ _ _
            rw [if_neg (by decide)]
            refine wpAny_bind (wpAny_dictEpoch ga2 hxa ?_)
            rw [if_neg (by simp)]
            exact wpAny_pure ⟨rfl, z + 1, hrest, hlt, z3⟩
    · rintro q s' ⟨rfl, i, hr, hi, hj⟩
      have hin : i = xs.size := by
        rcases Nat.lt_or_ge i xs.size with h | h
        · rw [show xs.size - i = (xs.size - (i + 1)) + 1 by omega, List.range'_succ] at hr
          cases hr
        · exact Nat.le_antisymm hi h
      refine wpAny_pure ?_
      rw [hin, ← lx] at hj
      exact W.fin ll s' hj
/-- == of the two dicts -/
theorem eqdG {Q : Value → Shared → Prop} (hu : A.units < cLine) (W : Walks knd A.in1 E a b oa ob ps qs J fun r s' => Q (.bool r) s') (h0 : J 0 s) : wpAny (model prog w) A (richCompare .Eq (.ref a) (.ref b)) Q E s := by
  obtain ⟨ga, gb⟩ := W.at_ 0 s h0
  have ta : s.TypeIs (.ref a) "dict" := ⟨oa, ga, (W.da.choose_spec.choose_spec.1).1⟩
  have tb : s.TypeIs (.ref b) "dict" := ⟨ob, gb, (W.db.choose_spec.choose_spec.1).1⟩
  refine wpAny_richCompare_same_room (op := .Eq) ta tb PySem.F.slot_dict_eq (wpAny_call_entry PySem.F.slot_dict_eq ta PySem.F.entry_dict_eq ?_ (PySem.F.args_dict_eq_2 _ _)) hu
  show wpAny _ _ (Builtin.Dict.dictSlotArgs "__eq__" ⟨[.ref a, .ref b], []⟩ >>= fun r => _) _ _ s
  refine wpAny_bind ?_
  unfold Builtin.Dict.dictSlotArgs
  refine wpAny_bind (wpAny_notOrdered_dict ta ?_)
  show wpAny _ _ (pure ((.ref a : Value), (.ref b : Value))) _ _ s
  refine wpAny_pure ?_
  refine wpAny_bind (wpAny_isInstance (T := "dict") tb PySem.F.sub_dict_dict ?_)
  simp only [Bool.not_true, Bool.false_eq_true, if_false]
  refine wpAny_bind (wpAny_pure (wpAny_bind (wpAny_pure ?_)))
  refine wpAny_bind (wpAny_mono (pairsG W h0) (fun r s' z => ?_) fun _ _ z => z)
  exact wpAny_pure ⟨_, rfl, (fun y => nomatch y), by simpa using z⟩
end
/-! ### over the abstract heap -/
/-- eqBool of two values in a place below gives what D says, and only makes objects -/
def EqB (X : Cx) (n : Nat) (D : V → V → Hp → Bool → Prop) : Prop :=
  ∀ (A : Around) (pins : List (Addr × Obj)) (s : Shared) (σ : L2.St) (H : Hp) (x y : V) (u v : Value) (b : Bool), Sub X n A → Inv X pins σ H s → RelV x u → RelV y v → D x y H b →
    wpAny (model X.prog X.w) A (eqBool u v) (fun r s' => r = b ∧ ∃ H', Inv X pins σ H' s' ∧ Ext H H') X.xe s
def dictAns (ks ls : List (Key × V)) (f : Key → Bool) : Bool := ks.length == ls.length && ks.all fun p => (valV ls p.1).isSome && f p.1
/-- what the two dicts must be: D at every heap that has all but the dicts -/
def DictsEq (D : V → V → Hp → Bool → Prop) (H : Hp) (a b : Addr) (r : Bool) : Prop := ∃ (ks ls : List (Key × V)) (f : Key → Bool), H a = some (.dK ks) ∧ H b = some (.dK ls) ∧ r = dictAns ks ls f ∧
  ∀ H1, (∀ c o, c ≠ a → c ≠ b → H c = some o → H1 c = some o) → ∀ p ∈ ks, ∀ y, valV ls p.1 = some y → D p.2 y H1 (f p.1)
theorem kv_val {ks : List (Key × V)} {vs : List (Key × Value)} (r : KV ks vs) (k : Key) : (valV ks k = none ∧ valueAt vs k = none) ∨ ∃ x u, valV ks k = some x ∧ valueAt vs k = some u ∧ RelV x u := by
  have z := r.val k
  cases h1 : valV ks k with
  | none =>
    cases h2 : valueAt vs k with
    | none => exact .inl ⟨rfl, rfl⟩
    | some u =>
      rw [h1, h2] at z
      exact z.elim
  | some x =>
    cases h2 : valueAt vs k with
    | none =>
      rw [h1, h2] at z
      exact z.elim
    | some u =>
      rw [h1, h2] at z
      exact .inr ⟨x, u, rfl, rfl, z⟩
theorem rc_dictG {X : Cx} {n : Nat} {D : V → V → Hp → Bool → Prop} (hD : EqB X n D) {A : Around} {pins : List (Addr × Obj)} {s : Shared} {σ : L2.St} {H : Hp} {a b : Addr} {r : Bool} (sb : Sub X (n + 1) A) (I : Inv X pins σ H s) (h : DictsEq D H a b r) :
    wpAny (model X.prog X.w) A (richCompare .Eq (.ref a) (.ref b)) (fun v s' => v = .bool r ∧ ∃ H', Inv X pins σ H' s' ∧ Ext H H') X.xe s := by
  obtain ⟨ks, ls, f, ha, hb, er, hd⟩ := h
  obtain ⟨oa, I1⟩ := I.lock ha True.intro
  have na := I.nofrz ha True.intro
  have nb := I.nofrz hb True.intro
  -- the second dict, locked too if it is another one
  obtain ⟨L, ob, I2, la, lb, keep, back⟩ : ∃ (L : Hp) (ob : Obj), Inv X pins σ L s ∧ L a = some (.frz oa (.dK ks)) ∧ L b = some (.frz ob (.dK ls)) ∧ (∀ c o, c ≠ a → c ≠ b → H c = some o → L c = some o) ∧
      ∀ H1 s1, Inv X pins σ H1 s1 → Ext L H1 → ∃ H2, Inv X pins σ H2 s1 ∧ Ext H H2 := by
    by_cases hab : a = b
    · subst hab
      rw [ha] at hb
      cases hb
      refine ⟨_, oa, I1, upd_same, upd_same, fun c o hc _ e => by rw [upd_ne hc]; exact e, fun H1 s1 J e => ⟨_, J.unlock (e _ _ upd_same) na, fun c o z => ?_⟩⟩
      by_cases hc : c = a
      · subst hc
        rw [upd_same, ← z, ha]
      · rw [upd_ne hc]
        exact e c o (by rw [upd_ne hc]; exact z)
    · have hb1 : (upd H a (.frz oa (.dK ks))) b = some (.dK ls) := by rw [upd_ne (Ne.symm hab)]; exact hb
      obtain ⟨ob, I2⟩ := I1.lock hb1 True.intro
      refine ⟨_, ob, I2, by rw [upd_ne hab, upd_same], upd_same, fun c o hc hc2 e => by rw [upd_ne hc2, upd_ne hc]; exact e, fun H1 s1 J e => ?_⟩
      have J2 := J.unlock (e _ _ upd_same) nb
      have ea : (upd H1 b (.dK ls)) a = some (.frz oa (.dK ks)) := by
        rw [upd_ne hab]
        exact e a _ (by rw [upd_ne hab, upd_same])
      refine ⟨_, J2.unlock ea na, fun c o z => ?_⟩
      by_cases hc : c = a
      · subst hc
        rw [upd_same, ← z, ha]
      · rw [upd_ne hc]
        by_cases hc2 : c = b
        · subst hc2
          rw [upd_same, ← z, hb]
        · rw [upd_ne hc2]
          exact e c o (by rw [upd_ne hc2, upd_ne hc]; exact z)
  obtain ⟨ga, _, hma, vs, ra, oa', es, ep, ga2, da⟩ := I2.hok a _ la
  obtain ⟨gb, _, hmb, us, rb, ob', es', ep', gb2, db⟩ := I2.hok b _ lb
  have e1 : oa' = oa := by rw [ga] at ga2; exact (Option.some.inj ga2).symm
  have e2 : ob' = ob := by rw [gb] at gb2; exact (Option.some.inj gb2).symm
  subst e1 e2
  have lv : ks.length = vs.length := ra.length
  have lu : ls.length = us.length := rb.length
  refine eqdG (J := fun i s' => (∃ H', Inv X pins σ H' s' ∧ Ext L H') ∧ ∀ (j : Nat) (p : Key × V), j < i → ks[j]? = some p → ((valV ls p.1).isSome && f p.1) = true) sb.room.units0 ⟨hma, hmb, ⟨es, ep, da⟩, ⟨es', ep', db⟩, fun i s' hj => ?_, fun hl s' hj => ?_, fun i k v hi => ?_, fun hl s' hj => ?_⟩ ⟨⟨L, I2, Ext.rfl'⟩, fun j p hj => absurd hj (Nat.not_lt_zero j)⟩
  · obtain ⟨⟨H', I3, e⟩, _⟩ := hj
    exact ⟨(I3.hok a _ (e _ _ la)).1, (I3.hok b _ (e _ _ lb)).1⟩
  · obtain ⟨⟨H', I3, e⟩, _⟩ := hj
    refine ⟨?_, back _ _ I3 e⟩
    rw [er]
    unfold dictAns
    rw [show (ks.length == ls.length) = false by rw [beq_eq_false_iff_ne, lv, lu]; exact hl]
    rfl
  · obtain ⟨x, hx, rx⟩ := KV.at' ra hi
    have hm : (k, x) ∈ ks := List.mem_of_getElem? hx
    rcases kv_val rb k with ⟨n1, n2⟩ | ⟨y, u, n1, n2, ry⟩
    · refine .inl ⟨n2, fun s' hj => ?_⟩
      obtain ⟨⟨H', I3, e⟩, _⟩ := hj
      refine ⟨?_, back _ _ I3 e⟩
      rw [er]
      unfold dictAns
      have z : (ks.all fun p => (valV ls p.1).isSome && f p.1) = false := by
        rw [List.all_eq_false]
        refine ⟨_, hm, ?_⟩
        rw [n1]
        simp
      rw [z, Bool.and_false]
    · refine .inr ⟨u, n2, fun s' hj => ?_⟩
      obtain ⟨⟨H', I3, e⟩, hall⟩ := hj
      refine wpAny_mono (hD A.in1 pins s' σ H' x y v u (f k) sb.in1 I3 rx ry (hd H' (fun c o c1 c2 z => e _ _ (keep c o c1 c2 z)) _ hm _ n1)) (fun r2 s2 z => ?_) fun _ _ z => z
      obtain ⟨rfl, H2, I4, e4⟩ := z
      by_cases hf : f k = true
      · rw [if_pos hf]
        refine ⟨⟨H2, I4, e.trans e4⟩, fun j p hj hp => ?_⟩
        rcases Nat.lt_succ_iff_lt_or_eq.mp hj with h | h
        · exact hall j p h hp
        · subst h
          rw [hx] at hp
          cases hp
          rw [n1, hf]
          rfl
      · rw [if_neg hf]
        refine ⟨?_, back _ _ I4 (e.trans e4)⟩
        rw [er]
        unfold dictAns
        have z : (ks.all fun p => (valV ls p.1).isSome && f p.1) = false := by
          rw [List.all_eq_false]
          refine ⟨_, hm, ?_⟩
          simp [hf]
        rw [z, Bool.and_false]
  · obtain ⟨⟨H', I3, e⟩, hall⟩ := hj
    refine ⟨?_, back _ _ I3 e⟩
    rw [er]
    unfold dictAns
    rw [show (ks.length == ls.length) = true by rw [beq_iff_eq, lv, lu]; exact hl, Bool.true_and]
    refine congrArg Value.bool (Eq.symm (List.all_eq_true.mpr fun p hp => ?_))
    obtain ⟨j, hj, e3⟩ := List.mem_iff_getElem.mp hp
    exact hall j p (by rw [← lv]; exact hj) (by rw [List.getElem?_eq_getElem hj, e3])
/-- x == y of dicts, as an expression -/
def rEqDG (D : V → V → Hp → Bool → Prop) : R2 := fun x y H Q => ∃ a b r, x = .ref a ∧ y = .ref b ∧ DictsEq D H a b r ∧ ∀ H', Ext H H' → Q (.bl r) H'
theorem op_eqDG {X : Cx} {n : Nat} {D : V → V → Hp → Bool → Prop} (hD : EqB X n D) (hr : Room (n + 1) X.A) : OpR X (compareOp .Eq) (rEqDG D) := by
  intro pins s σ H x y v u Q I rx ry h
  obtain ⟨a, b, r, rfl, rfl, hd, q⟩ := h
  cases rx
  cases ry
  show wpAny (model X.prog X.w) X.A (richCompare .Eq (.ref a) (.ref b)) (EP X pins σ Q) X.xe s
  refine wpAny_mono (rc_dictG hD ⟨hr, rfl⟩ I hd) (fun r2 s2 z => ?_) fun _ _ z => z
  obtain ⟨rfl, H', I', e⟩ := z
  exact ⟨.bl r, H', I', rfl, q H' e⟩
end KY
/-! == and != by an own __eq__, either answer -/
namespace KY
open PySem PySem.Spec PyProof.Rows L2 PySem.W
section
variable {prog : Program} {w : World} {A : Around} {E : Value → Shared → Prop} {s : Shared} {K : PySem.W.Frag} {x C L f : Addr} {h₀ : Heap} {m : Str → Option Value} {ox : Obj} {od : Option Obj} {b tb : Value}
/-- a built-in special method, if it is bound -/
theorem bound_built {M : Model} {id : String} {name : Str} {args : List Value} {Q : Option Value → Shared → Prop} (X : K.In s.heap) (I : InstAt s.heap x ox C od) (hs : findIn K (.ref C) name = some (some (.builtin id))) (hb : ∀ self, bindSpecial (.builtin id) self = pure (.builtin id, [self]))
    (h : wpAny M A (call (.builtin id) (.ref x :: args)) (fun v => Q (some v)) E s) : wpAny M A (callSpecialIfBound? (.ref x) name args) Q E s := by
  simp only [callSpecialIfBound?, bindSpecialIfBound?]
  refine wpAny_holding (wpAny_bind (wpAny_bind (wpAny_bind (I.type.here ((looks_findIn X hs).here ?_)))))
  refine wpAny_bind (wpAny_askSetting (wpAny_ite ?_))
  have last : wpAny M A (call (.builtin id) ([.ref x] ++ args) >>= fun v => pure (some v)) Q E s := wpAny_bind (wpAny_mono h (fun v s' z => wpAny_pure z) fun _ _ z => z)
  split
  · exact wpAny_bind ((Looks.of_pure (hb _)).here (wpAny_pure (by exact last)))
  · exact wpAny_tryCatch (wpAny_bind ((Looks.of_pure (hb _)).here (wpAny_pure (by exact last))))
open Builtin in
theorem ne_own {Q : Value → Shared → Prop} (hu : A.units < cLine) (hu1 : A.in1.units < cLine) (F : Fr h₀ L s.heap m) (X₀ : K.In h₀) (I : InstAt s.heap x ox C od) (hb : Looks (model prog w) s.heap (typeOf b) tb) (hn : notFirst K C tb = true)
    (hne : findIn K (.ref C) "__ne__" = some (some (.builtin "object.__ne__"))) (hm : mroIn K C (.type "object") = some true) (hs : findIn K (.ref C) "__eq__" = some (some (.ref f))) (hf : isFn K (.ref f) = true)
    (h : wpAny (model prog w) A.in1 (call (.ref f) [.ref x, b]) (fun v s' => ∃ r, v = .bool r ∧ Q (.bool (!r)) s') E s) : wpAny (model prog w) A (richCompare .NotEq (.ref x) b) Q E s := by
  have X := X₀.keeps F.keep
  have one : wpAny (model prog w) A (tryCompare (.ref x) "__ne__" b) (fun r s' => ∃ v, r = some v ∧ Q v s') E s := by
    unfold tryCompare
    refine wpAny_bind (bound_built (Q := fun r s' => wpAny (model prog w) A (match r with
      | some .notImplemented | none => pure none
      | some v => pure (some v)) (fun r s' => ∃ v, r = some v ∧ Q v s') E s') X I hne PySem.F.slot_object_ne.bind (wpAny_call (codeAny_call_builtin PySem.F.slot_object_ne.plain PySem.F.cmpEntry_ne
      (check_slot (i := "object.__ne__") (owner := "object") (n := "__ne__") (by decide +kernel) (by decide +kernel) (I.type.andThen (looks_mroIn X hm)) (PySem.F.cmpArgs_ne _ _) ?_))))
    unfold Builtin.«object.__ne__»
    refine wpAny_bind (m := slotArgs "__ne__" 1 _) (wpAny_pure ?_)
    refine wpAny_bind (m := cRoomFor _ _) (wpAny_cRoomFor hu1 ?_)
    refine wpAny_bind (m := callSpecialIfBound? (.ref x) (Str.ofString "__eq__") _) (ifBound_K X I hs hf (wpAny_mono h (fun v s' z => ?_) fun _ _ z => z))
    obtain ⟨r, rfl, q⟩ := z
    refine wpAny_bind (wpAny_truthy_bool ?_)
    exact wpAny_pure (wpAny_pure ⟨_, rfl, q⟩)
  unfold richCompare
  simp only [oneThing_ref]
  refine wpAny_holding (wpAny_bind (wpAny_cRoomFor hu ?_))
  refine wpAny_bind (I.type.here (wpAny_bind (hb.here ?_)))
  split
  · rename_i q
    have e : subIn K tb (.ref C) = some false := by
      rcases Bool.or_eq_true_iff.mp hn with z | z
      · rw [beq_iff_eq.mp z] at q
        simp at q
      · exact beq_iff_eq.mp z
    refine wpAny_bind ((looks_subIn X e).here ?_)
    simp only [Bool.false_eq_true, if_false]
    refine wpAny_bind (wpAny_mono one (fun r s' z => ?_) fun _ _ z => z)
    obtain ⟨v, rfl, hq⟩ := z
    exact wpAny_pure hq
  · refine wpAny_bind (wpAny_pure ?_)
    simp only [Bool.false_eq_true, if_false]
    refine wpAny_bind (wpAny_mono one (fun r s' z => ?_) fun _ _ z => z)
    obtain ⟨v, rfl, hq⟩ := z
    exact wpAny_pure hq
end
/-- a value's type, where == asks for it -/
inductive KindV (K : PySem.W.Frag) (H : Hp) : V → Value → Prop
  | ins {b D dy : Addr} {gs : List (Str × V)} : H b = some (.ins D dy gs) → KindV K H (.ref b) (.ref D)
  | int (i : Int) : KindV K H (.int i) (.type "int")
  | bl (b : Bool) : KindV K H (.bl b) (.type "bool")
  | str (z : Str) : KindV K H (.str z) (.type "str")
  | non : KindV K H .non (.type "NoneType")
  | lst {b : Addr} {xs : List V} : SqL K H b xs → KindV K H (.ref b) (.type "list")
  | tup {b : Addr} {xs : List V} : SqT K H b xs → KindV K H (.ref b) (.type "tuple")
theorem kind_looks {X : Cx} {pins : List (Addr × Obj)} {σ : L2.St} {H : Hp} {s : Shared} {y : V} {u t : Value} (I : Inv X pins σ H s) (r : RelV y u) (k : KindV X.K H y t) : Looks (model X.prog X.w) s.heap (typeOf u) t := by
  cases k with
  | ins h =>
    cases r
    obtain ⟨ox, od, J⟩ := inst_of I h
    exact J.type
  | int i =>
    obtain ⟨t, rfl⟩ := r
    exact Looks.of_pure rfl
  | bl b =>
    cases r
    exact Looks.of_pure rfl
  | str z =>
    obtain ⟨t, rfl⟩ := r
    exact Looks.of_pure rfl
  | non =>
    cases r
    exact Looks.of_pure rfl
  | lst h =>
    cases r
    obtain ⟨its, rv, p, hz⟩ := I.list h
    obtain ⟨o, ho, hc, _⟩ := p.isList
    have z := Looks.ld (M := model X.prog X.w) (part := none) ho
    rw [← hc]
    exact z.andThen .now
  | tup h =>
    cases r
    obtain ⟨its, rv, p, hz⟩ := I.tuple h
    obtain ⟨o, ho, hc, _⟩ := p
    have z := Looks.ld (M := model X.prog X.w) (part := none) ho
    rw [← hc]
    exact z.andThen .now
/-- a class with an own __eq__ and no own __ne__ -/
structure EqCls (K : PySem.W.Frag) (C g : Addr) : Prop where
  at_ : findIn K (.ref C) "__eq__" = some (some (.ref g))
  fn : isFn K (.ref g) = true
  ne : findIn K (.ref C) "__ne__" = some (some (.builtin "object.__ne__"))
  mro : mroIn K C (.type "object") = some true
/-- the promise of an own __eq__: D tells the answer -/
def spEqOf (D : V → V → Hp → Bool → Prop) : Sp := fun vs H Q _ => ∃ x y b, vs = [x, y] ∧ D x y H b ∧ ∀ H', Ext H H' → Q (.bl b) H'
/-- x is an instance of C; y of a type that does not come first -/
def DOwn (K : PySem.W.Frag) (C : Addr) (D : V → V → Hp → Bool → Prop) : V → V → Hp → Bool → Prop := fun x y H b => ∃ a dx fs t, x = .ref a ∧ H a = some (.ins C dx fs) ∧ KindV K H y t ∧ notFirst K C t = true ∧ D x y H b
section
variable {X : Cx} {CX : CXT} {k : Nat} {C g : Addr} {fd : FuncData} {ps : List Str} {E : XK} {D : V → V → Hp → Bool → Prop}
theorem env_sub {A : Around} {n : Nat} {pins : List (Addr × Obj)} {σ : L2.St} {H : Hp} {s : Shared} (sb : Sub X n A) (I : Inv X pins σ H s) : Env0 X.prog X.w X.K X.mg X.base A X.stack s H := by
  have e := I.env0
  exact ⟨by rw [sb.fr]; exact e.frames, e.mod, e.bs, e.bsz, e.funs, e.frf, e.hok, e.bare⟩
theorem bool_of {pins : List (Addr × Obj)} {σ : L2.St} {H : Hp} {b : Bool} {u : Value} {s : Shared} (h : EP X pins σ (fun v H' => v = .bl b ∧ Ext H H') u s) : u = .bool b ∧ ∃ H', Inv X pins σ H' s ∧ Ext H H' := by
  obtain ⟨v, H', I, r, rfl, e⟩ := h
  exact ⟨r, H', I, e⟩
/-- == of two such values in a place below -/
theorem rc_own (T : EqCls X.K C g) (F : FnOk X.prog X.w X.K X.mg X.base CX k g fd ps (spEqOf D)) (hb : Binds X.K fd ps []) (hx : Passes CX X E) {A : Around} {pins : List (Addr × Obj)} {s : Shared} {σ : L2.St} {H : Hp} {x y : V} {u v : Value} {b : Bool}
    (sb : Sub X k A) (I : Inv X pins σ H s) (rx : RelV x u) (ry : RelV y v) (d : DOwn X.K C D x y H b) : wpAny (model X.prog X.w) A (richCompare .Eq u v) (fun r s' => r = .bool b ∧ ∃ H', Inv X pins σ H' s' ∧ Ext H H') X.xe s := by
  obtain ⟨a, dx, fs, t, rfl, ha, hk, hn, d⟩ := d
  cases rx
  obtain ⟨ox, od, J⟩ := inst_of I ha
  obtain ⟨m, hF⟩ := I.fr
  refine cmp_K (op := .Eq) (tb := t) sb.room.units0 hF I.ok.mod.kin J (kind_looks I ry hk) hn T.at_ T.fn (wpAny_mono (run_at (us := [.ref a, v]) (vs := [.ref a, y]) (Q := fun v H' => v = .bl b ∧ Ext H H') (E := E) F sb.room (env_sub sb I) hb hx I (.cons rfl (.cons ry .nil)) ⟨_, _, b, rfl, d, fun H' e => ⟨rfl, e⟩⟩) (fun u2 s2 z => ?_) fun _ _ z => z)
  obtain ⟨rfl, z2⟩ := bool_of z
  exact ⟨rfl, z2⟩
/-- != of two such values, as an expression's operator -/
theorem op_neO (T : EqCls X.K C g) (F : FnOk X.prog X.w X.K X.mg X.base CX k g fd ps (spEqOf D)) (hr : Room (k + 1) X.A) (hb : Binds X.K fd ps []) (hx : Passes CX X E) : OpR X (compareOp .NotEq) (fun x y H Q => ∃ b, DOwn X.K C D x y H b ∧ ∀ H', Ext H H' → Q (.bl (!b)) H') := by
  intro pins s σ H x y v u Q I rx ry h
  obtain ⟨b, ⟨a, dx, fs, t, rfl, ha, hk, hn, d⟩, q⟩ := h
  cases rx
  obtain ⟨ox, od, J⟩ := inst_of I ha
  obtain ⟨m, hF⟩ := I.fr
  show wpAny (model X.prog X.w) X.A (richCompare .NotEq (.ref a) u) (EP X pins σ Q) X.xe s
  refine ne_own hr.units0 hr.in1.units0 hF I.ok.mod.kin J (kind_looks I ry hk) hn T.ne T.mro T.at_ T.fn (wpAny_mono (run_at (us := [.ref a, u]) (vs := [.ref a, y]) (Q := fun v H' => v = .bl b ∧ Ext H H') (E := E) F hr.in1 I.env0.in1 hb hx I (.cons rfl (.cons ry .nil)) ⟨_, _, b, rfl, d, fun H' e => ⟨rfl, e⟩⟩) (fun u2 s2 z => ?_) fun _ _ z => z)
  obtain ⟨rfl, H', I2, e⟩ := bool_of z
  exact ⟨b, rfl, .bl (!b), H', I2, rfl, q H' e⟩
theorem op_eqO (T : EqCls X.K C g) (F : FnOk X.prog X.w X.K X.mg X.base CX k g fd ps (spEqOf D)) (hr : Room k X.A) (hb : Binds X.K fd ps []) (hx : Passes CX X E) : OpR X (compareOp .Eq) (fun x y H Q => ∃ b, DOwn X.K C D x y H b ∧ ∀ H', Ext H H' → Q (.bl b) H') := by
  intro pins s σ H x y v u Q I rx ry h
  obtain ⟨b, d, q⟩ := h
  show wpAny (model X.prog X.w) X.A (richCompare .Eq v u) (EP X pins σ Q) X.xe s
  refine wpAny_mono (rc_own T F hb hx ⟨hr, rfl⟩ I rx ry d) (fun r2 s2 z => ?_) fun _ _ z => z
  obtain ⟨rfl, H', I', e⟩ := z
  exact ⟨.bl b, H', I', rfl, q H' e⟩
/-- == inside a built-in: an object is equal to itself without being asked -/
theorem eqb_own (T : EqCls X.K C g) (F : FnOk X.prog X.w X.K X.mg X.base CX k g fd ps (spEqOf D)) (hb : Binds X.K fd ps []) (hx : Passes CX X E) (hself : ∀ x H b, D x x H b → b = true) : EqB X k (fun x y H b => (∃ a, y = .ref a) ∧ DOwn X.K C D x y H b) := by
  intro A pins s σ H x y u v b sb I rx ry d
  obtain ⟨⟨c, rfl⟩, d⟩ := d
  have d2 := d
  obtain ⟨a, dx, fs, t, rfl, ha, hk, hn, d⟩ := d
  cases rx
  cases ry
  by_cases hac : a = c
  · subst hac
    have e := hself _ _ _ d
    subst e
    exact SeqAt.EqAt.same (A := A) (s := s) (.ref a) X.prog X.w X.xe _ ⟨rfl, H, I, Ext.rfl'⟩
  · refine GQ.eqBool_refG hac (wpAny_mono (rc_own (x := .ref a) (y := .ref c) T F hb hx sb I rfl rfl d2) (fun r2 s2 z => ?_) fun _ _ z => z)
    obtain ⟨rfl, z⟩ := z
    exact ⟨b, rfl, rfl, z⟩
end
end KY
/-! what is asked of own classes, by one truth each; the hook -/
namespace KY
open PySem PySem.Spec PyProof.Rows L2 PySem.W
def isE (a b : Option (Option Value)) : Bool := decide (a = b)
def clsB (K : PySem.W.Frag) (C : Addr) : Bool := plainGet K C Str.empty && (hasDictIn K C && (plainOver K C && isE (findIn K (.ref C) "__setattr__") (some (some (.builtin "object.__setattr__")))))
theorem clsB_ok {K : PySem.W.Frag} {C : Addr} (h : clsB K C = true) : Cls K C := by
  unfold clsB isE at h
  simp only [Bool.and_eq_true, decide_eq_true_eq] at h
  exact ⟨h.1, h.2.1, h.2.2.1, h.2.2.2⟩
/-- instances are asked by isinstance -/
structure Insp (K : PySem.W.Frag) (C : Addr) : Prop where
  cls : Cls K C
  ha : findIn K (.ref C) "__class__" = some (some (.builtin "object.__class__"))
  hn : specialIn K (.builtin "object.__class__") "__get__" = some (some (.builtin "getset_descriptor.__get__"))
  tk : takesIn K (.builtin "object.__class__") = some true
  mro : mroIn K C (.type "object") = some true
theorem Insp.ty {K : PySem.W.Frag} {C : Addr} (h : Insp K C) {H : Hp} {a dx : Addr} {fs : List (Str × V)} (e : H a = some (.ins C dx fs)) : TyX K H (.ref a) (.ref C) := .base (.ins e h.cls h.ha h.hn h.tk h.mro)
def inspB (K : PySem.W.Frag) (C : Addr) : Bool := clsB K C && (isE (findIn K (.ref C) "__class__") (some (some (.builtin "object.__class__"))) && (isE (specialIn K (.builtin "object.__class__") "__get__") (some (some (.builtin "getset_descriptor.__get__"))) &&
  (decide (takesIn K (.builtin "object.__class__") = some true) && decide (mroIn K C (.type "object") = some true))))
theorem inspB_ok {K : PySem.W.Frag} {C : Addr} (h : inspB K C = true) : Insp K C := by
  unfold inspB isE at h
  simp only [Bool.and_eq_true, decide_eq_true_eq] at h
  exact ⟨clsB_ok h.1, h.2.1, h.2.2.1, h.2.2.2.1, h.2.2.2.2⟩
/-- made by an own __init__ -/
def mkB (K : PySem.W.Frag) (C : Addr) : Bool := makesIn K C && (isE (findIn K (.ref C) "__init__") (some (some (.ref (He.ma K C "__init__")))) && (isFn K (.ref (He.ma K C "__init__")) && keepIn K (.ref C)))
theorem mkB_ok {K : PySem.W.Frag} {C : Addr} (h : mkB K C = true) : Mk K C (He.ma K C "__init__") := by
  unfold mkB isE at h
  simp only [Bool.and_eq_true, decide_eq_true_eq] at h
  exact ⟨h.1, h.2.1, h.2.2.1, h.2.2.2⟩
def methB (K : PySem.W.Frag) (C : Addr) (m : Str) : Bool := isE (findIn K (.ref C) m) (some (some (.ref (He.ma K C m)))) && (isFn K (.ref (He.ma K C m)) && keepIn K (.ref (He.ma K C m)))
theorem methB_ok {K : PySem.W.Frag} {C : Addr} {m : Str} (h : methB K C m = true) : Meth K C m (He.ma K C m) := by
  unfold methB isE at h
  simp only [Bool.and_eq_true, decide_eq_true_eq] at h
  exact ⟨h.1, h.2.1, h.2.2⟩
def dunB (K : PySem.W.Frag) (C : Addr) (nm : String) : Bool := selfFirst K C && (methB K C (PySem.dunder nm) && isE (findIn K (.ref C) (dunderR nm)) (some none))
theorem dunB_ok {K : PySem.W.Frag} {C : Addr} {nm : String} (h : dunB K C nm = true) : Dun K C (He.ma K C (PySem.dunder nm)) nm := by
  unfold dunB isE at h
  simp only [Bool.and_eq_true, decide_eq_true_eq] at h
  have m := methB_ok h.2.1
  exact ⟨h.1, m.at_, m.fn, h.2.2⟩
def noB (K : PySem.W.Frag) (C : Addr) (fs : List Str) : Bool := fs.all fun f => isE (findIn K (.ref C) f) (some none)
theorem noB_ok {K : PySem.W.Frag} {C : Addr} {fs : List Str} (h : noB K C fs = true) : ∀ f ∈ fs, NoAttr K C f := fun f hf => by
  have z := List.all_eq_true.mp h f hf
  unfold isE at z
  exact (decide_eq_true_iff (p := findIn K (.ref C) f = some none)).mp z
def eqB (K : PySem.W.Frag) (C : Addr) : Bool := methB K C "__eq__" && (isE (findIn K (.ref C) "__ne__") (some (some (.builtin "object.__ne__"))) && decide (mroIn K C (.type "object") = some true))
theorem eqB_ok {K : PySem.W.Frag} {C : Addr} (h : eqB K C = true) : EqCls K C (He.ma K C "__eq__") := by
  unfold eqB isE at h
  simp only [Bool.and_eq_true, decide_eq_true_eq] at h
  have m := methB_ok h.1
  exact ⟨m.at_, m.fn, h.2.1, h.2.2⟩
/-- texts -/
structure StrCls (K : PySem.W.Frag) (C g : Addr) : Prop where
  at_ : findIn K (.ref C) "__str__" = some (some (.ref g))
  fn : isFn K (.ref g) = true
  fmt : findIn K (.ref C) "__format__" = some (some (.builtin "object.__format__"))
  mro : mroIn K C (.type "object") = some true
def strB (K : PySem.W.Frag) (C : Addr) : Bool := methB K C "__str__" && (isE (findIn K (.ref C) "__format__") (some (some (.builtin "object.__format__"))) && decide (mroIn K C (.type "object") = some true))
theorem strB_ok {K : PySem.W.Frag} {C : Addr} (h : strB K C = true) : StrCls K C (He.ma K C "__str__") := by
  unfold strB isE at h
  simp only [Bool.and_eq_true, decide_eq_true_eq] at h
  have m := methB_ok h.1
  exact ⟨m.at_, m.fn, h.2.1, h.2.2⟩
def readB (K : PySem.W.Frag) (C : Addr) : Bool := readsIn K C (.type "type") && isE (specialIn K (.ref C) "__getattribute__") (some (some (.builtin "type.__getattribute__")))
theorem readB_ok {K : PySem.W.Frag} {C : Addr} (h : readB K C = true) : ClX.CRead K C (.type "type") := by
  unfold readB isE at h
  simp only [Bool.and_eq_true, decide_eq_true_eq] at h
  exact ⟨h.1, h.2⟩
abbrev sAd (K : PySem.W.Frag) (C : Addr) (m : Str) : Addr := He5.wf K C "staticmethod" m
def smB (K : PySem.W.Frag) (C : Addr) (m : Str) : Bool := readB K C && (He5.wrapB K C "staticmethod" "staticmethod.__get__" m && keepIn K (.ref (sAd K C m)))
theorem smB_ok {K : PySem.W.Frag} {C : Addr} {m : Str} (h : smB K C m = true) : SMet K C m (He.ma K C m) (sAd K C m) := by
  unfold smB at h
  simp only [Bool.and_eq_true] at h
  obtain ⟨h1, h2⟩ := He5.wrapB_ok h.2.1
  exact ⟨readB_ok h.1, h1, h2, h.2.2⟩
abbrev pAd (K : PySem.W.Frag) (C : Addr) (m : Str) : Addr := He5.wf K C "property" m
def propB (K : PySem.W.Frag) (C : Addr) (m : Str) : Bool := isE (findIn K (.ref C) m) (some (some (.ref (He.ma K C m)))) && (isE (specialIn K (.ref (He.ma K C m)) "__get__") (some (some (.builtin "property.__get__"))) &&
  (decide (takesIn K (.ref (He.ma K C m)) = some true) && (match recIn K (He.ma K C m) "property" with
    | some (.ref _ :: _) => true
    | _ => false)))
theorem propB_ok {K : PySem.W.Frag} {C : Addr} {m : Str} (h : propB K C m = true) : PropOf K C m (He.ma K C m) (pAd K C m) := by
  unfold propB isE at h
  simp only [Bool.and_eq_true, decide_eq_true_eq] at h
  refine ⟨h.1, h.2.1, h.2.2.1, ?_⟩
  have z := h.2.2.2
  unfold pAd He5.wf
  split at z
  · rename_i g r e
    exact ⟨r, by rw [e]⟩
  · cases z
/-! ### the hook: defs at any address, one more truth, the table of modules -/
abbrev AlY : Type := He.AlD × Bool
/-- which of the addresses are not among those seen (a bit each) -/
def newOnes : List Addr → Nat → List Addr
  | [], _ => []
  | a :: r, s => match Nat.beq (Nat.land (Nat.shiftRight s a) 1) 1 with
    | true => newOnes r s
    | false => a :: newOnes r (Nat.lor s (Nat.shiftLeft 1 a))
def marked : List Addr → Nat → Nat
  | [], s => s
  | a :: r, s => marked r (Nat.lor s (Nat.shiftLeft 1 a))
/-- what the addresses name in n steps, the nearest first -/
def reachY (g : Addr → Option Obj) : Nat → List Addr → Nat → List Addr
  | 0, _, _ => []
  | n + 1, as, s => as ++ reachY g n (newOnes (as.flatMap fun a => match g a with
    | some o => He.refsD o
    | none => []) (marked as s)) (marked as s)
def frY (n : Nat) (g : Addr → Option Obj) : PySem.W.Frag := He.frG g (reachY g (n + 1) [mainGlobals, cStatics, sysModules] 0)
def obsY (n : Nat) (fa : List He.Fa) (fn : List He5.DefA) (ex : PySem.W.Frag → Bool) (g : Addr → Option Obj) : AlY := (He5.obsA fa fn (frY n g), (((frY n g).lookup sysModules).isSome && ex (frY n g)))
def SaysY (fa : List He.Fa) (fn : List He5.DefA) (ex : PySem.W.Frag → Bool) (K : PySem.W.Frag) : Prop := He5.SaysA fa fn K ∧ (K.lookup sysModules).isSome = true ∧ ex K = true
def hookY (n : Nat) (fa : List He.Fa) (fn : List He5.DefA) (ex : PySem.W.Frag → Bool) : PySem.W.Hook where
  α := AlY
  obs := fun s => obsY n fa fn ex s.heap.get?
  val := fun _ => (He5.valA fn, true)
  says := fun _ h => ∃ K : PySem.W.Frag, K.In h ∧ SaysY fa fn ex K
  of := fun _ s e => ⟨frY n s.heap.get?, He.frG_in, congrArg Prod.fst e, Bool.and_eq_true_iff.mp (congrArg Prod.snd e)⟩
  keeps := fun _ _ _ ⟨K, hK, c⟩ k => ⟨K, PySem.W.Frag.In.keeps hK k, c⟩
theorem obsY_eq {n : Nat} {fa : List He.Fa} {fn : List He5.DefA} {ex : PySem.W.Frag → Bool} {g : Addr → Option Obj} {s : Shared} (h : ∀ a, g a = s.heap.get? a) : obsY n fa fn ex g = (hookY n fa fn ex).obs s := by
  have e : g = s.heap.get? := funext h
  subst e
  rfl
theorem factsY {fa : List He.Fa} {fn : List He5.DefA} {K : PySem.W.Frag} (c : He5.SaysA fa fn K) {f : He.Fa} (h : f ∈ fa) : f.ok K = true := by
  have c1 := (Bool.and_eq_true_iff.mp (show ((fa.all fun f => f.ok K) && fn.all fun d => d.ok K) = true from congrArg (fun z : He.AlD => z.1) c)).1
  exact List.all_eq_true.mp c1 f h
end KY
namespace K5
open PySem PySem.Spec PyProof.Rows L2 KY PySem.W
abbrev topZ (i : Nat) : Stmt := PySem.Challenge.pw_scaleborn_k05_balances_added_and_brought.main.body.getD i (.Pass ⟨0, 0, 0, 0⟩)
abbrev s_is_integer : Stmt := topZ 6
abbrev s_is_name : Stmt := topZ 7
abbrev s_is_list : Stmt := topZ 8
abbrev s_are_names : Stmt := topZ 9
abbrev s_Ratio_init : Stmt := inClass (topZ 19) 0
abbrev s_Ratio_of : Stmt := inClass (topZ 19) 1
abbrev s_Ratio_add : Stmt := inClass (topZ 19) 6
abbrev s_Ratio_sub : Stmt := inClass (topZ 19) 7
abbrev s_Ratio_mul : Stmt := inClass (topZ 19) 8
abbrev s_Ratio_neg : Stmt := inClass (topZ 19) 9
abbrev s_Ratio_eq : Stmt := inClass (topZ 19) 15
abbrev s_Ratio_str : Stmt := inClass (topZ 19) 16
abbrev s_other_of : Stmt := topZ 21
abbrev s_is_ratio : Stmt := topZ 22
abbrev s_are_numbers : Stmt := topZ 29
abbrev s_are_new_names : Stmt := topZ 30
abbrev s_term_text : Stmt := topZ 31
abbrev s_Balance_init : Stmt := inClass (topZ 32) 0
abbrev s_Balance_of : Stmt := inClass (topZ 32) 1
abbrev s_Balance_is_nothing : Stmt := inClass (topZ 32) 3
abbrev s_Balance_number_of : Stmt := inClass (topZ 32) 4
abbrev s_Balance_gains : Stmt := inClass (topZ 32) 5
abbrev s_Balance_losses : Stmt := inClass (topZ 32) 6
abbrev s_Balance_least : Stmt := inClass (topZ 32) 7
abbrev s_Balance_renamed : Stmt := inClass (topZ 32) 8
abbrev s_Balance_add : Stmt := inClass (topZ 32) 9
abbrev s_Balance_sub : Stmt := inClass (topZ 32) 10
abbrev s_Balance_neg : Stmt := inClass (topZ 32) 11
abbrev s_Balance_mul : Stmt := inClass (topZ 32) 12
abbrev s_Balance_eq : Stmt := inClass (topZ 32) 13
abbrev s_Balance_str : Stmt := inClass (topZ 32) 14
abbrev s_need_balance : Stmt := topZ 33
abbrev s_mean_of : Stmt := topZ 36
abbrev s_Lreel : Stmt := topZ 38
abbrev s_Lturn : Stmt := topZ 39
abbrev s_Lpick : Stmt := topZ 40
abbrev s_Lshared : Stmt := topZ 41
abbrev s_Llow : Stmt := topZ 42
abbrev s_Lplus : Stmt := topZ 43
abbrev s_Lby : Stmt := topZ 44
abbrev s_Lnumber : Stmt := topZ 45
abbrev s_Lthings : Stmt := topZ 46
abbrev s_Ltext : Stmt := topZ 47
abbrev s_Lnamed : Stmt := topZ 48
abbrev s_Ltold : Stmt := topZ 49
abbrev s_Lratio : Stmt := topZ 50
abbrev s_Lis_as : Stmt := topZ 51
abbrev s_Lmade : Stmt := topZ 52
abbrev s_Lsum : Stmt := topZ 53
abbrev s_Lleast : Stmt := topZ 54
abbrev s_Lleast_right : Stmt := topZ 55
abbrev s_Lrenamed : Stmt := topZ 56
abbrev s_Lnames : Stmt := topZ 57
abbrev s_law : Stmt := topZ 58
def d0 : He5.DefA := ⟨fun K => He.ga K "is_integer", "is_integer", "is_integer", defArgs s_is_integer, defBody s_is_integer, defScope s_is_integer, [], []⟩
def d1 : He5.DefA := ⟨fun K => He.ga K "is_name", "is_name", "is_name", defArgs s_is_name, defBody s_is_name, defScope s_is_name, [], []⟩
def d2 : He5.DefA := ⟨fun K => He.ga K "is_list", "is_list", "is_list", defArgs s_is_list, defBody s_is_list, defScope s_is_list, [], []⟩
def d3 : He5.DefA := ⟨fun K => He.ga K "are_names", "are_names", "are_names", defArgs s_are_names, defBody s_are_names, defScope s_are_names, [], []⟩
def d4 : He5.DefA := ⟨fun K => He.ma K (He.ga K "Ratio") "__init__", "__init__", "Ratio.__init__", defArgs s_Ratio_init, defBody s_Ratio_init, defScope s_Ratio_init, [.int (1)], []⟩
def d5 : He5.DefA := ⟨fun K => sAd K (He.ga K "Ratio") "of", "of", "Ratio.of", defArgs s_Ratio_of, defBody s_Ratio_of, defScope s_Ratio_of, [], []⟩
def d6 : He5.DefA := ⟨fun K => He.ma K (He.ga K "Ratio") "__add__", "__add__", "Ratio.__add__", defArgs s_Ratio_add, defBody s_Ratio_add, defScope s_Ratio_add, [], []⟩
def d7 : He5.DefA := ⟨fun K => He.ma K (He.ga K "Ratio") "__sub__", "__sub__", "Ratio.__sub__", defArgs s_Ratio_sub, defBody s_Ratio_sub, defScope s_Ratio_sub, [], []⟩
def d8 : He5.DefA := ⟨fun K => He.ma K (He.ga K "Ratio") "__mul__", "__mul__", "Ratio.__mul__", defArgs s_Ratio_mul, defBody s_Ratio_mul, defScope s_Ratio_mul, [], []⟩
def d9 : He5.DefA := ⟨fun K => He.ma K (He.ga K "Ratio") "__neg__", "__neg__", "Ratio.__neg__", defArgs s_Ratio_neg, defBody s_Ratio_neg, defScope s_Ratio_neg, [], []⟩
def d10 : He5.DefA := ⟨fun K => He.ma K (He.ga K "Ratio") "__eq__", "__eq__", "Ratio.__eq__", defArgs s_Ratio_eq, defBody s_Ratio_eq, defScope s_Ratio_eq, [], []⟩
def d11 : He5.DefA := ⟨fun K => He.ma K (He.ga K "Ratio") "__str__", "__str__", "Ratio.__str__", defArgs s_Ratio_str, defBody s_Ratio_str, defScope s_Ratio_str, [], []⟩
def d12 : He5.DefA := ⟨fun K => He.ga K "other_of", "other_of", "other_of", defArgs s_other_of, defBody s_other_of, defScope s_other_of, [], []⟩
def d13 : He5.DefA := ⟨fun K => He.ga K "is_ratio", "is_ratio", "is_ratio", defArgs s_is_ratio, defBody s_is_ratio, defScope s_is_ratio, [], []⟩
def d14 : He5.DefA := ⟨fun K => He.ga K "are_numbers", "are_numbers", "are_numbers", defArgs s_are_numbers, defBody s_are_numbers, defScope s_are_numbers, [], []⟩
def d15 : He5.DefA := ⟨fun K => He.ga K "are_new_names", "are_new_names", "are_new_names", defArgs s_are_new_names, defBody s_are_new_names, defScope s_are_new_names, [], []⟩
def d16 : He5.DefA := ⟨fun K => He.ga K "term_text", "term_text", "term_text", defArgs s_term_text, defBody s_term_text, defScope s_term_text, [], []⟩
def d17 : He5.DefA := ⟨fun K => He.ma K (He.ga K "Balance") "__init__", "__init__", "Balance.__init__", defArgs s_Balance_init, defBody s_Balance_init, defScope s_Balance_init, [], []⟩
def d18 : He5.DefA := ⟨fun K => sAd K (He.ga K "Balance") "of", "of", "Balance.of", defArgs s_Balance_of, defBody s_Balance_of, defScope s_Balance_of, [], []⟩
def d19 : He5.DefA := ⟨fun K => pAd K (He.ga K "Balance") "is_nothing", "is_nothing", "Balance.is_nothing", defArgs s_Balance_is_nothing, defBody s_Balance_is_nothing, defScope s_Balance_is_nothing, [], []⟩
def d20 : He5.DefA := ⟨fun K => He.ma K (He.ga K "Balance") "number_of", "number_of", "Balance.number_of", defArgs s_Balance_number_of, defBody s_Balance_number_of, defScope s_Balance_number_of, [], []⟩
def d21 : He5.DefA := ⟨fun K => He.ma K (He.ga K "Balance") "gains", "gains", "Balance.gains", defArgs s_Balance_gains, defBody s_Balance_gains, defScope s_Balance_gains, [], []⟩
def d22 : He5.DefA := ⟨fun K => He.ma K (He.ga K "Balance") "losses", "losses", "Balance.losses", defArgs s_Balance_losses, defBody s_Balance_losses, defScope s_Balance_losses, [], []⟩
def d23 : He5.DefA := ⟨fun K => He.ma K (He.ga K "Balance") "least", "least", "Balance.least", defArgs s_Balance_least, defBody s_Balance_least, defScope s_Balance_least, [], []⟩
def d24 : He5.DefA := ⟨fun K => He.ma K (He.ga K "Balance") "renamed", "renamed", "Balance.renamed", defArgs s_Balance_renamed, defBody s_Balance_renamed, defScope s_Balance_renamed, [], []⟩
def d25 : He5.DefA := ⟨fun K => He.ma K (He.ga K "Balance") "__add__", "__add__", "Balance.__add__", defArgs s_Balance_add, defBody s_Balance_add, defScope s_Balance_add, [], []⟩
def d26 : He5.DefA := ⟨fun K => He.ma K (He.ga K "Balance") "__sub__", "__sub__", "Balance.__sub__", defArgs s_Balance_sub, defBody s_Balance_sub, defScope s_Balance_sub, [], []⟩
def d27 : He5.DefA := ⟨fun K => He.ma K (He.ga K "Balance") "__neg__", "__neg__", "Balance.__neg__", defArgs s_Balance_neg, defBody s_Balance_neg, defScope s_Balance_neg, [], []⟩
def d28 : He5.DefA := ⟨fun K => He.ma K (He.ga K "Balance") "__mul__", "__mul__", "Balance.__mul__", defArgs s_Balance_mul, defBody s_Balance_mul, defScope s_Balance_mul, [], []⟩
def d29 : He5.DefA := ⟨fun K => He.ma K (He.ga K "Balance") "__eq__", "__eq__", "Balance.__eq__", defArgs s_Balance_eq, defBody s_Balance_eq, defScope s_Balance_eq, [], []⟩
def d30 : He5.DefA := ⟨fun K => He.ma K (He.ga K "Balance") "__str__", "__str__", "Balance.__str__", defArgs s_Balance_str, defBody s_Balance_str, defScope s_Balance_str, [], []⟩
def d31 : He5.DefA := ⟨fun K => He.ga K "need_balance", "need_balance", "need_balance", defArgs s_need_balance, defBody s_need_balance, defScope s_need_balance, [], []⟩
def d32 : He5.DefA := ⟨fun K => He.ga K "mean_of", "mean_of", "mean_of", defArgs s_mean_of, defBody s_mean_of, defScope s_mean_of, [], []⟩
def d33 : He5.DefA := ⟨fun K => He.ga K "_law_reel", "_law_reel", "_law_reel", defArgs s_Lreel, defBody s_Lreel, defScope s_Lreel, [], []⟩
def d34 : He5.DefA := ⟨fun K => He.ga K "_law_turn", "_law_turn", "_law_turn", defArgs s_Lturn, defBody s_Lturn, defScope s_Lturn, [], []⟩
def d35 : He5.DefA := ⟨fun K => He.ga K "_law_pick", "_law_pick", "_law_pick", defArgs s_Lpick, defBody s_Lpick, defScope s_Lpick, [], []⟩
def d36 : He5.DefA := ⟨fun K => He.ga K "_law_shared", "_law_shared", "_law_shared", defArgs s_Lshared, defBody s_Lshared, defScope s_Lshared, [], []⟩
def d37 : He5.DefA := ⟨fun K => He.ga K "_law_low", "_law_low", "_law_low", defArgs s_Llow, defBody s_Llow, defScope s_Llow, [], []⟩
def d38 : He5.DefA := ⟨fun K => He.ga K "_law_plus", "_law_plus", "_law_plus", defArgs s_Lplus, defBody s_Lplus, defScope s_Lplus, [], []⟩
def d39 : He5.DefA := ⟨fun K => He.ga K "_law_by", "_law_by", "_law_by", defArgs s_Lby, defBody s_Lby, defScope s_Lby, [], []⟩
def d40 : He5.DefA := ⟨fun K => He.ga K "_law_number", "_law_number", "_law_number", defArgs s_Lnumber, defBody s_Lnumber, defScope s_Lnumber, [], []⟩
def d41 : He5.DefA := ⟨fun K => He.ga K "_law_things", "_law_things", "_law_things", defArgs s_Lthings, defBody s_Lthings, defScope s_Lthings, [], []⟩
def d42 : He5.DefA := ⟨fun K => He.ga K "_law_text", "_law_text", "_law_text", defArgs s_Ltext, defBody s_Ltext, defScope s_Ltext, [], []⟩
def d43 : He5.DefA := ⟨fun K => He.ga K "_law_named", "_law_named", "_law_named", defArgs s_Lnamed, defBody s_Lnamed, defScope s_Lnamed, [], []⟩
def d44 : He5.DefA := ⟨fun K => He.ga K "_law_told", "_law_told", "_law_told", defArgs s_Ltold, defBody s_Ltold, defScope s_Ltold, [], []⟩
def d45 : He5.DefA := ⟨fun K => He.ga K "_law_ratio", "_law_ratio", "_law_ratio", defArgs s_Lratio, defBody s_Lratio, defScope s_Lratio, [], []⟩
def d46 : He5.DefA := ⟨fun K => He.ga K "_law_is_as", "_law_is_as", "_law_is_as", defArgs s_Lis_as, defBody s_Lis_as, defScope s_Lis_as, [], []⟩
def d47 : He5.DefA := ⟨fun K => He.ga K "_law_made", "_law_made", "_law_made", defArgs s_Lmade, defBody s_Lmade, defScope s_Lmade, [], []⟩
def d48 : He5.DefA := ⟨fun K => He.ga K "_law_sum", "_law_sum", "_law_sum", defArgs s_Lsum, defBody s_Lsum, defScope s_Lsum, [], []⟩
def d49 : He5.DefA := ⟨fun K => He.ga K "_law_least", "_law_least", "_law_least", defArgs s_Lleast, defBody s_Lleast, defScope s_Lleast, [], []⟩
def d50 : He5.DefA := ⟨fun K => He.ga K "_law_least_right", "_law_least_right", "_law_least_right", defArgs s_Lleast_right, defBody s_Lleast_right, defScope s_Lleast_right, [], []⟩
def d51 : He5.DefA := ⟨fun K => He.ga K "_law_renamed", "_law_renamed", "_law_renamed", defArgs s_Lrenamed, defBody s_Lrenamed, defScope s_Lrenamed, [], []⟩
def d52 : He5.DefA := ⟨fun K => He.ga K "_law_names", "_law_names", "_law_names", defArgs s_Lnames, defBody s_Lnames, defScope s_Lnames, [], []⟩
def d53 : He5.DefA := ⟨fun K => He.ga K "law", "law", "law", defArgs s_law, defBody s_law, defScope s_law, [], []⟩
def fn : List He5.DefA := [d0, d1, d2, d3, d4, d5, d6, d7, d8, d9, d10, d11, d12, d13, d14, d15, d16, d17, d18, d19, d20, d21, d22, d23, d24, d25, d26, d27, d28, d29, d30, d31, d32, d33, d34, d35, d36, d37, d38, d39, d40, d41, d42, d43, d44, d45, d46, d47, d48, d49, d50, d51, d52, d53]
def gl : List Str := (["is_integer", "is_name", "is_list", "are_names", "other_of", "is_ratio", "are_numbers", "are_new_names", "term_text", "need_balance", "mean_of", "_law_reel", "_law_turn", "_law_pick", "_law_shared", "_law_low", "_law_plus", "_law_by", "_law_number", "_law_things", "_law_text", "_law_named", "_law_told", "_law_ratio", "_law_is_as"] : List Str) ++ (["_law_made", "_law_sum", "_law_least", "_law_least_right", "_law_renamed", "_law_names", "law", "Ratio", "Balance"] : List Str)
def freeN : List Str := (["int", "len", "abs", "isinstance", "str", "bool", "dict", "list", "tuple", "sorted", "range", "all"] : List Str)
def fa : List He.Fa := gl.map He.Fa.glo ++ (freeN.map He.Fa.free ++ [.int "MOST_SIGNS" 12, .str "SMALL" "abcdefghijklmnopqrstuvwxyz", .str "DIGITS" "0123456789"])
def loose : List Str := (["gcd", "lcm", "_wall", "MOST_SIGNS", "SMALL", "DIGITS", "is_integer", "is_name", "is_list", "are_names", "ScaleError", "BadRatio", "BadBalance", "BadNumber", "BadText", "MOST_DIGITS", "is_whole_text", "Ratio", "ratio_in", "other_of", "is_ratio", "Scan", "read_whole", "NOTHING", "MORE"] : List Str) ++ (["are_numbers", "are_new_names", "term_text", "Balance", "need_balance", "take_share", "take_balance", "mean_of", "_law_reel", "_law_turn", "_law_pick", "_law_shared", "_law_low", "_law_plus", "_law_by", "_law_number", "_law_things", "_law_text", "_law_named", "_law_told", "_law_ratio", "_law_is_as", "_law_made", "_law_sum", "_law_least"] : List Str) ++ (["_law_least_right", "_law_renamed", "_law_names"] : List Str)
def kindsB : List String := ["int", "bool", "NoneType", "str", "list", "tuple", "dict"]
def askedB : List String := ["int", "bool", "str", "list", "tuple", "dict"]
def ownC : List Str := (["Ratio", "Balance"] : List Str)
def kitB (K : PySem.W.Frag) : Bool :=
  (kindsB.all fun t => askedB.all fun c => decide (PySem.W.kitOne K (.type t) (.type c) = some (t == c || (t == "bool" && c == "int")))) &&
  ((kindsB.all fun t => ownC.all fun c => decide (PySem.W.kitOne K (.type t) (.ref (He.ga K c)) = some false)) &&
  ((ownC.all fun t => askedB.all fun c => decide (PySem.W.kitOne K (.ref (He.ga K t)) (.type c) = some false)) &&
  ((ownC.all fun t => ownC.all fun c => decide (PySem.W.kitOne K (.ref (He.ga K t)) (.ref (He.ga K c)) = some (t == c))) &&
  ((kindsB.all fun t => decide (PySem.W.kitAny K (.type t) [.type "list", .type "tuple"] = some (t == "list" || t == "tuple"))) &&
   (ownC.all fun t => decide (PySem.W.kitAny K (.ref (He.ga K t)) [.type "list", .type "tuple"] = some false))))))
def ex (K : PySem.W.Frag) : Bool := (kitB K && (inspB K (He.ga K "Ratio") && (mkB K (He.ga K "Ratio") && (noB K (He.ga K "Ratio") ["top", "bottom"] && (dunB K (He.ga K "Ratio") "add" && (dunB K (He.ga K "Ratio") "sub" && (dunB K (He.ga K "Ratio") "mul" && (methB K (He.ga K "Ratio") "__neg__" && (eqB K (He.ga K "Ratio") && (strB K (He.ga K "Ratio") && (smB K (He.ga K "Ratio") "of" && (inspB K (He.ga K "Balance") && (mkB K (He.ga K "Balance") && (noB K (He.ga K "Balance") ["shares", "things"] && (dunB K (He.ga K "Balance") "add" && (dunB K (He.ga K "Balance") "sub" && (dunB K (He.ga K "Balance") "mul" && (methB K (He.ga K "Balance") "__neg__" && (eqB K (He.ga K "Balance") && (strB K (He.ga K "Balance") && (smB K (He.ga K "Balance") "of" && (propB K (He.ga K "Balance") "is_nothing" && (methB K (He.ga K "Balance") "number_of" && (methB K (He.ga K "Balance") "gains" && (methB K (He.ga K "Balance") "losses" && (methB K (He.ga K "Balance") "least" && (methB K (He.ga K "Balance") "renamed" && ((isE (nsIn K mainGlobals "gcd") (some (some (.builtin "math.gcd"))) && isE (nsIn K mainGlobals "lcm") (some (some (.builtin "math.lcm")))) && (((["add", "sub", "mul"] : List String).all fun n => (ownC.all fun c => (findIn K (.type "int") (PySem.dunder n)).isSome && ((findIn K (.type "int") (dunderR n)).isSome && decide (subIn K (.type "int") (.ref (He.ga K c)) = some false)))) && ((decide (subIn K (.ref (He.ga K "Ratio")) (.ref (He.ga K "Balance")) = some false) && ((Value.ref (He.ga K "Balance") == Value.ref (He.ga K "Ratio")) == false)) && ((ownC.all fun c => (notFirst K (He.ga K c) (.ref (He.ga K c))) && ((kindsB.all fun t => notFirst K (He.ga K c) (.type t)))) && true)))))))))))))))))))))))))))))))
abbrev R : PySem.W.OpenRow := PySem.W.OpenLaw.row PySem.Challenge.rw_scaleborn_k05_balances_added_and_brought
abbrev hk : PySem.W.Hook := hookY 5 fa fn ex
def ob (s : PySem.W.SharedT) : AlY := obsY 5 fa fn ex (HandSHeadRun.getT s)
end K5
namespace K5
open PySem PySem.Spec PyProof.Rows L2 KY PySem.W
theorem ob_eq (s : PySem.W.SharedT) : ob s = hk.obs s.abs := obsY_eq (HandSHeadRun.getT_eq s)
def looseI : List Str := loose.filter fun n => !(n == "gcd" || n == "lcm")
theorem run (w : World) : HandSHeadRun.RunEqI R (PySem.W.view R.prog [0, 58]) hk ob 100000 looseI w := by
  unfold HandSHeadRun.RunEqI
  kernel_rfl
end K5
/-! balances as functions; the plain law -/
namespace K5
open PySem PySem.Spec PyProof.Rows
/-! ### sorted names -/
theorem le_of_rising : ∀ {r : List Str} {p : Str}, risingS p r = true → (p :: r).Pairwise fun a b => ltCps b.cps.toList a.cps.toList = false
  | [], p, _ => List.pairwise_singleton _ _
  | x :: r, p, h => by
    unfold risingS at h
    rw [Bool.and_eq_true, Bool.not_eq_true'] at h
    have ih := le_of_rising h.2
    refine List.pairwise_cons.mpr ⟨fun y hy => ?_, ih⟩
    rcases List.mem_cons.mp hy with rfl | hy
    · exact h.1
    · have h2 := (List.pairwise_cons.mp ih).1 y hy
      rw [ltCps_eq] at h2 ⊢
      have h1 := h.1
      rw [ltCps_eq] at h1
      simp only [decide_eq_false_iff_not, List.not_lt] at h1 h2 ⊢
      exact List.le_trans h1 h2
theorem pw_sorted {l : List Str} (h : sortedS l = true) : l.Pairwise fun a b => ltCps b.cps.toList a.cps.toList = false := by
  cases l with
  | nil => exact .nil
  | cons p r => exact le_of_rising h
theorem sorted_pw : ∀ {l : List Str}, (l.Pairwise fun a b => ltCps b.cps.toList a.cps.toList = false) → sortedS l = true
  | [], _ => rfl
  | p :: r, h => by
    show risingS p r = true
    induction r generalizing p with
    | nil => rfl
    | cons x r ih =>
      have h2 := List.pairwise_cons.mp h
      unfold risingS
      rw [h2.1 x (List.mem_cons_self ..), ih x h2.2]
      rfl
theorem str_anti {a b : Str} (h1 : ltCps b.cps.toList a.cps.toList = false) (h2 : ltCps a.cps.toList b.cps.toList = false) : a = b := by
  rw [ltCps_eq] at h1 h2
  simp only [decide_eq_false_iff_not, List.not_lt] at h1 h2
  have e := List.le_antisymm h1 h2
  cases a with
  | mk x =>
    cases b with
    | mk y => 
      have e' : x = y := Array.toList_inj.mp e
      rw [e']
theorem sorted_unique {xs ys : List Str} (p : xs.Perm ys) (h1 : sortedS xs = true) (h2 : sortedS ys = true) : xs = ys :=
  List.Perm.eq_of_pairwise (le := fun a b => ltCps b.cps.toList a.cps.toList = false) (fun a b _ _ => str_anti) (pw_sorted h1) (pw_sorted h2) p
theorem sorted_sub {xs ys : List Str} (h : xs.Sublist ys) (s : sortedS ys = true) : sortedS xs = true := sorted_pw ((pw_sorted s).sublist h)
/-! ### lists of names with numbers -/
abbrev Lst := List (Str × Rat)
def keepNz (val : Str → Rat) (zs : List Str) : Lst := zs.filterMap fun z => if val z = 0 then none else some (z, val z)
def valM (m : Lst) (z : Str) : Rat := ((m.find? fun p => decide (p.1 = z)).map Prod.snd).getD 0
structure Canon (m : Lst) : Prop where
  sorted : sortedS (m.map Prod.fst) = true
  nodup : (m.map Prod.fst).Nodup
  nz : ∀ p ∈ m, p.2 ≠ 0
theorem valM_nil (z : Str) : valM [] z = 0 := rfl
theorem valM_cons (p : Str × Rat) (m : Lst) (z : Str) : valM (p :: m) z = if p.1 = z then p.2 else valM m z := by
  unfold valM
  rw [List.find?_cons]
  by_cases h : p.1 = z <;> simp [h]
theorem valM_mem {m : Lst} (nd : (m.map Prod.fst).Nodup) {p : Str × Rat} (h : p ∈ m) : valM m p.1 = p.2 := by
  induction m with
  | nil => cases h
  | cons q m ih =>
    rw [List.map_cons, List.nodup_cons] at nd
    rw [valM_cons]
    rcases List.mem_cons.mp h with rfl | h
    · rw [if_pos rfl]
    · rw [if_neg, ih nd.2 h]
      intro e
      exact nd.1 (by rw [e]; exact List.mem_map_of_mem h)
theorem valM_out {m : Lst} {z : Str} (h : z ∉ m.map Prod.fst) : valM m z = 0 := by
  induction m with
  | nil => rfl
  | cons q m ih =>
    rw [List.map_cons, List.mem_cons, not_or] at h
    rw [valM_cons, if_neg (fun e => h.1 e.symm), ih h.2]
theorem Canon.mem {m : Lst} (c : Canon m) {z : Str} : z ∈ m.map Prod.fst ↔ valM m z ≠ 0 := by
  constructor
  · intro h
    obtain ⟨p, hp, rfl⟩ := List.mem_map.mp h
    rw [valM_mem c.nodup hp]
    exact c.nz p hp
  · intro h
    exact Classical.byContradiction fun n => h (valM_out n)
theorem self_map {m : Lst} (nd : (m.map Prod.fst).Nodup) : m = (m.map Prod.fst).map fun z => (z, valM m z) := by
  rw [List.map_map]
  conv => lhs; rw [← List.map_id m]
  refine List.map_congr_left fun p hp => ?_
  show p = (p.1, valM m p.1)
  rw [valM_mem nd hp]
theorem Canon.names {m n : Lst} (c : Canon m) (d : Canon n) (h : ∀ z, valM m z = valM n z) : m.map Prod.fst = n.map Prod.fst := by
  refine sorted_unique ((List.perm_ext_iff_of_nodup c.nodup d.nodup).mpr fun z => ?_) c.sorted d.sorted
  rw [c.mem, d.mem, h z]
theorem Canon.ext {m n : Lst} (c : Canon m) (d : Canon n) (h : ∀ z, valM m z = valM n z) : m = n := by
  rw [self_map c.nodup, self_map d.nodup, c.names d h]
  exact List.map_congr_left fun z _ => by rw [h z]
theorem keep_fst (val : Str → Rat) (ys : List Str) : (keepNz val ys).map Prod.fst = ys.filter fun z => decide (val z ≠ 0) := by
  induction ys with
  | nil => rfl
  | cons y r ih =>
    by_cases h : val y = 0
    · rw [List.filter_cons_of_neg (by simpa using h), ← ih]
      unfold keepNz
      rw [List.filterMap_cons, if_pos h]
    · rw [List.filter_cons_of_pos (by simpa using h), ← ih]
      unfold keepNz
      rw [List.filterMap_cons, if_neg h]
      rfl
theorem keep_canon {val : Str → Rat} {ys : List Str} (s : sortedS ys = true) (nd : ys.Nodup) : Canon (keepNz val ys) := by
  refine ⟨?_, ?_, ?_⟩
  · rw [keep_fst]
    exact sorted_sub List.filter_sublist s
  · rw [keep_fst]
    exact nd.sublist List.filter_sublist
  · intro p hp
    obtain ⟨z, _, e⟩ := List.mem_filterMap.mp hp
    by_cases h : val z = 0
    · rw [if_pos h] at e
      cases e
    · rw [if_neg h] at e
      cases e
      exact h
theorem keep_val {val : Str → Rat} {ys : List Str} (nd : ys.Nodup) (z : Str) : valM (keepNz val ys) z = if z ∈ ys then val z else 0 := by
  by_cases h : z ∈ ys
  · rw [if_pos h]
    by_cases e : val z = 0
    · rw [valM_out, e]
      rw [keep_fst]
      intro m
      have := (List.mem_filter.mp m).2
      simp [e] at this
    · have : (z, val z) ∈ keepNz val ys := List.mem_filterMap.mpr ⟨z, h, by rw [if_neg e]⟩
      exact valM_mem (p := (z, val z)) (by rw [keep_fst]; exact nd.sublist List.filter_sublist) this
  · rw [if_neg h, valM_out]
    rw [keep_fst]
    intro m
    exact h (List.mem_filter.mp m).1
theorem keep_few (val : Str → Rat) (ys : List Str) : (keepNz val ys).length ≤ ys.length := List.length_filterMap_le ..
/-! ### least terms -/
def bottomOf (m : Lst) : Nat := m.foldl (fun b p => Nat.lcm b p.2.den) 1
def sharedOf (b : Nat) (m : Lst) : Nat := m.foldl (fun s p => Nat.gcd s (p.2.num * ((b / p.2.den : Nat) : Int)).natAbs) 0
def scale (r : Rat) (m : Lst) : Lst := m.map fun p => (p.1, r * p.2)
def least (m : Lst) : Lst := if sharedOf (bottomOf m) m = 0 then m else scale ((bottomOf m : Rat) / (sharedOf (bottomOf m) m : Rat)) m
theorem lcm_fold (m : Lst) (b : Nat) : b ∣ m.foldl (fun b p => Nat.lcm b p.2.den) b ∧ (∀ p ∈ m, p.2.den ∣ m.foldl (fun b p => Nat.lcm b p.2.den) b) := by
  induction m generalizing b with
  | nil => exact ⟨Nat.dvd_refl _, fun _ h => nomatch h⟩
  | cons q m ih =>
    obtain ⟨h1, h2⟩ := ih (Nat.lcm b q.2.den)
    refine ⟨Nat.dvd_trans (Nat.dvd_lcm_left ..) h1, fun p hp => ?_⟩
    rcases List.mem_cons.mp hp with rfl | hp
    · exact Nat.dvd_trans (Nat.dvd_lcm_right ..) h1
    · exact h2 p hp
theorem lcm_pos (m : Lst) (b : Nat) (h : 0 < b) : 0 < m.foldl (fun b p => Nat.lcm b p.2.den) b := by
  induction m generalizing b with
  | nil => exact h
  | cons q m ih => exact ih _ (Nat.lcm_pos h (Nat.pos_of_ne_zero q.2.den_nz))
theorem bottom_pos (m : Lst) : 0 < bottomOf m := lcm_pos m 1 Nat.one_pos
theorem bottom_dvd {m : Lst} {p : Str × Rat} (h : p ∈ m) : p.2.den ∣ bottomOf m := (lcm_fold m 1).2 p h
def gcdOf (l : List Int) (s : Nat) : Nat := l.foldl (fun s i => Nat.gcd s i.natAbs) s
theorem shared_gcd (b : Nat) (m : Lst) : sharedOf b m = gcdOf (m.map fun p => p.2.num * ((b / p.2.den : Nat) : Int)) 0 := by
  unfold sharedOf gcdOf
  rw [List.foldl_map]
theorem gcdOf_dvd (l : List Int) (s : Nat) : gcdOf l s ∣ s ∧ ∀ i ∈ l, gcdOf l s ∣ i.natAbs := by
  induction l generalizing s with
  | nil => exact ⟨Nat.dvd_refl _, fun _ h => nomatch h⟩
  | cons j l ih =>
    obtain ⟨h1, h2⟩ := ih (Nat.gcd s j.natAbs)
    refine ⟨Nat.dvd_trans h1 (Nat.gcd_dvd_left ..), fun i hi => ?_⟩
    rcases List.mem_cons.mp hi with rfl | hi
    · exact Nat.dvd_trans h1 (Nat.gcd_dvd_right ..)
    · exact h2 i hi
theorem gcdOf_mul (k : Nat) (l : List Int) (s : Nat) : gcdOf (l.map fun i => (k : Int) * i) (k * s) = k * gcdOf l s := by
  unfold gcdOf
  induction l generalizing s with
  | nil => rfl
  | cons j l ih =>
    rw [List.map_cons, List.foldl_cons, List.foldl_cons, Int.natAbs_mul, Int.natAbs_natCast, Nat.gcd_mul_left]
    exact ih _
theorem gcdOf_abs {l l' : List Int} (h : l.map Int.natAbs = l'.map Int.natAbs) (s : Nat) : gcdOf l s = gcdOf l' s := by
  have e : ∀ l : List Int, gcdOf l s = (l.map Int.natAbs).foldl Nat.gcd s := fun l => by
    unfold gcdOf
    rw [List.foldl_map]
  rw [e, e, h]
theorem mul_den (q : Rat) : q * (q.den : Rat) = (q.num : Rat) := by
  have e : q = (q.num : Rat) / ((q.den : Int) : Rat) := by rw [← Rat.divInt_eq_div, Rat.num_divInt_den]
  have h : ((q.den : Int) : Rat) ≠ 0 := by
    rw [Ne, Rat.intCast_eq_zero_iff]
    have := q.den_nz
    omega
  have e2 := Rat.div_mul_cancel (a := (q.num : Rat)) h
  rw [← e] at e2
  exact e2
theorem int_of_den {q : Rat} (h : q.den = 1) : q = (q.num : Rat) := Rat.ext rfl (by rw [h]; rfl)
/-- the numbers of a list as integers over one bottom -/
theorem over_bottom {m : Lst} {p : Str × Rat} (h : p ∈ m) : (bottomOf m : Rat) * p.2 = ((p.2.num * ((bottomOf m / p.2.den : Nat) : Int) : Int) : Rat) := by
  obtain ⟨k, hk⟩ := bottom_dvd h
  have d0 : p.2.den ≠ 0 := p.2.den_nz
  rw [hk, Nat.mul_div_cancel_left _ (Nat.pos_of_ne_zero d0)]
  have e := mul_den p.2
  rw [Rat.intCast_mul, ← e, Rat.natCast_mul]
  show (p.2.den : Rat) * (k : Rat) * p.2 = p.2 * (p.2.den : Rat) * (k : Rat)
  grind
theorem gcdOf_zero {l : List Int} {s : Nat} (h : gcdOf l s = 0) : s = 0 ∧ ∀ i ∈ l, i = 0 := by
  obtain ⟨h1, h2⟩ := gcdOf_dvd l s
  rw [h] at h1 h2
  refine ⟨Nat.eq_zero_of_zero_dvd h1, fun i hi => ?_⟩
  have := Nat.eq_zero_of_zero_dvd (h2 i hi)
  omega
theorem over_ne {m : Lst} {p : Str × Rat} (h : p ∈ m) (z : p.2 ≠ 0) : p.2.num * ((bottomOf m / p.2.den : Nat) : Int) ≠ 0 := by
  intro e
  have o := over_bottom h
  rw [e] at o
  rcases Rat.mul_eq_zero.mp o with o | o
  · rw [Rat.natCast_eq_zero_iff] at o
    have := bottom_pos m
    omega
  · exact z o
theorem shared_ne {m : Lst} (c : Canon m) (h : m ≠ []) : sharedOf (bottomOf m) m ≠ 0 := by
  rw [shared_gcd]
  intro e
  obtain ⟨p, hp⟩ := List.exists_mem_of_ne_nil m h
  exact over_ne hp (c.nz p hp) ((gcdOf_zero e).2 _ (List.mem_map_of_mem hp))
/-- the factor of least terms -/
def factor (m : Lst) : Rat := (bottomOf m : Rat) / (sharedOf (bottomOf m) m : Rat)
theorem natCast_ne {n : Nat} (h : n ≠ 0) : (n : Rat) ≠ 0 := by rw [Ne, Rat.natCast_eq_zero_iff]; exact h
theorem natCast_gt {n : Nat} (h : n ≠ 0) : (0 : Rat) < (n : Rat) := by rw [Rat.natCast_pos]; omega
theorem factor_pos {m : Lst} (c : Canon m) (h : m ≠ []) : 0 < factor m := by
  unfold factor
  rw [Rat.div_def]
  exact Rat.mul_pos (natCast_gt (by have := bottom_pos m; omega)) (Rat.inv_pos.mpr (natCast_gt (shared_ne c h)))
theorem least_eq {m : Lst} (c : Canon m) (h : m ≠ []) : least m = scale (factor m) m := by
  unfold least factor
  rw [if_neg (shared_ne c h)]
theorem least_nil : least [] = [] := rfl
/-- each number in least terms -/
def leastInt (m : Lst) (q : Rat) : Int := q.num * ((bottomOf m / q.den : Nat) : Int) / ((sharedOf (bottomOf m) m : Nat) : Int)
theorem shared_dvd {m : Lst} {p : Str × Rat} (h : p ∈ m) : ((sharedOf (bottomOf m) m : Nat) : Int) ∣ p.2.num * ((bottomOf m / p.2.den : Nat) : Int) := by
  rw [shared_gcd]
  exact Int.ofNat_dvd_left.mpr ((gcdOf_dvd _ 0).2 _ (List.mem_map_of_mem h))
theorem factor_mul {m : Lst} (c : Canon m) {p : Str × Rat} (h : p ∈ m) : factor m * p.2 = (leastInt m p.2 : Rat) := by
  have hn : m ≠ [] := List.ne_nil_of_mem h
  have s0 := natCast_ne (shared_ne c hn)
  obtain ⟨k, hk⟩ := shared_dvd h
  have o := over_bottom h
  unfold leastInt factor
  rw [hk, Int.mul_ediv_cancel_left _ (by have := shared_ne c hn; omega)]
  rw [hk, Rat.intCast_mul, Rat.intCast_natCast] at o
  rw [Rat.div_def]
  have i := Rat.mul_inv_cancel _ s0
  grind
def nums (m : Lst) : List Int := m.map fun p => p.2.num
structure Prim (m : Lst) : Prop where
  whole : ∀ p ∈ m, p.2.den = 1
  one : gcdOf (nums m) 0 = 1
theorem least_map {m : Lst} (c : Canon m) (h : m ≠ []) : least m = m.map fun p => (p.1, (leastInt m p.2 : Rat)) := by
  rw [least_eq c h]
  refine List.map_congr_left fun p hp => ?_
  rw [factor_mul c hp]
theorem least_prim {m : Lst} (c : Canon m) (h : m ≠ []) : Prim (least m) := by
  rw [least_map c h]
  constructor
  · intro p hp
    obtain ⟨q, _, rfl⟩ := List.mem_map.mp hp
    exact Rat.den_intCast _
  · have s0 := shared_ne c h
    have g := gcdOf_mul (sharedOf (bottomOf m) m) (m.map fun p => leastInt m p.2) 0
    rw [List.map_map, Nat.mul_zero] at g
    have e : (m.map ((fun i => ((sharedOf (bottomOf m) m : Nat) : Int) * i) ∘ fun p => leastInt m p.2)) = m.map fun p => p.2.num * ((bottomOf m / p.2.den : Nat) : Int) := by
      refine List.map_congr_left fun p hp => ?_
      show ((sharedOf (bottomOf m) m : Nat) : Int) * leastInt m p.2 = _
      unfold leastInt
      exact Int.mul_ediv_cancel' (shared_dvd hp)
    rw [e, ← shared_gcd] at g
    have g2 : gcdOf (m.map fun p => leastInt m p.2) 0 = 1 := by
      have : sharedOf (bottomOf m) m * 1 = sharedOf (bottomOf m) m * gcdOf (m.map fun p => leastInt m p.2) 0 := by rw [← g, Nat.mul_one]
      exact (Nat.eq_of_mul_eq_mul_left (by omega) this).symm
    unfold nums
    rw [List.map_map]
    exact g2
theorem scale_one (m : Lst) : scale 1 m = m := by
  unfold scale
  conv => rhs; rw [← List.map_id m]
  refine List.map_congr_left fun p _ => ?_
  rw [Rat.one_mul]
  rfl
theorem scale_scale (r t : Rat) (m : Lst) : scale r (scale t m) = scale (r * t) m := by
  unfold scale
  rw [List.map_map]
  refine List.map_congr_left fun p _ => ?_
  show (p.1, r * (t * p.2)) = (p.1, r * t * p.2)
  rw [Rat.mul_assoc]
theorem scale_fst (r : Rat) (m : Lst) : (scale r m).map Prod.fst = m.map Prod.fst := by
  unfold scale
  rw [List.map_map]
  rfl
theorem scale_canon {r : Rat} (hr : r ≠ 0) {m : Lst} (c : Canon m) : Canon (scale r m) := by
  refine ⟨by rw [scale_fst]; exact c.sorted, by rw [scale_fst]; exact c.nodup, fun p hp => ?_⟩
  obtain ⟨q, hq, rfl⟩ := List.mem_map.mp hp
  intro e
  rcases Rat.mul_eq_zero.mp e with e | e
  · exact hr e
  · exact c.nz q hq e
theorem scale_nil {r : Rat} {m : Lst} : scale r m = [] ↔ m = [] := by
  unfold scale
  exact List.map_eq_nil_iff
theorem scale_val (r : Rat) (m : Lst) (z : Str) : valM (scale r m) z = r * valM m z := by
  induction m with
  | nil => 
    show (0 : Rat) = r * 0
    rw [Rat.mul_zero]
  | cons p m ih =>
    show valM ((p.1, r * p.2) :: scale r m) z = _
    rw [valM_cons, valM_cons, ih]
    split <;> rfl
theorem bottom_whole {m : Lst} (h : ∀ p ∈ m, p.2.den = 1) : bottomOf m = 1 := by
  unfold bottomOf
  induction m with
  | nil => rfl
  | cons p m ih =>
    rw [List.foldl_cons, h p (List.mem_cons_self ..), Nat.lcm_self]
    exact ih fun q hq => h q (List.mem_cons_of_mem _ hq)
theorem least_self {m : Lst} (c : Canon m) (h : m ≠ []) (p : Prim m) : least m = m := by
  rw [least_eq c h]
  have b := bottom_whole p.whole
  have s : sharedOf (bottomOf m) m = 1 := by
    refine Eq.trans ?_ p.one
    rw [shared_gcd, b]
    unfold nums
    congr 1
    refine List.map_congr_left fun q hq => ?_
    rw [p.whole q hq]
    simp
  unfold factor
  rw [s, b, show ((1 : Nat) : Rat) / ((1 : Nat) : Rat) = 1 by decide +kernel, scale_one]
theorem least_canon {m : Lst} (c : Canon m) : Canon (least m) := by
  by_cases h : m = []
  · subst h
    exact c
  · rw [least_eq c h]
    exact scale_canon (fun e => by have := factor_pos c h; rw [e] at this; exact Rat.lt_irrefl this) c
theorem least_nil_iff {m : Lst} (c : Canon m) : least m = [] ↔ m = [] := by
  by_cases h : m = []
  · subst h
    exact Iff.rfl
  · rw [least_eq c h, scale_nil]
theorem least_least {m : Lst} (c : Canon m) : least (least m) = least m := by
  by_cases h : m = []
  · subst h
    rfl
  · exact least_self (least_canon c) (fun e => h ((least_nil_iff c).mp e)) (least_prim c h)
theorem prim_scale {n : Lst} (c : Canon n) (p : Prim n) {t : Rat} (ht : 0 < t) (q : Prim (scale t n)) : t = 1 := by
  have tn : 0 < t.num := by
    have h1 : 0 ≤ t.num := Rat.num_nonneg.mpr (Rat.le_of_lt ht)
    have h2 : t.num ≠ 0 := fun e => by rw [Rat.num_eq_zero.mp e] at ht; exact Rat.lt_irrefl ht
    omega
  have e : (nums n).map (fun i => ((t.num.natAbs : Nat) : Int) * i) = (nums (scale t n)).map fun i => ((t.den : Nat) : Int) * i := by
    unfold nums scale
    rw [List.map_map, List.map_map, List.map_map]
    refine List.map_congr_left fun a ha => ?_
    show ((t.num.natAbs : Nat) : Int) * a.2.num = (t.den : Int) * (t * a.2).num
    have w1 := int_of_den (p.whole a ha)
    have w2 := int_of_den (q.whole (a.1, t * a.2) (List.mem_map_of_mem ha))
    dsimp only at w2
    have md := mul_den t
    rw [← Rat.intCast_inj, Rat.intCast_mul, Rat.intCast_mul, ← w2, ← w1, Int.natAbs_of_nonneg (Int.le_of_lt tn), ← md]
    show t * (t.den : Rat) * a.2 = (t.den : Rat) * (t * a.2)
    grind
  have g1 := gcdOf_mul t.num.natAbs (nums n) 0
  have g2 := gcdOf_mul t.den (nums (scale t n)) 0
  rw [p.one, Nat.mul_one, Nat.mul_zero] at g1
  rw [q.one, Nat.mul_one, Nat.mul_zero] at g2
  rw [e, g2] at g1
  have cop := t.reduced
  rw [← g1, Nat.coprime_self] at cop
  refine Rat.ext ?_ cop
  show t.num = 1
  omega
theorem least_scale {m : Lst} (c : Canon m) {r : Rat} (hr : 0 < r) : least (scale r m) = least m := by
  have r0 : r ≠ 0 := fun e => by rw [e] at hr; exact Rat.lt_irrefl hr
  by_cases h : m = []
  · subst h
    rfl
  · have h2 : scale r m ≠ [] := fun e => h (scale_nil.mp e)
    have c2 := scale_canon r0 c
    have p1 := least_prim c h
    have p2 := least_prim c2 h2
    have f1 := factor_pos c h
    have f2 := factor_pos c2 h2
    have f0 : factor m ≠ 0 := fun e => by rw [e] at f1; exact Rat.lt_irrefl f1
    have e : least (scale r m) = scale (factor (scale r m) * r * (factor m)⁻¹) (least m) := by
      rw [least_eq c h, least_eq c2 h2, scale_scale, scale_scale]
      congr 1
      rw [Rat.mul_assoc, Rat.inv_mul_cancel _ f0, Rat.mul_one]
    rw [e] at p2 ⊢
    rw [prim_scale (least_canon c) p1 (Rat.mul_pos (Rat.mul_pos f2 hr) (Rat.inv_pos.mpr f1)) p2, scale_one]
theorem bottom_neg (m : Lst) (b : Nat) : (scale (-1) m).foldl (fun b p => Nat.lcm b p.2.den) b = m.foldl (fun b p => Nat.lcm b p.2.den) b := by
  unfold scale
  rw [List.foldl_map]
  congr 1
  funext b p
  rw [show (-1 : Rat) * p.2 = -p.2 by rw [Rat.neg_mul, Rat.one_mul]]
  rfl
theorem shared_neg (m : Lst) (b s : Nat) : (scale (-1) m).foldl (fun s p => Nat.gcd s (p.2.num * ((b / p.2.den : Nat) : Int)).natAbs) s = m.foldl (fun s p => Nat.gcd s (p.2.num * ((b / p.2.den : Nat) : Int)).natAbs) s := by
  unfold scale
  rw [List.foldl_map]
  congr 1
  funext s p
  rw [show (-1 : Rat) * p.2 = -p.2 by rw [Rat.neg_mul, Rat.one_mul], Rat.neg_num, Rat.neg_den, Int.neg_mul, Int.natAbs_neg]
theorem least_neg {m : Lst} : least (scale (-1) m) = scale (-1) (least m) := by
  have b : bottomOf (scale (-1) m) = bottomOf m := bottom_neg m 1
  have s : sharedOf (bottomOf m) (scale (-1) m) = sharedOf (bottomOf m) m := shared_neg m _ 0
  unfold least
  rw [b, s]
  split
  · rfl
  · rw [scale_scale, scale_scale, Rat.mul_comm]
theorem least_neg_scale {m : Lst} (c : Canon m) {r : Rat} (hr : 0 < r) : least (scale (-r) m) = scale (-1) (least m) := by
  rw [← least_scale c hr, ← least_neg, scale_scale]
  congr 2
  grind
/-! ### what is renamed, counted -/
def renF (f : Str → Str) (g : Str → Rat) : List Str → Str → Rat
  | [], _ => 0
  | z :: r, y => (if f z = y then g z else 0) + renF f g r y
theorem renF_app (f : Str → Str) (g : Str → Rat) (zs : List Str) (z y : Str) : renF f g (zs ++ [z]) y = renF f g zs y + if f z = y then g z else 0 := by
  induction zs with
  | nil =>
    show (if f z = y then g z else 0) + 0 = 0 + _
    rw [Rat.add_zero, Rat.zero_add]
  | cons a r ih =>
    show _ + renF f g (r ++ [z]) y = _ + renF f g r y + _
    rw [ih, Rat.add_assoc]
theorem renF_perm (f : Str → Str) (g : Str → Rat) {zs ys : List Str} (p : zs.Perm ys) (y : Str) : renF f g zs y = renF f g ys y := by
  induction p with
  | nil => rfl
  | cons x _ ih => exact congrArg (_ + ·) ih
  | swap a b l =>
    show _ + (_ + _) = _ + (_ + _)
    rw [Rat.add_left_comm]
  | trans _ _ h1 h2 => exact h1.trans h2
theorem renF_nz (f : Str → Str) (g : Str → Rat) (zs : List Str) (y : Str) : renF f g (zs.filter fun z => decide (g z ≠ 0)) y = renF f g zs y := by
  induction zs with
  | nil => rfl
  | cons a r ih =>
    by_cases h : g a = 0
    · rw [List.filter_cons_of_neg (by simpa using h), ih]
      show _ = (if f a = y then g a else 0) + _
      rw [h, ite_self, Rat.zero_add]
    · rw [List.filter_cons_of_pos (by simpa using h)]
      show _ + renF f g (r.filter _) y = _ + renF f g r y
      rw [ih]
theorem renF_congr (f : Str → Str) {g h : Str → Rat} {zs : List Str} (e : ∀ z ∈ zs, g z = h z) (y : Str) : renF f g zs y = renF f h zs y := by
  induction zs with
  | nil => rfl
  | cons a r ih =>
    show _ + renF f g r y = _ + renF f h r y
    rw [e a (List.mem_cons_self ..), ih fun z hz => e z (List.mem_cons_of_mem _ hz)]
/-- names of a function's support among some -/
theorem Canon.perm {m : Lst} (c : Canon m) {zs : List Str} (nd : zs.Nodup) (out : ∀ z, z ∉ zs → valM m z = 0) : (m.map Prod.fst).Perm (zs.filter fun z => decide (valM m z ≠ 0)) := by
  refine (List.perm_ext_iff_of_nodup c.nodup (nd.sublist List.filter_sublist)).mpr fun z => ?_
  rw [c.mem, List.mem_filter, decide_eq_true_iff]
  constructor
  · intro h
    exact ⟨Classical.byContradiction fun n => h (out z n), h⟩
  · exact fun h => h.2
end K5
/-! ratios as rational numbers -/
namespace KY
open PySem PySem.Spec PyProof.Rows L2 PySem.W
theorem gcd_pos {t b : Int} (hb : b ≠ 0) : 0 < Nat.gcd t.natAbs b.natAbs := Nat.gcd_pos_of_pos_right _ (Int.natAbs_pos.mpr hb)
theorem fdiv_neg_exact {k g : Int} (hg : g ≠ 0) : (g * k).fdiv (-g) = -k := by
  rw [show g * k = (-g) * (-k) by rw [Int.neg_mul_neg]]
  exact Int.mul_fdiv_cancel_left _ (by omega)
/-- top // shared, bottom // shared: the numerator, the denominator -/
theorem low_pos {t b : Int} (hb : 0 < b) : t.fdiv ((Nat.gcd t.natAbs b.natAbs : Nat) : Int) = (Rat.divInt t b).num ∧ b.fdiv ((Nat.gcd t.natAbs b.natAbs : Nat) : Int) = ((Rat.divInt t b).den : Int) := by
  have g0 : (0 : Int) ≤ ((Nat.gcd t.natAbs b.natAbs : Nat) : Int) := Int.natCast_nonneg _
  rw [Int.fdiv_eq_ediv_of_nonneg _ g0, Int.fdiv_eq_ediv_of_nonneg _ g0, Rat.num_divInt, Rat.den_divInt, if_neg (by omega), Int.sign_eq_one_of_pos hb, Int.one_mul]
  have e : Int.gcd b t = Nat.gcd t.natAbs b.natAbs := Nat.gcd_comm _ _
  rw [e]
  refine ⟨rfl, ?_⟩
  rw [Int.natCast_ediv, Int.natAbs_of_nonneg (Int.le_of_lt hb)]
theorem low_neg {t b : Int} (hb : b < 0) : t.fdiv (-((Nat.gcd t.natAbs b.natAbs : Nat) : Int)) = (Rat.divInt t b).num ∧ b.fdiv (-((Nat.gcd t.natAbs b.natAbs : Nat) : Int)) = ((Rat.divInt t b).den : Int) := by
  have g1 : ((Nat.gcd t.natAbs b.natAbs : Nat) : Int) ≠ 0 := by
    have := gcd_pos (t := t) (b := b) (by omega)
    omega
  obtain ⟨k, hk⟩ : ((Nat.gcd t.natAbs b.natAbs : Nat) : Int) ∣ t := Int.ofNat_dvd_left.mpr (Nat.gcd_dvd_left _ _)
  obtain ⟨m, hm⟩ : ((Nat.gcd t.natAbs b.natAbs : Nat) : Int) ∣ b := Int.ofNat_dvd_left.mpr (Nat.gcd_dvd_right _ _)
  rw [Rat.num_divInt, Rat.den_divInt, if_neg (by omega), Int.sign_eq_neg_one_of_neg hb]
  have e : Int.gcd b t = Nat.gcd t.natAbs b.natAbs := Nat.gcd_comm _ _
  rw [e]
  generalize hg : Nat.gcd t.natAbs b.natAbs = g at g1 hk hm
  refine ⟨?_, ?_⟩
  · rw [hk, fdiv_neg_exact g1, show (-1 : Int) * ((g : Int) * k) = (g : Int) * (-k) by rw [Int.neg_one_mul, Int.mul_neg], Int.mul_ediv_cancel_left _ g1]
  · have e2 : ((b.natAbs / g : Nat) : Int) = -m := by
      rw [Int.natCast_ediv]
      have e3 : (b.natAbs : Int) = (g : Int) * (-m) := by
        rw [Int.mul_neg, ← hm]
        omega
      rw [e3, Int.mul_ediv_cancel_left _ g1]
    rw [e2, hm, fdiv_neg_exact g1]
/-- how many bits both parts have -/
structure Bits (n : Nat) (q : Rat) : Prop where
  num : q.num.natAbs < 2 ^ n
  den : q.den < 2 ^ n
theorem Bits.mono {n m : Nat} {q : Rat} (h : Bits n q) (l : n ≤ m) : Bits m q :=
  ⟨Nat.lt_of_lt_of_le h.num (Nat.pow_le_pow_right (by decide) l), Nat.lt_of_lt_of_le h.den (Nat.pow_le_pow_right (by decide) l)⟩
theorem bits_divInt {n : Nat} {t b : Int} (hb : b ≠ 0) (h1 : t.natAbs < 2 ^ n) (h2 : b.natAbs < 2 ^ n) : Bits n (Rat.divInt t b) := by
  have hg := gcd_pos (t := t) hb
  constructor
  · rw [Rat.num_divInt]
    have e : Int.gcd b t = Nat.gcd t.natAbs b.natAbs := Nat.gcd_comm _ _
    rw [e]
    refine Nat.lt_of_le_of_lt ?_ h1
    have e2 : (b.sign * t).natAbs ≤ t.natAbs := by
      rw [Int.natAbs_mul]
      rcases Int.lt_trichotomy b 0 with h | h | h
      · rw [Int.sign_eq_neg_one_of_neg h]
        simp
      · exact absurd h hb
      · rw [Int.sign_eq_one_of_pos h]
        simp
    exact Nat.le_trans (Int.natAbs_ediv_le_natAbs _ _) e2
  · rw [Rat.den_divInt, if_neg hb]
    exact Nat.lt_of_le_of_lt (Nat.div_le_self _ _) h2
/-- the fields of a ratio -/
def ratF (q : Rat) : List (Str × V) := [("top", .int q.num), ("bottom", .int q.den)]
def IsRat (C : Addr) (H : Hp) (v : V) (q : Rat) : Prop := ∃ a dx, v = .ref a ∧ H a = some (.ins C dx (ratF q))
theorem IsRat.mono {C : Addr} {H H' : Hp} {v : V} {q : Rat} (k : ∀ b o, H b = some o → H' b = some o) (h : IsRat C H v q) : IsRat C H' v q := by
  obtain ⟨a, dx, e, h⟩ := h
  exact ⟨a, dx, e, k _ _ h⟩
/-- q as a quotient of its parts -/
theorem self_divInt (q : Rat) : Rat.divInt q.num q.den = q := Rat.num_divInt_den q
theorem den_ne (q : Rat) : (q.den : Int) ≠ 0 := by
  have := q.den_nz
  omega
theorem add_parts (p q : Rat) : Rat.divInt (p.num * q.den + q.num * p.den) (p.den * q.den) = p + q := by
  rw [← Rat.divInt_add_divInt _ _ (den_ne p) (den_ne q), self_divInt, self_divInt]
theorem sub_parts (p q : Rat) : Rat.divInt (p.num * q.den - q.num * p.den) (p.den * q.den) = p - q := by
  rw [← Rat.divInt_sub_divInt _ _ (den_ne p) (den_ne q), self_divInt, self_divInt]
theorem mul_parts (p q : Rat) : Rat.divInt (p.num * q.num) (p.den * q.den) = p * q := by
  rw [← Rat.divInt_mul_divInt, self_divInt, self_divInt]
theorem neg_parts (p : Rat) : Rat.divInt (-p.num) p.den = -p := by
  rw [← Rat.neg_divInt, self_divInt]
theorem int_parts (i : Int) : Rat.divInt i 1 = (i : Rat) := by
  have e := self_divInt (i : Rat)
  rwa [Rat.num_intCast, Rat.den_intCast] at e
theorem bits_add {a b : Nat} {p q : Rat} (h : Bits a p) (g : Bits b q) : (p.num * q.den + q.num * p.den).natAbs < 2 ^ (a + b + 1) ∧ ((p.den : Int) * q.den).natAbs < 2 ^ (a + b + 1) := by
  have m1 : (p.num * (q.den : Int)).natAbs < 2 ^ (a + b) := wide_lt h.num (by rw [Int.natAbs_natCast]; exact g.den)
  have m2 : (q.num * (p.den : Int)).natAbs < 2 ^ (a + b) := by
    rw [Nat.add_comm a b]
    exact wide_lt g.num (by rw [Int.natAbs_natCast]; exact h.den)
  have m3 : ((p.den : Int) * (q.den : Int)).natAbs < 2 ^ (a + b) := wide_lt (by rw [Int.natAbs_natCast]; exact h.den) (by rw [Int.natAbs_natCast]; exact g.den)
  have e : 2 ^ (a + b + 1) = 2 ^ (a + b) + 2 ^ (a + b) := by rw [Nat.pow_succ]; omega
  rw [e]
  constructor
  · exact Nat.lt_of_le_of_lt (Int.natAbs_add_le _ _) (by omega)
  · omega
theorem bits_sub {a b : Nat} {p q : Rat} (h : Bits a p) (g : Bits b q) : (p.num * q.den - q.num * p.den).natAbs < 2 ^ (a + b + 1) := by
  have m1 : (p.num * (q.den : Int)).natAbs < 2 ^ (a + b) := wide_lt h.num (by rw [Int.natAbs_natCast]; exact g.den)
  have m2 : (q.num * (p.den : Int)).natAbs < 2 ^ (a + b) := by
    rw [Nat.add_comm a b]
    exact wide_lt g.num (by rw [Int.natAbs_natCast]; exact h.den)
  have e : 2 ^ (a + b + 1) = 2 ^ (a + b) + 2 ^ (a + b) := by rw [Nat.pow_succ]; omega
  rw [e]
  omega
end KY
/-! short words: a def that may be called; what draws (the law's till) -/
namespace KX
open PySem PySem.Spec PyProof.Rows L2
/-- the def of the name x may be called and keeps sp -/
def Callee (P : Program) (w : World) (K : PySem.W.Frag) (mg : Str → Option Value) (base : Heap) (k : Nat) (x : Str) (ps : List Str) (sp : Sp) : Prop :=
  ∃ (f : Addr) (fd : FuncData), mg x = some (.ref f) ∧ PySem.W.keepIn K (.ref f) = true ∧ Binds K fd ps [] ∧ FnOk P w K mg base CX0 k f fd ps sp
section
variable {X : Cx} {k j : Nat} {x : Str} {ps : List Str} {sp : Sp} {p pos : Pos} {e : Expr} {es : List Expr} {t : TA}
theorem pe_c (C : Callee X.prog X.w X.K X.mg X.base k x ps sp) (hr : Room j X.A) (hj : k ≤ j) (hg : Gl X x) (ha : PA X (e :: es) t) (hdb : (x == ("__debug__" : Str)) = false := by decide)
    (he : starEach (e :: es) X.env = (false, eval e X.env) :: starEach es X.env := by rfl) (hpl : (backTo pos (starEach es X.env)).any (·.1) = false := by rfl) : PE X (.Call (.Name x p) (e :: es) [] pos) (tCall sp [] E0 t) := by
  obtain ⟨f, fd, h1, h2, h3, h4⟩ := C
  exact pe_call h4 (hr.mono hj) hg h1 h2 h3 .nil pass0 ha hdb he hpl
end
/-! ### the heap -/
theorem same_upd {H : Hp} {p : Addr} {o : HO} (h : H p = none) : Same H (upd H p o) := fun b x e => by
  rw [upd_ne (ne_of_none e h)]
  exact e
theorem sq_in {K : PySem.W.Frag} {H H' : Hp} {a : Addr} {xs : List V} (k : ∀ b o, H b = some o → H' b = some o) (h : SqL K H a xs) : SqL K H' a xs := Same.seq k h
/-! ### the till: cells, how many were begun, what is left of a great one -/
structure Till (H : Hp) (t c : Addr) (cells : List Int) (at_ : Nat) (great : Int) : Prop where
  here : H t = some (.lst [.ref c, .int at_, .int great])
  box : H c = some (.lst (cells.map V.int))
  ne : t ≠ c
  len : cells.length ≤ 62
theorem Till.mono {H H' : Hp} {t c : Addr} {cells : List Int} {at_ : Nat} {great : Int} (T : Till H t c cells at_ great) (k : ∀ b o, H b = some o → H' b = some o) : Till H' t c cells at_ great :=
  ⟨k _ _ T.here, k _ _ T.box, T.ne, T.len⟩
/-- the till further on -/
def drawn (H : Hp) (t c : Addr) (at_ : Nat) (great : Int) : Hp := upd H t (.lst [.ref c, .int at_, .int great])
theorem Till.next {H : Hp} {t c : Addr} {cells : List Int} {at_ a2 : Nat} {great g2 : Int} (T : Till H t c cells at_ great) : Till (drawn H t c a2 g2) t c cells a2 g2 :=
  ⟨upd_same, by unfold drawn; rw [upd_ne T.ne.symm]; exact T.box, T.ne, T.len⟩
/-- all but what stands at t is as it was -/
def But (t : Addr) (H H' : Hp) : Prop := ∀ b o, b ≠ t → H b = some o → H' b = some o
theorem But.refl {t : Addr} {H : Hp} : But t H H := fun _ _ _ e => e
theorem But.trans {t : Addr} {H H1 H2 : Hp} (a : But t H H1) (b : But t H1 H2) : But t H H2 := fun c o n e => b c o n (a c o n e)
theorem But.upd {t : Addr} {H H' : Hp} {o : HO} (a : But t H H') : But t H (L2.upd H' t o) := fun c u n e => by
  rw [upd_ne n]
  exact a c u n e
theorem But.new {t p : Addr} {H H' : Hp} {o : HO} (a : But t H H') (h : H' p = none) : But t H (L2.upd H' p o) := fun c u n e => by
  rw [upd_ne (ne_of_none (a c u n e) h)]
  exact a c u n e
theorem But.of {t : Addr} {H H' : Hp} (a : Same H H') : But t H H' := fun c o _ e => a c o e
/-- an integer from 0 below many is drawn -/
def spCoin (most : Nat) : Sp := fun vs H Q _ => ∃ (t c : Addr) (cells : List Int) (at_ : Nat) (great many : Int), vs = [.ref t, .int many] ∧ Till H t c cells at_ great ∧ at_ ≤ most ∧ 0 < many ∧ many.natAbs < 2 ^ 8000 ∧
  ∀ (r : Int) (a2 : Nat) (g2 : Int) (H' : Hp), 0 ≤ r → r < many → a2 ≤ at_ + 1 → Till H' t c cells a2 g2 → But t H H' → Q (.int r) H'
theorem nil_eqv (l : List Int) : PyData.eqv (.list (l.map PyData.int)) (.list []) = l.isEmpty := by
  cases l with
  | nil => simp [PyData.eqv, PyData.eqvAll]
  | cons a r => simp [PyData.eqv, PyData.eqvAll]
theorem dp_ints {K : PySem.W.Frag} {H : Hp} : ∀ l : List Int, DpAll K H (l.map V.int) (l.map PyData.int)
  | [] => .nil
  | a :: r => .cons (.int a) (dp_ints r)
theorem ints_ok : ∀ l : List Int, PyData.canLayAll0 (l.map PyData.int) = true
  | [] => rfl
  | a :: r => by
    show (PyData.canLay0 (.int a) && PyData.canLayAll0 (r.map PyData.int)) = true
    rw [ints_ok r]
    rfl
theorem ints_depth : ∀ l : List Int, PyData.depthAll (l.map PyData.int) = 0
  | [] => rfl
  | a :: r => by
    show max (PyData.depth (.int a)) (PyData.depthAll (r.map PyData.int)) = 0
    rw [ints_depth r]
    rfl
theorem ints_shaped (l : List Int) : SeqAt.shaped (.list (l.map PyData.int)) = true := by
  unfold SeqAt.shaped PyData.canLay0 PyData.depth
  rw [ints_ok, ints_depth]
  rfl
theorem emod_atI {l : List Int} {a : Nat} (h : l ≠ []) : ∃ z, z ∈ l ∧ atI (l.map V.int) ((a : Int) % (l.length : Int)) = some (.int z) := by
  have hl : 0 < l.length := List.length_pos_iff.mpr h
  have e : ((a : Int) % (l.length : Int)) = ((a % l.length : Nat) : Int) := by
    omega
  have hb : a % l.length < l.length := Nat.mod_lt _ hl
  refine ⟨l[a % l.length], List.getElem_mem hb, ?_⟩
  rw [e]
  refine atI_nat ?_
  rw [List.getElem?_map, List.getElem?_eq_getElem hb]
  rfl
theorem mix_ok {y c1 c2 c3 : Int} {a : Nat} (h0 : 0 ≤ y) (h1 : y < 2147483647) (ha : a ≤ 100000) (d1 : 0 ≤ c1) (e1 : c1 ≤ 1000000) (d2 : 0 ≤ c2) (e2 : c2 ≤ 1000000) (d3 : 0 ≤ c3) (e3 : c3 ≤ 100000) :
    (y * (2 * (a : Int) + c3) + c1 * (a : Int) * (a : Int) + c2).natAbs < 2 ^ 64 := by
  have m1 : y * (2 * (a : Int) + c3) ≤ 2147483647 * (2 * (a : Int) + c3) := Int.mul_le_mul_of_nonneg_right (by omega) (by omega)
  have m0 : 0 ≤ y * (2 * (a : Int) + c3) := Int.mul_nonneg h0 (by omega)
  have n0 : 0 ≤ c1 * (a : Int) := Int.mul_nonneg d1 (by omega)
  have n1 : c1 * (a : Int) ≤ 1000000 * (a : Int) := Int.mul_le_mul_of_nonneg_right e1 (by omega)
  have p0 : 0 ≤ c1 * (a : Int) * (a : Int) := Int.mul_nonneg n0 (by omega)
  have p1 : c1 * (a : Int) * (a : Int) ≤ 100000000000 * (a : Int) := Int.mul_le_mul_of_nonneg_right (by omega) (by omega)
  omega
end KX
/-! a reading read from the left, a step a lemma -/
namespace KX
open PySem PySem.Spec PyProof.Rows L2
/-! built-ins by named readings -/
def rInt : List V → Hp → VK → Prop := fun xs H Q => (∃ i, xs = [.int i] ∧ Q (.int i) H) ∨ ∃ k, xs = [.bl k] ∧ Q (.int (if k then 1 else 0)) H
theorem c_int {X : Cx} : CallR X (.type "int") rInt := call_int1
def rLenQ (K : PySem.W.Frag) : List V → Hp → VK → Prop := fun xs H Q => ∃ p ys, xs = [.ref p] ∧ (SqL K H p ys ∨ SqT K H p ys) ∧ Q (.int ys.length) H
theorem c_len {X : Cx} : CallR X (.builtin "len") (rLenQ X.K) := call_len_seq
def rAbs : List V → Hp → VK → Prop := fun xs H Q => ∃ i, xs = [.int i] ∧ Q (.int (if i < 0 then -i else i)) H
theorem c_abs {X : Cx} : CallR X (.builtin "abs") rAbs := call_abs
section
variable {i : Nat} {σ : L2.St} {H : Hp} {Q : VK} {v x y : V} {ta tb te to ti : TE} {tr : TA} {r : R2} {D : Ends} {t u : TS} {g : TG} {c c2 : TT} {K : PySem.W.Frag} {p : Addr} {xs : List V} {k : Int} {j : Nat} {b : Bool}
theorem rd_var (e : σ[i]? = some (some v)) (q : Q v H) : tVar i σ H Q := ⟨v, e, q⟩
theorem rd_c (q : Q v H) : tC v σ H Q := q
theorem rd_op (q : ta σ H fun x H1 => tb σ H1 fun y H2 => r x y H2 Q) : tOp r ta tb σ H Q := q
theorem rd_un {r : V → Hp → VK → Prop} (q : ta σ H fun x H1 => r x H1 Q) : tUn r ta σ H Q := q
theorem rd_cb {r : List V → Hp → VK → Prop} (q : tr σ H fun vs H1 => r vs H1 Q) : tCB r tr σ H Q := q
theorem rd_cons {Q : List V → Hp → Prop} (q : ta σ H fun x H1 => tr σ H1 fun xs H2 => Q (x :: xs) H2) : tCons ta tr σ H Q := q
theorem rd_nil {Q : List V → Hp → Prop} (q : Q [] H) : tNil σ H Q := q
theorem rd_I0 {f : Int → Int → V} {m n : Int} (q : Q (f m n) H) : rI0 f (.int m) (.int n) H Q := ⟨m, n, rfl, rfl, q⟩
theorem rd_I {C : Int → Int → Prop} {f : Int → Int → V} {m n : Int} (e : C m n) (q : Q (f m n) H) : rI C f (.int m) (.int n) H Q := ⟨m, n, rfl, rfl, e, q⟩
theorem rd_U {f : Int → V} {m : Int} (q : Q (f m) H) : rU f (.int m) H Q := ⟨m, rfl, q⟩
theorem rd_eq (e : scal x y = true) (q : Q (.bl (decide (x = y))) H) : rEq x y H Q := ⟨e, q⟩
theorem rd_ne (e : scal x y = true) (q : Q (.bl (!decide (x = y))) H) : rNe x y H Q := ⟨e, q⟩
theorem rd_seq (q : t { D with nx := u D } σ H) : tSeq t u D σ H := q
theorem rd_asg (q : te σ H fun x H1 => g x σ H1 D.nx) : tAsg te g D σ H := q
theorem rd_drop (q : te σ H fun _ H1 => D.nx σ H1) : tDrop te D σ H := q
theorem rd_gname {Q : L2.St → Hp → Prop} (q : Q (σ.set i (some v)) H) : gName i v σ H Q := q
theorem rd_gsub {s : TSet} {Q : L2.St → Hp → Prop} (q : to σ H fun o H1 => ti σ H1 fun i H2 => s o i v H2 fun H3 => Q σ H3) : gSub to ti s v σ H Q := q
theorem rd_set {Q : Hp → Prop} (h : H p = some (.lst xs)) (hj : ixN xs.length k = some j) (q : Q (upd H p (.lst (xs.set j v)))) : rSetL (.ref p) (.int k) v H Q := ⟨p, xs, k, j, rfl, rfl, h, hj, q⟩
theorem rd_ifs (q : c σ H fun b H1 => if b = true then t D σ H1 else u D σ H1) : tIfS c t u D σ H := q
theorem rd_if (q : c σ H fun b H1 => if b = true then ta σ H1 Q else tb σ H1 Q) : tIf c ta tb σ H Q := q
theorem rd_test {Q : Bool → Hp → Prop} (q : te σ H fun x H1 => ∃ k, x = .bl k ∧ Q k H1) : tTest te σ H Q := q
theorem rd_B {Q : Bool → Hp → Prop} (q : te σ H fun x H1 => ∃ k, x = .bl k ∧ Q k H1) : tB te σ H Q := q
theorem rd_bl {Z : Bool → Prop} (q : Z b) : ∃ k, V.bl b = .bl k ∧ Z k := ⟨b, rfl, q⟩
theorem rd_andV (q : ta σ H fun x H1 => ∃ c, x = .bl c ∧ if c = true then tb σ H1 Q else Q (.bl false) H1) : tAndV ta tb σ H Q := q
theorem rd_orV (q : ta σ H fun x H1 => ∃ c, x = .bl c ∧ if c = true then Q (.bl true) H1 else tb σ H1 Q) : tOrV ta tb σ H Q := q
theorem rd_notV (q : ta σ H fun x H1 => ∃ c, x = .bl c ∧ Q (.bl (!c)) H1) : tNotV ta σ H Q := q
theorem rd_yes {Q : Bool → Hp → Prop} (q : Q true H) : tYes σ H Q := q
theorem rd_T {A B : Prop} (e : b = true) (q : A) : if b = true then A else B := by
  rw [if_pos e]
  exact q
theorem rd_F {A B : Prop} (e : b = false) (q : B) : if b = true then A else B := by
  rw [e, if_neg Bool.false_ne_true]
  exact q
theorem rd_and {Q : Bool → Hp → Prop} (q : c σ H fun b H1 => if b = true then c2 σ H1 Q else Q false H1) : tAnd c c2 σ H Q := q
theorem rd_or {Q : Bool → Hp → Prop} (q : c σ H fun b H1 => if b = true then Q true H1 else c2 σ H1 Q) : tOr c c2 σ H Q := q
theorem rd_not {Q : Bool → Hp → Prop} (q : c σ H fun b H1 => Q (!b) H1) : tNot c σ H Q := q
theorem rd_ret (q : te σ H D.rt) : tRet te D σ H := q
theorem rd_next (q : D.nx σ H) : tNext D σ H := q
theorem rd_nx {n bk ct : L2.St → Hp → Prop} {rt : VK} (q : n σ H) : Ends.nx ⟨n, rt, bk, ct⟩ σ H := q
theorem rd_rt {n bk ct : L2.St → Hp → Prop} {rt : VK} (q : rt v H) : Ends.rt ⟨n, rt, bk, ct⟩ v H := q
theorem rd_ix (h : SqL K H p xs) (a : atI xs k = some v) (q : Q v H) : rIxL K (.ref p) (.int k) H Q := ⟨p, xs, k, v, rfl, rfl, h, a, q⟩
theorem rd_int {m : Int} (q : Q (.int m) H) : rInt [.int m] H Q := .inl ⟨m, rfl, q⟩
theorem rd_intB (q : Q (.int (if b then 1 else 0)) H) : rInt [.bl b] H Q := .inr ⟨b, rfl, q⟩
theorem rd_abs {m : Int} (q : Q (.int (if m < 0 then -m else m)) H) : rAbs [.int m] H Q := ⟨m, rfl, q⟩
theorem rd_len (h : SqL K H p xs) (q : Q (.int xs.length) H) : rLenQ K [.ref p] H Q := ⟨p, xs, rfl, .inl h, q⟩
theorem rd_lst (q : tr σ H fun xs H1 => xs.length ≤ sizeLine ∧ ∀ p, H1 p = none → Q (.ref p) (upd H1 p (.lst xs))) : tLst tr σ H Q := q
theorem rd_tup (q : tr σ H fun xs H1 => xs.length ≤ sizeLine ∧ ∀ p, H1 p = none → Q (.ref p) (upd H1 p (.tup xs))) : tTup tr σ H Q := q
theorem rd_call {sp : Sp} {dvs : List V} {E : XK} (q : tr σ H fun vs H1 => sp (vs ++ dvs) H1 Q E) : tCall sp dvs E tr σ H Q := q
end
end KX
local macro_rules | `(tactic| walk_at "kx1") => `(tactic| with_reducible first
  | refine KX.rd_seq ?_ | refine KX.rd_asg ?_ | refine KX.rd_op ?_ | refine KX.rd_c ?_ | refine KX.rd_cb ?_ | refine KX.rd_cons ?_ | refine KX.rd_nil ?_ | refine KX.rd_un ?_ | refine KX.rd_nx ?_ | refine KX.rd_rt ?_ | refine KX.rd_next ?_ | refine KX.rd_ret ?_
  | refine KX.rd_ifs ?_ | refine KX.rd_if ?_ | refine KX.rd_test ?_ | refine KX.rd_B ?_ | refine KX.rd_bl ?_ | refine KX.rd_and ?_ | refine KX.rd_or ?_ | refine KX.rd_not ?_ | refine KX.rd_I0 ?_ | refine KX.rd_U ?_ | refine KX.rd_int ?_ | refine KX.rd_intB ?_ | refine KX.rd_abs ?_
  | refine KX.rd_gname ?_ | refine KX.rd_gsub ?_ | refine KX.rd_call ?_ | refine KX.rd_drop ?_ | refine KX.rd_yes ?_ | refine KX.rd_andV ?_ | refine KX.rd_orV ?_ | refine KX.rd_notV ?_)
local macro_rules | `(tactic| walk_at "hp") => `(tactic| first
  | assumption
  | exact upd_same
  | (refine Eq.trans (upd_ne (by assumption)) ?_; walk_at "hp")
  | (refine Eq.trans (upd_ne (Ne.symm (by assumption))) ?_; walk_at "hp"))
namespace K5
open PySem PySem.Spec PyProof.Rows L2 KY PySem.W
abbrev cR (K : PySem.W.Frag) : Addr := He.ga K "Ratio"
abbrev cB (K : PySem.W.Frag) : Addr := He.ga K "Balance"
/-- what the head tells -/
structure Fy (K : PySem.W.Frag) (mg : Str → Option Value) : Prop where
  glo : ∀ n ∈ gl, mg n = some (.ref (He.ga K n))
  free : ∀ n ∈ freeN, mg n = none
  gcd : mg "gcd" = some (.builtin "math.gcd")
  lcm : mg "lcm" = some (.builtin "math.lcm")
  most : ∃ t, mg "MOST_SIGNS" = some (.int 12 t)
  small : ∃ t, mg "SMALL" = some (.str "abcdefghijklmnopqrstuvwxyz" t)
  digits : ∃ t, mg "DIGITS" = some (.str "0123456789" t)
  exs : ex K = true
section
variable {K : PySem.W.Frag} {mg : Str → Option Value}
theorem Fy.all (F : Fy K mg) : kitB K = true ∧ (inspB K (cR K) = true ∧ mkB K (cR K) = true ∧ noB K (cR K) ["top", "bottom"] = true ∧ dunB K (cR K) "add" = true ∧ dunB K (cR K) "sub" = true ∧ dunB K (cR K) "mul" = true ∧ methB K (cR K) "__neg__" = true ∧ eqB K (cR K) = true ∧ strB K (cR K) = true ∧ smB K (cR K) "of" = true) ∧
    (inspB K (cB K) = true ∧ mkB K (cB K) = true ∧ noB K (cB K) ["shares", "things"] = true ∧ dunB K (cB K) "add" = true ∧ dunB K (cB K) "sub" = true ∧ dunB K (cB K) "mul" = true ∧ methB K (cB K) "__neg__" = true ∧ eqB K (cB K) = true ∧ strB K (cB K) = true ∧ smB K (cB K) "of" = true ∧ propB K (cB K) "is_nothing" = true ∧
      methB K (cB K) "number_of" = true ∧ methB K (cB K) "gains" = true ∧ methB K (cB K) "losses" = true ∧ methB K (cB K) "least" = true ∧ methB K (cB K) "renamed" = true) := by
  have h := F.exs
  unfold ex at h
  simp only [Bool.and_eq_true] at h
  obtain ⟨h0, r1, r2, r3, r4, r5, r6, r7, r8, r9, r10, b1, b2, b3, b4, b5, b6, b7, b8, b9, b10, b11, b12, b13, b14, b15, b16, _⟩ := h
  exact ⟨h0, ⟨r1, r2, r3, r4, r5, r6, r7, r8, r9, r10⟩, b1, b2, b3, b4, b5, b6, b7, b8, b9, b10, b11, b12, b13, b14, b15, b16⟩
theorem Fy.rest (F : Fy K mg) : (∀ n ∈ (["add", "sub", "mul"] : List String), ∀ c ∈ ownC, (findIn K (.type "int") (PySem.dunder n)).isSome = true ∧ (findIn K (.type "int") (dunderR n)).isSome = true ∧ subIn K (.type "int") (.ref (He.ga K c)) = some false) ∧
    subIn K (.ref (cR K)) (.ref (cB K)) = some false ∧ (Value.ref (cB K) == Value.ref (cR K)) = false ∧ ∀ c ∈ ownC, notFirst K (He.ga K c) (.ref (He.ga K c)) = true ∧ ∀ t ∈ kindsB, notFirst K (He.ga K c) (.type t) = true := by
  have h := F.exs
  unfold ex at h
  simp only [Bool.and_eq_true] at h
  obtain ⟨h0, r1, r2, r3, r4, r5, r6, r7, r8, r9, r10, b1, b2, b3, b4, b5, b6, b7, b8, b9, b10, b11, b12, b13, b14, b15, b16, _, x1, x2, x3, _⟩ := h
  simp only [List.all_eq_true, Bool.and_eq_true, decide_eq_true_eq, beq_iff_eq] at x1 x2 x3
  exact ⟨fun n hn c hc => x1 n hn c hc, x2.1, x2.2, fun c hc => x3 c hc⟩
/-- the type of a value that isinstance is asked of -/
inductive Kd (K : PySem.W.Frag) : Value → Prop
  | ty {t : String} : t ∈ kindsB → Kd K (.type t)
  | own {c : Str} : c ∈ ownC → Kd K (.ref (He.ga K c))
def kdTy : Value → String → Bool
  | .type t, c => t == c || (t == "bool" && c == "int")
  | _, _ => false
theorem kit_ty (F : Fy K mg) {t : Value} (k : Kd K t) {c : String} (hc : c ∈ askedB) : kitOne K t (.type c) = some (kdTy t c) := by
  have h := F.all.1
  unfold kitB at h
  simp only [Bool.and_eq_true, List.all_eq_true, decide_eq_true_eq] at h
  cases k with
  | ty ht => exact h.1 _ ht _ hc
  | own ho => exact h.2.2.1 _ ho _ hc
def kdOwn : Value → Addr → Bool
  | .ref a, c => a == c
  | _, _ => false
end
end K5
namespace K5
open PySem PySem.Spec PyProof.Rows L2 KY PySem.W
local macro_rules | `(tactic| walk_at "kx1") => `(tactic| with_reducible first
  | refine KX.rd_seq ?_ | refine KX.rd_asg ?_ | refine KX.rd_op ?_ | refine KX.rd_c ?_ | refine KX.rd_cb ?_ | refine KX.rd_cons ?_ | refine KX.rd_nil ?_ | refine KX.rd_un ?_ | refine KX.rd_nx ?_ | refine KX.rd_rt ?_ | refine KX.rd_next ?_ | refine KX.rd_ret ?_
  | refine KX.rd_ifs ?_ | refine KX.rd_if ?_ | refine KX.rd_test ?_ | refine KX.rd_B ?_ | refine KX.rd_bl ?_ | refine KX.rd_and ?_ | refine KX.rd_or ?_ | refine KX.rd_not ?_ | refine KX.rd_I0 ?_ | refine KX.rd_U ?_ | refine KX.rd_int ?_ | refine KX.rd_intB ?_ | refine KX.rd_abs ?_
  | refine KX.rd_gname ?_ | refine KX.rd_gsub ?_ | refine KX.rd_call ?_ | refine KX.rd_drop ?_ | refine KX.rd_yes ?_ | refine KX.rd_andV ?_ | refine KX.rd_orV ?_ | refine KX.rd_notV ?_)
local macro_rules | `(tactic| walk_at "hp") => `(tactic| first
  | assumption
  | exact upd_same
  | (refine Eq.trans (upd_ne (by assumption)) ?_; walk_at "hp")
  | (refine Eq.trans (upd_ne (Ne.symm (by assumption))) ?_; walk_at "hp"))
local macro_rules | `(tactic| walk_at "kx2") => `(tactic| first
  | walk_at "kx1"
  | ((with_reducible refine KX.rd_T ?e ?_); (case e => rfl))
  | ((with_reducible refine KX.rd_F ?e ?_); (case e => rfl))
  | ((with_reducible refine' KX.rd_var ?e ?_); (case e => rfl))
  | ((with_reducible refine' KX.rd_I ?e ?_); (case e => first | assumption | decide | exact Or.inl ⟨by omega, by omega⟩ | exact ⟨by decide, by decide, by decide⟩ | exact ⟨by decide, by decide⟩))
  | ((with_reducible refine' KX.rd_eq ?e ?_); (case e => rfl))
  | ((with_reducible refine' KX.rd_ne ?e ?_); (case e => rfl))
  | ((with_reducible refine' KX.rd_ix ?e ?e2 ?_); (case e => first | assumption | exact SqL.of (by walk_at "hp")); (case e2 => first | assumption | rfl))
  | ((with_reducible refine' KX.rd_len ?e ?_); (case e => first | assumption | exact SqL.of (by walk_at "hp")))
  | ((with_reducible refine' KX.rd_set ?e ?e2 ?_); (case e => walk_at "hp"); (case e2 => rfl)))
local macro_rules | `(tactic| walk_at "kx") => `(tactic| repeat walk_at "kx2")
theorem scI : FnScope ["value"] ["value"] (defScope s_is_integer) := ⟨rfl, rfl, rfl, by decide +kernel, rfl, by decide +kernel, by decide +kernel⟩
theorem scRI : FnScope ["self", "top", "bottom", "shared"] ["self", "top", "bottom"] (defScope s_Ratio_init) := ⟨rfl, rfl, rfl, by decide +kernel, rfl, by decide +kernel, by decide +kernel⟩
theorem scOther : FnScope ["value"] ["value"] (defScope s_other_of) := ⟨rfl, rfl, rfl, by decide +kernel, rfl, by decide +kernel, by decide +kernel⟩
abbrev Callee := KX.Callee
def isInt (t : Value) : Bool := kdTy t "int" && !kdTy t "bool"
def spInt (K : PySem.W.Frag) : Sp := fun vs H Q _ => ∃ x t, vs = [x] ∧ TyX K H x t ∧ Kd K t ∧ Q (.bl (isInt t)) H
/-- a new ratio's __init__ -/
def spRI (K : PySem.W.Frag) : Sp := fun vs H Q _ => ∃ (a dx : Addr) (t b : Int), vs = [.ref a, .int t, .int b] ∧ b ≠ 0 ∧ b.natAbs < 2 ^ 8000 ∧ H a = some (.ins (cR K) dx []) ∧ Q .non (upd H a (.ins (cR K) dx (ratF (Rat.divInt t b))))
/-- a ratio, or an integer that stands for one -/
def NumV (C : Addr) (H : Hp) (v : V) (q : Rat) : Prop := IsRat C H v q ∨ ∃ i : Int, v = .int i ∧ q = (i : Rat)
theorem NumV.mono {C : Addr} {H H' : Hp} {v : V} {q : Rat} (k : ∀ b o, H b = some o → H' b = some o) (h : NumV C H v q) : NumV C H' v q := by
  rcases h with h | h
  · exact .inl (h.mono k)
  · exact .inr h
def spOther (K : PySem.W.Frag) : Sp := fun vs H Q _ => ∃ v q, vs = [v] ∧ NumV (cR K) H v q ∧ ∀ v' H', Same H H' → IsRat (cR K) H' v' q → Q v' H'
section
variable {P : Program} {w : World} {K : PySem.W.Frag} {mg : Str → Option Value} {base : Heap} {f : Addr} {fd : FuncData} {H : Hp} {Q : VK} {σ : L2.St} {x : V} {t : Value}
theorem rd_isi (FY : Fy K mg) (ty : TyX K H x t) (k : Kd K t) {c : String} (hc : c ∈ askedB) (q : Q (.bl (kdTy t c)) H) : rIsi K [x, .ty c] H Q := ⟨x, .ty c, t, .type c, _, rfl, .ty c, ty, kit_ty FY k hc, q⟩
theorem kit_own (F : Fy K mg) {c d : Str} (hc : c ∈ ownC) (hd : d ∈ ownC) : kitOne K (.ref (He.ga K c)) (.ref (He.ga K d)) = some (c == d) := by
  have h := F.all.1
  unfold kitB at h
  simp only [Bool.and_eq_true, List.all_eq_true, decide_eq_true_eq] at h
  exact h.2.2.2.1 _ hc _ hd
theorem kit_bo (F : Fy K mg) {c : String} {d : Str} (hc : c ∈ kindsB) (hd : d ∈ ownC) : kitOne K (.type c) (.ref (He.ga K d)) = some false := by
  have h := F.all.1
  unfold kitB at h
  simp only [Bool.and_eq_true, List.all_eq_true, decide_eq_true_eq] at h
  exact h.2.1 _ hc _ hd
theorem rat_ty (F : Fy K mg) {v : V} {q : Rat} (h : IsRat (cR K) H v q) : TyX K H v (.ref (cR K)) := by
  obtain ⟨a, dx, rfl, h⟩ := h
  exact (inspB_ok F.all.2.1.1).ty h
theorem rd_isR (FY : Fy K mg) {v : V} {q : Rat} (h : NumV (cR K) H v q) (c1 : IsRat (cR K) H v q → Q (.bl true) H) (c2 : ∀ i : Int, v = .int i → q = (i : Rat) → Q (.bl false) H) : rIsi K [v, .ref (cR K)] H Q := by
  rcases h with h | ⟨i, rfl, e⟩
  · exact ⟨v, .ref (cR K), .ref (cR K), .ref (cR K), true, rfl, .own _, rat_ty FY h, kit_own FY (by decide +kernel) (by decide +kernel), c1 h⟩
  · exact ⟨.int i, .ref (cR K), .type "int", .ref (cR K), false, rfl, .own _, .base (.int i), kit_bo FY (by decide +kernel) (by decide +kernel), c2 i rfl e⟩
theorem ok_int (F : FunD K "is_integer" "is_integer" (defArgs s_is_integer) (defBody s_is_integer) (defScope s_is_integer) [] [] f fd) (FY : Fy K mg) : FnOk P w K mg base CX0 1 f fd ["value"] (spInt K) := by
  refine F.ok scI (fun vs H Q E h => ?_) (fun cdv A outer s H vs Q E hr h => ?_)
  · obtain ⟨x, t, rfl, _⟩ := h
    rfl
  · obtain ⟨x, t, rfl, ty, k, q⟩ := h
    refine ⟨_, PSs.nox (pss_one (ps_ret (pe_and (pe_callB call_isi (by rfl) (FY.free "isinstance" (by decide +kernel)) (by decide +kernel) (pa_cons (pv 0) (pa_cons (pe_bltn (v := .ty "int") (by rfl) (FY.free "int" (by decide +kernel)) (by decide +kernel) rfl) pa_nil))) (pe_one (pe_not (pe_callB call_isi (by rfl) (FY.free "isinstance" (by decide +kernel)) (by decide +kernel) (pa_cons (pv 0) (pa_cons (pe_bltn (v := .ty "bool") (by rfl) (FY.free "bool" (by decide +kernel)) (by decide +kernel) rfl) pa_nil)))))))), ?_⟩
    walk_at "kx"
    refine rd_isi FY ty k (by decide +kernel) ?_
    refine KX.rd_bl ?_
    refine ite2 (fun e => ?_) (fun e => ?_)
    · walk_at "kx"
      refine rd_isi FY ty k (by decide +kernel) ?_
      walk_at "kx"
      unfold isInt at q
      rw [e, Bool.true_and] at q
      exact q
    · have e := Bool.eq_false_iff.mpr e
      unfold isInt at q
      rw [e, Bool.false_and] at q
      walk_at "kx"
      exact q
theorem rd_fld {te : TE} {n : Str} (q : te σ H fun x H1 => ∃ a C dx fs v, x = .ref a ∧ H1 a = some (.ins C dx fs) ∧ Cls K C ∧ NoAttr K C n ∧ fs.lookup n = some v ∧ Q v H1) : tFld K te n σ H Q := q
theorem rd_sfld {D : Ends} {te tv : TE} {n : Str} (q : tv σ H fun y H1 => te σ H1 fun x H2 => ∃ a C dx fs, x = .ref a ∧ H2 a = some (.ins C dx fs) ∧ Cls K C ∧ NoAttr K C n ∧ fs.length < 1000 ∧ D.nx σ (upd H2 a (.ins C dx (putF n y fs)))) : sFld K te tv n D σ H := q
theorem ok_rinit (F : FunD K "__init__" "Ratio.__init__" (defArgs s_Ratio_init) (defBody s_Ratio_init) (defScope s_Ratio_init) [.int 1] [] f fd) (FY : Fy K mg) (CI : Callee P w K mg base 1 "is_integer" ["value"] (spInt K)) :
    FnOk P w K mg base CX0 2 f fd ["self", "top", "bottom"] (spRI K) := by
  refine F.ok scRI (fun vs H Q E h => ?_) (fun cdv A outer s H vs Q E hr h => ?_)
  · obtain ⟨a, dx, t, b, rfl, _⟩ := h
    rfl
  · obtain ⟨a, dx, t, b, rfl, hb, hbb, ha, q⟩ := h
    have cl := clsB_ok (K := K) (C := cR K) (by
      have z := FY.all.2.1.1
      unfold inspB at z
      exact (Bool.and_eq_true_iff.mp z).1)
    have no := noB_ok FY.all.2.1.2.2.1
    refine ⟨_, PSs.nox (pss_cons (ps_if (pt_not (pt_val (KX.pe_c CI hr (by decide) rfl (pa_cons (pv 1) pa_nil)))) (pss_one ps_never) pss_nil)
  (pss_cons (ps_if (PW.pt (pw_or (pt_not (pt_val (KX.pe_c CI hr (by decide) rfl (pa_cons (pv 2) pa_nil)))) (pw_or1 (pt_cmpR op_eq (pv 2) pe_int (nomark _))))) (pss_one ps_never) pss_nil)
  (pss_cons (ps_set (i := 3) scRI.nd rfl (Or.inl rfl) (pe_callBfun cr_gcd rfl FY.gcd (pa_cons (pv 1) (pa_cons (pv 2) pa_nil))))
  (pss_cons (ps_if (pt_cmpR op_lt (pv 2) pe_int (nomark _)) (pss_one (ps_set (i := 3) scRI.nd rfl (Or.inl rfl) (pe_un un_neg (pv 3)))) pss_nil)
  (pss_cons (ps_fld (pv 0) (pe_op op_fdivZ (pv 1) (pv 3)) rfl)
  (pss_one (ps_fld (pv 0) (pe_op op_fdivZ (pv 2) (pv 3)) rfl))))))), ?_⟩
    walk_at "kx"
    refine ⟨.int t, .type "int", rfl, .base (.int t), .ty (by decide +kernel), ?_⟩
    walk_at "kx"
    refine ⟨.int b, .type "int", rfl, .base (.int b), .ty (by decide +kernel), ?_⟩
    walk_at "kx"
    refine KX.rd_F (decide_eq_false (by simpa using hb)) ?_
    walk_at "kx"
    refine ⟨t, b, rfl, ?_⟩
    walk_at "kx"
    have g0 := gcd_pos (t := t) hb
    have gl0 : (Nat.gcd t.natAbs b.natAbs) < 2 ^ 8000 := Nat.lt_of_le_of_lt (Nat.gcd_le_right _ (Int.natAbs_pos.mpr hb)) hbb
    have lg : ((Nat.gcd t.natAbs b.natAbs : Nat) : Int).natAbs.log2 < 9000 := by
      rw [Int.natAbs_natCast]
      exact Nat.lt_of_lt_of_le ((Nat.log2_lt (by omega)).mpr gl0) (by decide)
    have lg2 : (-((Nat.gcd t.natAbs b.natAbs : Nat) : Int)).natAbs.log2 < 9000 := by
      rw [Int.natAbs_neg]
      exact lg
    have z1 : ∀ x : Int, CDivZ x ((Nat.gcd t.natAbs b.natAbs : Nat) : Int) := fun x => ⟨by omega, lg⟩
    have z2 : ∀ x : Int, CDivZ x (-((Nat.gcd t.natAbs b.natAbs : Nat) : Int)) := fun x => ⟨by omega, lg2⟩
    refine ite2 (fun e => ?_) (fun e => ?_)
    · have hlt : b < 0 := of_decide_eq_true e
      obtain ⟨l1, l2⟩ := low_neg (t := t) hlt
      walk_at "kx"
      refine rd_sfld ?_
      walk_at "kx"
      refine KX.rd_I (z2 t) ?_
      walk_at "kx"
      refine ⟨a, cR K, dx, [], rfl, ha, cl, no "top" (by decide +kernel), by decide, ?_⟩
      walk_at "kx"
      refine rd_sfld ?_
      walk_at "kx"
      refine KX.rd_I (z2 b) ?_
      walk_at "kx"
      refine ⟨a, cR K, dx, _, rfl, upd_same, cl, no "bottom" (by decide +kernel), (show (1 : Nat) < 1000 by decide), ?_⟩
      rw [l1, l2, upd_upd]
      exact q
    · have hlt : 0 < b := by
        have h := of_decide_eq_false (Bool.eq_false_iff.mpr e)
        clear gl0 hbb lg lg2 z1 z2
        omega
      obtain ⟨l1, l2⟩ := low_pos (t := t) hlt
      walk_at "kx"
      refine rd_sfld ?_
      walk_at "kx"
      refine KX.rd_I (z1 t) ?_
      walk_at "kx"
      refine ⟨a, cR K, dx, [], rfl, ha, cl, no "top" (by decide +kernel), by decide, ?_⟩
      walk_at "kx"
      refine rd_sfld ?_
      walk_at "kx"
      refine KX.rd_I (z1 b) ?_
      walk_at "kx"
      refine ⟨a, cR K, dx, _, rfl, upd_same, cl, no "bottom" (by decide +kernel), (show (1 : Nat) < 1000 by decide), ?_⟩
      rw [l1, l2, upd_upd]
      exact q
end

end K5
namespace K5
open PySem PySem.Spec PyProof.Rows L2 KY PySem.W
local macro_rules | `(tactic| walk_at "kx1") => `(tactic| with_reducible first
  | refine KX.rd_seq ?_ | refine KX.rd_asg ?_ | refine KX.rd_op ?_ | refine KX.rd_c ?_ | refine KX.rd_cb ?_ | refine KX.rd_cons ?_ | refine KX.rd_nil ?_ | refine KX.rd_un ?_ | refine KX.rd_nx ?_ | refine KX.rd_rt ?_ | refine KX.rd_next ?_ | refine KX.rd_ret ?_
  | refine KX.rd_ifs ?_ | refine KX.rd_if ?_ | refine KX.rd_test ?_ | refine KX.rd_B ?_ | refine KX.rd_bl ?_ | refine KX.rd_and ?_ | refine KX.rd_or ?_ | refine KX.rd_not ?_ | refine KX.rd_I0 ?_ | refine KX.rd_U ?_ | refine KX.rd_int ?_ | refine KX.rd_intB ?_ | refine KX.rd_abs ?_
  | refine KX.rd_gname ?_ | refine KX.rd_gsub ?_ | refine KX.rd_call ?_ | refine KX.rd_drop ?_ | refine KX.rd_yes ?_ | refine KX.rd_andV ?_ | refine KX.rd_orV ?_ | refine KX.rd_notV ?_)
local macro_rules | `(tactic| walk_at "hp") => `(tactic| first
  | assumption
  | exact upd_same
  | (refine Eq.trans (upd_ne (by assumption)) ?_; walk_at "hp")
  | (refine Eq.trans (upd_ne (Ne.symm (by assumption))) ?_; walk_at "hp"))
local macro_rules | `(tactic| walk_at "kx2") => `(tactic| first
  | walk_at "kx1"
  | ((with_reducible refine KX.rd_T ?e ?_); (case e => rfl))
  | ((with_reducible refine KX.rd_F ?e ?_); (case e => rfl))
  | ((with_reducible refine' KX.rd_var ?e ?_); (case e => rfl))
  | ((with_reducible refine' KX.rd_I ?e ?_); (case e => first | assumption | decide | exact Or.inl ⟨by omega, by omega⟩ | exact ⟨by decide, by decide, by decide⟩ | exact ⟨by decide, by decide⟩))
  | ((with_reducible refine' KX.rd_eq ?e ?_); (case e => rfl))
  | ((with_reducible refine' KX.rd_ne ?e ?_); (case e => rfl))
  | ((with_reducible refine' KX.rd_ix ?e ?e2 ?_); (case e => first | assumption | exact SqL.of (by walk_at "hp")); (case e2 => first | assumption | rfl))
  | ((with_reducible refine' KX.rd_len ?e ?_); (case e => first | assumption | exact SqL.of (by walk_at "hp")))
  | ((with_reducible refine' KX.rd_set ?e ?e2 ?_); (case e => walk_at "hp"); (case e2 => rfl)))
local macro_rules | `(tactic| walk_at "kx") => `(tactic| repeat walk_at "kx2")
theorem scRadd : FnScope ["self", "other", "more"] ["self", "other"] (defScope s_Ratio_add) := ⟨rfl, rfl, rfl, by decide +kernel, rfl, by decide +kernel, by decide +kernel⟩
theorem scRsub : FnScope ["self", "other", "less"] ["self", "other"] (defScope s_Ratio_sub) := ⟨rfl, rfl, rfl, by decide +kernel, rfl, by decide +kernel, by decide +kernel⟩
theorem scRmul : FnScope ["self", "other", "times"] ["self", "other"] (defScope s_Ratio_mul) := ⟨rfl, rfl, rfl, by decide +kernel, rfl, by decide +kernel, by decide +kernel⟩
theorem scRneg : FnScope ["self"] ["self"] (defScope s_Ratio_neg) := ⟨rfl, rfl, rfl, by decide +kernel, rfl, by decide +kernel, by decide +kernel⟩
theorem scRof : FnScope ["value"] ["value"] (defScope s_Ratio_of) := ⟨rfl, rfl, rfl, by decide +kernel, rfl, by decide +kernel, by decide +kernel⟩
theorem scReq : FnScope ["self", "other"] ["self", "other"] (defScope s_Ratio_eq) := ⟨rfl, rfl, rfl, by decide +kernel, rfl, by decide +kernel, by decide +kernel⟩
theorem scRstr : FnScope ["self"] ["self"] (defScope s_Ratio_str) := ⟨rfl, rfl, rfl, by decide +kernel, rfl, by decide +kernel, by decide +kernel⟩
theorem scIsR : FnScope ["value"] ["value"] (defScope s_is_ratio) := ⟨rfl, rfl, rfl, by decide +kernel, rfl, by decide +kernel, by decide +kernel⟩
/-- a field read -/
def rGet (K : PySem.W.Frag) (n : Str) (x : V) (H : Hp) (Q : VK) : Prop := ∃ a C dx fs v, x = .ref a ∧ H a = some (.ins C dx fs) ∧ Cls K C ∧ NoAttr K C n ∧ fs.lookup n = some v ∧ Q v H
section
variable {K : PySem.W.Frag} {H : Hp} {Q : VK} {σ : L2.St}
theorem rd_fld2 {te : TE} {n : Str} (q : te σ H fun x H1 => rGet K n x H1 Q) : tFld K te n σ H Q := q
theorem rd_get {a C dx : Addr} {fs : List (Str × V)} {n : Str} {v : V} (e : H a = some (.ins C dx fs)) (c : Cls K C) (no : NoAttr K C n) (l : fs.lookup n = some v) (q : Q v H) : rGet K n (.ref a) H Q := ⟨a, C, dx, fs, v, rfl, e, c, no, l, q⟩
theorem rd_mulw {m n : Int} (e : CMulW m n) (q : Q (.int (m * n)) H) : rI CMulW (fun i j => V.int (i * j)) (.int m) (.int n) H Q := ⟨m, n, rfl, rfl, e, q⟩
end
local macro_rules | `(tactic| walk_at "kx3") => `(tactic| first
  | walk_at "kx2"
  | (with_reducible refine rd_fld2 ?_)
  | ((with_reducible refine' rd_get ?e ?c ?n ?l ?_); (case e => assumption); (case c => assumption); (case n => assumption); (case l => rfl))
  | ((with_reducible refine' rd_mulw ?e ?_); (case e => assumption)))
local macro_rules | `(tactic| walk_at "kf") => `(tactic| repeat walk_at "kx3")
/-- Ratio may be called -/
def RatC (P : Program) (w : World) (K : PySem.W.Frag) (mg : Str → Option Value) (base : Heap) : Prop :=
  ∃ fd, FnOk P w K mg base CX0 2 (He.ma K (cR K) "__init__") fd ["self", "top", "bottom"] (spRI K) ∧ Binds K fd ["self", "top", "bottom"] [] ∧ ∃ ds, Vals [V.int 1] ds ∧ Binds K fd ["self", "top", "bottom"] ds
/-- Ratio(..): dvs what fills up -/
def tRat (K : PySem.W.Frag) (dvs : List V) (ta : TA) : TE := fun σ H Q => ta σ H fun vs H1 => ∃ t b : Int, vs ++ dvs = [.int t, .int b] ∧ b ≠ 0 ∧ b.natAbs < 2 ^ 8000 ∧ ∀ v H', Same H1 H' → IsRat (cR K) H' v (Rat.divInt t b) → Q v H'
section
variable {X : Cx} {j : Nat} {p pos : Pos} {e : Expr} {es : List Expr} {ta : TA}
theorem run_rat {fd : FuncData} {dvs : List V} {ds : List Value} {pins : List (Addr × Obj)} {σ : L2.St} {H : Hp} {s : Shared} {Q : VK} {us : List Value} {vs : List V} (F : FnOk X.prog X.w X.K X.mg X.base CX0 2 (He.ma X.K (cR X.K) "__init__") fd ["self", "top", "bottom"] (spRI X.K))
    (FY : Fy X.K X.mg) (hr : Room j X.A) (hj : 3 ≤ j) (hb : Binds X.K fd ["self", "top", "bottom"] ds) (hd : Vals dvs ds) (I : Inv X pins σ H s) (r : Vals vs us)
    (h : ∃ t b : Int, vs ++ dvs = [.int t, .int b] ∧ b ≠ 0 ∧ b.natAbs < 2 ^ 8000 ∧ ∀ v H', Same H H' → IsRat (cR X.K) H' v (Rat.divInt t b) → Q v H') : wpAny (model X.prog X.w) X.A (call (.ref (cR X.K)) us) (EP X pins σ Q) X.xe s := by
  obtain ⟨t, b, e, hb0, hbb, q⟩ := h
  refine run_make (mkB_ok FY.all.2.1.2.1) F (hr.mono hj) hb hd pass0 I r fun x dx hx hdx ne => ?_
  rw [e]
  refine ⟨x, dx, t, b, rfl, hb0, hbb, upd_same, rfl, ?_⟩
  refine q (.ref x) _ (fun c o z => ?_) ⟨x, dx, rfl, upd_same⟩
  have n1 := ne_of_none z hx
  have n2 := ne_of_none z hdx
  rw [upd_ne n1, upd_ne n1, upd_ne n2]
  exact z
theorem pe_rat2 (CR : RatC X.prog X.w X.K X.mg X.base) (FY : Fy X.K X.mg) (hr : Room j X.A) (hj : 3 ≤ j) (hg : Gl X "Ratio") (ha : PA X (e :: es) ta) (he : starEach (e :: es) X.env = (false, eval e X.env) :: starEach es X.env := by rfl)
    (hpl : (backTo pos (starEach es X.env)).any (·.1) = false := by rfl) : PE X (.Call (.Name "Ratio" p) (e :: es) [] pos) (tRat X.K [] ta) := by
  obtain ⟨fd, F, hb, _⟩ := CR
  refine ⟨fun pins s σ H Q I h => ?_⟩
  refine wpAny_Call_Name_kw (ld_glob I hg (FY.glo "Ratio" (by decide +kernel)) ?_ (by decide))
  refine callWith_K (h₀ := X.base) I.ok.mod.kin (mkB_ok FY.all.2.1.2.1).kp (thn (ha.run pos pins s σ H _ I h) fun us s1 hh => ?_) he hpl
  obtain ⟨vs, H1, I1, r, q⟩ := hh
  exact ⟨I1.kIn, run_rat F FY hr hj hb .nil I1 r q⟩
theorem pe_rat1 (CR : RatC X.prog X.w X.K X.mg X.base) (FY : Fy X.K X.mg) (hr : Room j X.A) (hj : 3 ≤ j) (hg : Gl X "Ratio") (ha : PA X (e :: es) ta) (he : starEach (e :: es) X.env = (false, eval e X.env) :: starEach es X.env := by rfl)
    (hpl : (backTo pos (starEach es X.env)).any (·.1) = false := by rfl) : PE X (.Call (.Name "Ratio" p) (e :: es) [] pos) (tRat X.K [.int 1] ta) := by
  obtain ⟨fd, F, _, ds, hd, hb⟩ := CR
  refine ⟨fun pins s σ H Q I h => ?_⟩
  refine wpAny_Call_Name_kw (ld_glob I hg (FY.glo "Ratio" (by decide +kernel)) ?_ (by decide))
  refine callWith_K (h₀ := X.base) I.ok.mod.kin (mkB_ok FY.all.2.1.2.1).kp (thn (ha.run pos pins s σ H _ I h) fun us s1 hh => ?_) he hpl
  obtain ⟨vs, H1, I1, r, q⟩ := hh
  exact ⟨I1.kIn, run_rat F FY hr hj hb hd I1 r q⟩
end
theorem rd_rat {K : PySem.W.Frag} {dvs : List V} {ta : TA} {σ : L2.St} {H : Hp} {Q : VK} (q : ta σ H fun vs H1 => ∃ t b : Int, vs ++ dvs = [.int t, .int b] ∧ b ≠ 0 ∧ b.natAbs < 2 ^ 8000 ∧ ∀ v H', Same H1 H' → IsRat (cR K) H' v (Rat.divInt t b) → Q v H') : tRat K dvs ta σ H Q := q
theorem bits_pos {n : Nat} {q : Rat} (h : Bits n q) : 0 < n := by
  rcases Nat.eq_zero_or_pos n with z | z
  · have := h.den
    have := q.den_nz
    rw [z] at *
    omega
  · exact z
theorem bits_mul {a b : Nat} {p q : Rat} (h : Bits a p) (g : Bits b q) (l : a + b ≤ 7000) : CMulW p.num q.den ∧ CMulW q.num p.den ∧ CMulW p.den q.den ∧ CMulW p.num q.num := by
  have a0 := bits_pos h
  have b0 := bits_pos g
  have dq : ((q.den : Int)).natAbs < 2 ^ b := by rw [Int.natAbs_natCast]; exact g.den
  have dp : ((p.den : Int)).natAbs < 2 ^ a := by rw [Int.natAbs_natCast]; exact h.den
  exact ⟨wide_mul h.num dq a0 b0 (by omega), wide_mul g.num dp b0 a0 (by omega), wide_mul dp dq a0 b0 (by omega), wide_mul h.num g.num a0 b0 (by omega)⟩
/-- two ratios (the second one perhaps an integer), what comes of them -/
def spBin (K : PySem.W.Frag) (op : Rat → Rat → Rat) : Sp := fun vs H Q _ => ∃ x y p q a b, vs = [x, y] ∧ IsRat (cR K) H x p ∧ NumV (cR K) H y q ∧ Bits a p ∧ Bits b q ∧ a + b ≤ 7000 ∧ ∀ v H', Same H H' → IsRat (cR K) H' v (op p q) → Q v H'
section
variable {P : Program} {w : World} {K : PySem.W.Frag} {mg : Str → Option Value} {base : Heap} {f : Addr} {fd : FuncData} {H : Hp} {Q : VK} {σ : L2.St} {x : V} {t : Value}
theorem ok_other (F : FunD K "other_of" "other_of" (defArgs s_other_of) (defBody s_other_of) (defScope s_other_of) [] [] f fd) (FY : Fy K mg) (CI : Callee P w K mg base 1 "is_integer" ["value"] (spInt K)) (CR : RatC P w K mg base) :
    FnOk P w K mg base CX0 4 f fd ["value"] (spOther K) := by
  refine F.ok scOther (fun vs H Q E h => ?_) (fun cdv A outer s H vs Q E hr h => ?_)
  · obtain ⟨v, q, rfl, _⟩ := h
    rfl
  · obtain ⟨v, r, rfl, hv, q⟩ := h
    refine ⟨_, PSs.nox (pss_cons (ps_if (pt_val (pe_callB call_isi (by rfl) (FY.free "isinstance" (by decide +kernel)) (by decide +kernel) (pa_cons (pv 0) (pa_cons (pe_glob (v := .ref (He.ga K "Ratio")) rfl (FY.glo "Ratio" (by decide +kernel)) rfl) pa_nil)))) (pss_one (ps_ret (pv 0))) pss_nil)
  (pss_cons (ps_if (pt_val (KX.pe_c CI hr (by decide) rfl (pa_cons (pv 0) pa_nil))) (pss_one (ps_ret (pe_rat1 CR FY hr (by decide) rfl (pa_cons (pv 0) pa_nil)))) pss_nil)
  (pss_one ps_never))), ?_⟩
    walk_at "kf"
    refine rd_isR FY hv (fun h => ?_) (fun i e1 e2 => ?_)
    · walk_at "kf"
      exact q _ _ (Same.refl H) h
    · subst e1 e2
      walk_at "kf"
      refine ⟨.int i, .type "int", rfl, .base (.int i), .ty (by decide +kernel), ?_⟩
      walk_at "kf"
      refine rd_rat ?_
      walk_at "kf"
      refine ⟨i, 1, rfl, by decide, by decide, fun v H' k h => ?_⟩
      rw [int_parts] at h
      walk_at "kf"
      exact q _ _ k h
theorem ok_radd (F : FunD K "__add__" "Ratio.__add__" (defArgs s_Ratio_add) (defBody s_Ratio_add) (defScope s_Ratio_add) [] [] f fd) (FY : Fy K mg) (CO : Callee P w K mg base 4 "other_of" ["value"] (spOther K)) (CR : RatC P w K mg base) :
    FnOk P w K mg base CX0 5 f fd ["self", "other"] (spBin K (· + ·)) := by
  refine F.ok scRadd (fun vs H Q E h => ?_) (fun cdv A outer s H vs Q E hr h => ?_)
  · obtain ⟨x, y, p, q, a, b, rfl, _⟩ := h
    rfl
  · obtain ⟨x, y, p, q, a, b, rfl, hx, hy, ba, bb, l, qq⟩ := h
    have cl := (inspB_ok FY.all.2.1.1).cls
    have nt := noB_ok FY.all.2.1.2.2.1 "top" (by decide +kernel)
    have nb := noB_ok FY.all.2.1.2.2.1 "bottom" (by decide +kernel)
    obtain ⟨m1, m2, m3, m4⟩ := bits_mul ba bb l
    refine ⟨_, PSs.nox (pss_cons (ps_set (i := 2) scRadd.nd rfl (Or.inl rfl) (KX.pe_c CO hr (by decide) rfl (pa_cons (pv 1) pa_nil)))
  (pss_one (ps_ret (pe_rat2 CR FY hr (by decide) rfl (pa_cons (pe_op op_add (pe_op op_mulW (pe_fld (pv 0) rfl) (pe_fld (pv 2) rfl)) (pe_op op_mulW (pe_fld (pv 2) rfl) (pe_fld (pv 0) rfl))) (pa_cons (pe_op op_mulW (pe_fld (pv 0) rfl) (pe_fld (pv 2) rfl)) pa_nil)))))), ?_⟩
    walk_at "kf"
    refine ⟨y, q, rfl, hy, fun v H' k hv => ?_⟩
    obtain ⟨xa, xd, rfl, hx⟩ := hx.mono k
    obtain ⟨va, vd, rfl, hv⟩ := hv
    walk_at "kf"
    refine rd_rat ?_
    walk_at "kf"
    refine ⟨_, _, rfl, ?_, ?_, fun v H2 k2 h => ?_⟩
    · have := p.den_nz
      have := q.den_nz
      exact Int.mul_ne_zero (by omega) (by omega)
    · exact Nat.lt_of_lt_of_le (bits_add ba bb).2 (Nat.pow_le_pow_right (by decide) (by omega))
    · rw [add_parts] at h
      walk_at "kf"
      exact qq _ _ (k.trans k2) h
end

end K5
namespace K5
open PySem PySem.Spec PyProof.Rows L2 KY PySem.W
local macro_rules | `(tactic| walk_at "kx1") => `(tactic| with_reducible first
  | refine KX.rd_seq ?_ | refine KX.rd_asg ?_ | refine KX.rd_op ?_ | refine KX.rd_c ?_ | refine KX.rd_cb ?_ | refine KX.rd_cons ?_ | refine KX.rd_nil ?_ | refine KX.rd_un ?_ | refine KX.rd_nx ?_ | refine KX.rd_rt ?_ | refine KX.rd_next ?_ | refine KX.rd_ret ?_
  | refine KX.rd_ifs ?_ | refine KX.rd_if ?_ | refine KX.rd_test ?_ | refine KX.rd_B ?_ | refine KX.rd_bl ?_ | refine KX.rd_and ?_ | refine KX.rd_or ?_ | refine KX.rd_not ?_ | refine KX.rd_I0 ?_ | refine KX.rd_U ?_ | refine KX.rd_int ?_ | refine KX.rd_intB ?_ | refine KX.rd_abs ?_
  | refine KX.rd_gname ?_ | refine KX.rd_gsub ?_ | refine KX.rd_call ?_ | refine KX.rd_drop ?_ | refine KX.rd_yes ?_ | refine KX.rd_andV ?_ | refine KX.rd_orV ?_ | refine KX.rd_notV ?_)
local macro_rules | `(tactic| walk_at "hp") => `(tactic| first
  | assumption
  | exact upd_same
  | (refine Eq.trans (upd_ne (by assumption)) ?_; walk_at "hp")
  | (refine Eq.trans (upd_ne (Ne.symm (by assumption))) ?_; walk_at "hp"))
local macro_rules | `(tactic| walk_at "kx2") => `(tactic| first
  | walk_at "kx1"
  | ((with_reducible refine KX.rd_T ?e ?_); (case e => rfl))
  | ((with_reducible refine KX.rd_F ?e ?_); (case e => rfl))
  | ((with_reducible refine' KX.rd_var ?e ?_); (case e => rfl))
  | ((with_reducible refine' KX.rd_I ?e ?_); (case e => first | assumption | decide | exact Or.inl ⟨by omega, by omega⟩ | exact ⟨by decide, by decide, by decide⟩ | exact ⟨by decide, by decide⟩))
  | ((with_reducible refine' KX.rd_eq ?e ?_); (case e => rfl))
  | ((with_reducible refine' KX.rd_ne ?e ?_); (case e => rfl))
  | ((with_reducible refine' KX.rd_ix ?e ?e2 ?_); (case e => first | assumption | exact SqL.of (by walk_at "hp")); (case e2 => first | assumption | rfl))
  | ((with_reducible refine' KX.rd_len ?e ?_); (case e => first | assumption | exact SqL.of (by walk_at "hp")))
  | ((with_reducible refine' KX.rd_set ?e ?e2 ?_); (case e => walk_at "hp"); (case e2 => rfl)))
local macro_rules | `(tactic| walk_at "kx") => `(tactic| repeat walk_at "kx2")
local macro_rules | `(tactic| walk_at "kx3") => `(tactic| first
  | walk_at "kx2"
  | (with_reducible refine rd_fld2 ?_)
  | ((with_reducible refine' rd_get ?e ?c ?n ?l ?_); (case e => assumption); (case c => assumption); (case n => assumption); (case l => rfl))
  | ((with_reducible refine' rd_mulw ?e ?_); (case e => assumption)))
local macro_rules | `(tactic| walk_at "kf") => `(tactic| repeat walk_at "kx3")
def spNegR (K : PySem.W.Frag) : Sp := fun vs H Q _ => ∃ x p, vs = [x] ∧ IsRat (cR K) H x p ∧ Bits 7000 p ∧ ∀ v H', Same H H' → IsRat (cR K) H' v (-p) → Q v H'
def spIsRat (K : PySem.W.Frag) : Sp := fun vs H Q _ => ∃ v q, vs = [v] ∧ NumV (cR K) H v q ∧ Q (.bl true) H
def DRat (K : PySem.W.Frag) : V → V → Hp → Bool → Prop := fun x y H b => ∃ p q, IsRat (cR K) H x p ∧ NumV (cR K) H y q ∧ b = decide (p = q)
section
variable {P : Program} {w : World} {K : PySem.W.Frag} {mg : Str → Option Value} {base : Heap} {f : Addr} {fd : FuncData} {H : Hp} {Q : VK} {σ : L2.St} {x : V} {t : Value}
theorem ok_rsub (F : FunD K "__sub__" "Ratio.__sub__" (defArgs s_Ratio_sub) (defBody s_Ratio_sub) (defScope s_Ratio_sub) [] [] f fd) (FY : Fy K mg) (CO : Callee P w K mg base 4 "other_of" ["value"] (spOther K)) (CR : RatC P w K mg base) :
    FnOk P w K mg base CX0 5 f fd ["self", "other"] (spBin K (· - ·)) := by
  refine F.ok scRsub (fun vs H Q E h => ?_) (fun cdv A outer s H vs Q E hr h => ?_)
  · obtain ⟨x, y, p, q, a, b, rfl, _⟩ := h
    rfl
  · obtain ⟨x, y, p, q, a, b, rfl, hx, hy, ba, bb, l, qq⟩ := h
    have cl := (inspB_ok FY.all.2.1.1).cls
    have nt := noB_ok FY.all.2.1.2.2.1 "top" (by decide +kernel)
    have nb := noB_ok FY.all.2.1.2.2.1 "bottom" (by decide +kernel)
    obtain ⟨m1, m2, m3, m4⟩ := bits_mul ba bb l
    refine ⟨_, PSs.nox (pss_cons (ps_set (i := 2) scRsub.nd rfl (Or.inl rfl) (KX.pe_c CO hr (by decide) rfl (pa_cons (pv 1) pa_nil)))
  (pss_one (ps_ret (pe_rat2 CR FY hr (by decide) rfl (pa_cons (pe_op op_sub (pe_op op_mulW (pe_fld (pv 0) rfl) (pe_fld (pv 2) rfl)) (pe_op op_mulW (pe_fld (pv 2) rfl) (pe_fld (pv 0) rfl))) (pa_cons (pe_op op_mulW (pe_fld (pv 0) rfl) (pe_fld (pv 2) rfl)) pa_nil)))))), ?_⟩
    walk_at "kf"
    refine ⟨y, q, rfl, hy, fun v H' k hv => ?_⟩
    obtain ⟨xa, xd, rfl, hx⟩ := hx.mono k
    obtain ⟨va, vd, rfl, hv⟩ := hv
    walk_at "kf"
    refine rd_rat ?_
    walk_at "kf"
    refine ⟨_, _, rfl, ?_, ?_, fun v H2 k2 h => ?_⟩
    · have := p.den_nz
      have := q.den_nz
      exact Int.mul_ne_zero (by omega) (by omega)
    · exact Nat.lt_of_lt_of_le (bits_add ba bb).2 (Nat.pow_le_pow_right (by decide) (by omega))
    · rw [sub_parts] at h
      walk_at "kf"
      exact qq _ _ (k.trans k2) h
theorem ok_rmul (F : FunD K "__mul__" "Ratio.__mul__" (defArgs s_Ratio_mul) (defBody s_Ratio_mul) (defScope s_Ratio_mul) [] [] f fd) (FY : Fy K mg) (CO : Callee P w K mg base 4 "other_of" ["value"] (spOther K)) (CR : RatC P w K mg base) :
    FnOk P w K mg base CX0 5 f fd ["self", "other"] (spBin K (· * ·)) := by
  refine F.ok scRmul (fun vs H Q E h => ?_) (fun cdv A outer s H vs Q E hr h => ?_)
  · obtain ⟨x, y, p, q, a, b, rfl, _⟩ := h
    rfl
  · obtain ⟨x, y, p, q, a, b, rfl, hx, hy, ba, bb, l, qq⟩ := h
    have cl := (inspB_ok FY.all.2.1.1).cls
    have nt := noB_ok FY.all.2.1.2.2.1 "top" (by decide +kernel)
    have nb := noB_ok FY.all.2.1.2.2.1 "bottom" (by decide +kernel)
    obtain ⟨m1, m2, m3, m4⟩ := bits_mul ba bb l
    refine ⟨_, PSs.nox (pss_cons (ps_set (i := 2) scRmul.nd rfl (Or.inl rfl) (KX.pe_c CO hr (by decide) rfl (pa_cons (pv 1) pa_nil)))
  (pss_one (ps_ret (pe_rat2 CR FY hr (by decide) rfl (pa_cons (pe_op op_mulW (pe_fld (pv 0) rfl) (pe_fld (pv 2) rfl)) (pa_cons (pe_op op_mulW (pe_fld (pv 0) rfl) (pe_fld (pv 2) rfl)) pa_nil)))))), ?_⟩
    walk_at "kf"
    refine ⟨y, q, rfl, hy, fun v H' k hv => ?_⟩
    obtain ⟨xa, xd, rfl, hx⟩ := hx.mono k
    obtain ⟨va, vd, rfl, hv⟩ := hv
    walk_at "kf"
    refine rd_rat ?_
    walk_at "kf"
    refine ⟨_, _, rfl, ?_, ?_, fun v H2 k2 h => ?_⟩
    · have := p.den_nz
      have := q.den_nz
      exact Int.mul_ne_zero (by omega) (by omega)
    · exact Nat.lt_of_lt_of_le (bits_add ba bb).2 (Nat.pow_le_pow_right (by decide) (by omega))
    · rw [mul_parts] at h
      walk_at "kf"
      exact qq _ _ (k.trans k2) h
theorem ok_rneg (F : FunD K "__neg__" "Ratio.__neg__" (defArgs s_Ratio_neg) (defBody s_Ratio_neg) (defScope s_Ratio_neg) [] [] f fd) (FY : Fy K mg) (CR : RatC P w K mg base) :
    FnOk P w K mg base CX0 4 f fd ["self"] (spNegR K) := by
  refine F.ok scRneg (fun vs H Q E h => ?_) (fun cdv A outer s H vs Q E hr h => ?_)
  · obtain ⟨x, p, rfl, _⟩ := h
    rfl
  · obtain ⟨x, p, rfl, hx, ba, qq⟩ := h
    have cl := (inspB_ok FY.all.2.1.1).cls
    have nt := noB_ok FY.all.2.1.2.2.1 "top" (by decide +kernel)
    have nb := noB_ok FY.all.2.1.2.2.1 "bottom" (by decide +kernel)
    obtain ⟨xa, xd, rfl, hx⟩ := hx
    refine ⟨_, PSs.nox (pss_one (ps_ret (pe_rat2 CR FY hr (by decide) rfl (pa_cons (pe_un un_neg (pe_fld (pv 0) rfl)) (pa_cons (pe_fld (pv 0) rfl) pa_nil))))), ?_⟩
    walk_at "kf"
    refine rd_rat ?_
    walk_at "kf"
    refine ⟨_, _, rfl, den_ne p, ?_, fun v H2 k2 h => ?_⟩
    · rw [Int.natAbs_natCast]
      exact Nat.lt_of_lt_of_le ba.den (Nat.pow_le_pow_right (by decide) (by omega))
    · rw [neg_parts] at h
      walk_at "kf"
      exact qq _ _ k2 h
theorem ok_rof (F : FunD K "of" "Ratio.of" (defArgs s_Ratio_of) (defBody s_Ratio_of) (defScope s_Ratio_of) [] [] f fd) (FY : Fy K mg) (CI : Callee P w K mg base 1 "is_integer" ["value"] (spInt K)) (CR : RatC P w K mg base) :
    FnOk P w K mg base CX0 4 f fd ["value"] (spOther K) := by
  refine F.ok scRof (fun vs H Q E h => ?_) (fun cdv A outer s H vs Q E hr h => ?_)
  · obtain ⟨v, q, rfl, _⟩ := h
    rfl
  · obtain ⟨v, r, rfl, hv, q⟩ := h
    refine ⟨_, PSs.nox (pss_cons (ps_if (pt_val (pe_callB call_isi (by rfl) (FY.free "isinstance" (by decide +kernel)) (by decide +kernel) (pa_cons (pv 0) (pa_cons (pe_glob (v := .ref (He.ga K "Ratio")) rfl (FY.glo "Ratio" (by decide +kernel)) rfl) pa_nil)))) (pss_one (ps_ret (pv 0))) pss_nil)
  (pss_cons (ps_if (pt_val (KX.pe_c CI hr (by decide) rfl (pa_cons (pv 0) pa_nil))) (pss_one (ps_ret (pe_rat1 CR FY hr (by decide) rfl (pa_cons (pv 0) pa_nil)))) pss_nil)
  (pss_one ps_never))), ?_⟩
    walk_at "kf"
    refine rd_isR FY hv (fun h => ?_) (fun i e1 e2 => ?_)
    · walk_at "kf"
      exact q _ _ (Same.refl H) h
    · subst e1 e2
      walk_at "kf"
      refine ⟨.int i, .type "int", rfl, .base (.int i), .ty (by decide +kernel), ?_⟩
      walk_at "kf"
      refine rd_rat ?_
      walk_at "kf"
      refine ⟨i, 1, rfl, by decide, by decide, fun v H' k h => ?_⟩
      rw [int_parts] at h
      walk_at "kf"
      exact q _ _ k h
theorem ok_isratio (F : FunD K "is_ratio" "is_ratio" (defArgs s_is_ratio) (defBody s_is_ratio) (defScope s_is_ratio) [] [] f fd) (FY : Fy K mg) (CI : Callee P w K mg base 1 "is_integer" ["value"] (spInt K)) :
    FnOk P w K mg base CX0 2 f fd ["value"] (spIsRat K) := by
  refine F.ok scIsR (fun vs H Q E h => ?_) (fun cdv A outer s H vs Q E hr h => ?_)
  · obtain ⟨v, q, rfl, _⟩ := h
    rfl
  · obtain ⟨v, r, rfl, hv, q⟩ := h
    refine ⟨_, PSs.nox (pss_one (ps_ret (pe_or (pe_callB call_isi (by rfl) (FY.free "isinstance" (by decide +kernel)) (by decide +kernel) (pa_cons (pv 0) (pa_cons (pe_glob (v := .ref (He.ga K "Ratio")) rfl (FY.glo "Ratio" (by decide +kernel)) rfl) pa_nil))) (pe_one (KX.pe_c CI hr (by decide) rfl (pa_cons (pv 0) pa_nil)))))), ?_⟩
    walk_at "kf"
    refine rd_isR FY hv (fun h => ?_) (fun i e1 e2 => ?_)
    · walk_at "kf"
      exact q
    · subst e1 e2
      walk_at "kf"
      refine ⟨.int i, .type "int", rfl, .base (.int i), .ty (by decide +kernel), ?_⟩
      walk_at "kf"
      exact q
/-- what __eq__ says of a ratio and a ratio or an integer -/
theorem eq_rat (p q : Rat) : (decide (p.num = q.num) && decide (p.den = q.den)) = decide (p = q) := by
  by_cases h : p = q
  · subst h
    simp
  · rw [decide_eq_false h]
    by_cases h1 : p.num = q.num
    · by_cases h2 : p.den = q.den
      · exact absurd (Rat.ext h1 h2) h
      · rw [decide_eq_false h2, Bool.and_false]
    · rw [decide_eq_false h1, Bool.false_and]
theorem ok_req (F : FunD K "__eq__" "Ratio.__eq__" (defArgs s_Ratio_eq) (defBody s_Ratio_eq) (defScope s_Ratio_eq) [] [] f fd) (FY : Fy K mg) (CI : Callee P w K mg base 1 "is_integer" ["value"] (spInt K)) :
    FnOk P w K mg base CX0 2 f fd ["self", "other"] (spEqOf (DRat K)) := by
  refine F.ok scReq (fun vs H Q E h => ?_) (fun cdv A outer s H vs Q E hr h => ?_)
  · obtain ⟨x, y, b, rfl, _⟩ := h
    rfl
  · obtain ⟨x, y, b, rfl, ⟨p, r, hx, hy, rfl⟩, qq⟩ := h
    have cl := (inspB_ok FY.all.2.1.1).cls
    have nt := noB_ok FY.all.2.1.2.2.1 "top" (by decide +kernel)
    have nb := noB_ok FY.all.2.1.2.2.1 "bottom" (by decide +kernel)
    have fin := qq H Ext.rfl'
    refine ⟨_, PSs.nox (pss_cons (ps_if (pt_val (pe_callB call_isi (by rfl) (FY.free "isinstance" (by decide +kernel)) (by decide +kernel) (pa_cons (pv 1) (pa_cons (pe_glob (v := .ref (He.ga K "Ratio")) rfl (FY.glo "Ratio" (by decide +kernel)) rfl) pa_nil)))) (pss_one (ps_ret (pe_and (pe_cmpR op_eq (pe_fld (pv 0) rfl) (pe_fld (pv 1) rfl) (nomark _)) (pe_one (pe_cmpR op_eq (pe_fld (pv 0) rfl) (pe_fld (pv 1) rfl) (nomark _)))))) pss_nil)
  (pss_one (ps_ret (pe_and (KX.pe_c CI hr (by decide) rfl (pa_cons (pv 1) pa_nil)) (pe_and (pe_cmpR op_eq (pe_fld (pv 0) rfl) pe_int (nomark _)) (pe_one (pe_cmpR op_eq (pe_fld (pv 0) rfl) (pv 1) (nomark _)))))))), ?_⟩
    walk_at "kf"
    refine rd_isR FY hy (fun h => ?_) (fun i e1 e2 => ?_)
    · obtain ⟨xa, xd, rfl, hx⟩ := hx
      obtain ⟨ya, yd, rfl, hy2⟩ := h
      walk_at "kf"
      refine ite2 (fun e => ?_) (fun e => ?_)
      · have e1 : p.num = r.num := by simpa using e
        have e2 : decide (V.int (p.den : Int) = V.int (r.den : Int)) = decide (p = r) := by
          rw [← eq_rat, decide_eq_true e1, Bool.true_and]
          exact decide_eq_decide.mpr ⟨fun z => by injection z with z; omega, fun z => by rw [z]⟩
        walk_at "kf"
        rw [e2]
        exact fin
      · have e1 : ¬ p.num = r.num := by simpa using e
        have e2 : false = decide (p = r) := by
          rw [← eq_rat, decide_eq_false e1, Bool.false_and]
        walk_at "kf"
        rw [e2]
        exact fin
    · obtain ⟨xa, xd, rfl, hx⟩ := hx
      subst e1 e2
      walk_at "kf"
      refine ⟨.int i, .type "int", rfl, .base (.int i), .ty (by decide +kernel), ?_⟩
      walk_at "kf"
      refine ite2 (fun e => ?_) (fun e => ?_)
      · have e1 : p.den = 1 := by
          have : (p.den : Int) = 1 := by simpa using e
          omega
        have e2 : decide (V.int p.num = V.int i) = decide (p = (i : Rat)) := by
          rw [← eq_rat, Rat.num_intCast, Rat.den_intCast, decide_eq_true e1, Bool.and_true]
          exact decide_eq_decide.mpr (by simp)
        walk_at "kf"
        rw [e2]
        exact fin
      · have e1 : ¬ p.den = 1 := by
          intro z
          exact e (by simp [z])
        have e2 : false = decide (p = (i : Rat)) := by
          rw [← eq_rat, Rat.num_intCast, Rat.den_intCast, decide_eq_false e1, Bool.and_false]
        walk_at "kf"
        rw [e2]
        exact fin
end

end K5
namespace K5
open PySem PySem.Spec PyProof.Rows L2 KY PySem.W
local macro_rules | `(tactic| walk_at "kx1") => `(tactic| with_reducible first
  | refine KX.rd_seq ?_ | refine KX.rd_asg ?_ | refine KX.rd_op ?_ | refine KX.rd_c ?_ | refine KX.rd_cb ?_ | refine KX.rd_cons ?_ | refine KX.rd_nil ?_ | refine KX.rd_un ?_ | refine KX.rd_nx ?_ | refine KX.rd_rt ?_ | refine KX.rd_next ?_ | refine KX.rd_ret ?_
  | refine KX.rd_ifs ?_ | refine KX.rd_if ?_ | refine KX.rd_test ?_ | refine KX.rd_B ?_ | refine KX.rd_bl ?_ | refine KX.rd_and ?_ | refine KX.rd_or ?_ | refine KX.rd_not ?_ | refine KX.rd_I0 ?_ | refine KX.rd_U ?_ | refine KX.rd_int ?_ | refine KX.rd_intB ?_ | refine KX.rd_abs ?_
  | refine KX.rd_gname ?_ | refine KX.rd_gsub ?_ | refine KX.rd_call ?_ | refine KX.rd_drop ?_ | refine KX.rd_yes ?_ | refine KX.rd_andV ?_ | refine KX.rd_orV ?_ | refine KX.rd_notV ?_)
local macro_rules | `(tactic| walk_at "hp") => `(tactic| first
  | assumption
  | exact upd_same
  | (refine Eq.trans (upd_ne (by assumption)) ?_; walk_at "hp")
  | (refine Eq.trans (upd_ne (Ne.symm (by assumption))) ?_; walk_at "hp"))
local macro_rules | `(tactic| walk_at "kx2") => `(tactic| first
  | walk_at "kx1"
  | ((with_reducible refine KX.rd_T ?e ?_); (case e => rfl))
  | ((with_reducible refine KX.rd_F ?e ?_); (case e => rfl))
  | ((with_reducible refine' KX.rd_var ?e ?_); (case e => rfl))
  | ((with_reducible refine' KX.rd_I ?e ?_); (case e => first | assumption | decide | exact Or.inl ⟨by omega, by omega⟩ | exact ⟨by decide, by decide, by decide⟩ | exact ⟨by decide, by decide⟩))
  | ((with_reducible refine' KX.rd_eq ?e ?_); (case e => rfl))
  | ((with_reducible refine' KX.rd_ne ?e ?_); (case e => rfl))
  | ((with_reducible refine' KX.rd_ix ?e ?e2 ?_); (case e => first | assumption | exact SqL.of (by walk_at "hp")); (case e2 => first | assumption | rfl))
  | ((with_reducible refine' KX.rd_len ?e ?_); (case e => first | assumption | exact SqL.of (by walk_at "hp")))
  | ((with_reducible refine' KX.rd_set ?e ?e2 ?_); (case e => walk_at "hp"); (case e2 => rfl)))
local macro_rules | `(tactic| walk_at "kx") => `(tactic| repeat walk_at "kx2")
/-! f-strings -/
def rJs (ts : List TE) (acc : Str) (σ : L2.St) (x : V) (H : Hp) (Q : Str → Hp → Prop) : Prop := ∃ y : Str, x = .str y ∧ (acc ++ y).length ≤ sizeLine ∧ tJs ts (acc ++ y) σ H Q
def rFm (x : V) (H : Hp) (Q : VK) : Prop := (∃ y : Str, x = .str y ∧ y.length ≤ sizeLine ∧ Q (.str y) H) ∨ ∃ i : Int, x = .int i ∧ i.natAbs.log2 < 1920 ∧ Q (.str (Str.ofString (toString i))) H
section
variable {σ : L2.St} {H : Hp} {Q : Str → Hp → Prop} {R : VK} {acc y : Str} {t : TE} {ts : List TE} {i : Int}
theorem rd_js_nil (q : Q acc H) : tJs [] acc σ H Q := q
theorem rd_js_cons (q : t σ H fun x H1 => rJs ts acc σ x H1 Q) : tJs (t :: ts) acc σ H Q := q
theorem rd_rjs (l : (acc ++ y).length ≤ sizeLine) (q : tJs ts (acc ++ y) σ H Q) : rJs ts acc σ (.str y) H Q := ⟨y, rfl, l, q⟩
theorem rd_fmt (q : t σ H fun x H1 => rFm x H1 R) : tFmt t σ H R := q
theorem rd_fmI (l : i.natAbs.log2 < 1920) (q : R (.str (Str.ofString (toString i))) H) : rFm (.int i) H R := .inr ⟨i, rfl, l, q⟩
theorem rd_fmS (l : y.length ≤ sizeLine) (q : R (.str y) H) : rFm (.str y) H R := .inl ⟨y, rfl, l, q⟩
end
local macro_rules | `(tactic| walk_at "kx3") => `(tactic| first
  | walk_at "kx2"
  | (with_reducible refine rd_fld2 ?_)
  | ((with_reducible refine' rd_get ?e ?c ?n ?l ?_); (case e => assumption); (case c => assumption); (case n => assumption); (case l => rfl))
  | ((with_reducible refine' rd_mulw ?e ?_); (case e => assumption)))
local macro_rules | `(tactic| walk_at "kx4") => `(tactic| with_reducible first
  | refine rd_js_cons ?_ | refine rd_js_nil ?_ | refine rd_fmt ?_)
local macro_rules | `(tactic| walk_at "kf") => `(tactic| repeat (first | walk_at "kx3" | walk_at "kx4"))
/-- a number's text; a ratio's -/
def numT (i : Int) : Str := Str.ofString (toString i)
def ratT (q : Rat) : Str := if q.den = 1 then numT q.num else Str.empty ++ numT q.num ++ "/" ++ numT q.den
theorem numT_len {i : Int} (h : i.natAbs.log2 < 1920) : (numT i).length ≤ 1921 := by
  unfold numT
  rw [PySem.ofString_length]
  exact int_text_length_le (by decide) h
theorem log_of {i : Int} {n : Nat} (h : i.natAbs < 2 ^ n) (hn : n ≤ 1900) : i.natAbs.log2 < 1920 := by
  by_cases z : i.natAbs = 0
  · rw [z]
    decide
  · exact Nat.lt_of_lt_of_le ((Nat.log2_lt z).mpr h) (by omega)
def spRStr (K : PySem.W.Frag) : Sp := fun vs H Q _ => ∃ x q, vs = [x] ∧ IsRat (cR K) H x q ∧ Bits 1900 q ∧ Q (.str (ratT q)) H
section
variable {P : Program} {w : World} {K : PySem.W.Frag} {mg : Str → Option Value} {base : Heap} {f : Addr} {fd : FuncData} {H : Hp} {Q : VK} {σ : L2.St} {x : V} {t : Value}
theorem ok_rstr (F : FunD K "__str__" "Ratio.__str__" (defArgs s_Ratio_str) (defBody s_Ratio_str) (defScope s_Ratio_str) [] [] f fd) (FY : Fy K mg) : FnOk P w K mg base CX0 1 f fd ["self"] (spRStr K) := by
  refine F.ok scRstr (fun vs H Q E h => ?_) (fun cdv A outer s H vs Q E hr h => ?_)
  · obtain ⟨x, q, rfl, _⟩ := h
    rfl
  · obtain ⟨x, p, rfl, hx, bb, qq⟩ := h
    have cl := (inspB_ok FY.all.2.1.1).cls
    have nt := noB_ok FY.all.2.1.2.2.1 "top" (by decide +kernel)
    have nb := noB_ok FY.all.2.1.2.2.1 "bottom" (by decide +kernel)
    have l1 := log_of bb.num (by decide)
    have l2 : (p.den : Int).natAbs.log2 < 1920 := log_of (by rw [Int.natAbs_natCast]; exact bb.den) (by decide)
    have t1 := numT_len l1
    have t2 := numT_len l2
    obtain ⟨xa, xd, rfl, hx⟩ := hx
    refine ⟨_, PSs.nox (pss_cons (ps_if (pt_cmpR op_eq (pe_fld (pv 0) rfl) pe_int (nomark _)) (pss_one (ps_ret (pe_callTy call_str_int (by rfl) (FY.free "str" (by decide +kernel)) (by decide +kernel) (pa_cons (pe_fld (pv 0) rfl) pa_nil)))) pss_nil)
  (pss_one (ps_ret (pe_joined (PJ.cons (pe_fmt (pe_fld (pv 0) rfl)) (PJ.cons pe_str (PJ.cons (pe_fmt (pe_fld (pv 0) rfl)) PJ.nil))))))), ?_⟩
    walk_at "kf"
    refine ite2 (fun e => ?_) (fun e => ?_)
    · have e1 : p.den = 1 := by
        have : (p.den : Int) = 1 := by simpa using e
        omega
      walk_at "kf"
      refine ⟨p.num, rfl, l1, ?_⟩
      walk_at "kf"
      unfold ratT at qq
      rw [if_pos e1] at qq
      exact qq
    · have e1 : ¬ p.den = 1 := by
        intro z
        exact e (by simp [z])
      unfold ratT at qq
      rw [if_neg e1] at qq
      have e0 : (Str.empty).length = 0 := rfl
      have e3 : (Str.ofString "/").length = 1 := by decide +kernel
      have z3 : (Str.empty ++ numT p.num ++ "/" ++ numT p.den).length ≤ sizeLine := by
        refine Nat.le_trans ?_ (show 100000 ≤ sizeLine by decide)
        simp only [Str.length_append, e0, e3]
        omega
      have z2 : (Str.empty ++ numT p.num ++ "/").length ≤ sizeLine := by
        refine Nat.le_trans ?_ (show 100000 ≤ sizeLine by decide)
        simp only [Str.length_append, e0, e3]
        omega
      have z1 : (Str.empty ++ numT p.num).length ≤ sizeLine := by
        refine Nat.le_trans ?_ (show 100000 ≤ sizeLine by decide)
        simp only [Str.length_append, e0]
        omega
      walk_at "kf"
      refine rd_fmI l1 ?_
      refine rd_rjs ?_ ?_
      · exact z1
      walk_at "kf"
      refine rd_rjs ?_ ?_
      · exact z2
      walk_at "kf"
      refine rd_fmI l2 ?_
      refine rd_rjs ?_ ?_
      · exact z3
      walk_at "kf"
      exact qq
end

end K5
namespace K5
open PySem PySem.Spec PyProof.Rows L2 KY PySem.W
local macro_rules | `(tactic| walk_at "kx1") => `(tactic| with_reducible first
  | refine KX.rd_seq ?_ | refine KX.rd_asg ?_ | refine KX.rd_op ?_ | refine KX.rd_c ?_ | refine KX.rd_cb ?_ | refine KX.rd_cons ?_ | refine KX.rd_nil ?_ | refine KX.rd_un ?_ | refine KX.rd_nx ?_ | refine KX.rd_rt ?_ | refine KX.rd_next ?_ | refine KX.rd_ret ?_
  | refine KX.rd_ifs ?_ | refine KX.rd_if ?_ | refine KX.rd_test ?_ | refine KX.rd_B ?_ | refine KX.rd_bl ?_ | refine KX.rd_and ?_ | refine KX.rd_or ?_ | refine KX.rd_not ?_ | refine KX.rd_I0 ?_ | refine KX.rd_U ?_ | refine KX.rd_int ?_ | refine KX.rd_intB ?_ | refine KX.rd_abs ?_
  | refine KX.rd_gname ?_ | refine KX.rd_gsub ?_ | refine KX.rd_call ?_ | refine KX.rd_drop ?_ | refine KX.rd_yes ?_ | refine KX.rd_andV ?_ | refine KX.rd_orV ?_ | refine KX.rd_notV ?_)
local macro_rules | `(tactic| walk_at "hp") => `(tactic| first
  | assumption
  | exact upd_same
  | (refine Eq.trans (upd_ne (by assumption)) ?_; walk_at "hp")
  | (refine Eq.trans (upd_ne (Ne.symm (by assumption))) ?_; walk_at "hp"))
local macro_rules | `(tactic| walk_at "kx2") => `(tactic| first
  | walk_at "kx1"
  | ((with_reducible refine KX.rd_T ?e ?_); (case e => rfl))
  | ((with_reducible refine KX.rd_F ?e ?_); (case e => rfl))
  | ((with_reducible refine' KX.rd_var ?e ?_); (case e => rfl))
  | ((with_reducible refine' KX.rd_I ?e ?_); (case e => first | assumption | decide | exact Or.inl ⟨by omega, by omega⟩ | exact ⟨by decide, by decide, by decide⟩ | exact ⟨by decide, by decide⟩))
  | ((with_reducible refine' KX.rd_eq ?e ?_); (case e => rfl))
  | ((with_reducible refine' KX.rd_ne ?e ?_); (case e => rfl))
  | ((with_reducible refine' KX.rd_ix ?e ?e2 ?_); (case e => first | assumption | exact SqL.of (by walk_at "hp")); (case e2 => first | assumption | rfl))
  | ((with_reducible refine' KX.rd_len ?e ?_); (case e => first | assumption | exact SqL.of (by walk_at "hp")))
  | ((with_reducible refine' KX.rd_set ?e ?e2 ?_); (case e => walk_at "hp"); (case e2 => rfl)))
local macro_rules | `(tactic| walk_at "kx") => `(tactic| repeat walk_at "kx2")
local macro_rules | `(tactic| walk_at "kx3") => `(tactic| first
  | walk_at "kx2"
  | (with_reducible refine rd_fld2 ?_)
  | ((with_reducible refine' rd_get ?e ?c ?n ?l ?_); (case e => assumption); (case c => assumption); (case n => assumption); (case l => rfl))
  | ((with_reducible refine' rd_mulw ?e ?_); (case e => assumption)))
local macro_rules | `(tactic| walk_at "kx4") => `(tactic| with_reducible first
  | refine rd_js_cons ?_ | refine rd_js_nil ?_ | refine rd_fmt ?_)
local macro_rules | `(tactic| walk_at "kf") => `(tactic| repeat (first | walk_at "kx3" | walk_at "kx4"))
abbrev nmscIsN : List Str := ["value", "sign"]
theorem scIsN : FnScope nmscIsN ["value"] (defScope s_is_name) := ⟨rfl, rfl, rfl, by decide +kernel, rfl, by decide +kernel, by decide +kernel⟩
theorem scIsL : FnScope ["value"] ["value"] (defScope s_is_list) := ⟨rfl, rfl, rfl, by decide +kernel, rfl, by decide +kernel, by decide +kernel⟩
def smallT : Str := "abcdefghijklmnopqrstuvwxyz"
def digitT : Str := "0123456789"
/-- a good name -/
structure NameOk (z : Str) : Prop where
  one : 1 ≤ z.length
  most : z.length ≤ 12
  first : ∃ c, z.cps.toList[0]? = some c ∧ c ∈ smallT.cps.toList
  all : ∀ c ∈ z.cps.toList, c ∈ smallT.cps.toList ∨ c ∈ digitT.cps.toList
instance (z : Str) : Decidable (NameOk z) := decidable_of_iff (1 ≤ z.length ∧ z.length ≤ 12 ∧ (z.cps.toList[0]?.any fun c => decide (c ∈ smallT.cps.toList)) = true ∧ ∀ c ∈ z.cps.toList, c ∈ smallT.cps.toList ∨ c ∈ digitT.cps.toList)
  ⟨fun ⟨a, b, c, d⟩ => ⟨a, b, by
    cases e : z.cps.toList[0]? with
    | none =>
      rw [e] at c
      cases c
    | some k =>
      rw [e] at c
      exact ⟨k, rfl, of_decide_eq_true c⟩, d⟩, fun ⟨a, b, ⟨k, e, hk⟩, d⟩ => ⟨a, b, by
    rw [e]
    exact decide_eq_true hk, d⟩⟩
theorem lc_str {x : Str} {g : TG} {tt : TT} {te : TE} {vs : List Nat} {σ : L2.St} {H1 : Hp} {D : Addr} {Qd : Hp → Prop} (Pv : Nat → Hp → Prop) (h0 : Pv 0 (upd H1 D (.lst [])))
    (hs : ∀ i c H, x.cps[i]? = some c → Pv i H → g (.str ⟨#[c]⟩) (wipe σ vs) H fun σ2 H2 => wipe σ2 vs = wipe σ vs ∧ tt σ2 H2 fun b H3 =>
      if b = true then te σ2 H3 fun y H4 => ∃ acc, H4 D = some (.lst acc) ∧ acc.length < sizeLine ∧ Pv (i + 1) (upd H4 D (.lst (acc ++ [y]))) else Pv (i + 1) H3) (hd : ∀ H, Pv x.cps.size H → Qd H) :
    ∃ W : Nat → Nat → Hp → Prop, (∃ m, W 0 m (upd H1 D (.lst []))) ∧ ∀ i m H, W i m H →
      ((Its x).stop i H ∧ Qd H) ∨ ((Its x).go i H ∧ ∃ Nx : Hp → Prop, (∀ H', Nx H' → ∃ m', m' < m ∧ W (i + 1) m' H') ∧ ∀ v H', (Its x).yld i H v H' → g v (wipe σ vs) H' fun σ2 H2 => wipe σ2 vs = wipe σ vs ∧ tt σ2 H2 fun b H3 =>
        if b = true then te σ2 H3 fun y H4 => ∃ acc, H4 D = some (.lst acc) ∧ acc.length < sizeLine ∧ Nx (upd H4 D (.lst (acc ++ [y]))) else Nx H3) := by
  refine ⟨fun i m H => i + m = x.cps.size ∧ Pv i H, ⟨x.cps.size, by omega, h0⟩, ?_⟩
  rintro i m H ⟨e, p⟩
  by_cases hlt : i < x.cps.size
  · refine .inr ⟨hlt, Pv (i + 1), fun H' p' => ⟨m - 1, by omega, by omega, p'⟩, fun v H' y => ?_⟩
    obtain ⟨rfl, c, hc, rfl⟩ := y
    exact hs i c _ hc p
  · have e2 : i = x.cps.size := by omega
    subst e2
    exact .inl ⟨Nat.le_refl _, hd H p⟩
theorem rd_chain {r r' : R2} {ta tb tc : TE} {σ : L2.St} {H : Hp} {Q : VK} (q : ta σ H fun x H1 => tb σ H1 fun y H2 => r x y H2 fun z H3 => ∃ k, z = .bl k ∧ (if k = true then tc σ H3 fun w' H4 => r' y w' H4 Q else Q (.bl false) H3)) : tChain r r' ta tb tc σ H Q := q
def spName : Sp := fun vs H Q _ => ∃ z : Str, vs = [.str z] ∧ NameOk z ∧ ∀ H', Same H H' → Q (.bl true) H'
def spIsL (K : PySem.W.Frag) : Sp := fun vs H Q _ => ∃ x t, vs = [x] ∧ TyX K H x t ∧ Kd K t ∧ ∀ H', Same H H' → Q (.bl (t == .type "list" || t == .type "tuple")) H'
section
variable {P : Program} {w : World} {K : PySem.W.Frag} {mg : Str → Option Value} {base : Heap} {f : Addr} {fd : FuncData} {H : Hp} {Q : VK} {σ : L2.St} {x : V} {t : Value}
theorem ok_name (F : FunD K "is_name" "is_name" (defArgs s_is_name) (defBody s_is_name) (defScope s_is_name) [] [] f fd) (FY : Fy K mg) : FnOk P w K mg base CX0 1 f fd ["value"] spName := by
  refine F.ok scIsN (fun vs H Q E h => ?_) (fun cdv A outer s H vs Q E hr h => ?_)
  · obtain ⟨z, rfl, _⟩ := h
    rfl
  · obtain ⟨z, rfl, N, qq⟩ := h
    obtain ⟨_, hbig⟩ := FY.most
    obtain ⟨_, hsmall⟩ := FY.small
    obtain ⟨_, hdig⟩ := FY.digits
    have n1 := N.one
    have n2 := N.most
    refine ⟨_, PSs.nox (pss_cons (ps_if (PW.pt (pw_or (pt_not (pt_val (pe_callB call_isi (by rfl) (FY.free "isinstance" (by decide +kernel)) (by decide +kernel) (pa_cons (pv 0) (pa_cons (pe_bltn (v := .ty "str") (by rfl) (FY.free "str" (by decide +kernel)) (by decide +kernel) rfl) pa_nil))))) (pw_or1 (pt_not (pt_chain op_le op_le pe_int (pe_callB call_len_str (by rfl) (FY.free "len" (by decide +kernel)) (by decide +kernel) (pa_cons (pv 0) pa_nil)) (pe_glob (v := .int 12) rfl hbig ⟨_, rfl⟩)))))) (pss_one (ps_ret pe_bl)) pss_nil)
  (pss_one (ps_ret (pe_and (pe_cmpR op_in_sign (pe_ix ix_str (pv 0) pe_int (fun _ _ => rfl)) (pe_glob (v := .str smallT) rfl hsmall ⟨_, rfl⟩) (by rfl)) (pe_one (pe_callB (cr_all rfl) (by rfl) (FY.free "all" (by decide +kernel)) (by decide +kernel) (pa_cons (pe_lc (own := [("sign", 1)]) (g := gName 1) (tt := tYes) rfl scIsN.nd (pi_str (pv 0)) (blkOk_by (N := nmscIsN) (sc := defScope s_is_name) (by decide +kernel)) (fun _ _ _ _ _ => pg_name (i := 1) scIsN.nd rfl (Or.inl rfl)) (fun _ _ _ _ _ => pts_nil) (fun _ _ _ _ _ => (pe_or (pe_cmpR op_in_sign (pv 1) (pe_glob (v := .str smallT) rfl hsmall ⟨_, rfl⟩) (by rfl)) (pe_one (pe_cmpR op_in_sign (pv 1) (pe_glob (v := .str digitT) rfl hdig ⟨_, rfl⟩) (by rfl)))))) pa_nil))))))), ?_⟩
    walk_at "kf"
    refine rd_isi FY (.base (.str z)) (.ty (by decide +kernel)) (by decide +kernel) ?_
    walk_at "kf"
    have le : z.length ≤ sizeLine := Nat.le_trans n2 (by decide)
    refine rd_chain ?_
    walk_at "kf"
    refine ⟨z, rfl, le, ?_⟩
    walk_at "kf"
    refine KX.rd_T (decide_eq_true (by omega)) ?_
    walk_at "kf"
    refine KX.rd_F (by rw [decide_eq_true (by omega)]; rfl) ?_
    obtain ⟨c, hc, hc2⟩ := N.first
    walk_at "kf"
    refine ⟨z, 0, c, rfl, rfl, le, atI_nat (j := 0) hc, ?_⟩
    walk_at "kf"
    refine ⟨c, smallT, rfl, rfl, ?_⟩
    walk_at "kf"
    refine KX.rd_T (decide_eq_true hc2) ?_
    walk_at "kf"
    refine ⟨.str z, rfl, z, rfl, fun D hD => lc_str (fun j H2 => KX.But D H H2 ∧ H2 D = some (.lst ((List.replicate j true).map V.bl))) ⟨KX.But.new KX.But.refl hD, upd_same⟩ (fun j c H2 hj hp => ?_) (fun H2 hp => ?_)⟩
    · obtain ⟨hb, hd⟩ := hp
      have hlt : j < z.length := (Array.getElem?_eq_some_iff.mp hj).1
      have hm : c ∈ z.cps.toList := by
        rw [Array.mem_toList_iff]
        exact Array.mem_of_getElem? hj
      have fin : ∀ H4, H4 = H2 → ∃ acc, H4 D = some (.lst acc) ∧ acc.length < sizeLine ∧ (KX.But D H (upd H4 D (.lst (acc ++ [V.bl true]))) ∧ (upd H4 D (.lst (acc ++ [V.bl true]))) D = some (.lst ((List.replicate (j + 1) true).map V.bl))) := by
        intro H4 e
        subst e
        refine ⟨_, hd, ?_, hb.upd, ?_⟩
        · rw [List.length_map, List.length_replicate]
          exact Nat.lt_of_lt_of_le (show j < 12 by omega) (by decide)
        · rw [upd_same, List.replicate_succ', List.map_append]
          rfl
      refine ⟨rfl, ?_⟩
      walk_at "kf"
      refine ⟨c, smallT, rfl, rfl, ?_⟩
      walk_at "kf"
      refine ite2 (fun e => ?_) (fun e => ?_)
      · walk_at "kf"
        exact fin _ rfl
      · walk_at "kf"
        refine ⟨c, digitT, rfl, rfl, ?_⟩
        have e2 : c ∈ digitT.cps.toList := (N.all c hm).resolve_left fun z => e (decide_eq_true z)
        rw [decide_eq_true e2]
        walk_at "kf"
        exact fin _ rfl
    · obtain ⟨hb, hd⟩ := hp
      have kk : Same H H2 := fun b o z => hb b o (ne_of_none z hD) z
      walk_at "kf"
      refine ⟨D, List.replicate z.cps.size true, rfl, SqL.of hd, ?_⟩
      have e : (List.replicate z.cps.size true).all id = true := by
        rw [List.all_eq_true]
        intro b hb
        rw [(List.mem_replicate.mp hb).2]
        rfl
      rw [e]
      walk_at "kf"
      exact qq _ kk
end

end K5
namespace K5
open PySem PySem.Spec PyProof.Rows L2 KY PySem.W
local macro_rules | `(tactic| walk_at "kx1") => `(tactic| with_reducible first
  | refine KX.rd_seq ?_ | refine KX.rd_asg ?_ | refine KX.rd_op ?_ | refine KX.rd_c ?_ | refine KX.rd_cb ?_ | refine KX.rd_cons ?_ | refine KX.rd_nil ?_ | refine KX.rd_un ?_ | refine KX.rd_nx ?_ | refine KX.rd_rt ?_ | refine KX.rd_next ?_ | refine KX.rd_ret ?_
  | refine KX.rd_ifs ?_ | refine KX.rd_if ?_ | refine KX.rd_test ?_ | refine KX.rd_B ?_ | refine KX.rd_bl ?_ | refine KX.rd_and ?_ | refine KX.rd_or ?_ | refine KX.rd_not ?_ | refine KX.rd_I0 ?_ | refine KX.rd_U ?_ | refine KX.rd_int ?_ | refine KX.rd_intB ?_ | refine KX.rd_abs ?_
  | refine KX.rd_gname ?_ | refine KX.rd_gsub ?_ | refine KX.rd_call ?_ | refine KX.rd_drop ?_ | refine KX.rd_yes ?_ | refine KX.rd_andV ?_ | refine KX.rd_orV ?_ | refine KX.rd_notV ?_)
local macro_rules | `(tactic| walk_at "hp") => `(tactic| first
  | assumption
  | exact upd_same
  | (refine Eq.trans (upd_ne (by assumption)) ?_; walk_at "hp")
  | (refine Eq.trans (upd_ne (Ne.symm (by assumption))) ?_; walk_at "hp"))
local macro_rules | `(tactic| walk_at "kx2") => `(tactic| first
  | walk_at "kx1"
  | ((with_reducible refine KX.rd_T ?e ?_); (case e => rfl))
  | ((with_reducible refine KX.rd_F ?e ?_); (case e => rfl))
  | ((with_reducible refine' KX.rd_var ?e ?_); (case e => rfl))
  | ((with_reducible refine' KX.rd_I ?e ?_); (case e => first | assumption | decide | exact Or.inl ⟨by omega, by omega⟩ | exact ⟨by decide, by decide, by decide⟩ | exact ⟨by decide, by decide⟩))
  | ((with_reducible refine' KX.rd_eq ?e ?_); (case e => rfl))
  | ((with_reducible refine' KX.rd_ne ?e ?_); (case e => rfl))
  | ((with_reducible refine' KX.rd_ix ?e ?e2 ?_); (case e => first | assumption | exact SqL.of (by walk_at "hp")); (case e2 => first | assumption | rfl))
  | ((with_reducible refine' KX.rd_len ?e ?_); (case e => first | assumption | exact SqL.of (by walk_at "hp")))
  | ((with_reducible refine' KX.rd_set ?e ?e2 ?_); (case e => walk_at "hp"); (case e2 => rfl)))
local macro_rules | `(tactic| walk_at "kx") => `(tactic| repeat walk_at "kx2")
local macro_rules | `(tactic| walk_at "kx3") => `(tactic| first
  | walk_at "kx2"
  | (with_reducible refine rd_fld2 ?_)
  | ((with_reducible refine' rd_get ?e ?c ?n ?l ?_); (case e => assumption); (case c => assumption); (case n => assumption); (case l => rfl))
  | ((with_reducible refine' rd_mulw ?e ?_); (case e => assumption)))
local macro_rules | `(tactic| walk_at "kx4") => `(tactic| with_reducible first
  | refine rd_js_cons ?_ | refine rd_js_nil ?_ | refine rd_fmt ?_)
local macro_rules | `(tactic| walk_at "kf") => `(tactic| repeat (first | walk_at "kx3" | walk_at "kx4"))
abbrev nmscAreN : List Str := ["value", "one"]
theorem scAreN : FnScope nmscAreN ["value"] (defScope s_are_names) := ⟨rfl, rfl, rfl, by decide +kernel, rfl, by decide +kernel, by decide +kernel⟩
theorem scNB : FnScope ["value", "part"] ["value", "part"] (defScope s_need_balance) := ⟨rfl, rfl, rfl, by decide +kernel, rfl, by decide +kernel, by decide +kernel⟩
theorem scTT : FnScope ["ratio", "thing"] ["ratio", "thing"] (defScope s_term_text) := ⟨rfl, rfl, rfl, by decide +kernel, rfl, by decide +kernel, by decide +kernel⟩
theorem pi_two {X : Cx} {tg l : Expr} {w1 w2 : TI} (h1 : PI X tg l w1) (h2 : PI X tg l w2) : PI X tg l (fun σ H R => w1 σ H R ∨ w2 σ H R) := ⟨fun pins s σ H R I h => h.elim (h1.run pins s σ H R I) (h2.run pins s σ H R I)⟩
/-- a list or tuple of good names -/
def spNames (K : PySem.W.Frag) : Sp := fun vs H Q _ => ∃ (p : Addr) (zs : List Str), vs = [.ref p] ∧ (H p = some (.lst (zs.map V.str)) ∨ H p = some (.tup (zs.map V.str))) ∧ (∀ z ∈ zs, NameOk z) ∧ zs.length ≤ 100 ∧ ∀ H', Same H H' → Q (.bl true) H'
section
variable {P : Program} {w : World} {K : PySem.W.Frag} {mg : Str → Option Value} {base : Heap} {f : Addr} {fd : FuncData} {H : Hp} {Q : VK} {σ : L2.St} {x : V} {t : Value}
theorem kit_lt (F : Fy K mg) {c : String} (hc : c ∈ kindsB) : kitAny K (.type c) [.type "list", .type "tuple"] = some (c == "list" || c == "tuple") := by
  have h := F.all.1
  unfold kitB at h
  simp only [Bool.and_eq_true, List.all_eq_true, decide_eq_true_eq] at h
  exact h.2.2.2.2.1 _ hc
def spList (K : PySem.W.Frag) : Sp := fun vs H Q _ => ∃ x t, vs = [x] ∧ TyX K H x (.type t) ∧ t ∈ kindsB ∧ ∀ H', Same H H' → Q (.bl (t == "list" || t == "tuple")) H'
theorem ok_isl (F : FunD K "is_list" "is_list" (defArgs s_is_list) (defBody s_is_list) (defScope s_is_list) [] [] f fd) (FY : Fy K mg) : FnOk P w K mg base CX0 1 f fd ["value"] (spList K) := by
  refine F.ok scIsL (fun vs H Q E h => ?_) (fun cdv A outer s H vs Q E hr h => ?_)
  · obtain ⟨z, t, rfl, _⟩ := h
    rfl
  · obtain ⟨x, t, rfl, ty, hk, qq⟩ := h
    refine ⟨_, PSs.nox (pss_one (ps_ret (pe_callB call_isiT (by rfl) (FY.free "isinstance" (by decide +kernel)) (by decide +kernel) (pa_cons (pv 0) (pa_cons (pe_tup (pa_cons (pe_bltn (v := .ty "list") (by rfl) (FY.free "list" (by decide +kernel)) (by decide +kernel) rfl) (pa_cons (pe_bltn (v := .ty "tuple") (by rfl) (FY.free "tuple" (by decide +kernel)) (by decide +kernel) rfl) pa_nil))) pa_nil))))), ?_⟩
    walk_at "kf"
    refine KX.rd_tup ?_
    walk_at "kf"
    refine ⟨(show (2 : Nat) ≤ sizeLine by decide), fun p hp => ?_⟩
    walk_at "kf"
    have ty2 : TyX K (upd H p (.tup [.ty "list", .ty "tuple"])) x (.type t) := ?ty
    · refine ⟨x, p, [.ty "list", .ty "tuple"], .type t, [.type "list", .type "tuple"], _, rfl, upd_same, .cons (.ty _) (.cons (.ty _) .nil), ty2, kit_lt FY hk, ?_⟩
      walk_at "kf"
      exact qq _ (fun b o z => by rw [upd_ne (ne_of_none z hp)]; exact z)
    case ty =>
      have k : Same H (upd H p (.tup [.ty "list", .ty "tuple"])) := fun b o z => by rw [upd_ne (ne_of_none z hp)]; exact z
      cases ty with
      | base b =>
        cases b with
        | non => exact .base .non
        | bl b => exact .base (.bl b)
        | int i => exact .base (.int i)
        | str z => exact .base (.str z)
        | flt z => exact .base (.flt z)
        | lst e => exact .base (.lst (k _ _ e))
        | frz e => exact .base (.frz (k _ _ e))
        | tup e => exact .base (.tup (k _ _ e))
        | dK e => exact .base (.dK (k _ _ e))
        | dT e => exact .base (.dT (k _ _ e))
      | byt b => exact .byt b
      | set e => exact .set (k _ _ e)
      | kList e c => exact .kList e c
      | kTuple e c => exact .kTuple e c
      | kDict e c => exact .kDict e c
      | fTuple e => exact .fTuple (k _ _ e)
      | fDict e => exact .fDict (k _ _ e)
theorem ok_names (F : FunD K "are_names" "are_names" (defArgs s_are_names) (defBody s_are_names) (defScope s_are_names) [] [] f fd) (FY : Fy K mg) (CL : Callee P w K mg base 1 "is_list" ["value"] (spList K)) (CN : Callee P w K mg base 1 "is_name" ["value"] spName) :
    FnOk P w K mg base CX0 2 f fd ["value"] (spNames K) := by
  refine F.ok scAreN (fun vs H Q E h => ?_) (fun cdv A outer s H vs Q E hr h => ?_)
  · obtain ⟨p, zs, rfl, _⟩ := h
    rfl
  · obtain ⟨p, zs, rfl, hp, hz, hl, qq⟩ := h
    refine ⟨_, PSs.nox (pss_one (ps_ret (pe_and (KX.pe_c CL hr (by decide) rfl (pa_cons (pv 0) pa_nil)) (pe_one (pe_callB (cr_all rfl) (by rfl) (FY.free "all" (by decide +kernel)) (by decide +kernel) (pa_cons (pe_lc (own := [("one", 1)]) (g := gName 1) (tt := tYes) rfl scAreN.nd (pi_two (pi_list (pv 0)) (pi_tup (pv 0))) (blkOk_by (N := nmscAreN) (sc := defScope s_are_names) (by decide +kernel)) (fun _ _ _ _ _ => pg_name (i := 1) scAreN.nd rfl (Or.inl rfl)) (fun _ _ _ _ _ => pts_nil) (fun _ _ _ _ _ => (KX.pe_c CN hr (by decide) rfl (pa_cons (pv 1) pa_nil)))) pa_nil)))))), ?_⟩
    walk_at "kf"
    have ty : ∃ t, TyX K H (.ref p) (.type t) ∧ t ∈ kindsB ∧ (t == "list" || t == "tuple") = true := by
      rcases hp with hp | hp
      · exact ⟨"list", .base (.lst hp), by decide, by decide⟩
      · exact ⟨"tuple", .base (.tup hp), by decide, by decide⟩
    obtain ⟨t, ty, hk, et⟩ := ty
    refine ⟨.ref p, t, rfl, ty, hk, fun H1 k1 => ?_⟩
    rw [et]
    walk_at "kf"
    have step : ∀ D, H1 D = none → ∀ (j : Nat) (x : V) (H2 : Hp), (zs.map V.str)[j]? = some x → (KX.But D H1 H2 ∧ H2 D = some (.lst ((List.replicate j true).map V.bl))) →
        spName [x] H2 (fun y H4 => ∃ acc, H4 D = some (.lst acc) ∧ acc.length < sizeLine ∧ (KX.But D H1 (upd H4 D (.lst (acc ++ [y]))) ∧ (upd H4 D (.lst (acc ++ [y]))) D = some (.lst ((List.replicate (j + 1) true).map V.bl)))) E0 := by
      intro D hD j x H2 hx hp2
      obtain ⟨hb, hd⟩ := hp2
      rw [List.getElem?_map] at hx
      obtain ⟨z, hz2, rfl⟩ := Option.map_eq_some_iff.mp hx
      have hlt : j < zs.length := (List.getElem?_eq_some_iff.mp hz2).1
      refine ⟨z, rfl, hz z (List.mem_of_getElem? hz2), fun H4 k4 => ⟨_, k4 _ _ hd, ?_, (hb.trans (KX.But.of k4)).upd, ?_⟩⟩
      · rw [List.length_map, List.length_replicate]
        exact Nat.lt_of_lt_of_le (show j < 100 by omega) (by decide)
      · rw [upd_same, List.replicate_succ', List.map_append]
        rfl
    have e : (List.replicate (zs.map V.str).length true).all id = true := by
      rw [List.all_eq_true]
      intro b hb
      rw [(List.mem_replicate.mp hb).2]
      rfl
    rcases hp with hp | hp
    · refine .inl ⟨.ref p, rfl, p, rfl, ⟨_, SqL.of (k1 _ _ hp)⟩, fun D hD => lc_list (xs := zs.map V.str) (fun j H2 => KX.But D H1 H2 ∧ H2 D = some (.lst ((List.replicate j true).map V.bl))) ⟨KX.But.new KX.But.refl hD, upd_same⟩ (fun j H2 _ hp2 => SqL.of (hp2.1 _ _ (ne_of_none (k1 _ _ hp) hD) (k1 _ _ hp))) (fun j x H2 hx hp2 => ⟨rfl, ?_⟩) (fun H2 hp2 => ?_)⟩
      · walk_at "kf"
        exact step D hD j x H2 hx hp2
      · obtain ⟨hb, hd⟩ := hp2
        have kk : Same H H2 := fun b o z => hb b o (ne_of_none (k1 _ _ z) hD) (k1 _ _ z)
        walk_at "kf"
        refine ⟨D, _, rfl, SqL.of hd, ?_⟩
        rw [e]
        walk_at "kf"
        exact qq _ kk
    · refine .inr ⟨.ref p, rfl, p, rfl, ⟨_, SqT.of (k1 _ _ hp)⟩, fun D hD => lc_tup (xs := zs.map V.str) (fun j H2 => KX.But D H1 H2 ∧ H2 D = some (.lst ((List.replicate j true).map V.bl))) ⟨KX.But.new KX.But.refl hD, upd_same⟩ (fun j H2 _ hp2 => SqT.of (hp2.1 _ _ (ne_of_none (k1 _ _ hp) hD) (k1 _ _ hp))) (fun j x H2 hx hp2 => ⟨rfl, ?_⟩) (fun H2 hp2 => ?_)⟩
      · walk_at "kf"
        exact step D hD j x H2 hx hp2
      · obtain ⟨hb, hd⟩ := hp2
        have kk : Same H H2 := fun b o z => hb b o (ne_of_none (k1 _ _ z) hD) (k1 _ _ z)
        walk_at "kf"
        refine ⟨D, _, rfl, SqL.of hd, ?_⟩
        rw [e]
        walk_at "kf"
        exact qq _ kk
end

end K5
namespace K5
open PySem PySem.Spec PyProof.Rows L2 KY PySem.W
local macro_rules | `(tactic| walk_at "kx1") => `(tactic| with_reducible first
  | refine KX.rd_seq ?_ | refine KX.rd_asg ?_ | refine KX.rd_op ?_ | refine KX.rd_c ?_ | refine KX.rd_cb ?_ | refine KX.rd_cons ?_ | refine KX.rd_nil ?_ | refine KX.rd_un ?_ | refine KX.rd_nx ?_ | refine KX.rd_rt ?_ | refine KX.rd_next ?_ | refine KX.rd_ret ?_
  | refine KX.rd_ifs ?_ | refine KX.rd_if ?_ | refine KX.rd_test ?_ | refine KX.rd_B ?_ | refine KX.rd_bl ?_ | refine KX.rd_and ?_ | refine KX.rd_or ?_ | refine KX.rd_not ?_ | refine KX.rd_I0 ?_ | refine KX.rd_U ?_ | refine KX.rd_int ?_ | refine KX.rd_intB ?_ | refine KX.rd_abs ?_
  | refine KX.rd_gname ?_ | refine KX.rd_gsub ?_ | refine KX.rd_call ?_ | refine KX.rd_drop ?_ | refine KX.rd_yes ?_ | refine KX.rd_andV ?_ | refine KX.rd_orV ?_ | refine KX.rd_notV ?_)
local macro_rules | `(tactic| walk_at "hp") => `(tactic| first
  | assumption
  | exact upd_same
  | (refine Eq.trans (upd_ne (by assumption)) ?_; walk_at "hp")
  | (refine Eq.trans (upd_ne (Ne.symm (by assumption))) ?_; walk_at "hp"))
local macro_rules | `(tactic| walk_at "kx2") => `(tactic| first
  | walk_at "kx1"
  | ((with_reducible refine KX.rd_T ?e ?_); (case e => rfl))
  | ((with_reducible refine KX.rd_F ?e ?_); (case e => rfl))
  | ((with_reducible refine' KX.rd_var ?e ?_); (case e => rfl))
  | ((with_reducible refine' KX.rd_I ?e ?_); (case e => first | assumption | decide | exact Or.inl ⟨by omega, by omega⟩ | exact ⟨by decide, by decide, by decide⟩ | exact ⟨by decide, by decide⟩))
  | ((with_reducible refine' KX.rd_eq ?e ?_); (case e => rfl))
  | ((with_reducible refine' KX.rd_ne ?e ?_); (case e => rfl))
  | ((with_reducible refine' KX.rd_ix ?e ?e2 ?_); (case e => first | assumption | exact SqL.of (by walk_at "hp")); (case e2 => first | assumption | rfl))
  | ((with_reducible refine' KX.rd_len ?e ?_); (case e => first | assumption | exact SqL.of (by walk_at "hp")))
  | ((with_reducible refine' KX.rd_set ?e ?e2 ?_); (case e => walk_at "hp"); (case e2 => rfl)))
local macro_rules | `(tactic| walk_at "kx") => `(tactic| repeat walk_at "kx2")
local macro_rules | `(tactic| walk_at "kx3") => `(tactic| first
  | walk_at "kx2"
  | (with_reducible refine rd_fld2 ?_)
  | ((with_reducible refine' rd_get ?e ?c ?n ?l ?_); (case e => assumption); (case c => assumption); (case n => assumption); (case l => rfl))
  | ((with_reducible refine' rd_mulw ?e ?_); (case e => assumption)))
local macro_rules | `(tactic| walk_at "kx4") => `(tactic| with_reducible first
  | refine rd_js_cons ?_ | refine rd_js_nil ?_ | refine rd_fmt ?_)
local macro_rules | `(tactic| walk_at "kf") => `(tactic| repeat (first | walk_at "kx3" | walk_at "kx4"))
/-- a share's text -/
def termT (q : Rat) (z : Str) : Str := if q = 1 then z else Str.empty ++ ratT q ++ " " ++ z
def spTerm (K : PySem.W.Frag) : Sp := fun vs H Q _ => ∃ x q z, vs = [x, .str z] ∧ IsRat (cR K) H x q ∧ Bits 1900 q ∧ z.length ≤ 1000 ∧ ∀ H', Same H H' → Q (.str (termT q z)) H'
theorem ratT_len {q : Rat} (b : Bits 1900 q) : (ratT q).length ≤ 4000 := by
  have t1 := numT_len (log_of b.num (by decide))
  have t2 := numT_len (i := (q.den : Int)) (log_of (by rw [Int.natAbs_natCast]; exact b.den) (by decide))
  have e0 : (Str.empty).length = 0 := rfl
  have e3 : (Str.ofString "/").length = 1 := by decide +kernel
  unfold ratT
  split
  · omega
  · simp only [Str.length_append, e0, e3]
    omega
def spNeed (K : PySem.W.Frag) : Sp := fun vs H Q _ => ∃ (a dx : Addr) (fs : List (Str × V)) (z : Str), vs = [.ref a, .str z] ∧ H a = some (.ins (cB K) dx fs) ∧ Q .non H
section
variable {P : Program} {w : World} {K : PySem.W.Frag} {mg : Str → Option Value} {base : Heap} {f gE gS : Addr} {fd fdE fdS : FuncData} {H : Hp} {Q : VK} {σ : L2.St} {x : V} {t : Value}
theorem rat_one {K : PySem.W.Frag} {mg : Str → Option Value} (FY : Fy K mg) {H : Hp} {a dx : Addr} {q : Rat} {i : Int} (h : H a = some (.ins (cR K) dx (ratF q))) : DOwn K (cR K) (DRat K) (.ref a) (.int i) H (decide (q = (i : Rat))) :=
  ⟨a, dx, _, .type "int", rfl, h, .int i, (FY.rest.2.2.2 "Ratio" (by decide +kernel)).2 "int" (by decide +kernel), q, (i : Rat), ⟨a, dx, rfl, h⟩, .inr ⟨i, rfl, rfl⟩, rfl⟩
theorem ok_term (F : FunD K "term_text" "term_text" (defArgs s_term_text) (defBody s_term_text) (defScope s_term_text) [] [] f fd) (FY : Fy K mg) (GE : FnOk P w K mg base CX0 2 (He.ma K (cR K) "__eq__") fdE ["self", "other"] (spEqOf (DRat K))) (bE : Binds K fdE ["self", "other"] [])
    (GS : FnOk P w K mg base CX0 1 (He.ma K (cR K) "__str__") fdS ["self"] (spRStr K)) (bS : Binds K fdS ["self"] []) : FnOk P w K mg base CX0 3 f fd ["ratio", "thing"] (spTerm K) := by
  refine F.ok scTT (fun vs H Q E h => ?_) (fun cdv A outer s H vs Q E hr h => ?_)
  · obtain ⟨x, q, z, rfl, _⟩ := h
    rfl
  · obtain ⟨x, q, z, rfl, hx, bb, hz, qq⟩ := h
    have FE := eqB_ok FY.all.2.1.2.2.2.2.2.2.2.1
    have FS := strB_ok FY.all.2.1.2.2.2.2.2.2.2.2.1
    obtain ⟨xa, xd, rfl, hx⟩ := hx
    have l1 := ratT_len bb
    have e0 : (Str.empty).length = 0 := rfl
    have e3 : (Str.ofString " ").length = 1 := by decide +kernel
    have big : 100000 ≤ sizeLine := by decide
    refine ⟨_, PSs.nox (pss_one (ps_ret (pe_ifExp (pt_cmpR (op_eqO FE GE hr bE pass0) (pv 0) pe_int (nomark _)) (pv 1) (pe_joined (PJ.cons (pe_fmtO (pv 0) FS.fmt FS.mro FS.at_ FS.fn GS hr bS pass0) (PJ.cons pe_str (PJ.cons (pe_fmt (pv 1)) PJ.nil))))))), ?_⟩
    walk_at "kf"
    refine ⟨_, rat_one FY hx, fun H1 k1 => ?_⟩
    have hx1 := k1 _ _ hx
    have fin := qq H1 k1
    walk_at "kf"
    refine ite2 (fun e => ?_) (fun e => ?_)
    · have e1 : q = 1 := of_decide_eq_true e
      unfold termT at fin
      rw [if_pos e1] at fin
      walk_at "kf"
      exact fin
    · have e1 : ¬ q = 1 := fun z => e (decide_eq_true z)
      unfold termT at fin
      rw [if_neg e1] at fin
      walk_at "kf"
      refine ⟨.ref xa, rfl, xa, xd, _, rfl, hx1, .ref xa, q, rfl, ⟨xa, xd, rfl, hx1⟩, bb, ratT q, rfl, ?_⟩
      refine rd_rjs ?_ ?_
      · simp only [Str.length_append, e0]
        omega
      walk_at "kf"
      refine rd_rjs ?_ ?_
      · simp only [Str.length_append, e0, e3]
        omega
      walk_at "kf"
      refine rd_fmS (by omega) ?_
      refine rd_rjs ?_ ?_
      · simp only [Str.length_append, e0, e3]
        omega
      walk_at "kf"
      exact fin
theorem ok_need (F : FunD K "need_balance" "need_balance" (defArgs s_need_balance) (defBody s_need_balance) (defScope s_need_balance) [] [] f fd) (FY : Fy K mg) : FnOk P w K mg base CX0 1 f fd ["value", "part"] (spNeed K) := by
  refine F.ok scNB (fun vs H Q E h => ?_) (fun cdv A outer s H vs Q E hr h => ?_)
  · obtain ⟨a, dx, fs, z, rfl, _⟩ := h
    rfl
  · obtain ⟨a, dx, fs, z, rfl, ha, qq⟩ := h
    refine ⟨_, PSs.nox (pss_one (ps_if (pt_not (pt_val (pe_callB call_isi (by rfl) (FY.free "isinstance" (by decide +kernel)) (by decide +kernel) (pa_cons (pv 0) (pa_cons (pe_glob (v := .ref (He.ga K "Balance")) rfl (FY.glo "Balance" (by decide +kernel)) rfl) pa_nil))))) (pss_one ps_never) pss_nil)), ?_⟩
    walk_at "kf"
    refine ⟨.ref a, .ref (cB K), .ref (cB K), .ref (cB K), true, rfl, .own _, (inspB_ok FY.all.2.2.1).ty ha, kit_own FY (by decide +kernel) (by decide +kernel), ?_⟩
    walk_at "kf"
    exact qq
end

end K5
namespace K5
open PySem PySem.Spec PyProof.Rows L2 KY PySem.W
local macro_rules | `(tactic| walk_at "kx1") => `(tactic| with_reducible first
  | refine KX.rd_seq ?_ | refine KX.rd_asg ?_ | refine KX.rd_op ?_ | refine KX.rd_c ?_ | refine KX.rd_cb ?_ | refine KX.rd_cons ?_ | refine KX.rd_nil ?_ | refine KX.rd_un ?_ | refine KX.rd_nx ?_ | refine KX.rd_rt ?_ | refine KX.rd_next ?_ | refine KX.rd_ret ?_
  | refine KX.rd_ifs ?_ | refine KX.rd_if ?_ | refine KX.rd_test ?_ | refine KX.rd_B ?_ | refine KX.rd_bl ?_ | refine KX.rd_and ?_ | refine KX.rd_or ?_ | refine KX.rd_not ?_ | refine KX.rd_I0 ?_ | refine KX.rd_U ?_ | refine KX.rd_int ?_ | refine KX.rd_intB ?_ | refine KX.rd_abs ?_
  | refine KX.rd_gname ?_ | refine KX.rd_gsub ?_ | refine KX.rd_call ?_ | refine KX.rd_drop ?_ | refine KX.rd_yes ?_ | refine KX.rd_andV ?_ | refine KX.rd_orV ?_ | refine KX.rd_notV ?_)
local macro_rules | `(tactic| walk_at "hp") => `(tactic| first
  | assumption
  | exact upd_same
  | (refine Eq.trans (upd_ne (by assumption)) ?_; walk_at "hp")
  | (refine Eq.trans (upd_ne (Ne.symm (by assumption))) ?_; walk_at "hp"))
local macro_rules | `(tactic| walk_at "kx2") => `(tactic| first
  | walk_at "kx1"
  | ((with_reducible refine KX.rd_T ?e ?_); (case e => rfl))
  | ((with_reducible refine KX.rd_F ?e ?_); (case e => rfl))
  | ((with_reducible refine' KX.rd_var ?e ?_); (case e => rfl))
  | ((with_reducible refine' KX.rd_I ?e ?_); (case e => first | assumption | decide | exact Or.inl ⟨by omega, by omega⟩ | exact ⟨by decide, by decide, by decide⟩ | exact ⟨by decide, by decide⟩))
  | ((with_reducible refine' KX.rd_eq ?e ?_); (case e => rfl))
  | ((with_reducible refine' KX.rd_ne ?e ?_); (case e => rfl))
  | ((with_reducible refine' KX.rd_ix ?e ?e2 ?_); (case e => first | assumption | exact SqL.of (by walk_at "hp")); (case e2 => first | assumption | rfl))
  | ((with_reducible refine' KX.rd_len ?e ?_); (case e => first | assumption | exact SqL.of (by walk_at "hp")))
  | ((with_reducible refine' KX.rd_set ?e ?e2 ?_); (case e => walk_at "hp"); (case e2 => rfl)))
local macro_rules | `(tactic| walk_at "kx") => `(tactic| repeat walk_at "kx2")
local macro_rules | `(tactic| walk_at "kx3") => `(tactic| first
  | walk_at "kx2"
  | (with_reducible refine rd_fld2 ?_)
  | ((with_reducible refine' rd_get ?e ?c ?n ?l ?_); (case e => assumption); (case c => assumption); (case n => assumption); (case l => rfl))
  | ((with_reducible refine' rd_mulw ?e ?_); (case e => assumption)))
local macro_rules | `(tactic| walk_at "kx4") => `(tactic| with_reducible first
  | refine rd_js_cons ?_ | refine rd_js_nil ?_ | refine rd_fmt ?_)
local macro_rules | `(tactic| walk_at "kf") => `(tactic| repeat (first | walk_at "kx3" | walk_at "kx4"))
abbrev nmscAN : List Str := ["value", "thing"]
theorem scAN : FnScope nmscAN ["value"] (defScope s_are_numbers) := ⟨rfl, rfl, rfl, by decide +kernel, rfl, by decide +kernel, by decide +kernel⟩
theorem val_in : ∀ {ks : List (Key × V)} {p : Key × V}, p ∈ ks → ∃ v, valV ks p.1 = some v ∧ (p.1, v) ∈ ks
  | [], _, h => by cases h
  | q :: r, p, h => by
    by_cases e : q.1 = p.1
    · exact ⟨q.2, valV_pos e, by rw [← e]; exact List.mem_cons_self ..⟩
    · rcases List.mem_cons.mp h with rfl | h
      · exact absurd rfl e
      · obtain ⟨v, h1, h2⟩ := val_in h
        exact ⟨v, by rw [valV_neg e]; exact h1, List.mem_cons_of_mem _ h2⟩
theorem all_rep (n : Nat) : (List.replicate n true).all id = true := by
  rw [List.all_eq_true]
  intro b hb
  rw [(List.mem_replicate.mp hb).2]
  rfl
/-- a dict of good names and numbers -/
def Nums (K : PySem.W.Frag) (H : Hp) (ks : List (Key × V)) : Prop := ks.length ≤ 100 ∧ ∀ p ∈ ks, ∃ z q, p.1 = Sum.inr z ∧ NameOk z ∧ NumV (cR K) H p.2 q
theorem num_off {C : Addr} {H H1 : Hp} {d : Addr} {u : HO} {v : V} {q : Rat} (hd : H d = some u) (hu : ∀ dx fs, u ≠ .ins C dx fs) (k : ∀ b o, b ≠ d → H b = some o → H1 b = some o) (h : NumV C H v q) : NumV C H1 v q := by
  rcases h with ⟨a, dx, rfl, h⟩ | h
  · refine .inl ⟨a, dx, rfl, k _ _ (fun z => ?_) h⟩
    rw [z, hd] at h
    cases h
    exact hu _ _ rfl
  · exact .inr h
def spNumbers (K : PySem.W.Frag) : Sp := fun vs H Q _ => ∃ (d : Addr) (ks : List (Key × V)), vs = [.ref d] ∧ H d = some (.dK ks) ∧ Nums K H ks ∧ ∀ H', Same H H' → Q (.bl true) H'
section
variable {P : Program} {w : World} {K : PySem.W.Frag} {mg : Str → Option Value} {base : Heap} {f : Addr} {fd : FuncData} {H : Hp} {Q : VK} {σ : L2.St} {x : V} {t : Value}
theorem ok_numbers (F : FunD K "are_numbers" "are_numbers" (defArgs s_are_numbers) (defBody s_are_numbers) (defScope s_are_numbers) [] [] f fd) (FY : Fy K mg) (CN : Callee P w K mg base 1 "is_name" ["value"] spName) (CQ : Callee P w K mg base 2 "is_ratio" ["value"] (spIsRat K)) :
    FnOk P w K mg base CX0 3 f fd ["value"] (spNumbers K) := by
  refine F.ok scAN (fun vs H Q E h => ?_) (fun cdv A outer s H vs Q E hr h => ?_)
  · obtain ⟨p, zs, rfl, _⟩ := h
    rfl
  · obtain ⟨d, ks, rfl, hd, ⟨hl, hk⟩, qq⟩ := h
    refine ⟨_, PSs.nox (pss_cons (ps_if (PW.pt (pw_or (pt_not (pt_val (pe_callB call_isi (by rfl) (FY.free "isinstance" (by decide +kernel)) (by decide +kernel) (pa_cons (pv 0) (pa_cons (pe_bltn (v := .ty "dict") (by rfl) (FY.free "dict" (by decide +kernel)) (by decide +kernel) rfl) pa_nil))))) (pw_or1 (pt_not (pt_val (pe_callB (cr_all rfl) (by rfl) (FY.free "all" (by decide +kernel)) (by decide +kernel) (pa_cons (pe_lock (pe_lc (own := [("thing", 1)]) (g := gName 1) (tt := tYes) rfl scAN.nd (pi_keys (pv 0)) (blkOk_by (N := nmscAN) (sc := defScope s_are_numbers) (by decide +kernel)) (fun _ _ _ _ _ => pg_name (i := 1) scAN.nd rfl (Or.inl rfl)) (fun _ _ _ _ _ => pts_nil) (fun _ _ _ _ _ => (KX.pe_c CN hr (by decide) rfl (pa_cons (pv 1) pa_nil))))) pa_nil))))))) (pss_one (ps_ret pe_bl)) pss_nil)
  (pss_one (ps_ret (pe_callB (cr_all rfl) (by rfl) (FY.free "all" (by decide +kernel)) (by decide +kernel) (pa_cons (pe_lock (pe_lc (own := [("thing", 1)]) (g := gName 1) (tt := tYes) rfl scAN.nd (pi_keys (pv 0)) (blkOk_by (N := nmscAN) (sc := defScope s_are_numbers) (by decide +kernel)) (fun _ _ _ _ _ => pg_name (i := 1) scAN.nd rfl (Or.inl rfl)) (fun _ _ _ _ _ => pts_nil) (fun _ _ _ _ _ => (KX.pe_c CQ hr (by decide) rfl (pa_cons (pe_dget (hu_of hr) (pv 0) (pv 1) (fun _ _ => rfl)) pa_nil))))) pa_nil))))), ?_⟩
    walk_at "kf"
    refine rd_isi FY (.base (.dK hd)) (.ty (by decide +kernel)) (by decide +kernel) ?_
    walk_at "kf"
    refine ⟨d, _, hd, True.intro, fun od => ?_⟩
    -- the dict stands locked while its names are asked, then while its values are
    have lock : ∀ (H0 : Hp) (od : Obj), Same H H0 → (∀ b o, b ≠ d → H0 b = some o → (upd H0 d (.frz od (.dK ks))) b = some o) ∧ (upd H0 d (.frz od (.dK ks))) d = some (.frz od (.dK ks)) := fun H0 od _ => ⟨fun b o n z => by rw [upd_ne n]; exact z, upd_same⟩
    have opened : ∀ (H0 H1 : Hp), Same H H0 → (∀ b o, b ≠ d → H0 b = some o → H1 b = some o) → Same H (upd H1 d (.dK ks)) := fun H0 H1 k k1 b o z => by
      by_cases e : b = d
      · subst e
        rw [upd_same, ← z, hd]
      · rw [upd_ne e]
        exact k1 b o e (k b o z)
    obtain ⟨lk, lkd⟩ := lock H od (Same.refl H)
    generalize (upd H d (.frz od (.dK ks))) = L at lk lkd ⊢
    walk_at "kf"
    refine ⟨.ref d, rfl, d, od, rfl, .inl ⟨ks, lkd, fun D hD => lc_it walk_keys (fun j H2 => KX.But D L H2 ∧ H2 D = some (.lst ((List.replicate j true).map V.bl))) ⟨KX.But.new KX.But.refl hD, upd_same⟩ (fun j H2 _ hp => hp.1 _ _ (ne_of_none lkd hD) lkd) (fun j x H2 H3 hj hp hy => ?_) (fun H2 hp => ?_)⟩⟩
    · obtain ⟨hb, hdd⟩ := hp
      obtain ⟨rfl, k, v, hkv, rfl⟩ := hy
      obtain ⟨z, q, ez, hz, _⟩ := hk _ (List.mem_of_getElem? hkv)
      dsimp only at ez
      subst ez
      refine ⟨rfl, ?_⟩
      walk_at "kf"
      refine ⟨z, rfl, hz, fun H4 k4 => ⟨_, k4 _ _ hdd, ?_, (hb.trans (KX.But.of k4)).upd, ?_⟩⟩
      · rw [List.length_map, List.length_replicate]
        exact Nat.lt_of_lt_of_le (show j < 1000 by omega) (by decide)
      · rw [upd_same, List.replicate_succ', List.map_append]
        rfl
    obtain ⟨hb, hdd⟩ := hp
    have sl : Same L H2 := fun b o z => hb b o (ne_of_none z hD) z
    have ld2 := sl _ _ lkd
    have nD : D ≠ d := fun z => by
      rw [z, lkd] at hD
      cases hD
    refine ⟨ld2, ?_⟩
    walk_at "kf"
    refine ⟨D, _, rfl, SqL.of (by rw [upd_ne nD]; exact hdd), ?_⟩
    rw [all_rep]
    walk_at "kf"
    have k2 : Same H (upd H2 d (.dK ks)) := opened H H2 (Same.refl H) fun b o n z => sl _ _ (lk b o n z)
    generalize (upd H2 d (.dK ks)) = G at k2 ⊢
    clear sl ld2 nD hdd hb hD lk lkd
    refine ⟨d, _, k2 _ _ hd, True.intro, fun od2 => ?_⟩
    obtain ⟨lk, lkd⟩ := lock G od2 k2
    generalize (upd G d (.frz od2 (.dK ks))) = L2 at lk lkd ⊢
    walk_at "kf"
    refine ⟨.ref d, rfl, d, od2, rfl, .inl ⟨ks, lkd, fun D hD => lc_it walk_keys (fun j H2 => KX.But D L2 H2 ∧ H2 D = some (.lst ((List.replicate j true).map V.bl))) ⟨KX.But.new KX.But.refl hD, upd_same⟩ (fun j H2 _ hp => hp.1 _ _ (ne_of_none lkd hD) lkd) (fun j x H2 H3 hj hp hy => ?_) (fun H2 hp => ?_)⟩⟩
    · obtain ⟨hb, hdd⟩ := hp
      obtain ⟨rfl, k, v, hkv, rfl⟩ := hy
      have hm := List.mem_of_getElem? hkv
      obtain ⟨v2, hv2, hm2⟩ := val_in hm
      obtain ⟨z, q, ez, hz, hnum⟩ := hk _ hm2
      have sl : Same L2 H3 := fun b o z => hb b o (ne_of_none z hD) z
      have hn3 : NumV (cR K) H3 v2 q := num_off hd (fun _ _ z => by cases z) (fun b o n y => sl _ _ (lk b o n (k2 b o y))) hnum
      refine ⟨rfl, ?_⟩
      walk_at "kf"
      refine ⟨.ref d, rfl, kV k, rfl, d, v2, rfl, .inl ⟨ks, k, .inr ⟨od2, sl _ _ lkd⟩, rfl, hv2.symm⟩, ?_⟩
      walk_at "kf"
      refine ⟨v2, q, rfl, hn3, _, hdd, ?_, hb.upd, ?_⟩
      · rw [List.length_map, List.length_replicate]
        exact Nat.lt_of_lt_of_le (show j < 1000 by omega) (by decide)
      · rw [upd_same, List.replicate_succ', List.map_append]
        rfl
    obtain ⟨hb, hdd⟩ := hp
    have sl : Same L2 H2 := fun b o z => hb b o (ne_of_none z hD) z
    have ld2 := sl _ _ lkd
    have nD : D ≠ d := fun z => by
      rw [z, lkd] at hD
      cases hD
    refine ⟨ld2, ?_⟩
    walk_at "kf"
    refine ⟨D, _, rfl, SqL.of (by rw [upd_ne nD]; exact hdd), ?_⟩
    rw [all_rep]
    walk_at "kf"
    exact qq _ (opened G H2 k2 fun b o n z => sl _ _ (lk b o n z))
end

end K5
namespace K5
open PySem PySem.Spec PyProof.Rows L2 KY PySem.W
local macro_rules | `(tactic| walk_at "kx1") => `(tactic| with_reducible first
  | refine KX.rd_seq ?_ | refine KX.rd_asg ?_ | refine KX.rd_op ?_ | refine KX.rd_c ?_ | refine KX.rd_cb ?_ | refine KX.rd_cons ?_ | refine KX.rd_nil ?_ | refine KX.rd_un ?_ | refine KX.rd_nx ?_ | refine KX.rd_rt ?_ | refine KX.rd_next ?_ | refine KX.rd_ret ?_
  | refine KX.rd_ifs ?_ | refine KX.rd_if ?_ | refine KX.rd_test ?_ | refine KX.rd_B ?_ | refine KX.rd_bl ?_ | refine KX.rd_and ?_ | refine KX.rd_or ?_ | refine KX.rd_not ?_ | refine KX.rd_I0 ?_ | refine KX.rd_U ?_ | refine KX.rd_int ?_ | refine KX.rd_intB ?_ | refine KX.rd_abs ?_
  | refine KX.rd_gname ?_ | refine KX.rd_gsub ?_ | refine KX.rd_call ?_ | refine KX.rd_drop ?_ | refine KX.rd_yes ?_ | refine KX.rd_andV ?_ | refine KX.rd_orV ?_ | refine KX.rd_notV ?_)
local macro_rules | `(tactic| walk_at "hp") => `(tactic| first
  | assumption
  | exact upd_same
  | (refine Eq.trans (upd_ne (by assumption)) ?_; walk_at "hp")
  | (refine Eq.trans (upd_ne (Ne.symm (by assumption))) ?_; walk_at "hp"))
local macro_rules | `(tactic| walk_at "kx2") => `(tactic| first
  | walk_at "kx1"
  | ((with_reducible refine KX.rd_T ?e ?_); (case e => rfl))
  | ((with_reducible refine KX.rd_F ?e ?_); (case e => rfl))
  | ((with_reducible refine' KX.rd_var ?e ?_); (case e => rfl))
  | ((with_reducible refine' KX.rd_I ?e ?_); (case e => first | assumption | decide | exact Or.inl ⟨by omega, by omega⟩ | exact ⟨by decide, by decide, by decide⟩ | exact ⟨by decide, by decide⟩))
  | ((with_reducible refine' KX.rd_eq ?e ?_); (case e => rfl))
  | ((with_reducible refine' KX.rd_ne ?e ?_); (case e => rfl))
  | ((with_reducible refine' KX.rd_ix ?e ?e2 ?_); (case e => first | assumption | exact SqL.of (by walk_at "hp")); (case e2 => first | assumption | rfl))
  | ((with_reducible refine' KX.rd_len ?e ?_); (case e => first | assumption | exact SqL.of (by walk_at "hp")))
  | ((with_reducible refine' KX.rd_set ?e ?e2 ?_); (case e => walk_at "hp"); (case e2 => rfl)))
local macro_rules | `(tactic| walk_at "kx") => `(tactic| repeat walk_at "kx2")
local macro_rules | `(tactic| walk_at "kx3") => `(tactic| first
  | walk_at "kx2"
  | (with_reducible refine rd_fld2 ?_)
  | ((with_reducible refine' rd_get ?e ?c ?n ?l ?_); (case e => assumption); (case c => assumption); (case n => assumption); (case l => rfl))
  | ((with_reducible refine' rd_mulw ?e ?_); (case e => assumption)))
local macro_rules | `(tactic| walk_at "kx4") => `(tactic| with_reducible first
  | refine rd_js_cons ?_ | refine rd_js_nil ?_ | refine rd_fmt ?_)
local macro_rules | `(tactic| walk_at "kf") => `(tactic| repeat (first | walk_at "kx3" | walk_at "kx4"))
abbrev nmscBI : List Str := ["self", "numbers", "kept", "thing", "ratio", "name"]
theorem scBI : FnScope nmscBI ["self", "numbers"] (defScope s_Balance_init) := ⟨rfl, rfl, rfl, by decide +kernel, rfl, by decide +kernel, by decide +kernel⟩
abbrev Shares (K : PySem.W.Frag) (H : Hp) (ks : List (Key × V)) (m : List (Str × Rat)) : Prop := Paired (fun (k : Key × V) (p : Str × Rat) => k.1 = Sum.inr p.1 ∧ IsRat (cR K) H k.2 p.2) ks m
def IsBal (K : PySem.W.Frag) (H : Hp) (v : V) (m : List (Str × Rat)) : Prop := ∃ (a dx d t : Addr) (ks : List (Key × V)), v = .ref a ∧ H a = some (.ins (cB K) dx [("shares", .ref d), ("things", .ref t)]) ∧ H d = some (.dK ks) ∧ Shares K H ks m ∧ H t = some (.tup (m.map fun p => V.str p.1))
/-- a dict that tells numbers by names -/
structure NumsV (K : PySem.W.Frag) (H : Hp) (ks : List (Key × V)) (zs : List Str) (val : Str → Rat) : Prop where
  each : Paired (fun (k : Key × V) (z : Str) => k.1 = Sum.inr z ∧ NameOk z ∧ NumV (cR K) H k.2 (val z)) ks zs
  nodup : zs.Nodup
  few : zs.length < 64
def spBInit (K : PySem.W.Frag) : Sp := fun vs H Q _ => ∃ (a dx d : Addr) (ks : List (Key × V)) (zs : List Str) (val : Str → Rat), vs = [.ref a, .ref d] ∧ H a = some (.ins (cB K) dx []) ∧ H d = some (.dK ks) ∧ NumsV K H ks zs val ∧
  ∀ ys H', ys.Perm zs → sortedS ys = true → (∀ b o, b ≠ a → H b = some o → H' b = some o) → IsBal K H' (.ref a) (keepNz val ys) → Q .non H'
theorem Shares.mono {K : PySem.W.Frag} {H H' : Hp} {ks : List (Key × V)} {m : List (Str × Rat)} (k : ∀ b dx q, H b = some (.ins (cR K) dx (ratF q)) → H' b = some (.ins (cR K) dx (ratF q))) (h : Shares K H ks m) : Shares K H' ks m :=
  Paired.mapP h fun p q ⟨e, a, dx, ea, h⟩ => ⟨e, a, dx, ea, k _ _ _ h⟩
theorem shares_keys {K : PySem.W.Frag} {H : Hp} : ∀ {ks : List (Key × V)} {m : List (Str × Rat)}, Shares K H ks m → (ks.map fun kv => kV kv.1) = m.map fun p => V.str p.1
  | _, _, .nil => rfl
  | _, _, .cons r t => by
    rw [List.map_cons, List.map_cons, r.1, shares_keys t]
    rfl
theorem shares_app {K : PySem.W.Frag} {H : Hp} {k : Key × V} {p : Str × Rat} (h : k.1 = Sum.inr p.1 ∧ IsRat (cR K) H k.2 p.2) : ∀ {ks : List (Key × V)} {m : List (Str × Rat)}, Shares K H ks m → Shares K H (ks ++ [k]) (m ++ [p])
  | _, _, .nil => .cons h .nil
  | _, _, .cons r t => .cons r (shares_app h t)
section
variable {D : Ends} {σ : L2.St} {H : Hp} {K : PySem.W.Frag} {Q : VK}
theorem rd_smeth {C : Addr} {sp : Sp} {E : XK} {ta : TE} {t : TA} (q : ta σ H fun x H1 => x = .ref C ∧ t σ H1 fun vs H2 => sp vs H2 Q E) : tSMeth C sp E ta t σ H Q := q
theorem rd_dput {td ty tv : TE} (q : tv σ H fun v H1 => td σ H1 fun x H2 => ty σ H2 fun y H3 => ∃ a H4, x = .ref a ∧ DPut H3 a y v H4 ∧ D.nx σ H4) : sDPut td ty tv D σ H := q
theorem rd_forL {tl : TE} {g : TG} {tb : TS} (q : tl σ H fun x H1 => ∃ a, x = .ref a ∧ (∃ xs, SqL K H1 a xs) ∧ ∃ W : Nat → Nat → L2.St → Hp → Prop, (∃ m, W 0 m σ H1) ∧ ∀ i m σ H, W i m σ H →
  ((Itl K a).stop i H ∧ D.nx σ H) ∨ ((Itl K a).go i H ∧ ∃ N : L2.St → Hp → Prop, (∀ σ' H', N σ' H' → ∃ m', m' < m ∧ W (i + 1) m' σ' H') ∧ ∀ x H', (Itl K a).yld i H x H' → g x σ H' fun σ2 H2 => tb { D with nx := N, ct := N, bk := D.nx } σ2 H2)) : tFor (iList K tl) g tb D σ H := q
theorem rd_new {q0 : Prop} (q : q0) : q0 := q
end
theorem paired_get {α β : Type} {R : α → β → Prop} : ∀ {xs : List α} {ys : List β} {i : Nat} {x : α}, Paired R xs ys → xs[i]? = some x → ∃ y, ys[i]? = some y ∧ R x y
  | _, _, _, _, .nil, h => by simp at h
  | _, _, 0, x, .cons (b := y) r _, h => ⟨y, rfl, by rw [← Option.some.inj h]; exact r⟩
  | _, _, i + 1, x, .cons _ t, h => by
    obtain ⟨y, e, r⟩ := paired_get (i := i) (x := x) t (by simpa using h)
    exact ⟨y, by simpa using e, r⟩
theorem nums_of {K : PySem.W.Frag} {H : Hp} {ks : List (Key × V)} {zs : List Str} {val : Str → Rat} (N : NumsV K H ks zs val) : Nums K H ks := by
  refine ⟨?_, fun p hp => ?_⟩
  · rw [Paired.length N.each]
    have := N.few
    omega
  · obtain ⟨i, hi, e⟩ := List.mem_iff_getElem.mp hp
    obtain ⟨z, _, h1, h2, h3⟩ := paired_get (i := i) (x := p) N.each (by rw [List.getElem?_eq_getElem hi, e])
    exact ⟨z, _, h1, h2, h3⟩
/-- the value that stands at a name -/
theorem nums_val {K : PySem.W.Frag} {H : Hp} {ks : List (Key × V)} {zs : List Str} {val : Str → Rat} (N : NumsV K H ks zs val) {z : Str} (hz : z ∈ zs) : ∃ v, valV ks (Sum.inr z : Key) = some v ∧ NameOk z ∧ NumV (cR K) H v (val z) := by
  have e := N.each
  clear N
  induction e with
  | nil => cases hz
  | @cons k y ks zs r t ih =>
    obtain ⟨e1, e2, e3⟩ := r
    by_cases h : y = z
    · subst h
      exact ⟨k.2, valV_pos e1, e2, e3⟩
    · obtain ⟨v, h1, h2⟩ := ih ((List.mem_cons.mp hz).resolve_left fun x => h x.symm)
      refine ⟨v, ?_, h2⟩
      rw [valV_neg (by rw [e1]; intro x; injection x with x; exact h x)]
      exact h1
theorem keep_succ (val : Str → Rat) {ys : List Str} {j : Nat} {z : Str} (h : ys[j]? = some z) : keepNz val (ys.take (j + 1)) = keepNz val (ys.take j) ++ (if val z = 0 then [] else [(z, val z)]) := by
  unfold keepNz
  rw [List.take_succ, List.filterMap_append, h]
  congr 1
  by_cases e : val z = 0
  · simp [e]
  · simp [e]
theorem keep_len (val : Str → Rat) (ys : List Str) : (keepNz val ys).length ≤ ys.length := List.length_filterMap_le ..
theorem keep_mem {val : Str → Rat} {ys : List Str} {p : Str × Rat} (h : p ∈ keepNz val ys) : p.1 ∈ ys ∧ p.2 = val p.1 ∧ val p.1 ≠ 0 := by
  unfold keepNz at h
  obtain ⟨z, hz, e⟩ := List.mem_filterMap.mp h
  by_cases e0 : val z = 0
  · rw [if_pos e0] at e
    cases e
  · rw [if_neg e0] at e
    cases e
    exact ⟨hz, rfl, e0⟩
theorem keep_absent {K : PySem.W.Frag} {H : Hp} {val : Str → Rat} {ys : List Str} {j : Nat} {z : Str} {ms : List (Key × V)} (nd : ys.Nodup) (h : ys[j]? = some z) (hs : Shares K H ms (keepNz val (ys.take j))) : ∀ p ∈ ms, p.1 ≠ (Sum.inr z : Key) := by
  intro p hp e
  obtain ⟨i, hi, e2⟩ := List.mem_iff_getElem.mp hp
  obtain ⟨q, hq, e3, _⟩ := paired_get (i := i) (x := p) hs (by rw [List.getElem?_eq_getElem hi, e2])
  have hm := (keep_mem (List.mem_of_getElem? hq)).1
  rw [e3] at e
  injection e with e
  rw [e] at hm
  obtain ⟨n, hn, e4⟩ := List.mem_iff_getElem.mp hm
  rw [List.length_take] at hn
  rw [List.getElem_take] at e4
  obtain ⟨hj, e5⟩ := List.getElem?_eq_some_iff.mp h
  exact (List.pairwise_iff_getElem.mp nd) n j (by omega) hj (by omega) (by rw [e4, e5])
theorem put_new {ms : List (Key × V)} {k : Key} {v : V} (h : ∀ p ∈ ms, p.1 ≠ k) : putK ms k v = ms ++ [(k, v)] := by
  unfold putK
  rw [if_neg]
  intro e
  obtain ⟨p, hp, e2⟩ := List.any_eq_true.mp e
  exact h p hp (of_decide_eq_true e2)
section
variable {P : Program} {w : World} {K : PySem.W.Frag} {mg : Str → Option Value} {base : Heap} {f gO : Addr} {fd fdO : FuncData} {H : Hp} {Q : VK} {σ : L2.St} {x : V} {t : Value}
theorem ok_binit (F : FunD K "__init__" "Balance.__init__" (defArgs s_Balance_init) (defBody s_Balance_init) (defScope s_Balance_init) [] [] f fd) (FY : Fy K mg) (CA : Callee P w K mg base 3 "are_numbers" ["value"] (spNumbers K))
    (GO : FnOk P w K mg base CX0 4 (sAd K (cR K) "of") fdO ["value"] (spOther K)) (bO : Binds K fdO ["value"] []) : FnOk P w K mg base CX0 5 f fd ["self", "numbers"] (spBInit K) := by
  refine F.ok scBI (fun vs H Q E h => ?_) (fun cdv A outer s H vs Q E hr h => ?_)
  · obtain ⟨a, dx, d, ks, zs, val, rfl, _⟩ := h
    rfl
  · obtain ⟨a, dx, d, ks, zs, val, rfl, ha, hd, N, qq⟩ := h
    have clB := (inspB_ok FY.all.2.2.1).cls
    have nsh := noB_ok FY.all.2.2.2.2.1 "shares" (by decide +kernel)
    have nth := noB_ok FY.all.2.2.2.2.1 "things" (by decide +kernel)
    have cl := (inspB_ok FY.all.2.1.1).cls
    have nt := noB_ok FY.all.2.1.2.2.1 "top" (by decide +kernel)
    refine ⟨_, PSs.nox (pss_cons (ps_if (pt_not (pt_val (KX.pe_c CA hr (by decide) rfl (pa_cons (pv 1) pa_nil)))) (pss_one ps_never) pss_nil)
  (pss_cons (ps_set (i := 2) scBI.nd rfl (Or.inl rfl) pe_dnewK)
  (pss_cons (ps_for PassesOwn.never rfl (pi_list (pe_callB cr_sortedS (by rfl) (FY.free "sorted" (by decide +kernel)) (by decide +kernel) (pa_cons (pe_lock (pe_lc (own := [("name", 5)]) (g := gName 5) (tt := tYes) rfl scBI.nd (pi_keys (pv 1)) (blkOk_by (N := nmscBI) (sc := defScope s_Balance_init) (by decide +kernel)) (fun _ _ _ _ _ => pg_name (i := 5) scBI.nd rfl (Or.inl rfl)) (fun _ _ _ _ _ => pts_nil) (fun _ _ _ _ _ => (pe_callTy SkE.call_str_str (by rfl) (FY.free "str" (by decide +kernel)) (by decide +kernel) (pa_cons (pv 5) pa_nil))))) pa_nil))) (pg_name (i := 3) scBI.nd rfl (Or.inl rfl)) (pss_cons (ps_set (i := 4) scBI.nd rfl (Or.inl rfl) (pe_smeth (pe_glob (v := .ref (cR K)) rfl (FY.glo "Ratio" (by decide +kernel)) rfl) (smB_ok FY.all.2.1.2.2.2.2.2.2.2.2.2) GO (hr.mono (by decide)) bO pass0 (pa_cons (pe_dget (hu_of hr) (pv 1) (pv 3) (fun _ _ => rfl)) pa_nil)))
  (pss_one (ps_if (pt_cmpR op_ne (pe_fld (pv 4) rfl) pe_int (nomark _)) (pss_one (ps_dput (hu_of hr) (pv 2) (pv 3) (pv 4) rfl)) pss_nil))))
  (pss_cons (ps_fld (pv 0) (pv 2) rfl)
  (pss_one (ps_fld (pv 0) (pe_callTy call_tuple_of (by rfl) (FY.free "tuple" (by decide +kernel)) (by decide +kernel) (pa_cons (pe_callTy (call_list_dK rfl) (by rfl) (FY.free "list" (by decide +kernel)) (by decide +kernel) (pa_cons (pv 2) pa_nil)) pa_nil)) rfl)))))), ?_⟩
    walk_at "kf"
    refine ⟨d, ks, rfl, hd, nums_of N, fun H1 k1 => ?_⟩
    walk_at "kf"
    refine fun kp hkp => ?_
    have ekp : (upd H1 kp (.dK [])) kp = some (.dK []) := upd_same
    have k2 : Same H (upd H1 kp (.dK [])) := k1.trans (fun b o z => by rw [upd_ne (ne_of_none z hkp)]; exact z)
    have kpn : H kp = none := Same.free k1 hkp
    have nkd : kp ≠ d := fun z => by
      rw [z, k1 _ _ hd] at hkp
      cases hkp
    have nka : kp ≠ a := fun z => by
      rw [z, k1 _ _ ha] at hkp
      cases hkp
    generalize (upd H1 kp (.dK [])) = G0 at ekp k2 ⊢
    clear k1 hkp
    walk_at "kf"
    refine rd_forL ?_
    walk_at "kf"
    refine ⟨d, _, k2 _ _ hd, True.intro, fun od => ?_⟩
    have lk : ∀ b o, b ≠ d → G0 b = some o → (upd G0 d (.frz od (.dK ks))) b = some o := fun b o n z => by rw [upd_ne n]; exact z
    have lkd : (upd G0 d (.frz od (.dK ks))) d = some (.frz od (.dK ks)) := upd_same
    generalize (upd G0 d (.frz od (.dK ks))) = L at lk lkd ⊢
    have lz : ks.length = zs.length := Paired.length N.each
    walk_at "kf"
    refine ⟨.ref d, rfl, d, od, rfl, .inl ⟨ks, lkd, fun D hD => lc_it walk_keys (fun j H2 => KX.But D L H2 ∧ H2 D = some (.lst ((zs.take j).map V.str))) ⟨KX.But.new KX.But.refl hD, upd_same⟩ (fun j H2 _ hp => hp.1 _ _ (ne_of_none lkd hD) lkd) (fun j x H2 H3 hj hp hy => ?_) (fun H2 hp => ?_)⟩⟩
    · obtain ⟨hb, hdd⟩ := hp
      obtain ⟨rfl, k, v, hkv, rfl⟩ := hy
      obtain ⟨z, hz, ez, _⟩ := paired_get N.each hkv
      dsimp only at ez
      subst ez
      refine ⟨rfl, ?_⟩
      walk_at "kf"
      refine ⟨z, rfl, _, hdd, ?_, hb.upd, ?_⟩
      · rw [List.length_map]
        have := List.length_take_le j zs
        have := N.few
        have := List.length_take_le' j zs
        exact Nat.lt_of_lt_of_le (show _ < 64 by omega) (by decide)
      · rw [upd_same, List.take_succ, hz]
        simp
    obtain ⟨hb, hdd⟩ := hp
    have sl : Same L H2 := fun b o z => hb b o (ne_of_none z hD) z
    have ld2 := sl _ _ lkd
    have nD : D ≠ d := fun z => by
      rw [z, lkd] at hD
      cases hD
    refine ⟨ld2, ?_⟩
    have hdd2 : (upd H2 d (.dK ks)) D = some (.lst (zs.map V.str)) := by
      rw [upd_ne nD, hdd, lz, List.take_length]
    have k3 : Same G0 (upd H2 d (.dK ks)) := fun b o z => by
      by_cases e : b = d
      · subst e
        rw [upd_same, ← z, k2 _ _ hd]
      · rw [upd_ne e]
        exact sl _ _ (lk b o e z)
    generalize (upd H2 d (.dK ks)) = G1 at hdd2 k3 ⊢
    clear sl ld2 nD hdd hb hD lk lkd
    walk_at "kf"
    refine ⟨D, zs, rfl, SqL.of hdd2, N.few, fun ys p perm srt hp => ?_⟩
    have ep : (upd G1 p (.lst (ys.map V.str))) p = some (.lst (ys.map V.str)) := upd_same
    have k4 : Same G0 (upd G1 p (.lst (ys.map V.str))) := k3.trans (fun b o z => by rw [upd_ne (ne_of_none z hp)]; exact z)
    generalize (upd G1 p (.lst (ys.map V.str))) = G2 at ep k4 ⊢
    have npk : p ≠ kp := fun z => by
      rw [z, k4 _ _ ekp] at ep
      cases ep
    have ynd : ys.Nodup := perm.nodup_iff.mpr N.nodup
    have kd : G2 d = some (.dK ks) := k4 _ _ (k2 _ _ hd)
    have kkp : G2 kp = some (.dK []) := k4 _ _ ekp
    have ka : G2 a = some (.ins (cB K) dx []) := k4 _ _ (k2 _ _ ha)
    have kG : Same H G2 := k2.trans k4
    refine ⟨p, rfl, ⟨_, SqL.of ep⟩, for_list (xs := ys.map V.str) (fun j σ2 H3 => KX.But kp G2 H3 ∧ ∃ b3 b4 b5 ms, σ2 = [some (.ref a), some (.ref d), some (.ref kp), b3, b4, b5] ∧ H3 kp = some (.dK ms) ∧ Shares K H3 ms (keepNz val (ys.take j))) ⟨KX.But.refl, none, none, none, [], rfl, kkp, .nil⟩ (fun j σ2 H3 _ hp2 => SqL.of (hp2.1 _ _ npk ep)) (fun j x σ2 H3 hx hp2 => ?_) (fun σ2 H3 hp2 => ?_)⟩
    · obtain ⟨hb, b3, b4, b5, ms, rfl, hms, hsh⟩ := hp2
      rw [List.getElem?_map] at hx
      obtain ⟨z, hz, rfl⟩ := Option.map_eq_some_iff.mp hx
      have hzm : z ∈ zs := perm.mem_iff.mp (List.mem_of_getElem? hz)
      obtain ⟨v, hv, hok, hnum⟩ := nums_val N hzm
      have hd3 : H3 d = some (.dK ks) := hb _ _ (Ne.symm nkd) kd
      have hn3 : NumV (cR K) H3 v (val z) := num_off kkp (fun _ _ z => by cases z) (fun b o n y => hb b o n y) (hnum.mono kG)
      walk_at "kf"
      refine rd_smeth ?_
      walk_at "kf"
      refine ⟨rfl, ?_⟩
      walk_at "kf"
      refine ⟨.ref d, rfl, .str z, rfl, d, v, rfl, .inl ⟨ks, .inr z, .inl hd3, rfl, hv.symm⟩, ?_⟩
      walk_at "kf"
      refine ⟨v, val z, rfl, hn3, fun v' H4 k5 hr' => ?_⟩
      obtain ⟨ra, rx, rfl, hra⟩ := hr'
      have es := keep_succ val hz
      have ab := keep_absent ynd hz hsh
      walk_at "kf"
      refine ite2 (fun e => ?_) (fun e => ?_)
      · have nz : val z ≠ 0 := fun y => by
          rw [y] at e
          simp at e
        rw [if_neg nz] at es
        walk_at "kf"
        refine rd_dput ?_
        walk_at "kf"
        refine ⟨kp, _, rfl, DPut.k (k := Sum.inr z) (k5 _ _ hms) ?_, ?_⟩
        · rw [Paired.length hsh]
          have := keep_len val (ys.take j)
          have := List.length_take_le' j ys
          have := perm.length_eq
          have := N.few
          exact Nat.lt_of_lt_of_le (show _ < 64 by omega) (by decide)
        walk_at "kf"
        refine ⟨(hb.trans (KX.But.of k5)).upd, _, _, _, _, rfl, upd_same, ?_⟩
        rw [es, put_new ab]
        refine shares_app ⟨rfl, ra, rx, rfl, ?_⟩ (hsh.mono fun b _ _ y => ?_)
        · rw [upd_ne (fun y => by rw [y, k5 _ _ hms] at hra; cases hra)]
          exact hra
        · rw [upd_ne (fun y3 => by rw [y3, hms] at y; cases y)]
          exact k5 _ _ y
      · have nz : val z = 0 := by
          have : (val z).num = 0 := by simpa using e
          exact Rat.num_eq_zero.mp this
        rw [if_pos nz, List.append_nil] at es
        walk_at "kf"
        refine ⟨hb.trans (KX.But.of k5), _, _, _, ms, rfl, k5 _ _ hms, ?_⟩
        rw [es]
        exact hsh.mono fun b _ _ y => k5 _ _ y
    · obtain ⟨hb, b3, b4, b5, ms, rfl, hms, hsh⟩ := hp2
      rw [List.length_map, List.take_length] at hsh
      have ha3 : H3 a = some (.ins (cB K) dx []) := hb _ _ (Ne.symm nka) ka
      walk_at "kf"
      refine rd_sfld ?_
      walk_at "kf"
      refine ⟨a, cB K, dx, [], rfl, ha3, clB, nsh, by decide, ?_⟩
      have eput : putF ("shares" : Str) (V.ref kp) [] = ([(("shares" : Str), V.ref kp)] : List (Str × V)) := rfl
      rw [eput]
      walk_at "kf"
      refine rd_sfld ?_
      walk_at "kf"
      have hk4 : (upd H3 a (.ins (cB K) dx [("shares", .ref kp)])) kp = some (.dK ms) := by rw [upd_ne nka]; exact hms
      have ha4 : (upd H3 a (.ins (cB K) dx [("shares", .ref kp)])) a = some (.ins (cB K) dx [("shares", .ref kp)]) := upd_same
      refine ⟨kp, ms, rfl, hk4, fun q hq => ?_⟩
      walk_at "kf"
      refine ⟨q, _, rfl, .inl ⟨SqL.of upd_same, fun l hl => ?_⟩⟩
      have naq : a ≠ q := ne_of_none ha4 hq
      have nkq : kp ≠ q := ne_of_none hk4 hq
      have nal : a ≠ l := ne_of_none (show _ = some _ by rw [upd_ne naq]; exact ha4) hl
      have nkl : kp ≠ l := ne_of_none (show _ = some _ by rw [upd_ne nkq]; exact hk4) hl
      have ha5 : (upd (upd (upd H3 a (.ins (cB K) dx [("shares", .ref kp)])) q (.lst (ms.map fun kv => kV kv.1))) l (.tup (ms.map fun kv => kV kv.1))) a = some (.ins (cB K) dx [("shares", .ref kp)]) := by
        rw [upd_ne nal, upd_ne naq]
        exact ha4
      have hk5 : (upd (upd (upd H3 a (.ins (cB K) dx [("shares", .ref kp)])) q (.lst (ms.map fun kv => kV kv.1))) l (.tup (ms.map fun kv => kV kv.1))) kp = some (.dK ms) := by
        rw [upd_ne nkl, upd_ne nkq]
        exact hk4
      have hl5 : (upd (upd (upd H3 a (.ins (cB K) dx [("shares", .ref kp)])) q (.lst (ms.map fun kv => kV kv.1))) l (.tup (ms.map fun kv => kV kv.1))) l = some (.tup (ms.map fun kv => kV kv.1)) := upd_same
      have h35 : ∀ b o, b ≠ a → H3 b = some o → (upd (upd (upd H3 a (.ins (cB K) dx [("shares", .ref kp)])) q (.lst (ms.map fun kv => kV kv.1))) l (.tup (ms.map fun kv => kV kv.1))) b = some o := fun b o n y => by
        have y4 : (upd H3 a (.ins (cB K) dx [("shares", .ref kp)])) b = some o := by rw [upd_ne n]; exact y
        have y5 : (upd (upd H3 a (.ins (cB K) dx [("shares", .ref kp)])) q (.lst (ms.map fun kv => kV kv.1))) b = some o := by rw [upd_ne (ne_of_none y4 hq)]; exact y4
        rw [upd_ne (ne_of_none y5 hl)]
        exact y5
      have et := shares_keys hsh
      generalize (upd (upd (upd H3 a (.ins (cB K) dx [("shares", .ref kp)])) q (.lst (ms.map fun kv => kV kv.1))) l (.tup (ms.map fun kv => kV kv.1))) = H5 at ha5 hk5 hl5 h35 ⊢
      walk_at "kf"
      refine ⟨a, cB K, dx, _, rfl, ha5, clB, nth, (show (1 : Nat) < 1000 by decide), ?_⟩
      walk_at "kf"
      refine qq ys _ perm srt (fun b o n y => ?_) ⟨a, dx, kp, l, ms, rfl, upd_same, by rw [upd_ne nka]; exact hk5, hsh.mono fun b _ _ y => ?_, by rw [upd_ne (Ne.symm nal), hl5, et]⟩
      · rw [upd_ne n]
        by_cases e : b = kp
        · subst e
          rw [kpn] at y
          cases y
        · exact h35 b o n (hb b o e (kG b o y))
      · have nb : b ≠ a := fun y3 => by
          rw [y3, ha3] at y
          have z := Option.some.inj y
          injection z with _ _ z
          cases z
        rw [upd_ne nb]
        exact h35 b _ nb y
end

end K5
namespace K5
open PySem PySem.Spec PyProof.Rows L2 KY PySem.W
local macro_rules | `(tactic| walk_at "kx1") => `(tactic| with_reducible first
  | refine KX.rd_seq ?_ | refine KX.rd_asg ?_ | refine KX.rd_op ?_ | refine KX.rd_c ?_ | refine KX.rd_cb ?_ | refine KX.rd_cons ?_ | refine KX.rd_nil ?_ | refine KX.rd_un ?_ | refine KX.rd_nx ?_ | refine KX.rd_rt ?_ | refine KX.rd_next ?_ | refine KX.rd_ret ?_
  | refine KX.rd_ifs ?_ | refine KX.rd_if ?_ | refine KX.rd_test ?_ | refine KX.rd_B ?_ | refine KX.rd_bl ?_ | refine KX.rd_and ?_ | refine KX.rd_or ?_ | refine KX.rd_not ?_ | refine KX.rd_I0 ?_ | refine KX.rd_U ?_ | refine KX.rd_int ?_ | refine KX.rd_intB ?_ | refine KX.rd_abs ?_
  | refine KX.rd_gname ?_ | refine KX.rd_gsub ?_ | refine KX.rd_call ?_ | refine KX.rd_drop ?_ | refine KX.rd_yes ?_ | refine KX.rd_andV ?_ | refine KX.rd_orV ?_ | refine KX.rd_notV ?_)
local macro_rules | `(tactic| walk_at "hp") => `(tactic| first
  | assumption
  | exact upd_same
  | (refine Eq.trans (upd_ne (by assumption)) ?_; walk_at "hp")
  | (refine Eq.trans (upd_ne (Ne.symm (by assumption))) ?_; walk_at "hp"))
local macro_rules | `(tactic| walk_at "kx2") => `(tactic| first
  | walk_at "kx1"
  | ((with_reducible refine KX.rd_T ?e ?_); (case e => rfl))
  | ((with_reducible refine KX.rd_F ?e ?_); (case e => rfl))
  | ((with_reducible refine' KX.rd_var ?e ?_); (case e => rfl))
  | ((with_reducible refine' KX.rd_I ?e ?_); (case e => first | assumption | decide | exact Or.inl ⟨by omega, by omega⟩ | exact ⟨by decide, by decide, by decide⟩ | exact ⟨by decide, by decide⟩))
  | ((with_reducible refine' KX.rd_eq ?e ?_); (case e => rfl))
  | ((with_reducible refine' KX.rd_ne ?e ?_); (case e => rfl))
  | ((with_reducible refine' KX.rd_ix ?e ?e2 ?_); (case e => first | assumption | exact SqL.of (by walk_at "hp")); (case e2 => first | assumption | rfl))
  | ((with_reducible refine' KX.rd_len ?e ?_); (case e => first | assumption | exact SqL.of (by walk_at "hp")))
  | ((with_reducible refine' KX.rd_set ?e ?e2 ?_); (case e => walk_at "hp"); (case e2 => rfl)))
local macro_rules | `(tactic| walk_at "kx") => `(tactic| repeat walk_at "kx2")
theorem NumsV.mono {K : PySem.W.Frag} {H H' : Hp} {ks : List (Key × V)} {zs : List Str} {val : Str → Rat} (k : Same H H') (h : NumsV K H ks zs val) : NumsV K H' ks zs val :=
  ⟨Paired.mapP h.each fun p z ⟨e, ok, n⟩ => ⟨e, ok, n.mono k⟩, h.nodup, h.few⟩
/-- Balance may be called -/
def BalC (P : Program) (w : World) (K : PySem.W.Frag) (mg : Str → Option Value) (base : Heap) : Prop :=
  ∃ fd, FnOk P w K mg base CX0 5 (He.ma K (cB K) "__init__") fd ["self", "numbers"] (spBInit K) ∧ Binds K fd ["self", "numbers"] []
/-- Balance(numbers) -/
def tBal (K : PySem.W.Frag) (ta : TA) : TE := fun σ H Q => ta σ H fun vs H1 => ∃ (d : Addr) (ks : List (Key × V)) (zs : List Str) (val : Str → Rat), vs = [.ref d] ∧ H1 d = some (.dK ks) ∧ NumsV K H1 ks zs val ∧
  ∀ v ys H', Same H1 H' → ys.Perm zs → sortedS ys = true → IsBal K H' v (keepNz val ys) → Q v H'
theorem rd_bal {K : PySem.W.Frag} {ta : TA} {σ : L2.St} {H : Hp} {Q : VK} (q : ta σ H fun vs H1 => ∃ (d : Addr) (ks : List (Key × V)) (zs : List Str) (val : Str → Rat), vs = [.ref d] ∧ H1 d = some (.dK ks) ∧ NumsV K H1 ks zs val ∧
  ∀ v ys H', Same H1 H' → ys.Perm zs → sortedS ys = true → IsBal K H' v (keepNz val ys) → Q v H') : tBal K ta σ H Q := q
section
variable {X : Cx} {j : Nat} {p pos : Pos} {e : Expr} {es : List Expr} {ta : TA}
theorem pe_bal (CB : BalC X.prog X.w X.K X.mg X.base) (FY : Fy X.K X.mg) (hr : Room j X.A) (hj : 6 ≤ j) (hg : Gl X "Balance") (ha : PA X (e :: es) ta) (he : starEach (e :: es) X.env = (false, eval e X.env) :: starEach es X.env := by rfl)
    (hpl : (backTo pos (starEach es X.env)).any (·.1) = false := by rfl) : PE X (.Call (.Name "Balance" p) (e :: es) [] pos) (tBal X.K ta) := by
  obtain ⟨fd, F, hb⟩ := CB
  refine ⟨fun pins s σ H Q I h => ?_⟩
  refine wpAny_Call_Name_kw (ld_glob I hg (FY.glo "Balance" (by decide +kernel)) ?_ (by decide))
  refine callWith_K (h₀ := X.base) I.ok.mod.kin (mkB_ok FY.all.2.2.2.1).kp (thn (ha.run pos pins s σ H _ I h) fun us s1 hh => ?_) he hpl
  obtain ⟨vs, H1, I1, r, d, ks, zs, val, rfl, hd, N, q⟩ := hh
  refine ⟨I1.kIn, ?_⟩
  refine run_make (mkB_ok FY.all.2.2.2.1) F (hr.mono hj) hb .nil pass0 I1 r fun x dx hx hdx ne => ?_
  have k : Same H1 (upd (upd H1 dx (.own x)) x (.ins (cB X.K) dx [])) := fun b o z => by
    rw [upd_ne (ne_of_none z hx), upd_ne (ne_of_none z hdx)]
    exact z
  refine ⟨x, dx, d, ks, zs, val, rfl, upd_same, k _ _ hd, N.mono k, fun ys H' pm st k2 hbal => ⟨rfl, q _ ys H' (fun b o z => k2 b o (ne_of_none z hx) (k b o z)) pm st hbal⟩⟩
end

end K5
namespace K5
open PySem PySem.Spec PyProof.Rows L2 KY PySem.W
local macro_rules | `(tactic| walk_at "kx1") => `(tactic| with_reducible first
  | refine KX.rd_seq ?_ | refine KX.rd_asg ?_ | refine KX.rd_op ?_ | refine KX.rd_c ?_ | refine KX.rd_cb ?_ | refine KX.rd_cons ?_ | refine KX.rd_nil ?_ | refine KX.rd_un ?_ | refine KX.rd_nx ?_ | refine KX.rd_rt ?_ | refine KX.rd_next ?_ | refine KX.rd_ret ?_
  | refine KX.rd_ifs ?_ | refine KX.rd_if ?_ | refine KX.rd_test ?_ | refine KX.rd_B ?_ | refine KX.rd_bl ?_ | refine KX.rd_and ?_ | refine KX.rd_or ?_ | refine KX.rd_not ?_ | refine KX.rd_I0 ?_ | refine KX.rd_U ?_ | refine KX.rd_int ?_ | refine KX.rd_intB ?_ | refine KX.rd_abs ?_
  | refine KX.rd_gname ?_ | refine KX.rd_gsub ?_ | refine KX.rd_call ?_ | refine KX.rd_drop ?_ | refine KX.rd_yes ?_ | refine KX.rd_andV ?_ | refine KX.rd_orV ?_ | refine KX.rd_notV ?_)
local macro_rules | `(tactic| walk_at "hp") => `(tactic| first
  | assumption
  | exact upd_same
  | (refine Eq.trans (upd_ne (by assumption)) ?_; walk_at "hp")
  | (refine Eq.trans (upd_ne (Ne.symm (by assumption))) ?_; walk_at "hp"))
local macro_rules | `(tactic| walk_at "kx2") => `(tactic| first
  | walk_at "kx1"
  | ((with_reducible refine KX.rd_T ?e ?_); (case e => rfl))
  | ((with_reducible refine KX.rd_F ?e ?_); (case e => rfl))
  | ((with_reducible refine' KX.rd_var ?e ?_); (case e => rfl))
  | ((with_reducible refine' KX.rd_I ?e ?_); (case e => first | assumption | decide | exact Or.inl ⟨by omega, by omega⟩ | exact ⟨by decide, by decide, by decide⟩ | exact ⟨by decide, by decide⟩))
  | ((with_reducible refine' KX.rd_eq ?e ?_); (case e => rfl))
  | ((with_reducible refine' KX.rd_ne ?e ?_); (case e => rfl))
  | ((with_reducible refine' KX.rd_ix ?e ?e2 ?_); (case e => first | assumption | exact SqL.of (by walk_at "hp")); (case e2 => first | assumption | rfl))
  | ((with_reducible refine' KX.rd_len ?e ?_); (case e => first | assumption | exact SqL.of (by walk_at "hp")))
  | ((with_reducible refine' KX.rd_set ?e ?e2 ?_); (case e => walk_at "hp"); (case e2 => rfl)))
local macro_rules | `(tactic| walk_at "kx") => `(tactic| repeat walk_at "kx2")
local macro_rules | `(tactic| walk_at "kx3") => `(tactic| first
  | walk_at "kx2"
  | (with_reducible refine rd_fld2 ?_)
  | ((with_reducible refine' rd_get ?e ?c ?n ?l ?_); (case e => assumption); (case c => assumption); (case n => assumption); (case l => rfl))
  | ((with_reducible refine' rd_mulw ?e ?_); (case e => assumption)))
local macro_rules | `(tactic| walk_at "kx4") => `(tactic| with_reducible first
  | refine rd_js_cons ?_ | refine rd_js_nil ?_ | refine rd_fmt ?_)
local macro_rules | `(tactic| walk_at "kf") => `(tactic| repeat (first | walk_at "kx3" | walk_at "kx4"))
abbrev nmscBneg : List Str := ["self", "thing"]
theorem scBneg : FnScope nmscBneg ["self"] (defScope s_Balance_neg) := ⟨rfl, rfl, rfl, by decide +kernel, rfl, by decide +kernel, by decide +kernel⟩
theorem valM_at : ∀ {m : List (Str × Rat)} {j : Nat} {p : Str × Rat}, (m.map Prod.fst).Nodup → m[j]? = some p → valM m p.1 = p.2
  | [], _, _, _, h => by simp at h
  | q :: r, 0, p, _, h => by
    cases h
    simp [valM]
  | q :: r, j + 1, p, nd, h => by
    have h2 : r[j]? = some p := by simpa using h
    rw [List.map_cons, List.nodup_cons] at nd
    have ne : ¬ q.1 = p.1 := fun e => nd.1 (by rw [e]; exact List.mem_map_of_mem (List.mem_of_getElem? h2))
    have ih := valM_at nd.2 h2
    unfold valM at ih ⊢
    rw [List.find?_cons, decide_eq_false ne]
    exact ih
/-- a balance's numbers: good names, all different, few; small enough -/
structure GoodM (n : Nat) (m : List (Str × Rat)) : Prop where
  ok : ∀ p ∈ m, NameOk p.1 ∧ Bits n p.2
  nodup : (m.map Prod.fst).Nodup
  few : m.length < 64
/-- a balance made of another one's names with other numbers -/
def givesBal (K : PySem.W.Frag) (zs : List Str) (val : Str → Rat) (H : Hp) (Q : VK) : Prop := ∀ v ys H', Same H H' → ys.Perm zs → sortedS ys = true → IsBal K H' v (keepNz val ys) → Q v H'
def spBNeg (K : PySem.W.Frag) : Sp := fun vs H Q _ => ∃ x m, vs = [x] ∧ IsBal K H x m ∧ GoodM 7000 m ∧ givesBal K (m.map Prod.fst) (fun z => -valM m z) H Q
section
variable {P : Program} {w : World} {K : PySem.W.Frag} {mg : Str → Option Value} {base : Heap} {f gN : Addr} {fd fdN : FuncData} {H : Hp} {Q : VK} {σ : L2.St} {x : V} {t : Value}
theorem pair_absent {m : List (Str × Rat)} {ms : List (Key × V)} {j : Nat} {p : Str × Rat} (nd : (m.map Prod.fst).Nodup) (h : m[j]? = some p) (hs : Paired (fun (k : Key × V) (q : Str × Rat) => k.1 = Sum.inr q.1) ms (m.take j)) : ∀ q ∈ ms, q.1 ≠ (Sum.inr p.1 : Key) := by
  intro q hq e
  obtain ⟨i, hi, e2⟩ := List.mem_iff_getElem.mp hq
  obtain ⟨y, hy, e3⟩ := paired_get (i := i) (x := q) hs (by rw [List.getElem?_eq_getElem hi, e2])
  rw [e3] at e
  injection e with e
  have hi2 : i < (m.take j).length := (List.getElem?_eq_some_iff.mp hy).1
  have hij : i < j := by
    rw [List.length_take] at hi2
    omega
  have hy2 : m[i]? = some y := by
    rw [← hy, List.getElem?_take, if_pos hij]
  have g1 : (m.map Prod.fst)[i]? = some y.1 := by rw [List.getElem?_map, hy2]; rfl
  have g2 : (m.map Prod.fst)[j]? = some p.1 := by rw [List.getElem?_map, h]; rfl
  obtain ⟨l1, f1⟩ := List.getElem?_eq_some_iff.mp g1
  obtain ⟨l2, f2⟩ := List.getElem?_eq_some_iff.mp g2
  exact (List.pairwise_iff_getElem.mp nd) i j l1 l2 hij (by rw [f1, f2, e])
theorem paired_app {α β : Type} {R : α → β → Prop} {a : α} {b : β} : ∀ {xs : List α} {ys : List β}, Paired R xs ys → R a b → Paired R (xs ++ [a]) (ys ++ [b])
  | _, _, .nil, h => .cons h .nil
  | _, _, .cons r t, h => .cons r (paired_app t h)
theorem paired_mapR {α β γ : Type} {R : α → β → Prop} {S : α → γ → Prop} {f : β → γ} : ∀ {xs : List α} {ys : List β}, Paired R xs ys → (∀ a b, b ∈ ys → R a b → S a (f b)) → Paired S xs (ys.map f)
  | _, _, .nil, _ => .nil
  | _, _, .cons r t, h => .cons (h _ _ (List.mem_cons_self ..) r) (paired_mapR t fun a b hb z => h a b (List.mem_cons_of_mem _ hb) z)
theorem rd_dcT {tl : TE} {g : TG} {tt : TT} {tk tv : TE} {vs : List Nat} (q : tl σ H fun x H1 => ∃ a, x = .ref a ∧ (∃ xs, SqT K H1 a xs) ∧ ∀ D, H1 D = none → ∃ W : Nat → Nat → Hp → Prop, (∃ m, W 0 m (upd H1 D (.dK []))) ∧ ∀ i m H, W i m H →
  ((Itt K a).stop i H ∧ Q (.ref D) H) ∨ ((Itt K a).go i H ∧ ∃ Nx : Hp → Prop, (∀ H', Nx H' → ∃ m', m' < m ∧ W (i + 1) m' H') ∧ ∀ x H', (Itt K a).yld i H x H' → g x (wipe σ vs) H' fun σ2 H2 => wipe σ2 vs = wipe σ vs ∧ tt σ2 H2 fun b H3 =>
    if b = true then tk σ2 H3 fun y H4 => tv σ2 H4 fun z H5 => ∃ kvs k, y = kV k ∧ H5 D = some (.dK kvs) ∧ kvs.length < sizeLine ∧ Nx (upd H5 D (.dK (putK kvs k z))) else Nx H3)) : tDc (iTup K tl) g tt tk tv vs σ H Q := q
theorem pe_rneg {X : Cx} {k j : Nat} {g : Addr} {fdg : FuncData} {e : Expr} {te : TE} {pos : Pos} {ps : List Str} {sp : Sp} (ha : PE X e te) (hs : findIn X.K (.ref (cR X.K)) "__neg__" = some (some (.ref g))) (hf : isFn X.K (.ref g) = true) (GN : FnOk X.prog X.w X.K X.mg X.base CX0 k g fdg ps sp) (hr : Room j X.A) (hj : k ≤ j) (bN : Binds X.K fdg ps []) :
    PE X (.UnaryOp .USub e pos) (tUn (rDunU (cR X.K) sp E0) te) := pe_un (un_dun hs hf GN (hr.mono hj) bN pass0) ha
theorem shares_val {ks : List (Key × V)} {m : List (Str × Rat)} (h : Shares K H ks m) {p : Str × Rat} (hp : p ∈ m) (nd : (m.map Prod.fst).Nodup) : ∃ v, valV ks (Sum.inr p.1 : Key) = some v ∧ IsRat (cR K) H v p.2 := by
  induction h with
  | nil => cases hp
  | @cons k y ks m r t ih =>
    obtain ⟨e1, e2⟩ := r
    rw [List.map_cons, List.nodup_cons] at nd
    rcases List.mem_cons.mp hp with rfl | hp
    · exact ⟨k.2, valV_pos e1, e2⟩
    · obtain ⟨v, h1, h2⟩ := ih hp nd.2
      refine ⟨v, ?_, h2⟩
      rw [valV_neg (by
        rw [e1]
        intro z
        injection z with z
        exact nd.1 (by rw [z]; exact List.mem_map_of_mem hp))]
      exact h1
theorem ok_bneg (F : FunD K "__neg__" "Balance.__neg__" (defArgs s_Balance_neg) (defBody s_Balance_neg) (defScope s_Balance_neg) [] [] f fd) (FY : Fy K mg) (CB : BalC P w K mg base)
    (GN : FnOk P w K mg base CX0 4 (He.ma K (cR K) "__neg__") fdN ["self"] (spNegR K)) (bN : Binds K fdN ["self"] []) : FnOk P w K mg base CX0 7 f fd ["self"] (spBNeg K) := by
  refine F.ok scBneg (fun vs H Q E h => ?_) (fun cdv A outer s H vs Q E hr h => ?_)
  · obtain ⟨x, m, rfl, _⟩ := h
    rfl
  · obtain ⟨x, m, rfl, hx, g, qq⟩ := h
    have clB := (inspB_ok FY.all.2.2.1).cls
    have nsh := noB_ok FY.all.2.2.2.2.1 "shares" (by decide +kernel)
    have nth := noB_ok FY.all.2.2.2.2.1 "things" (by decide +kernel)
    have mN := methB_ok FY.all.2.1.2.2.2.2.2.2.1
    obtain ⟨a, dx, d, t, ks, rfl, ha, hd, hsh, ht⟩ := hx
    refine ⟨_, PSs.nox (pss_one (ps_ret (pe_bal CB FY hr (by decide) rfl (pa_cons (pe_dc (own := [("thing", 1)]) (g := gName 1) (tk := tVar 1) (tv := tUn (rDunU (cR K) (spNegR K) E0) (tDGet (tFld K (tVar 0) "shares") (tVar 1))) (tt := tYes) rfl scBneg.nd (pi_tup (pe_fld (pv 0) rfl)) (blkOk_by (N := nmscBneg) (sc := defScope s_Balance_neg) (by decide +kernel)) (fun _ _ _ _ _ => pg_name (i := 1) scBneg.nd rfl (Or.inl rfl)) (fun _ _ _ _ _ => pts_nil) (fun _ _ _ _ _ => pv 1) (fun _ _ _ _ _ => by exact (pe_rneg (pe_dget (hu_of hr) (pe_fld (pv 0) rfl) (pv 1) (fun _ _ => rfl)) mN.at_ mN.fn GN hr (by decide) bN))) pa_nil)))), ?_⟩
    walk_at "kf"
    refine rd_bal ?_
    walk_at "kf"
    refine rd_dcT ?_
    walk_at "kf"
    refine ⟨t, rfl, ⟨_, SqT.of ht⟩, fun D hD => dc_tup (xs := m.map fun p => V.str p.1) (fun j H2 => KX.But D H H2 ∧ ∃ ms, H2 D = some (.dK ms) ∧ Paired (fun (k : Key × V) (p : Str × Rat) => k.1 = Sum.inr p.1 ∧ IsRat (cR K) H2 k.2 (-p.2)) ms (m.take j)) ⟨KX.But.new KX.But.refl hD, [], upd_same, .nil⟩ (fun j H2 _ hp => SqT.of (hp.1 _ _ (ne_of_none ht hD) ht)) (fun j x H2 hx hp => ?_) (fun H2 hp => ?_)⟩
    · obtain ⟨hb, ms, hms, hs2⟩ := hp
      rw [List.getElem?_map] at hx
      obtain ⟨p, hp, rfl⟩ := Option.map_eq_some_iff.mp hx
      have pm := List.mem_of_getElem? hp
      obtain ⟨v, hv, hr0⟩ := shares_val hsh pm g.nodup
      have ha2 := hb _ _ (ne_of_none ha hD) ha
      have hd2 := hb _ _ (ne_of_none hd hD) hd
      obtain ⟨va, vd, rfl, hva⟩ := IsRat.mono (fun b o z => hb b o (ne_of_none z hD) z) hr0
      have lm : ms.length < 64 := by
        rw [Paired.length hs2]
        have := List.length_take_le' j m
        have := g.few
        omega
      have ab : ∀ q ∈ ms, q.1 ≠ (Sum.inr p.1 : Key) := pair_absent g.nodup hp (Paired.mapP hs2 fun _ _ r => r.1)
      refine ⟨rfl, ?_⟩
      walk_at "kf"
      refine ⟨.ref a, rfl, a, cB K, dx, _, .ref d, rfl, ha2, clB, nsh, rfl, .str p.1, rfl, d, .ref va, rfl, .inl ⟨ks, .inr p.1, .inl hd2, rfl, hv.symm⟩, ?_⟩
      refine ⟨va, vd, _, rfl, hva, .ref va, p.2, rfl, ⟨va, vd, rfl, hva⟩, (g.ok _ pm).2, fun v' H4 k4 hr4 => ?_⟩
      obtain ⟨na, nd, rfl, hna⟩ := hr4
      refine ⟨ms, .inr p.1, rfl, k4 _ _ hms, Nat.lt_of_lt_of_le lm (by decide), (hb.trans (KX.But.of k4)).upd, _, upd_same, ?_⟩
      rw [put_new ab, List.take_succ, hp]
      have nD : ∀ {b dx q}, H4 b = some (.ins (cR K) dx (ratF q)) → b ≠ D := fun z e => by
        rw [e, k4 _ _ hms] at z
        cases z
      refine paired_app (Paired.mapP hs2 fun x y r => ⟨r.1, ?_⟩) ⟨rfl, na, nd, rfl, by rw [upd_ne (nD hna)]; exact hna⟩
      obtain ⟨c1, c2, c3, c4⟩ := r.2
      exact ⟨c1, c2, c3, by rw [upd_ne (nD (k4 _ _ c4))]; exact k4 _ _ c4⟩
    · obtain ⟨hb, ms, hms, hs2⟩ := hp
      rw [List.length_map, List.take_length] at hs2
      have kk : Same H H2 := fun b o z => hb b o (ne_of_none z hD) z
      walk_at "kf"
      refine ⟨D, ms, m.map Prod.fst, fun z => -valM m z, rfl, hms, ⟨paired_mapR hs2 fun k p pm r => ⟨r.1, (g.ok p pm).1, ?_⟩, g.nodup, by rw [List.length_map]; exact g.few⟩, fun v ys H' k pm st hbal => ?_⟩
      · obtain ⟨i, hi, e⟩ := List.mem_iff_getElem.mp pm
        rw [valM_at g.nodup (j := i) (p := p) (by rw [List.getElem?_eq_getElem hi, e])]
        exact .inl r.2
      · walk_at "kf"
        exact qq v ys H' (kk.trans k) pm st hbal
end

end K5
namespace K5
open PySem PySem.Spec PyProof.Rows L2 KY PySem.W
local macro_rules | `(tactic| walk_at "kx1") => `(tactic| with_reducible first
  | refine KX.rd_seq ?_ | refine KX.rd_asg ?_ | refine KX.rd_op ?_ | refine KX.rd_c ?_ | refine KX.rd_cb ?_ | refine KX.rd_cons ?_ | refine KX.rd_nil ?_ | refine KX.rd_un ?_ | refine KX.rd_nx ?_ | refine KX.rd_rt ?_ | refine KX.rd_next ?_ | refine KX.rd_ret ?_
  | refine KX.rd_ifs ?_ | refine KX.rd_if ?_ | refine KX.rd_test ?_ | refine KX.rd_B ?_ | refine KX.rd_bl ?_ | refine KX.rd_and ?_ | refine KX.rd_or ?_ | refine KX.rd_not ?_ | refine KX.rd_I0 ?_ | refine KX.rd_U ?_ | refine KX.rd_int ?_ | refine KX.rd_intB ?_ | refine KX.rd_abs ?_
  | refine KX.rd_gname ?_ | refine KX.rd_gsub ?_ | refine KX.rd_call ?_ | refine KX.rd_drop ?_ | refine KX.rd_yes ?_ | refine KX.rd_andV ?_ | refine KX.rd_orV ?_ | refine KX.rd_notV ?_)
local macro_rules | `(tactic| walk_at "hp") => `(tactic| first
  | assumption
  | exact upd_same
  | (refine Eq.trans (upd_ne (by assumption)) ?_; walk_at "hp")
  | (refine Eq.trans (upd_ne (Ne.symm (by assumption))) ?_; walk_at "hp"))
local macro_rules | `(tactic| walk_at "kx2") => `(tactic| first
  | walk_at "kx1"
  | ((with_reducible refine KX.rd_T ?e ?_); (case e => rfl))
  | ((with_reducible refine KX.rd_F ?e ?_); (case e => rfl))
  | ((with_reducible refine' KX.rd_var ?e ?_); (case e => rfl))
  | ((with_reducible refine' KX.rd_I ?e ?_); (case e => first | assumption | decide | exact Or.inl ⟨by omega, by omega⟩ | exact ⟨by decide, by decide, by decide⟩ | exact ⟨by decide, by decide⟩))
  | ((with_reducible refine' KX.rd_eq ?e ?_); (case e => rfl))
  | ((with_reducible refine' KX.rd_ne ?e ?_); (case e => rfl))
  | ((with_reducible refine' KX.rd_ix ?e ?e2 ?_); (case e => first | assumption | exact SqL.of (by walk_at "hp")); (case e2 => first | assumption | rfl))
  | ((with_reducible refine' KX.rd_len ?e ?_); (case e => first | assumption | exact SqL.of (by walk_at "hp")))
  | ((with_reducible refine' KX.rd_set ?e ?e2 ?_); (case e => walk_at "hp"); (case e2 => rfl)))
local macro_rules | `(tactic| walk_at "kx") => `(tactic| repeat walk_at "kx2")
local macro_rules | `(tactic| walk_at "kx3") => `(tactic| first
  | walk_at "kx2"
  | (with_reducible refine rd_fld2 ?_)
  | ((with_reducible refine' rd_get ?e ?c ?n ?l ?_); (case e => assumption); (case c => assumption); (case n => assumption); (case l => rfl))
  | ((with_reducible refine' rd_mulw ?e ?_); (case e => assumption)))
local macro_rules | `(tactic| walk_at "kx4") => `(tactic| with_reducible first
  | refine rd_js_cons ?_ | refine rd_js_nil ?_ | refine rd_fmt ?_)
local macro_rules | `(tactic| walk_at "kf") => `(tactic| repeat (first | walk_at "kx3" | walk_at "kx4"))
abbrev nmscAW : List Str := ["value", "name"]
theorem scAW : FnScope nmscAW ["value"] (defScope s_are_new_names) := ⟨rfl, rfl, rfl, by decide +kernel, rfl, by decide +kernel, by decide +kernel⟩
/-- a dict of good names to good names -/
def spNewNames : Sp := fun vs H Q _ => ∃ (d : Addr) (ks : List (Key × V)), vs = [.ref d] ∧ H d = some (.dK ks) ∧ ks.length ≤ 100 ∧ (∀ p ∈ ks, ∃ z y, p.1 = Sum.inr z ∧ p.2 = V.str y ∧ NameOk z ∧ NameOk y) ∧ ∀ H', Same H H' → Q (.bl true) H'
section
variable {P : Program} {w : World} {K : PySem.W.Frag} {mg : Str → Option Value} {base : Heap} {f : Addr} {fd : FuncData} {H : Hp} {Q : VK} {σ : L2.St} {x : V} {t : Value}
theorem ok_newnames (F : FunD K "are_new_names" "are_new_names" (defArgs s_are_new_names) (defBody s_are_new_names) (defScope s_are_new_names) [] [] f fd) (FY : Fy K mg) (CN : Callee P w K mg base 1 "is_name" ["value"] spName) : FnOk P w K mg base CX0 2 f fd ["value"] spNewNames := by
  refine F.ok scAW (fun vs H Q E h => ?_) (fun cdv A outer s H vs Q E hr h => ?_)
  · obtain ⟨d, ks, rfl, _⟩ := h
    rfl
  · obtain ⟨d, ks, rfl, hd, hl, hk, qq⟩ := h
    refine ⟨_, PSs.nox (pss_one (ps_ret (pe_and (pe_callB call_isi (by rfl) (FY.free "isinstance" (by decide +kernel)) (by decide +kernel) (pa_cons (pv 0) (pa_cons (pe_bltn (v := .ty "dict") (by rfl) (FY.free "dict" (by decide +kernel)) (by decide +kernel) rfl) pa_nil))) (pe_one (pe_callB (cr_all rfl) (by rfl) (FY.free "all" (by decide +kernel)) (by decide +kernel) (pa_cons (pe_lock (pe_lc (own := [("name", 1)]) (g := gName 1) (tt := tYes) rfl scAW.nd (pi_keys (pv 0)) (blkOk_by (N := nmscAW) (sc := defScope s_are_new_names) (by decide +kernel)) (fun _ _ _ _ _ => pg_name (i := 1) scAW.nd rfl (Or.inl rfl)) (fun _ _ _ _ _ => pts_nil) (fun _ _ _ _ _ => (pe_and (KX.pe_c CN hr (by decide) rfl (pa_cons (pv 1) pa_nil)) (pe_one (KX.pe_c CN hr (by decide) rfl (pa_cons (pe_dget (hu_of hr) (pv 0) (pv 1) (fun _ _ => rfl)) pa_nil))))))) pa_nil)))))), ?_⟩
    walk_at "kf"
    refine rd_isi FY (.base (.dK hd)) (.ty (by decide +kernel)) (by decide +kernel) ?_
    walk_at "kf"
    refine ⟨d, _, hd, True.intro, fun od => ?_⟩
    have lk : ∀ b o, b ≠ d → H b = some o → (upd H d (.frz od (.dK ks))) b = some o := fun b o n z => by rw [upd_ne n]; exact z
    have lkd : (upd H d (.frz od (.dK ks))) d = some (.frz od (.dK ks)) := upd_same
    generalize (upd H d (.frz od (.dK ks))) = L at lk lkd ⊢
    walk_at "kf"
    refine ⟨.ref d, rfl, d, od, rfl, .inl ⟨ks, lkd, fun D hD => lc_it walk_keys (fun j H2 => KX.But D L H2 ∧ H2 D = some (.lst ((List.replicate j true).map V.bl))) ⟨KX.But.new KX.But.refl hD, upd_same⟩ (fun j H2 _ hp => hp.1 _ _ (ne_of_none lkd hD) lkd) (fun j x H2 H3 hj hp hy => ?_) (fun H2 hp => ?_)⟩⟩
    · obtain ⟨hb, hdd⟩ := hp
      obtain ⟨rfl, k, v, hkv, rfl⟩ := hy
      have hm := List.mem_of_getElem? hkv
      obtain ⟨v2, hv2, hm2⟩ := val_in hm
      obtain ⟨z, y, ez, ey, hz, hy2⟩ := hk _ hm2
      dsimp only at ez ey
      subst ez ey
      have sl : Same L H3 := fun b o z => hb b o (ne_of_none z hD) z
      refine ⟨rfl, ?_⟩
      walk_at "kf"
      refine ⟨z, rfl, hz, fun H4 k4 => ?_⟩
      walk_at "kf"
      refine ⟨.ref d, rfl, .str z, rfl, d, .str y, rfl, .inl ⟨ks, .inr z, .inr ⟨od, k4 _ _ (sl _ _ lkd)⟩, rfl, hv2.symm⟩, ?_⟩
      walk_at "kf"
      refine ⟨y, rfl, hy2, fun H5 k5 => ⟨_, k5 _ _ (k4 _ _ hdd), ?_, ((hb.trans (KX.But.of k4)).trans (KX.But.of k5)).upd, ?_⟩⟩
      · rw [List.length_map, List.length_replicate]
        exact Nat.lt_of_lt_of_le (show j < 1000 by omega) (by decide)
      · rw [upd_same, List.replicate_succ', List.map_append]
        rfl
    obtain ⟨hb, hdd⟩ := hp
    have sl : Same L H2 := fun b o z => hb b o (ne_of_none z hD) z
    have ld2 := sl _ _ lkd
    have nD : D ≠ d := fun z => by
      rw [z, lkd] at hD
      cases hD
    refine ⟨ld2, ?_⟩
    walk_at "kf"
    refine ⟨D, _, rfl, SqL.of (by rw [upd_ne nD]; exact hdd), ?_⟩
    rw [all_rep]
    walk_at "kf"
    refine qq _ fun b o z => ?_
    by_cases e : b = d
    · subst e
      rw [upd_same, ← z, hd]
    · rw [upd_ne e]
      exact sl _ _ (lk b o e z)
end

end K5
namespace K5
open PySem PySem.Spec PyProof.Rows L2 KY PySem.W
local macro_rules | `(tactic| walk_at "kx1") => `(tactic| with_reducible first
  | refine KX.rd_seq ?_ | refine KX.rd_asg ?_ | refine KX.rd_op ?_ | refine KX.rd_c ?_ | refine KX.rd_cb ?_ | refine KX.rd_cons ?_ | refine KX.rd_nil ?_ | refine KX.rd_un ?_ | refine KX.rd_nx ?_ | refine KX.rd_rt ?_ | refine KX.rd_next ?_ | refine KX.rd_ret ?_
  | refine KX.rd_ifs ?_ | refine KX.rd_if ?_ | refine KX.rd_test ?_ | refine KX.rd_B ?_ | refine KX.rd_bl ?_ | refine KX.rd_and ?_ | refine KX.rd_or ?_ | refine KX.rd_not ?_ | refine KX.rd_I0 ?_ | refine KX.rd_U ?_ | refine KX.rd_int ?_ | refine KX.rd_intB ?_ | refine KX.rd_abs ?_
  | refine KX.rd_gname ?_ | refine KX.rd_gsub ?_ | refine KX.rd_call ?_ | refine KX.rd_drop ?_ | refine KX.rd_yes ?_ | refine KX.rd_andV ?_ | refine KX.rd_orV ?_ | refine KX.rd_notV ?_)
local macro_rules | `(tactic| walk_at "hp") => `(tactic| first
  | assumption
  | exact upd_same
  | (refine Eq.trans (upd_ne (by assumption)) ?_; walk_at "hp")
  | (refine Eq.trans (upd_ne (Ne.symm (by assumption))) ?_; walk_at "hp"))
local macro_rules | `(tactic| walk_at "kx2") => `(tactic| first
  | walk_at "kx1"
  | ((with_reducible refine KX.rd_T ?e ?_); (case e => rfl))
  | ((with_reducible refine KX.rd_F ?e ?_); (case e => rfl))
  | ((with_reducible refine' KX.rd_var ?e ?_); (case e => rfl))
  | ((with_reducible refine' KX.rd_I ?e ?_); (case e => first | assumption | decide | exact Or.inl ⟨by omega, by omega⟩ | exact ⟨by decide, by decide, by decide⟩ | exact ⟨by decide, by decide⟩))
  | ((with_reducible refine' KX.rd_eq ?e ?_); (case e => rfl))
  | ((with_reducible refine' KX.rd_ne ?e ?_); (case e => rfl))
  | ((with_reducible refine' KX.rd_ix ?e ?e2 ?_); (case e => first | assumption | exact SqL.of (by walk_at "hp")); (case e2 => first | assumption | rfl))
  | ((with_reducible refine' KX.rd_len ?e ?_); (case e => first | assumption | exact SqL.of (by walk_at "hp")))
  | ((with_reducible refine' KX.rd_set ?e ?e2 ?_); (case e => walk_at "hp"); (case e2 => rfl)))
local macro_rules | `(tactic| walk_at "kx") => `(tactic| repeat walk_at "kx2")
local macro_rules | `(tactic| walk_at "kx3") => `(tactic| first
  | walk_at "kx2"
  | (with_reducible refine rd_fld2 ?_)
  | ((with_reducible refine' rd_get ?e ?c ?n ?l ?_); (case e => assumption); (case c => assumption); (case n => assumption); (case l => rfl))
  | ((with_reducible refine' rd_mulw ?e ?_); (case e => assumption)))
local macro_rules | `(tactic| walk_at "kx4") => `(tactic| with_reducible first
  | refine rd_js_cons ?_ | refine rd_js_nil ?_ | refine rd_fmt ?_)
local macro_rules | `(tactic| walk_at "kf") => `(tactic| repeat (first | walk_at "kx3" | walk_at "kx4"))
theorem scIN : FnScope ["self"] ["self"] (defScope s_Balance_is_nothing) := ⟨rfl, rfl, rfl, by decide +kernel, rfl, by decide +kernel, by decide +kernel⟩
theorem dp_strs {K : PySem.W.Frag} {H : Hp} : ∀ l : List Str, DpAll K H (l.map V.str) (l.map PyData.str)
  | [] => .nil
  | a :: r => .cons (.str a) (dp_strs r)
theorem strs_lay : ∀ l : List Str, (∀ z ∈ l, PyData.strOk z = true) → PyData.canLayAll0 (l.map PyData.str) = true
  | [], _ => rfl
  | a :: r, h => by
    show (PyData.canLay0 (.str a) && PyData.canLayAll0 (r.map PyData.str)) = true
    rw [strs_lay r fun z hz => h z (List.mem_cons_of_mem _ hz)]
    rw [show PyData.canLay0 (.str a) = PyData.strOk a by simp only [PyData.canLay0]]
    rw [h a (List.mem_cons_self ..)]
    rfl
theorem strs_depth : ∀ l : List Str, PyData.depthAll (l.map PyData.str) = 0
  | [] => rfl
  | a :: r => by
    show max (PyData.depth (.str a)) (PyData.depthAll (r.map PyData.str)) = 0
    rw [strs_depth r]
    rfl
theorem strs_shaped (l : List Str) (h : ∀ z ∈ l, PyData.strOk z = true) : SeqAt.shaped (.tuple (l.map PyData.str)) = true := by
  unfold SeqAt.shaped PyData.canLay0 PyData.depth
  rw [strs_lay l h, strs_depth]
  rfl
theorem eqv_nil (l : List Str) : PyData.eqv (.tuple (l.map PyData.str)) (.tuple []) = l.isEmpty := by
  cases l with
  | nil => simp [PyData.eqv, PyData.eqvAll]
  | cons a r => simp [PyData.eqv, PyData.eqvAll]
def spNothing (K : PySem.W.Frag) : Sp := fun vs H Q _ => ∃ x m, vs = [x] ∧ IsBal K H x m ∧ (∀ p ∈ m, PyData.strOk p.1 = true) ∧ ∀ H', Same H H' → Q (.bl m.isEmpty) H'
section
variable {P : Program} {w : World} {K : PySem.W.Frag} {mg : Str → Option Value} {base : Heap} {f : Addr} {fd : FuncData} {H : Hp} {Q : VK} {σ : L2.St} {x : V} {t : Value}
theorem ok_nothing (F : FunD K "is_nothing" "Balance.is_nothing" (defArgs s_Balance_is_nothing) (defBody s_Balance_is_nothing) (defScope s_Balance_is_nothing) [] [] f fd) (FY : Fy K mg) : FnOk P w K mg base CX0 1 f fd ["self"] (spNothing K) := by
  refine F.ok scIN (fun vs H Q E h => ?_) (fun cdv A outer s H vs Q E hr h => ?_)
  · obtain ⟨x, m, rfl, _⟩ := h
    rfl
  · obtain ⟨x, m, rfl, hx, hs, qq⟩ := h
    have clB := (inspB_ok FY.all.2.2.1).cls
    have nth := noB_ok FY.all.2.2.2.2.1 "things" (by decide +kernel)
    obtain ⟨a, dx, d, t, ks, rfl, ha, hd, hsh, ht⟩ := hx
    refine ⟨_, PSs.nox (pss_one (ps_ret (pe_cmpR (op_eqD hr.units) (pe_fld (pv 0) rfl) (pe_tup pa_nil) (nomark _)))), ?_⟩
    walk_at "kf"
    refine KX.rd_tup ?_
    walk_at "kf"
    refine ⟨Nat.zero_le _, fun p hp => ?_⟩
    have k : Same H (upd H p (.tup [])) := fun b o z => by rw [upd_ne (ne_of_none z hp)]; exact z
    have e0 : (m.map fun p => V.str p.1) = (m.map Prod.fst).map V.str := by rw [List.map_map]; rfl
    rw [e0] at ht
    refine ⟨.tuple ((m.map Prod.fst).map .str), .tuple [], .tup (SqT.of (k _ _ ht)) (dp_strs _), .tup (SqT.of upd_same) .nil, strs_shaped _ (fun z hz => by
      obtain ⟨p, hp, rfl⟩ := List.mem_map.mp hz
      exact hs p hp), rfl, ?_⟩
    rw [eqv_nil, List.isEmpty_map]
    walk_at "kf"
    exact qq _ k
end

end K5
namespace K5
open PySem PySem.Spec PyProof.Rows L2 KY PySem.W
/-! ### dicts of numbers by names; balances -/
/-- a dict by good names whose values are so -/
structure DF (R : Hp → V → Rat → Prop) (H : Hp) (ks : List (Key × V)) (h : Str → Rat) (c : Nat) : Prop where
  names : ∀ p ∈ ks, ∃ z, p.1 = Sum.inr z ∧ NameOk z
  nodup : (ks.map Prod.fst).Nodup
  has : ∀ z v, valV ks (Sum.inr z : Key) = some v → R H v (h z)
  out : ∀ z, valV ks (Sum.inr z : Key) = none → h z = 0
  few : ks.length ≤ c
abbrev RRat (K : PySem.W.Frag) : Hp → V → Rat → Prop := fun H v q => IsRat (cR K) H v q
abbrev RNum (K : PySem.W.Frag) : Hp → V → Rat → Prop := fun H v q => NumV (cR K) H v q
/-- a pair of integers, top and bottom -/
def IsPair (H : Hp) (v : V) (q : Rat) : Prop := ∃ a, v = .ref a ∧ H a = some (.tup [.int q.num, .int q.den])
abbrev RPair : Hp → V → Rat → Prop := fun H v q => IsPair H v q
section
variable {R S : Hp → V → Rat → Prop} {H H' : Hp} {ks : List (Key × V)} {h g : Str → Rat} {c : Nat}
theorem DF.mono (D : DF R H ks h c) (k : ∀ v q, R H v q → S H' v q) : DF S H' ks h c := ⟨D.names, D.nodup, fun z v e => k _ _ (D.has z v e), D.out, D.few⟩
theorem DF.nil : DF R H [] (fun _ => 0) 0 := ⟨(fun _ h => by cases h), List.nodup_nil, (fun _ _ e => by cases e), fun _ _ => rfl, Nat.le_refl _⟩
theorem DF.congr (D : DF R H ks h c) (e : ∀ z, h z = g z) : DF R H ks g c := ⟨D.names, D.nodup, fun z v x => by rw [← e]; exact D.has z v x, fun z x => by rw [← e]; exact D.out z x, D.few⟩
theorem DF.weak {c' : Nat} (D : DF R H ks h c) (l : c ≤ c') : DF R H ks h c' := ⟨D.names, D.nodup, D.has, D.out, Nat.le_trans D.few l⟩
theorem DF.get (D : DF R H ks h c) {w : V} (z : Str) (r : R H w 0) : R H ((valV ks (Sum.inr z : Key)).getD w) (h z) := by
  cases e : valV ks (Sum.inr z : Key) with
  | none =>
    rw [D.out z e]
    exact r
  | some v => exact D.has z v e
theorem putK_keys {ks : List (Key × V)} (k : Key) (v : V) : (putK ks k v).map Prod.fst = if (valV ks k).isSome = true then ks.map Prod.fst else ks.map Prod.fst ++ [k] := by
  unfold putK
  rw [valV_any]
  split
  · rw [List.map_map]
    refine List.map_congr_left fun p _ => ?_
    show (if p.1 = k then (p.1, v) else p).1 = p.1
    split <;> rfl
  · rw [List.map_append]
    rfl
theorem valV_mem {ks : List (Key × V)} {k : Key} {v : V} (e : valV ks k = some v) : (k, v) ∈ ks := by
  unfold valV at e
  obtain ⟨p, hp, rfl⟩ := Option.map_eq_some_iff.mp e
  have h1 := List.find?_some hp
  have h2 := List.mem_of_find?_eq_some hp
  rw [← of_decide_eq_true h1]
  exact h2
theorem valV_none {ks : List (Key × V)} {k : Key} (e : valV ks k = none) : k ∉ ks.map Prod.fst := by
  intro m
  obtain ⟨p, hp, rfl⟩ := List.mem_map.mp m
  unfold valV at e
  rw [Option.map_eq_none_iff, List.find?_eq_none] at e
  exact e p hp (decide_eq_true rfl)
theorem valV_at {ks : List (Key × V)} (nd : (ks.map Prod.fst).Nodup) {p : Key × V} (hp : p ∈ ks) : valV ks p.1 = some p.2 := by
  induction ks with
  | nil => cases hp
  | cons q r ih =>
    rw [List.map_cons, List.nodup_cons] at nd
    rcases List.mem_cons.mp hp with rfl | hp
    · exact valV_pos rfl
    · rw [valV_neg (fun e => nd.1 (by rw [e]; exact List.mem_map_of_mem hp)), ih nd.2 hp]
theorem DF.put (D : DF R H ks h c) {z : Str} {v : V} {q : Rat} (ok : NameOk z) (r : R H v q) : DF R H (putK ks (Sum.inr z) v) (fun y => if y = z then q else h y) (c + 1) := by
  refine ⟨fun p hp => ?_, ?_, fun y w e => ?_, fun y e => ?_, ?_⟩
  · have m : p.1 ∈ (putK ks (Sum.inr z) v).map Prod.fst := List.mem_map_of_mem hp
    rw [putK_keys] at m
    have m2 : p.1 ∈ ks.map Prod.fst ∨ p.1 = Sum.inr z := by
      split at m
      · exact .inl m
      · simpa using m
    rcases m2 with m2 | m2
    · obtain ⟨p2, h2, e2⟩ := List.mem_map.mp m2
      rw [← e2]
      exact D.names p2 h2
    · exact ⟨z, m2, ok⟩
  · rw [putK_keys]
    split
    · exact D.nodup
    · rename_i n
      refine List.nodup_append.mpr ⟨D.nodup, by simp, fun a ha b hb => ?_⟩
      rw [List.mem_singleton] at hb
      subst hb
      intro e
      subst e
      refine valV_none ?_ ha
      cases x : valV ks (Sum.inr z : Key) with
      | none => rfl
      | some _ => rw [x] at n; exact absurd rfl n
  · rw [valV_put] at e
    by_cases y1 : y = z
    · subst y1
      rw [if_pos rfl] at e
      cases e
      rw [if_pos rfl]
      exact r
    · rw [if_neg (by intro x; injection x with x; exact y1 x)] at e
      rw [if_neg y1]
      exact D.has y w e
  · rw [valV_put] at e
    by_cases y1 : y = z
    · subst y1
      rw [if_pos rfl] at e
      cases e
    · rw [if_neg (by intro x; injection x with x; exact y1 x)] at e
      rw [if_neg y1]
      exact D.out y e
  · exact Nat.le_trans (length_putK ..) (Nat.succ_le_succ D.few)
/-- the names that a dict has -/
def keysS : List (Key × V) → List Str
  | [] => []
  | (Sum.inr z, _) :: r => z :: keysS r
  | (Sum.inl _, _) :: r => keysS r
theorem DF.keys_go : ∀ {ks : List (Key × V)}, (∀ p ∈ ks, ∃ z, p.1 = Sum.inr z ∧ NameOk z) → (keysS ks).map (Sum.inr : Str → Key) = ks.map Prod.fst
  | [], _ => rfl
  | (Sum.inr z, v) :: r, h => by
    show Sum.inr z :: (keysS r).map Sum.inr = Sum.inr z :: r.map Prod.fst
    rw [DF.keys_go fun p hp => h p (List.mem_cons_of_mem _ hp)]
  | (Sum.inl i, v) :: r, h => by
    obtain ⟨z, e, _⟩ := h _ (List.mem_cons_self ..)
    cases e
theorem DF.keys (D : DF R H ks h c) : (keysS ks).map (Sum.inr : Str → Key) = ks.map Prod.fst := DF.keys_go D.names
theorem DF.keysNd (D : DF R H ks h c) : (keysS ks).Nodup := by
  have z := D.nodup
  rw [← D.keys] at z
  exact List.Pairwise.of_map (Sum.inr : Str → Key) (fun a b h e => h (by rw [e])) z
theorem DF.keysLen (D : DF R H ks h c) : (keysS ks).length = ks.length := by
  have z := congrArg List.length D.keys
  rwa [List.length_map, List.length_map] at z
theorem DF.keysOut (D : DF R H ks h c) {z : Str} (n : z ∉ keysS ks) : h z = 0 := by
  refine D.out z ?_
  cases e : valV ks (Sum.inr z : Key) with
  | none => rfl
  | some v =>
    have m : (Sum.inr z : Key) ∈ ks.map Prod.fst := List.mem_map_of_mem (valV_mem e)
    rw [← D.keys] at m
    obtain ⟨y, hy, e2⟩ := List.mem_map.mp m
    injection e2 with e2
    exact absurd (e2 ▸ hy) n
theorem DF.keysIn (D : DF R H ks h c) {z : Str} (m : z ∈ keysS ks) : ∃ v, valV ks (Sum.inr z : Key) = some v ∧ R H v (h z) ∧ NameOk z := by
  have m2 : (Sum.inr z : Key) ∈ (keysS ks).map (Sum.inr : Str → Key) := List.mem_map_of_mem m
  rw [D.keys] at m2
  obtain ⟨p, hp, e⟩ := List.mem_map.mp m2
  have x := valV_at D.nodup hp
  rw [e] at x
  obtain ⟨y, ey, ok⟩ := D.names p hp
  rw [e] at ey
  injection ey with ey
  subst ey
  exact ⟨p.2, x, D.has _ _ x, ok⟩
theorem DF.keyAt (D : DF R H ks h c) {i : Nat} {k : Key} {v : V} (e : ks[i]? = some (k, v)) : ∃ z, k = Sum.inr z ∧ (keysS ks)[i]? = some z ∧ z ∈ keysS ks := by
  obtain ⟨z, ez, _⟩ := D.names _ (List.mem_of_getElem? e)
  dsimp only at ez
  subst ez
  have k2 : ((keysS ks).map (Sum.inr : Str → Key))[i]? = (ks.map Prod.fst)[i]? := by rw [D.keys]
  rw [List.getElem?_map, List.getElem?_map, e] at k2
  cases e3 : (keysS ks)[i]? with
  | none =>
    rw [e3] at k2
    cases k2
  | some y =>
    rw [e3] at k2
    simp only [Option.map_some, Option.some.injEq, Sum.inr.injEq] at k2
    subst k2
    exact ⟨_, rfl, rfl, List.mem_of_getElem? e3⟩
theorem each_go : ∀ {ks : List (Key × V)}, (ks.map Prod.fst).Nodup → (∀ p ∈ ks, ∃ z, p.1 = Sum.inr z ∧ NameOk z) → (∀ z v, valV ks (Sum.inr z : Key) = some v → R H v (h z)) → Paired (fun (k : Key × V) (z : Str) => k.1 = Sum.inr z ∧ NameOk z ∧ R H k.2 (h z)) ks (keysS ks)
  | [], _, _, _ => .nil
  | (Sum.inl i, v) :: r, _, n, _ => by
    obtain ⟨z, e, _⟩ := n _ (List.mem_cons_self ..)
    cases e
  | (Sum.inr z, v) :: r, nd, n, hs => by
    rw [List.map_cons, List.nodup_cons] at nd
    have ok : NameOk z := by
      obtain ⟨y, e, ok⟩ := n _ (List.mem_cons_self ..)
      injection e with e
      rw [e]
      exact ok
    refine .cons ⟨rfl, ok, hs z v (valV_pos rfl)⟩ (each_go nd.2 (fun p hp => n p (List.mem_cons_of_mem _ hp)) fun y w e => hs y w ?_)
    rw [valV_neg, e]
    intro x
    refine nd.1 ?_
    rw [x]
    exact List.mem_map_of_mem (valV_mem e)
theorem DF.each (D : DF R H ks h c) : Paired (fun (k : Key × V) (z : Str) => k.1 = Sum.inr z ∧ NameOk z ∧ R H k.2 (h z)) ks (keysS ks) := each_go D.nodup D.names D.has
theorem DF.numsV {K : PySem.W.Frag} (D : DF (RNum K) H ks h c) (l : c < 64) : NumsV K H ks (keysS ks) h :=
  ⟨D.each, D.keysNd, by rw [D.keysLen]; exact Nat.lt_of_le_of_lt D.few l⟩
end
/-! ### bits -/
theorem bits_zero {n : Nat} (h : 1 ≤ n) : Bits n 0 := by
  have : (2 : Nat) ^ 1 ≤ 2 ^ n := Nat.pow_le_pow_right (by decide) h
  exact ⟨by show (0 : Int).natAbs < _; simp; omega, by show (1 : Nat) < _; omega⟩
theorem bits_int {n : Nat} {i : Int} (h : i.natAbs < 2 ^ n) (l : 1 ≤ n) : Bits n (i : Rat) := by
  have : (2 : Nat) ^ 1 ≤ 2 ^ n := Nat.pow_le_pow_right (by decide) l
  exact ⟨by rw [Rat.num_intCast]; exact h, by rw [Rat.den_intCast]; omega⟩
theorem bits_neg {n : Nat} {q : Rat} (h : Bits n q) : Bits n (-q) := ⟨by rw [Rat.neg_num, Int.natAbs_neg]; exact h.num, by rw [Rat.neg_den]; exact h.den⟩
theorem bits_plus {a b : Nat} {p q : Rat} (h : Bits a p) (g : Bits b q) : Bits (a + b + 1) (p + q) := by
  rw [← add_parts]
  exact bits_divInt (Int.mul_ne_zero (den_ne p) (den_ne q)) (bits_add h g).1 (bits_add h g).2
theorem bits_minus {a b : Nat} {p q : Rat} (h : Bits a p) (g : Bits b q) : Bits (a + b + 1) (p - q) := by
  rw [Rat.sub_eq_add_neg]
  exact bits_plus h (bits_neg g)
theorem bits_times {a b : Nat} {p q : Rat} (h : Bits a p) (g : Bits b q) : Bits (a + b) (p * q) := by
  rw [← mul_parts]
  exact bits_divInt (Int.mul_ne_zero (den_ne p) (den_ne q)) (wide_lt h.num g.num) (wide_lt (by rw [Int.natAbs_natCast]; exact h.den) (by rw [Int.natAbs_natCast]; exact g.den))
/-! ### balances -/
structure Good (c n : Nat) (m : Lst) : Prop where
  can : Canon m
  ok : ∀ p ∈ m, NameOk p.1
  bits : ∀ z, Bits n (valM m z)
  few : m.length ≤ c
theorem Good.toM {c n : Nat} {m : Lst} (g : Good c n m) (l : c < 64) : GoodM n m :=
  ⟨fun p hp => ⟨g.ok p hp, by have z := g.bits p.1; rw [valM_mem g.can.nodup hp] at z; exact z⟩, g.can.nodup, Nat.lt_of_le_of_lt g.few l⟩
theorem Good.bitsAt {c n : Nat} {m : Lst} (g : Good c n m) {p : Str × Rat} (hp : p ∈ m) : Bits n p.2 := by
  have z := g.bits p.1
  rw [valM_mem g.can.nodup hp] at z
  exact z
theorem Good.weak {c n c' n' : Nat} {m : Lst} (g : Good c n m) (l : c ≤ c') (l' : n ≤ n') : Good c' n' m := ⟨g.can, g.ok, fun z => (g.bits z).mono l', Nat.le_trans g.few l⟩
/-- a balance comes out, with these numbers -/
def retBal (K : PySem.W.Frag) (c n : Nat) (f : Str → Rat) (H : Hp) (Q : VK) : Prop := ∀ v m H', Same H H' → IsBal K H' v m → Good c n m → (∀ z, valM m z = f z) → Q v H'
theorem keep_good {R : Hp → V → Rat → Prop} {H : Hp} {ks : List (Key × V)} {h : Str → Rat} {c n : Nat} (D : DF R H ks h c) {ys : List Str} (pm : ys.Perm (keysS ks)) (s : sortedS ys = true) (b : ∀ z, Bits n (h z)) : Good c n (keepNz h ys) ∧ ∀ z, valM (keepNz h ys) z = h z := by
  have nd : ys.Nodup := pm.nodup_iff.mpr D.keysNd
  have ev : ∀ z, valM (keepNz h ys) z = h z := fun z => by
    rw [keep_val nd]
    split
    · rfl
    · rename_i n
      exact (D.keysOut fun m => n (pm.mem_iff.mpr m)).symm
  refine ⟨⟨keep_canon s nd, fun p hp => ?_, fun z => by rw [ev]; exact b z, ?_⟩, ev⟩
  · obtain ⟨v, _, _, ok⟩ := D.keysIn (pm.mem_iff.mp (keep_mem hp).1)
    exact ok
  · refine Nat.le_trans (keep_few h ys) ?_
    rw [pm.length_eq, D.keysLen]
    exact D.few
theorem rd_balF {K : PySem.W.Frag} {ta : TA} {σ : L2.St} {H : Hp} {Q : VK} (q : ta σ H fun vs H1 => ∃ (d : Addr) (ks : List (Key × V)) (h : Str → Rat) (c n : Nat), vs = [.ref d] ∧ H1 d = some (.dK ks) ∧ DF (RNum K) H1 ks h c ∧ c < 64 ∧ (∀ z, Bits n (h z)) ∧ retBal K c n h H1 Q) (hm : ∀ {P P' : List V → Hp → Prop}, (∀ vs H, P vs H → P' vs H) → ta σ H P → ta σ H P') : tBal K ta σ H Q := by
  refine rd_bal (hm (fun vs H1 z => ?_) q)
  obtain ⟨d, ks, h, c, n, rfl, hd, D, l, b, r⟩ := z
  refine ⟨d, ks, keysS ks, h, rfl, hd, D.numsV l, fun v ys H' k pm st hb => ?_⟩
  obtain ⟨g, ev⟩ := keep_good D pm st b
  exact r v _ H' k hb g ev
/-- from a dict to a balance -/
theorem to_bal {K : PySem.W.Frag} {H : Hp} {Q : VK} {d : Addr} {ks : List (Key × V)} {h : Str → Rat} {c n : Nat} (hd : H d = some (.dK ks)) (D : DF (RNum K) H ks h c) (l : c < 64) (b : ∀ z, Bits n (h z)) (r : retBal K c n h H Q) :
    ∃ (d' : Addr) (ks : List (Key × V)) (zs : List Str) (val : Str → Rat), [V.ref d] = [.ref d'] ∧ H d' = some (.dK ks) ∧ NumsV K H ks zs val ∧ ∀ v ys H', Same H H' → ys.Perm zs → sortedS ys = true → IsBal K H' v (keepNz val ys) → Q v H' := by
  refine ⟨d, ks, keysS ks, h, rfl, hd, D.numsV l, fun v ys H' k pm st hb => ?_⟩
  obtain ⟨g, ev⟩ := keep_good D pm st b
  exact r v _ H' k hb g ev
theorem shares_df {K : PySem.W.Frag} {H : Hp} {ks : List (Key × V)} {m : Lst} {c n : Nat} (s : Shares K H ks m) (g : Good c n m) : DF (RRat K) H ks (valM m) c := by
  have kn : ks.map Prod.fst = (m.map Prod.fst).map (Sum.inr : Str → Key) := by
    have : ∀ {ks : List (Key × V)} {m : Lst}, Shares K H ks m → ks.map Prod.fst = (m.map Prod.fst).map (Sum.inr : Str → Key) := by
      intro ks m s
      induction s with
      | nil => rfl
      | cons r _ ih => rw [List.map_cons, List.map_cons, List.map_cons, r.1, ih]
    exact this s
  refine ⟨fun p hp => ?_, ?_, fun z v e => ?_, fun z e => ?_, ?_⟩
  · have m2 : p.1 ∈ ks.map Prod.fst := List.mem_map_of_mem hp
    rw [kn, List.map_map] at m2
    obtain ⟨q, hq, e⟩ := List.mem_map.mp m2
    exact ⟨q.1, e.symm, g.ok q hq⟩
  · rw [kn]
    exact List.Pairwise.map (Sum.inr : Str → Key) (fun a b h e => h (by injection e)) g.can.nodup
  · obtain ⟨i, hi, e2⟩ := List.mem_iff_getElem.mp (valV_mem e)
    obtain ⟨q, hq, e3, r⟩ := paired_get (i := i) (x := ((Sum.inr z : Key), v)) s (by rw [List.getElem?_eq_getElem hi, e2])
    injection e3 with e3
    rw [e3, valM_mem g.can.nodup (List.mem_of_getElem? hq)]
    exact r
  · refine valM_out fun m2 => valV_none e ?_
    rw [kn]
    exact List.mem_map_of_mem m2
  · rw [Paired.length s]
    exact g.few
theorem IsBal.mono {K : PySem.W.Frag} {H H' : Hp} {v : V} {m : Lst} (h : IsBal K H v m) (k : Same H H') : IsBal K H' v m := by
  obtain ⟨a, dx, d, t, ks, rfl, h1, h2, h3, h4⟩ := h
  exact ⟨a, dx, d, t, ks, rfl, k _ _ h1, k _ _ h2, h3.mono fun b _ _ y => k _ _ y, k _ _ h4⟩
theorem gives_of {K : PySem.W.Frag} {H : Hp} {Q : VK} {zs : List Str} {val f : Str → Rat} {c n : Nat} (nd : zs.Nodup) (hok : ∀ z ∈ zs, NameOk z) (l : zs.length ≤ c) (hf : ∀ z, f z = if z ∈ zs then val z else 0) (b : ∀ z, Bits n (f z)) (r : retBal K c n f H Q) : givesBal K zs val H Q := by
  intro v ys H' k pm st hb
  have nd2 : ys.Nodup := pm.nodup_iff.mpr nd
  have ev : ∀ z, valM (keepNz val ys) z = f z := fun z => by
    rw [keep_val nd2, hf]
    by_cases h : z ∈ ys
    · rw [if_pos h, if_pos (pm.mem_iff.mp h)]
    · rw [if_neg h, if_neg fun m => h (pm.mem_iff.mpr m)]
  refine r v _ H' k hb ⟨keep_canon st nd2, fun p hp => hok _ (pm.mem_iff.mp (keep_mem hp).1), fun z => by rw [ev]; exact b z, ?_⟩ ev
  refine Nat.le_trans (keep_few val ys) ?_
  rw [pm.length_eq]
  exact l
/-! ### ratios' operators, dicts' reads, as readings -/
def rDGet (x y : V) (H : Hp) (Q : VK) : Prop := ∃ a v, x = .ref a ∧ DGet H a y (some v) ∧ Q v H
section
variable {K : PySem.W.Frag} {mg : Str → Option Value} {H : Hp} {Q : VK} {σ : L2.St} {x y v : V} {p q : Rat} {a b : Nat} {d : Addr} {ks : List (Key × V)} {z : Str}
theorem rd_dget {td ty : TE} (e : td σ H fun x H1 => ty σ H1 fun y H2 => rDGet x y H2 Q) : tDGet td ty σ H Q := e
theorem rd_dgetS (e : H d = some (.dK ks)) (ev : valV ks (Sum.inr z : Key) = some v) (r : Q v H) : rDGet (.ref d) (.str z) H Q := ⟨d, v, rfl, .inl ⟨ks, .inr z, .inl e, rfl, ev.symm⟩, r⟩
theorem rd_dget2 {td ty tx : TE} (e : td σ H fun x H1 => ∃ a, x = .ref a ∧ IsD H1 a ∧ ty σ H1 fun y H2 => tx σ H2 fun z H3 => ∃ o, DGet H3 a y o ∧ Q (o.getD z) H3) : tDGet2 td ty tx σ H Q := e
theorem numv_right (FY : Fy K mg) {nm : String} (hn : nm ∈ (["add", "sub", "mul"] : List String)) (h : NumV (cR K) H y q) : RightOf K H (cR K) nm y := by
  rcases h with ⟨a, dx, rfl, h⟩ | ⟨i, rfl, _⟩
  · exact .own h
  · obtain ⟨h1, h2, h3⟩ := FY.rest.1 nm hn "Ratio" (by decide +kernel)
    obtain ⟨u1, e1⟩ := Option.isSome_iff_exists.mp h1
    obtain ⟨u2, e2⟩ := Option.isSome_iff_exists.mp h2
    exact .int e1 e2 h3
theorem rd_bin (FY : Fy K mg) {nm : String} {op : Rat → Rat → Rat} (hn : nm ∈ (["add", "sub", "mul"] : List String)) (hx : IsRat (cR K) H x p) (hy : NumV (cR K) H y q) (ba : Bits a p) (bb : Bits b q) (l : a + b ≤ 7000) (r : ∀ v H', Same H H' → IsRat (cR K) H' v (op p q) → Q v H') :
    rDun K (cR K) nm (spBin K op) E0 x y H Q := by
  obtain ⟨xa, xd, rfl, hx2⟩ := hx
  exact ⟨xa, xd, _, rfl, hx2, numv_right FY hn hy, _, _, p, q, a, b, rfl, ⟨xa, xd, rfl, hx2⟩, hy, ba, bb, l, r⟩
theorem rd_negR (hx : IsRat (cR K) H x p) (ba : Bits 7000 p) (r : ∀ v H', Same H H' → IsRat (cR K) H' v (-p) → Q v H') : rDunU (cR K) (spNegR K) E0 x H Q := by
  obtain ⟨xa, xd, rfl, hx2⟩ := hx
  exact ⟨xa, xd, _, rfl, hx2, _, p, rfl, ⟨xa, xd, rfl, hx2⟩, ba, r⟩
end
end K5
namespace K5
open PySem PySem.Spec PyProof.Rows L2 KY PySem.W
local macro_rules | `(tactic| walk_at "kx1") => `(tactic| with_reducible first
  | refine KX.rd_seq ?_ | refine KX.rd_asg ?_ | refine KX.rd_op ?_ | refine KX.rd_c ?_ | refine KX.rd_cb ?_ | refine KX.rd_cons ?_ | refine KX.rd_nil ?_ | refine KX.rd_un ?_ | refine KX.rd_nx ?_ | refine KX.rd_rt ?_ | refine KX.rd_next ?_ | refine KX.rd_ret ?_
  | refine KX.rd_ifs ?_ | refine KX.rd_if ?_ | refine KX.rd_test ?_ | refine KX.rd_B ?_ | refine KX.rd_bl ?_ | refine KX.rd_and ?_ | refine KX.rd_or ?_ | refine KX.rd_not ?_ | refine KX.rd_I0 ?_ | refine KX.rd_U ?_ | refine KX.rd_int ?_ | refine KX.rd_intB ?_ | refine KX.rd_abs ?_
  | refine KX.rd_gname ?_ | refine KX.rd_gsub ?_ | refine KX.rd_call ?_ | refine KX.rd_drop ?_ | refine KX.rd_yes ?_ | refine KX.rd_andV ?_ | refine KX.rd_orV ?_ | refine KX.rd_notV ?_)
local macro_rules | `(tactic| walk_at "hp") => `(tactic| first
  | assumption
  | exact upd_same
  | (refine Eq.trans (upd_ne (by assumption)) ?_; walk_at "hp")
  | (refine Eq.trans (upd_ne (Ne.symm (by assumption))) ?_; walk_at "hp"))
local macro_rules | `(tactic| walk_at "kx2") => `(tactic| first
  | walk_at "kx1"
  | ((with_reducible refine KX.rd_T ?e ?_); (case e => rfl))
  | ((with_reducible refine KX.rd_F ?e ?_); (case e => rfl))
  | ((with_reducible refine' KX.rd_var ?e ?_); (case e => rfl))
  | ((with_reducible refine' KX.rd_I ?e ?_); (case e => first | assumption | decide | exact Or.inl ⟨by omega, by omega⟩ | exact ⟨by decide, by decide, by decide⟩ | exact ⟨by decide, by decide⟩))
  | ((with_reducible refine' KX.rd_eq ?e ?_); (case e => rfl))
  | ((with_reducible refine' KX.rd_ne ?e ?_); (case e => rfl))
  | ((with_reducible refine' KX.rd_ix ?e ?e2 ?_); (case e => first | assumption | exact SqL.of (by walk_at "hp")); (case e2 => first | assumption | rfl))
  | ((with_reducible refine' KX.rd_len ?e ?_); (case e => first | assumption | exact SqL.of (by walk_at "hp")))
  | ((with_reducible refine' KX.rd_set ?e ?e2 ?_); (case e => walk_at "hp"); (case e2 => rfl)))
local macro_rules | `(tactic| walk_at "kx") => `(tactic| repeat walk_at "kx2")
local macro_rules | `(tactic| walk_at "kx3") => `(tactic| first
  | walk_at "kx2"
  | (with_reducible refine rd_fld2 ?_)
  | ((with_reducible refine' rd_get ?e ?c ?n ?l ?_); (case e => assumption); (case c => assumption); (case n => assumption); (case l => rfl))
  | ((with_reducible refine' rd_mulw ?e ?_); (case e => assumption)))
local macro_rules | `(tactic| walk_at "kx4") => `(tactic| with_reducible first
  | refine rd_js_cons ?_ | refine rd_js_nil ?_ | refine rd_fmt ?_ | refine rd_dget ?_ | refine rd_dget2 ?_ | refine rd_dput ?_ | refine rd_rat ?_ | refine rd_bal ?_ | refine rd_forL ?_ | refine rd_sfld ?_ | refine KX.rd_tup ?_ | refine KX.rd_lst ?_ | refine rd_smeth ?_)
local macro_rules | `(tactic| walk_at "kf") => `(tactic| repeat (first | walk_at "kx3" | walk_at "kx4"))
theorem rd_forT {D : Ends} {σ : L2.St} {H : Hp} {K : PySem.W.Frag} {tl : TE} {g : TG} {tb : TS} (q : tl σ H fun x H1 => ∃ a, x = .ref a ∧ (∃ xs, SqT K H1 a xs) ∧ ∃ W : Nat → Nat → L2.St → Hp → Prop, (∃ m, W 0 m σ H1) ∧ ∀ i m σ H, W i m σ H →
  ((Itt K a).stop i H ∧ D.nx σ H) ∨ ((Itt K a).go i H ∧ ∃ N : L2.St → Hp → Prop, (∀ σ' H', N σ' H' → ∃ m', m' < m ∧ W (i + 1) m' σ' H') ∧ ∀ x H', (Itt K a).yld i H x H' → g x σ H' fun σ2 H2 => tb { D with nx := N, ct := N, bk := D.nx } σ2 H2)) : tFor (iTup K tl) g tb D σ H := q
theorem take_notin {m : Lst} (nd : (m.map Prod.fst).Nodup) {j : Nat} {p : Str × Rat} (h : m[j]? = some p) : p.1 ∉ (m.take j).map Prod.fst := by
  intro e
  obtain ⟨q, hq, e2⟩ := List.mem_map.mp e
  obtain ⟨i, hi, e3⟩ := List.mem_iff_getElem.mp hq
  rw [List.length_take] at hi
  rw [List.getElem_take] at e3
  obtain ⟨hj, e4⟩ := List.getElem?_eq_some_iff.mp h
  have z := (List.pairwise_iff_getElem.mp nd) i j (by rw [List.length_map]; omega) (by rw [List.length_map]; exact hj) (by omega)
  rw [List.getElem_map, List.getElem_map, e3, e4] at z
  exact z e2
theorem take_out {m : Lst} (nd : (m.map Prod.fst).Nodup) {j : Nat} {p : Str × Rat} (h : m[j]? = some p) : valM (m.take j) p.1 = 0 := valM_out (take_notin nd h)
theorem valM_app (m : Lst) (p : Str × Rat) (z : Str) (h : p.1 ∉ m.map Prod.fst) : valM (m ++ [p]) z = if z = p.1 then p.2 else valM m z := by
  induction m with
  | nil =>
    show valM [p] z = _
    rw [valM_cons]
    by_cases e : z = p.1
    · rw [if_pos e.symm, if_pos e]
    · rw [if_neg fun x => e x.symm, if_neg e]
  | cons q m ih =>
    rw [List.map_cons, List.mem_cons, not_or] at h
    rw [List.cons_append, valM_cons, valM_cons, ih h.2]
    by_cases e : z = p.1
    · rw [if_neg (fun x => h.1 (x.trans e).symm), if_pos e, if_pos e]
    · rw [if_neg e, if_neg e]
theorem take_val {m : Lst} (nd : (m.map Prod.fst).Nodup) {j : Nat} {p : Str × Rat} (h : m[j]? = some p) (z : Str) : valM (m.take (j + 1)) z = if z = p.1 then p.2 else valM (m.take j) z := by
  rw [List.take_succ, h]
  show valM (m.take j ++ [p]) z = _
  rw [valM_app _ _ _ (take_notin nd h)]
theorem rat_off {C : Addr} {H H1 : Hp} {d : Addr} {v : V} {q : Rat} (hd : ∀ dx fs, H d ≠ some (.ins C dx fs)) (k : ∀ b o, b ≠ d → H b = some o → H1 b = some o) (h : IsRat C H v q) : IsRat C H1 v q := by
  obtain ⟨a, dx, rfl, h⟩ := h
  refine ⟨a, dx, rfl, k _ _ (fun z => ?_) h⟩
  rw [z] at h
  exact hd _ _ h
theorem not_ins {C : Addr} {H : Hp} {d : Addr} {o : HO} (h : H d = some o) (n : ∀ dx fs, o ≠ .ins C dx fs) : ∀ dx fs, H d ≠ some (.ins C dx fs) := fun dx fs e => by
  rw [h] at e
  exact n dx fs (Option.some.inj e)
theorem not_insN {C : Addr} {H : Hp} {d : Addr} (h : H d = none) : ∀ dx fs, H d ≠ some (.ins C dx fs) := fun dx fs e => by
  rw [h] at e
  cases e
theorem divInt_zero1 : Rat.divInt 0 1 = 0 := by decide +kernel
abbrev nmscBadd : List Str := ["self", "other", "found", "thing"]
theorem scBadd : FnScope nmscBadd ["self", "other"] (defScope s_Balance_add) := ⟨rfl, rfl, rfl, by decide +kernel, rfl, by decide +kernel, by decide +kernel⟩
theorem scBsub : FnScope nmscBadd ["self", "other"] (defScope s_Balance_sub) := ⟨rfl, rfl, rfl, by decide +kernel, rfl, by decide +kernel, by decide +kernel⟩
/-- two balances, thing by thing -/
def spBBin (K : PySem.W.Frag) (f : Rat → Rat → Rat) : Sp := fun vs H Q _ => ∃ x y m1 m2 c1 c2 a b, vs = [x, y] ∧ IsBal K H x m1 ∧ IsBal K H y m2 ∧ Good c1 a m1 ∧ Good c2 b m2 ∧ c1 + c2 < 60 ∧ 1 ≤ a ∧ 1 ≤ b ∧ a + b ≤ 6900 ∧ retBal K (c1 + c2) (a + b + 1) (fun z => f (valM m1 z) (valM m2 z)) H Q
section
variable {P : Program} {w : World} {K : PySem.W.Frag} {mg : Str → Option Value} {base : Heap} {f gN : Addr} {fd fdN fdA : FuncData} {H : Hp} {Q : VK} {σ : L2.St} {x : V} {t : Value}
theorem ok_badd (F : FunD K "__add__" "Balance.__add__" (defArgs s_Balance_add) (defBody s_Balance_add) (defScope s_Balance_add) [] [] f fd) (FY : Fy K mg) (CB : BalC P w K mg base) (CR : RatC P w K mg base) (CNB : Callee P w K mg base 1 "need_balance" ["value", "part"] (spNeed K))
    (GA : FnOk P w K mg base CX0 5 (He.ma K (cR K) "__add__") fdA ["self", "other"] (spBin K (· + ·))) (bA : Binds K fdA ["self", "other"] []) : FnOk P w K mg base CX0 7 f fd ["self", "other"] (spBBin K (· + ·)) := by
  refine F.ok scBadd (fun vs H Q E h => ?_) (fun cdv A outer s H vs Q E hr h => ?_)
  · obtain ⟨x, y, _, _, _, _, _, _, rfl, _⟩ := h
    rfl
  · obtain ⟨x, y, m1, m2, c1, c2, a, b, rfl, hx, hy, g1, g2, lc, la, lb, lab, qq⟩ := h
    have clB := (inspB_ok FY.all.2.2.1).cls
    have nsh := noB_ok FY.all.2.2.2.2.1 "shares" (by decide +kernel)
    have nth := noB_ok FY.all.2.2.2.2.1 "things" (by decide +kernel)
    have DA := dunB_ok FY.all.2.1.2.2.2.1
    obtain ⟨xa, xdx, xd, xt, xks, rfl, hxa, hxd, hxs, hxt⟩ := hx
    obtain ⟨ya, ydx, yd, yt, yks, rfl, hya, hyd, hys, hyt⟩ := hy
    have D1 := shares_df hxs g1
    have D2 := shares_df hys g2
    refine ⟨_, PSs.nox (pss_cons (ps_expr (KX.pe_c CNB hr (by decide) rfl (pa_cons (pv 1) (pa_cons pe_str pa_nil))))
  (pss_cons (ps_set (i := 2) scBadd.nd rfl (Or.inl rfl) (pe_callTy call_dictD (by rfl) (FY.free "dict" (by decide +kernel)) (by decide +kernel) (pa_cons (pe_fld (pv 0) rfl) pa_nil)))
  (pss_cons (ps_for PassesOwn.never rfl (pi_tup (pe_fld (pv 1) rfl)) (pg_name (i := 3) scBadd.nd rfl (Or.inl rfl)) (pss_one (ps_dput (hu_of hr) (pv 2) (pv 3) (pe_op (op_dun DA GA (hr.mono (by decide)) bA pass0) (pe_dget2 (hu_of hr) (pv 2) (pv 3) (pe_rat1 CR FY hr (by decide) rfl (pa_cons pe_int pa_nil)) ⟨rfl, rfl, rfl, rfl⟩) (pe_dget (hu_of hr) (pe_fld (pv 1) rfl) (pv 3) (fun _ _ => rfl))) rfl)))
  (pss_one (ps_ret (pe_bal CB FY hr (by decide) rfl (pa_cons (pv 2) pa_nil))))))), ?_⟩
    walk_at "kf"
    refine ⟨ya, ydx, _, _, rfl, hya, ?_⟩
    walk_at "kf"
    refine ⟨xd, xks, rfl, .inl hxd, fun fa hfa => ?_⟩
    have kp : Same H (upd H fa (.dK xks)) := fun b o z => by rw [upd_ne (ne_of_none z hfa)]; exact z
    have hya2 := kp _ _ hya
    walk_at "kf"
    refine rd_forT ?_
    walk_at "kf"
    refine ⟨yt, rfl, ⟨_, SqT.of (kp _ _ hyt)⟩, for_tup (xs := m2.map fun p => V.str p.1) (fun j σ2 H2 => KX.But fa H H2 ∧ ∃ b3 ms, σ2 = [some (.ref xa), some (.ref ya), some (.ref fa), b3] ∧ H2 fa = some (.dK ms) ∧ DF (RRat K) H2 ms (fun z => valM m1 z + valM (m2.take j) z) (c1 + j))
      ⟨KX.But.new KX.But.refl hfa, none, xks, rfl, upd_same, (D1.mono (S := RRat K) fun v q r => r.mono kp).congr fun z => ?_⟩ (fun j σ2 H2 _ hp => SqT.of (hp.1 _ _ (ne_of_none hyt hfa) hyt)) (fun j x σ2 H2 hx hp => ?_) (fun σ2 H2 hp => ?_)⟩
    · show _ = valM m1 z + 0
      grind
    · obtain ⟨hb, b3, ms, rfl, hms, D⟩ := hp
      rw [List.getElem?_map] at hx
      obtain ⟨p, hp, rfl⟩ := Option.map_eq_some_iff.mp hx
      have pm := List.mem_of_getElem? hp
      have hj := (List.getElem?_eq_some_iff.mp hp).1
      have lf := g2.few
      have hya3 := hb _ _ (ne_of_none hya hfa) hya
      have hyd3 := hb _ _ (ne_of_none hyd hfa) hyd
      have ev := valM_mem g2.can.nodup pm
      obtain ⟨v, hv, hr0⟩ : ∃ v, valV yks (Sum.inr p.1 : Key) = some v ∧ IsRat (cR K) H v p.2 := by
        obtain ⟨v, e1, e2⟩ := shares_val hys pm g2.can.nodup
        exact ⟨v, e1, e2⟩
      have hr3 : IsRat (cR K) H2 v p.2 := rat_off (not_insN hfa) (fun b o n z => hb b o n z) hr0
      walk_at "kf"
      refine ⟨fa, rfl, .inl ⟨ms, .inl hms⟩, ?_⟩
      walk_at "kf"
      refine ⟨0, 1, rfl, by decide, by decide, fun v1 H3 k3 hv1 => ?_⟩
      rw [divInt_zero1] at hv1
      walk_at "kf"
      refine ⟨_, .inl ⟨ms, .inr p.1, .inl (k3 _ _ hms), rfl, rfl⟩, ?_⟩
      have hya4 := k3 _ _ hya3
      walk_at "kf"
      refine rd_dgetS (k3 _ _ hyd3) hv ?_
      have D3 : DF (RRat K) H3 ms (fun z => valM m1 z + valM (m2.take j) z) (c1 + j) := D.mono fun v q r => r.mono k3
      have r1 := D3.get p.1 hv1
      rw [take_out g2.can.nodup hp, show valM m1 p.1 + 0 = valM m1 p.1 by grind] at r1
      refine rd_bin FY (by decide) r1 (.inl (hr3.mono k3)) (g1.bits p.1) (g2.bitsAt pm) (by omega) fun v2 H4 k4 hv2 => ?_
      walk_at "kf"
      have hms4 := k4 _ _ (k3 _ _ hms)
      have nz : ∀ dx fs, H4 fa ≠ some (.ins (cR K) dx fs) := not_ins hms4 (fun _ _ e => by cases e)
      refine ⟨fa, _, rfl, DPut.k (k := Sum.inr p.1) hms4 (Nat.lt_of_le_of_lt D.few (Nat.lt_of_lt_of_le (show c1 + j < 60 by omega) (by decide))), ?_⟩
      walk_at "kf"
      refine ⟨((hb.trans (KX.But.of k3)).trans (KX.But.of k4)).upd, _, _, rfl, upd_same, ?_⟩
      have D4 : DF (RRat K) (upd H4 fa (.dK (putK ms (Sum.inr p.1) v2))) ms (fun z => valM m1 z + valM (m2.take j) z) (c1 + j) := D3.mono fun v q r => rat_off nz (fun b o n z => by rw [upd_ne n]; exact z) (r.mono k4)
      refine (D4.put (g2.ok p pm) (rat_off nz (fun b o n z => by rw [upd_ne n]; exact z) hv2)).congr fun z => ?_
      rw [take_val g2.can.nodup hp]
      by_cases e : z = p.1
      · rw [if_pos e, if_pos e, e]
      · rw [if_neg e, if_neg e]
    · obtain ⟨hb, b3, ms, rfl, hms, D⟩ := hp
      rw [List.length_map, List.take_length] at D
      have kk : Same H H2 := fun b o z => hb b o (ne_of_none z hfa) z
      have lf := g2.few
      walk_at "kf"
      refine to_bal hms ((D.mono (S := RNum K) fun v q r => .inl r).weak (show _ ≤ c1 + c2 by omega)) (by omega) (n := a + b + 1) (fun z => bits_plus (g1.bits z) (g2.bits z)) fun v m H' k hbal g ev => ?_
      walk_at "kf"
      exact qq v m H' (kk.trans k) hbal g ev
theorem ok_bsub (F : FunD K "__sub__" "Balance.__sub__" (defArgs s_Balance_sub) (defBody s_Balance_sub) (defScope s_Balance_sub) [] [] f fd) (FY : Fy K mg) (CB : BalC P w K mg base) (CR : RatC P w K mg base) (CNB : Callee P w K mg base 1 "need_balance" ["value", "part"] (spNeed K))
    (GA : FnOk P w K mg base CX0 5 (He.ma K (cR K) "__sub__") fdA ["self", "other"] (spBin K (· - ·))) (bA : Binds K fdA ["self", "other"] []) : FnOk P w K mg base CX0 7 f fd ["self", "other"] (spBBin K (· - ·)) := by
  refine F.ok scBsub (fun vs H Q E h => ?_) (fun cdv A outer s H vs Q E hr h => ?_)
  · obtain ⟨x, y, _, _, _, _, _, _, rfl, _⟩ := h
    rfl
  · obtain ⟨x, y, m1, m2, c1, c2, a, b, rfl, hx, hy, g1, g2, lc, la, lb, lab, qq⟩ := h
    have clB := (inspB_ok FY.all.2.2.1).cls
    have nsh := noB_ok FY.all.2.2.2.2.1 "shares" (by decide +kernel)
    have nth := noB_ok FY.all.2.2.2.2.1 "things" (by decide +kernel)
    have DA := dunB_ok FY.all.2.1.2.2.2.2.1
    obtain ⟨xa, xdx, xd, xt, xks, rfl, hxa, hxd, hxs, hxt⟩ := hx
    obtain ⟨ya, ydx, yd, yt, yks, rfl, hya, hyd, hys, hyt⟩ := hy
    have D1 := shares_df hxs g1
    have D2 := shares_df hys g2
    refine ⟨_, PSs.nox (pss_cons (ps_expr (KX.pe_c CNB hr (by decide) rfl (pa_cons (pv 1) (pa_cons pe_str pa_nil))))
  (pss_cons (ps_set (i := 2) scBsub.nd rfl (Or.inl rfl) (pe_callTy call_dictD (by rfl) (FY.free "dict" (by decide +kernel)) (by decide +kernel) (pa_cons (pe_fld (pv 0) rfl) pa_nil)))
  (pss_cons (ps_for PassesOwn.never rfl (pi_tup (pe_fld (pv 1) rfl)) (pg_name (i := 3) scBsub.nd rfl (Or.inl rfl)) (pss_one (ps_dput (hu_of hr) (pv 2) (pv 3) (pe_op (op_dun DA GA (hr.mono (by decide)) bA pass0) (pe_dget2 (hu_of hr) (pv 2) (pv 3) (pe_rat1 CR FY hr (by decide) rfl (pa_cons pe_int pa_nil)) ⟨rfl, rfl, rfl, rfl⟩) (pe_dget (hu_of hr) (pe_fld (pv 1) rfl) (pv 3) (fun _ _ => rfl))) rfl)))
  (pss_one (ps_ret (pe_bal CB FY hr (by decide) rfl (pa_cons (pv 2) pa_nil))))))), ?_⟩
    walk_at "kf"
    refine ⟨ya, ydx, _, _, rfl, hya, ?_⟩
    walk_at "kf"
    refine ⟨xd, xks, rfl, .inl hxd, fun fa hfa => ?_⟩
    have kp : Same H (upd H fa (.dK xks)) := fun b o z => by rw [upd_ne (ne_of_none z hfa)]; exact z
    have hya2 := kp _ _ hya
    walk_at "kf"
    refine rd_forT ?_
    walk_at "kf"
    refine ⟨yt, rfl, ⟨_, SqT.of (kp _ _ hyt)⟩, for_tup (xs := m2.map fun p => V.str p.1) (fun j σ2 H2 => KX.But fa H H2 ∧ ∃ b3 ms, σ2 = [some (.ref xa), some (.ref ya), some (.ref fa), b3] ∧ H2 fa = some (.dK ms) ∧ DF (RRat K) H2 ms (fun z => valM m1 z - valM (m2.take j) z) (c1 + j))
      ⟨KX.But.new KX.But.refl hfa, none, xks, rfl, upd_same, (D1.mono (S := RRat K) fun v q r => r.mono kp).congr fun z => ?_⟩ (fun j σ2 H2 _ hp => SqT.of (hp.1 _ _ (ne_of_none hyt hfa) hyt)) (fun j x σ2 H2 hx hp => ?_) (fun σ2 H2 hp => ?_)⟩
    · show _ = valM m1 z - 0
      grind
    · obtain ⟨hb, b3, ms, rfl, hms, D⟩ := hp
      rw [List.getElem?_map] at hx
      obtain ⟨p, hp, rfl⟩ := Option.map_eq_some_iff.mp hx
      have pm := List.mem_of_getElem? hp
      have hj := (List.getElem?_eq_some_iff.mp hp).1
      have lf := g2.few
      have hya3 := hb _ _ (ne_of_none hya hfa) hya
      have hyd3 := hb _ _ (ne_of_none hyd hfa) hyd
      have ev := valM_mem g2.can.nodup pm
      obtain ⟨v, hv, hr0⟩ : ∃ v, valV yks (Sum.inr p.1 : Key) = some v ∧ IsRat (cR K) H v p.2 := by
        obtain ⟨v, e1, e2⟩ := shares_val hys pm g2.can.nodup
        exact ⟨v, e1, e2⟩
      have hr3 : IsRat (cR K) H2 v p.2 := rat_off (not_insN hfa) (fun b o n z => hb b o n z) hr0
      walk_at "kf"
      refine ⟨fa, rfl, .inl ⟨ms, .inl hms⟩, ?_⟩
      walk_at "kf"
      refine ⟨0, 1, rfl, by decide, by decide, fun v1 H3 k3 hv1 => ?_⟩
      rw [divInt_zero1] at hv1
      walk_at "kf"
      refine ⟨_, .inl ⟨ms, .inr p.1, .inl (k3 _ _ hms), rfl, rfl⟩, ?_⟩
      have hya4 := k3 _ _ hya3
      walk_at "kf"
      refine rd_dgetS (k3 _ _ hyd3) hv ?_
      have D3 : DF (RRat K) H3 ms (fun z => valM m1 z - valM (m2.take j) z) (c1 + j) := D.mono fun v q r => r.mono k3
      have r1 := D3.get p.1 hv1
      rw [take_out g2.can.nodup hp, show valM m1 p.1 - 0 = valM m1 p.1 by grind] at r1
      refine rd_bin FY (by decide) r1 (.inl (hr3.mono k3)) (g1.bits p.1) (g2.bitsAt pm) (by omega) fun v2 H4 k4 hv2 => ?_
      walk_at "kf"
      have hms4 := k4 _ _ (k3 _ _ hms)
      have nz : ∀ dx fs, H4 fa ≠ some (.ins (cR K) dx fs) := not_ins hms4 (fun _ _ e => by cases e)
      refine ⟨fa, _, rfl, DPut.k (k := Sum.inr p.1) hms4 (Nat.lt_of_le_of_lt D.few (Nat.lt_of_lt_of_le (show c1 + j < 60 by omega) (by decide))), ?_⟩
      walk_at "kf"
      refine ⟨((hb.trans (KX.But.of k3)).trans (KX.But.of k4)).upd, _, _, rfl, upd_same, ?_⟩
      have D4 : DF (RRat K) (upd H4 fa (.dK (putK ms (Sum.inr p.1) v2))) ms (fun z => valM m1 z - valM (m2.take j) z) (c1 + j) := D3.mono fun v q r => rat_off nz (fun b o n z => by rw [upd_ne n]; exact z) (r.mono k4)
      refine (D4.put (g2.ok p pm) (rat_off nz (fun b o n z => by rw [upd_ne n]; exact z) hv2)).congr fun z => ?_
      rw [take_val g2.can.nodup hp]
      by_cases e : z = p.1
      · rw [if_pos e, if_pos e, e]
      · rw [if_neg e, if_neg e]
    · obtain ⟨hb, b3, ms, rfl, hms, D⟩ := hp
      rw [List.length_map, List.take_length] at D
      have kk : Same H H2 := fun b o z => hb b o (ne_of_none z hfa) z
      have lf := g2.few
      walk_at "kf"
      refine to_bal hms ((D.mono (S := RNum K) fun v q r => .inl r).weak (show _ ≤ c1 + c2 by omega)) (by omega) (n := a + b + 1) (fun z => bits_minus (g1.bits z) (g2.bits z)) fun v m H' k hbal g ev => ?_
      walk_at "kf"
      exact qq v m H' (kk.trans k) hbal g ev
end

end K5
namespace K5
open PySem PySem.Spec PyProof.Rows L2 KY PySem.W
local macro_rules | `(tactic| walk_at "kx1") => `(tactic| with_reducible first
  | refine KX.rd_seq ?_ | refine KX.rd_asg ?_ | refine KX.rd_op ?_ | refine KX.rd_c ?_ | refine KX.rd_cb ?_ | refine KX.rd_cons ?_ | refine KX.rd_nil ?_ | refine KX.rd_un ?_ | refine KX.rd_nx ?_ | refine KX.rd_rt ?_ | refine KX.rd_next ?_ | refine KX.rd_ret ?_
  | refine KX.rd_ifs ?_ | refine KX.rd_if ?_ | refine KX.rd_test ?_ | refine KX.rd_B ?_ | refine KX.rd_bl ?_ | refine KX.rd_and ?_ | refine KX.rd_or ?_ | refine KX.rd_not ?_ | refine KX.rd_I0 ?_ | refine KX.rd_U ?_ | refine KX.rd_int ?_ | refine KX.rd_intB ?_ | refine KX.rd_abs ?_
  | refine KX.rd_gname ?_ | refine KX.rd_gsub ?_ | refine KX.rd_call ?_ | refine KX.rd_drop ?_ | refine KX.rd_yes ?_ | refine KX.rd_andV ?_ | refine KX.rd_orV ?_ | refine KX.rd_notV ?_)
local macro_rules | `(tactic| walk_at "hp") => `(tactic| first
  | assumption
  | exact upd_same
  | (refine Eq.trans (upd_ne (by assumption)) ?_; walk_at "hp")
  | (refine Eq.trans (upd_ne (Ne.symm (by assumption))) ?_; walk_at "hp"))
local macro_rules | `(tactic| walk_at "kx2") => `(tactic| first
  | walk_at "kx1"
  | ((with_reducible refine KX.rd_T ?e ?_); (case e => rfl))
  | ((with_reducible refine KX.rd_F ?e ?_); (case e => rfl))
  | ((with_reducible refine' KX.rd_var ?e ?_); (case e => rfl))
  | ((with_reducible refine' KX.rd_I ?e ?_); (case e => first | assumption | decide | exact Or.inl ⟨by omega, by omega⟩ | exact ⟨by decide, by decide, by decide⟩ | exact ⟨by decide, by decide⟩))
  | ((with_reducible refine' KX.rd_eq ?e ?_); (case e => rfl))
  | ((with_reducible refine' KX.rd_ne ?e ?_); (case e => rfl))
  | ((with_reducible refine' KX.rd_ix ?e ?e2 ?_); (case e => first | assumption | exact SqL.of (by walk_at "hp")); (case e2 => first | assumption | rfl))
  | ((with_reducible refine' KX.rd_len ?e ?_); (case e => first | assumption | exact SqL.of (by walk_at "hp")))
  | ((with_reducible refine' KX.rd_set ?e ?e2 ?_); (case e => walk_at "hp"); (case e2 => rfl)))
local macro_rules | `(tactic| walk_at "kx") => `(tactic| repeat walk_at "kx2")
local macro_rules | `(tactic| walk_at "kx3") => `(tactic| first
  | walk_at "kx2"
  | (with_reducible refine rd_fld2 ?_)
  | ((with_reducible refine' rd_get ?e ?c ?n ?l ?_); (case e => assumption); (case c => assumption); (case n => assumption); (case l => rfl))
  | ((with_reducible refine' rd_mulw ?e ?_); (case e => assumption)))
local macro_rules | `(tactic| walk_at "kx4") => `(tactic| with_reducible first
  | refine rd_js_cons ?_ | refine rd_js_nil ?_ | refine rd_fmt ?_ | refine rd_dget ?_ | refine rd_dget2 ?_ | refine rd_dput ?_ | refine rd_rat ?_ | refine rd_bal ?_ | refine rd_forL ?_ | refine rd_sfld ?_ | refine KX.rd_tup ?_ | refine KX.rd_lst ?_ | refine rd_smeth ?_)
local macro_rules | `(tactic| walk_at "kf") => `(tactic| repeat (first | walk_at "kx3" | walk_at "kx4"))
abbrev nmscBmul : List Str := ["self", "ratio", "thing"]
theorem scBmul : FnScope nmscBmul ["self", "ratio"] (defScope s_Balance_mul) := ⟨rfl, rfl, rfl, by decide +kernel, rfl, by decide +kernel, by decide +kernel⟩
theorem scBgains : FnScope nmscBneg ["self"] (defScope s_Balance_gains) := ⟨rfl, rfl, rfl, by decide +kernel, rfl, by decide +kernel, by decide +kernel⟩
theorem scBlosses : FnScope nmscBneg ["self"] (defScope s_Balance_losses) := ⟨rfl, rfl, rfl, by decide +kernel, rfl, by decide +kernel, by decide +kernel⟩
theorem scBnum : FnScope ["self", "thing"] ["self", "thing"] (defScope s_Balance_number_of) := ⟨rfl, rfl, rfl, by decide +kernel, rfl, by decide +kernel, by decide +kernel⟩
theorem stepF {f : Rat → Rat} {m : Lst} (nd : (m.map Prod.fst).Nodup) {j : Nat} {p : Str × Rat} (h : m[j]? = some p) (z : Str) : (if z = p.1 then f p.2 else f (valM (m.take j) z)) = f (valM (m.take (j + 1)) z) := by
  rw [take_val nd h]
  split <;> rfl
theorem skipF {f : Rat → Rat} (f0 : f 0 = 0) {m : Lst} (nd : (m.map Prod.fst).Nodup) {j : Nat} {p : Str × Rat} (h : m[j]? = some p) (e : f p.2 = 0) (z : Str) : f (valM (m.take j) z) = f (valM (m.take (j + 1)) z) := by
  rw [take_val nd h]
  split
  · rename_i x
    rw [x, take_out nd h, f0, e]
  · rfl
/-- a balance's numbers, each changed -/
def spBUn (K : PySem.W.Frag) (f : Rat → Rat) : Sp := fun vs H Q _ => ∃ x m c a, vs = [x] ∧ IsBal K H x m ∧ Good c a m ∧ c < 60 ∧ 1 ≤ a ∧ a ≤ 6900 ∧ retBal K c a (fun z => f (valM m z)) H Q
def spBMul (K : PySem.W.Frag) : Sp := fun vs H Q _ => ∃ x y m q c a b, vs = [x, y] ∧ IsBal K H x m ∧ NumV (cR K) H y q ∧ Good c a m ∧ Bits b q ∧ c < 60 ∧ a + b ≤ 6900 ∧ retBal K c (a + b) (fun z => valM m z * q) H Q
def spBNum (K : PySem.W.Frag) : Sp := fun vs H Q _ => ∃ x z m c a, vs = [x, .str z] ∧ IsBal K H x m ∧ Good c a m ∧ ∀ v H', Same H H' → IsRat (cR K) H' v (valM m z) → Q v H'
def gainF (q : Rat) : Rat := if 0 < q.num then q else 0
def lossF (q : Rat) : Rat := if q.num < 0 then -q else 0
section
variable {P : Program} {w : World} {K : PySem.W.Frag} {mg : Str → Option Value} {base : Heap} {f gN : Addr} {fd fdN fdA : FuncData} {H : Hp} {Q : VK} {σ : L2.St} {x : V} {t : Value}
theorem rd_dnotin {ty td : TE} (e : ty σ H fun y H1 => td σ H1 fun x H2 => ∃ a o, x = .ref a ∧ DGet H2 a y o ∧ Q (.bl (!o.isSome)) H2) : tDNotIn ty td σ H Q := e
theorem ok_bmul (F : FunD K "__mul__" "Balance.__mul__" (defArgs s_Balance_mul) (defBody s_Balance_mul) (defScope s_Balance_mul) [] [] f fd) (FY : Fy K mg) (CB : BalC P w K mg base) (CQ : Callee P w K mg base 2 "is_ratio" ["value"] (spIsRat K))
    (GA : FnOk P w K mg base CX0 5 (He.ma K (cR K) "__mul__") fdA ["self", "other"] (spBin K (· * ·))) (bA : Binds K fdA ["self", "other"] []) : FnOk P w K mg base CX0 7 f fd ["self", "ratio"] (spBMul K) := by
  refine F.ok scBmul (fun vs H Q E h => ?_) (fun cdv A outer s H vs Q E hr h => ?_)
  · obtain ⟨x, y, _, _, _, _, _, rfl, _⟩ := h
    rfl
  · obtain ⟨x, y, m, q, c, a, b, rfl, hx, hy, g, bq, lc, lab, qq⟩ := h
    have clB := (inspB_ok FY.all.2.2.1).cls
    have nsh := noB_ok FY.all.2.2.2.2.1 "shares" (by decide +kernel)
    have nth := noB_ok FY.all.2.2.2.2.1 "things" (by decide +kernel)
    have DA := dunB_ok FY.all.2.1.2.2.2.2.2.1
    obtain ⟨xa, xdx, xd, xt, xks, rfl, hxa, hxd, hxs, hxt⟩ := hx
    refine ⟨_, PSs.nox (pss_cons (ps_if (pt_not (pt_val (KX.pe_c CQ hr (by decide) rfl (pa_cons (pv 1) pa_nil)))) (pss_one ps_never) pss_nil)
  (pss_one (ps_ret (pe_bal CB FY hr (by decide) rfl (pa_cons (pe_dc (own := [("thing", 2)]) (g := gName 2) (tk := tVar 2) (tv := tOp (rDun K (cR K) "mul" (spBin K (· * ·)) E0) (tDGet (tFld K (tVar 0) "shares") (tVar 2)) (tVar 1)) (tt := tYes) rfl scBmul.nd (pi_tup (pe_fld (pv 0) rfl)) (blkOk_by (N := nmscBmul) (sc := defScope s_Balance_mul) (by decide +kernel)) (fun _ _ _ _ _ => pg_name (i := 2) scBmul.nd rfl (Or.inl rfl)) (fun _ _ _ _ _ => pts_nil) (fun _ _ _ _ _ => pv 2) (fun _ _ _ _ _ => by exact (pe_op (op_dun DA GA (hr.mono (by decide)) bA pass0) (pe_dget (hu_of hr) (pe_fld (pv 0) rfl) (pv 2) (fun _ _ => rfl)) (pv 1)))) pa_nil))))), ?_⟩
    walk_at "kf"
    refine ⟨y, q, rfl, hy, ?_⟩
    walk_at "kf"
    refine rd_dcT ?_
    walk_at "kf"
    refine ⟨xt, rfl, ⟨_, SqT.of hxt⟩, fun D hD => dc_tup (xs := m.map fun p => V.str p.1) (fun j H2 => KX.But D H H2 ∧ ∃ ms, H2 D = some (.dK ms) ∧ DF (RRat K) H2 ms (fun z => valM (m.take j) z * q) j) ⟨KX.But.new KX.But.refl hD, [], upd_same, DF.nil.congr fun z => ?_⟩ (fun j H2 _ hp => SqT.of (hp.1 _ _ (ne_of_none hxt hD) hxt)) (fun j x H2 hx hp => ?_) (fun H2 hp => ?_)⟩
    · show _ = valM [] z * q
      rw [valM_nil, Rat.zero_mul]
    · obtain ⟨hb, ms, hms, D2⟩ := hp
      rw [List.getElem?_map] at hx
      obtain ⟨p, hp, rfl⟩ := Option.map_eq_some_iff.mp hx
      have pm := List.mem_of_getElem? hp
      have hj := (List.getElem?_eq_some_iff.mp hp).1
      have lf := g.few
      obtain ⟨v, hv, hr0⟩ := shares_val hxs pm g.can.nodup
      have ha2 := hb _ _ (ne_of_none hxa hD) hxa
      have hd2 := hb _ _ (ne_of_none hxd hD) hxd
      have hr2 : IsRat (cR K) H2 v p.2 := rat_off (not_insN hD) (fun b o n z => hb b o n z) hr0
      have hy2 : NumV (cR K) H2 y q := hy.mono fun b o z => hb b o (ne_of_none z hD) z
      refine ⟨rfl, ?_⟩
      walk_at "kf"
      refine rd_dgetS hd2 hv ?_
      walk_at "kf"
      refine rd_bin FY (by decide) hr2 hy2 (g.bitsAt pm) bq (by omega) fun v2 H4 k4 hv2 => ?_
      have hms4 := k4 _ _ hms
      have nz : ∀ dx fs, H4 D ≠ some (.ins (cR K) dx fs) := not_ins hms4 (fun _ _ e => by cases e)
      refine ⟨ms, .inr p.1, rfl, hms4, Nat.lt_of_le_of_lt D2.few (Nat.lt_of_lt_of_le (show j < 60 by omega) (by decide)), (hb.trans (KX.But.of k4)).upd, _, upd_same, ?_⟩
      have D4 : DF (RRat K) (upd H4 D (.dK (putK ms (Sum.inr p.1) v2))) ms _ _ := D2.mono fun v q r => rat_off nz (fun b o n z => by rw [upd_ne n]; exact z) (r.mono k4)
      exact (D4.put (g.ok p pm) (rat_off nz (fun b o n z => by rw [upd_ne n]; exact z) hv2)).congr (stepF (f := fun r => r * q) g.can.nodup hp)
    · obtain ⟨hb, ms, hms, D2⟩ := hp
      rw [List.length_map, List.take_length] at D2
      have kk : Same H H2 := fun b o z => hb b o (ne_of_none z hD) z
      have lf := g.few
      walk_at "kf"
      refine to_bal hms ((D2.mono (S := RNum K) fun v q r => .inl r).weak (show _ ≤ c by omega)) (by omega) (n := a + b) (fun z => bits_times (g.bits z) bq) fun v m H' k hbal g ev => ?_
      walk_at "kf"
      exact qq v m H' (kk.trans k) hbal g ev
theorem ok_bgains (F : FunD K "gains" "Balance.gains" (defArgs s_Balance_gains) (defBody s_Balance_gains) (defScope s_Balance_gains) [] [] f fd) (FY : Fy K mg) (CB : BalC P w K mg base)
    (GN : FnOk P w K mg base CX0 4 (He.ma K (cR K) "__neg__") fdN ["self"] (spNegR K)) (bN : Binds K fdN ["self"] []) : FnOk P w K mg base CX0 7 f fd ["self"] (spBUn K gainF) := by
  refine F.ok scBgains (fun vs H Q E h => ?_) (fun cdv A outer s H vs Q E hr h => ?_)
  · obtain ⟨x, _, _, _, rfl, _⟩ := h
    rfl
  · obtain ⟨x, m, c, a, rfl, hx, g, lc, la, lab, qq⟩ := h
    have clB := (inspB_ok FY.all.2.2.1).cls
    have nsh := noB_ok FY.all.2.2.2.2.1 "shares" (by decide +kernel)
    have nth := noB_ok FY.all.2.2.2.2.1 "things" (by decide +kernel)
    have cl := (inspB_ok FY.all.2.1.1).cls
    have nt := noB_ok FY.all.2.1.2.2.1 "top" (by decide +kernel)
    have mN := methB_ok FY.all.2.1.2.2.2.2.2.2.1
    have f0 : gainF 0 = 0 := by decide +kernel
    obtain ⟨xa, xdx, xd, xt, xks, rfl, hxa, hxd, hxs, hxt⟩ := hx
    refine ⟨_, PSs.nox (pss_one (ps_ret (pe_bal CB FY hr (by decide) rfl (pa_cons (pe_dc (own := [("thing", 1)]) (g := gName 1) (tk := tVar 1) (tv := (tDGet (tFld K (tVar 0) "shares") (tVar 1))) (tt := tTest (tOp (rI0 fun i j => .bl (decide (j < i))) (tFld K (tDGet (tFld K (tVar 0) "shares") (tVar 1)) "top") (tC (.int 0)))) rfl scBgains.nd (pi_tup (pe_fld (pv 0) rfl)) (blkOk_by (N := nmscBneg) (sc := defScope s_Balance_gains) (by decide +kernel)) (fun _ _ _ _ _ => pg_name (i := 1) scBgains.nd rfl (Or.inl rfl)) (fun _ _ _ _ _ => pts_one (by exact (pt_cmpR op_gt (pe_fld (pe_dget (hu_of hr) (pe_fld (pv 0) rfl) (pv 1) (fun _ _ => rfl)) rfl) pe_int (nomark _)))) (fun _ _ _ _ _ => pv 1) (fun _ _ _ _ _ => by exact (pe_dget (hu_of hr) (pe_fld (pv 0) rfl) (pv 1) (fun _ _ => rfl)))) pa_nil)))), ?_⟩
    walk_at "kf"
    refine rd_dcT ?_
    walk_at "kf"
    refine ⟨xt, rfl, ⟨_, SqT.of hxt⟩, fun D hD => dc_tup (xs := m.map fun p => V.str p.1) (fun j H2 => KX.But D H H2 ∧ ∃ ms, H2 D = some (.dK ms) ∧ DF (RRat K) H2 ms (fun z => gainF (valM (m.take j) z)) j) ⟨KX.But.new KX.But.refl hD, [], upd_same, DF.nil.congr fun z => f0.symm⟩ (fun j H2 _ hp => SqT.of (hp.1 _ _ (ne_of_none hxt hD) hxt)) (fun j x H2 hx hp => ?_) (fun H2 hp => ?_)⟩
    · obtain ⟨hb, ms, hms, D2⟩ := hp
      rw [List.getElem?_map] at hx
      obtain ⟨p, hp, rfl⟩ := Option.map_eq_some_iff.mp hx
      have pm := List.mem_of_getElem? hp
      have hj := (List.getElem?_eq_some_iff.mp hp).1
      have lf := g.few
      obtain ⟨v, hv, hr0⟩ := shares_val hxs pm g.can.nodup
      have ha2 := hb _ _ (ne_of_none hxa hD) hxa
      have hd2 := hb _ _ (ne_of_none hxd hD) hxd
      have hr2 : IsRat (cR K) H2 v p.2 := rat_off (not_insN hD) (fun b o n z => hb b o n z) hr0
      obtain ⟨va, vd, rfl, hva⟩ := hr2
      refine ⟨rfl, ?_⟩
      walk_at "kf"
      refine rd_dgetS hd2 hv ?_
      walk_at "kf"
      refine ite2 (fun e => ?_) (fun e => ?_)
      · have e1 : 0 < p.2.num := of_decide_eq_true e
        have ef : gainF p.2 = p.2 := if_pos e1
        walk_at "kf"
        refine rd_dgetS hd2 hv ?_
        have nz : ∀ dx fs, H2 D ≠ some (.ins (cR K) dx fs) := not_ins hms (fun _ _ e => by cases e)
        refine ⟨ms, .inr p.1, rfl, hms, Nat.lt_of_le_of_lt D2.few (Nat.lt_of_lt_of_le (show j < 60 by omega) (by decide)), hb.upd, _, upd_same, ?_⟩
        have D4 : DF (RRat K) (upd H2 D (.dK (putK ms (Sum.inr p.1) (.ref va)))) ms _ _ := D2.mono fun v q r => rat_off nz (fun b o n z => by rw [upd_ne n]; exact z) r
        have hv2 : IsRat (cR K) H2 (.ref va) p.2 := ⟨va, vd, rfl, hva⟩
        rw [← ef] at hv2
        exact (D4.put (g.ok p pm) (rat_off nz (fun b o n z => by rw [upd_ne n]; exact z) hv2)).congr (stepF (f := gainF) g.can.nodup hp)
      · have ef : gainF p.2 = 0 := if_neg fun y => e (decide_eq_true y)
        exact ⟨hb, ms, hms, (D2.weak (Nat.le_succ j)).congr (skipF f0 g.can.nodup hp ef)⟩
    · obtain ⟨hb, ms, hms, D2⟩ := hp
      rw [List.length_map, List.take_length] at D2
      have kk : Same H H2 := fun b o z => hb b o (ne_of_none z hD) z
      have lf := g.few
      walk_at "kf"
      refine to_bal hms ((D2.mono (S := RNum K) fun v q r => .inl r).weak (show _ ≤ c by omega)) (by omega) (n := a) (fun z => ?_) fun v m H' k hbal g ev => ?_
      · show Bits a (gainF _)
        unfold gainF
        split
        · exact g.bits z
        · exact bits_zero la
      walk_at "kf"
      exact qq v m H' (kk.trans k) hbal g ev
theorem ok_blosses (F : FunD K "losses" "Balance.losses" (defArgs s_Balance_losses) (defBody s_Balance_losses) (defScope s_Balance_losses) [] [] f fd) (FY : Fy K mg) (CB : BalC P w K mg base)
    (GN : FnOk P w K mg base CX0 4 (He.ma K (cR K) "__neg__") fdN ["self"] (spNegR K)) (bN : Binds K fdN ["self"] []) : FnOk P w K mg base CX0 7 f fd ["self"] (spBUn K lossF) := by
  refine F.ok scBlosses (fun vs H Q E h => ?_) (fun cdv A outer s H vs Q E hr h => ?_)
  · obtain ⟨x, _, _, _, rfl, _⟩ := h
    rfl
  · obtain ⟨x, m, c, a, rfl, hx, g, lc, la, lab, qq⟩ := h
    have clB := (inspB_ok FY.all.2.2.1).cls
    have nsh := noB_ok FY.all.2.2.2.2.1 "shares" (by decide +kernel)
    have nth := noB_ok FY.all.2.2.2.2.1 "things" (by decide +kernel)
    have cl := (inspB_ok FY.all.2.1.1).cls
    have nt := noB_ok FY.all.2.1.2.2.1 "top" (by decide +kernel)
    have mN := methB_ok FY.all.2.1.2.2.2.2.2.2.1
    have f0 : lossF 0 = 0 := by decide +kernel
    obtain ⟨xa, xdx, xd, xt, xks, rfl, hxa, hxd, hxs, hxt⟩ := hx
    refine ⟨_, PSs.nox (pss_one (ps_ret (pe_bal CB FY hr (by decide) rfl (pa_cons (pe_dc (own := [("thing", 1)]) (g := gName 1) (tk := tVar 1) (tv := tUn (rDunU (cR K) (spNegR K) E0) (tDGet (tFld K (tVar 0) "shares") (tVar 1))) (tt := tTest (tOp (rI0 fun i j => .bl (decide (i < j))) (tFld K (tDGet (tFld K (tVar 0) "shares") (tVar 1)) "top") (tC (.int 0)))) rfl scBlosses.nd (pi_tup (pe_fld (pv 0) rfl)) (blkOk_by (N := nmscBneg) (sc := defScope s_Balance_losses) (by decide +kernel)) (fun _ _ _ _ _ => pg_name (i := 1) scBlosses.nd rfl (Or.inl rfl)) (fun _ _ _ _ _ => pts_one (by exact (pt_cmpR op_lt (pe_fld (pe_dget (hu_of hr) (pe_fld (pv 0) rfl) (pv 1) (fun _ _ => rfl)) rfl) pe_int (nomark _)))) (fun _ _ _ _ _ => pv 1) (fun _ _ _ _ _ => by exact (pe_rneg (pe_dget (hu_of hr) (pe_fld (pv 0) rfl) (pv 1) (fun _ _ => rfl)) mN.at_ mN.fn GN hr (by decide) bN))) pa_nil)))), ?_⟩
    walk_at "kf"
    refine rd_dcT ?_
    walk_at "kf"
    refine ⟨xt, rfl, ⟨_, SqT.of hxt⟩, fun D hD => dc_tup (xs := m.map fun p => V.str p.1) (fun j H2 => KX.But D H H2 ∧ ∃ ms, H2 D = some (.dK ms) ∧ DF (RRat K) H2 ms (fun z => lossF (valM (m.take j) z)) j) ⟨KX.But.new KX.But.refl hD, [], upd_same, DF.nil.congr fun z => f0.symm⟩ (fun j H2 _ hp => SqT.of (hp.1 _ _ (ne_of_none hxt hD) hxt)) (fun j x H2 hx hp => ?_) (fun H2 hp => ?_)⟩
    · obtain ⟨hb, ms, hms, D2⟩ := hp
      rw [List.getElem?_map] at hx
      obtain ⟨p, hp, rfl⟩ := Option.map_eq_some_iff.mp hx
      have pm := List.mem_of_getElem? hp
      have hj := (List.getElem?_eq_some_iff.mp hp).1
      have lf := g.few
      obtain ⟨v, hv, hr0⟩ := shares_val hxs pm g.can.nodup
      have ha2 := hb _ _ (ne_of_none hxa hD) hxa
      have hd2 := hb _ _ (ne_of_none hxd hD) hxd
      have hr2 : IsRat (cR K) H2 v p.2 := rat_off (not_insN hD) (fun b o n z => hb b o n z) hr0
      obtain ⟨va, vd, rfl, hva⟩ := hr2
      refine ⟨rfl, ?_⟩
      walk_at "kf"
      refine rd_dgetS hd2 hv ?_
      walk_at "kf"
      refine ite2 (fun e => ?_) (fun e => ?_)
      · have e1 : p.2.num < 0 := of_decide_eq_true e
        have ef : lossF p.2 = -p.2 := if_pos e1
        walk_at "kf"
        refine rd_dgetS hd2 hv ?_
        refine rd_negR ⟨va, vd, rfl, hva⟩ ((g.bitsAt pm).mono (by omega)) fun v2 H4 k4 hv2 => ?_
        have hms4 := k4 _ _ hms
        have nz : ∀ dx fs, H4 D ≠ some (.ins (cR K) dx fs) := not_ins hms4 (fun _ _ e => by cases e)
        refine ⟨ms, .inr p.1, rfl, hms4, Nat.lt_of_le_of_lt D2.few (Nat.lt_of_lt_of_le (show j < 60 by omega) (by decide)), (hb.trans (KX.But.of k4)).upd, _, upd_same, ?_⟩
        have D4 : DF (RRat K) (upd H4 D (.dK (putK ms (Sum.inr p.1) v2))) ms _ _ := D2.mono fun v q r => rat_off nz (fun b o n z => by rw [upd_ne n]; exact z) (r.mono k4)
        rw [← ef] at hv2
        exact (D4.put (g.ok p pm) (rat_off nz (fun b o n z => by rw [upd_ne n]; exact z) hv2)).congr (stepF (f := lossF) g.can.nodup hp)
      · have ef : lossF p.2 = 0 := if_neg fun y => e (decide_eq_true y)
        exact ⟨hb, ms, hms, (D2.weak (Nat.le_succ j)).congr (skipF f0 g.can.nodup hp ef)⟩
    · obtain ⟨hb, ms, hms, D2⟩ := hp
      rw [List.length_map, List.take_length] at D2
      have kk : Same H H2 := fun b o z => hb b o (ne_of_none z hD) z
      have lf := g.few
      walk_at "kf"
      refine to_bal hms ((D2.mono (S := RNum K) fun v q r => .inl r).weak (show _ ≤ c by omega)) (by omega) (n := a) (fun z => ?_) fun v m H' k hbal g ev => ?_
      · show Bits a (lossF _)
        unfold lossF
        split
        · exact bits_neg (g.bits z)
        · exact bits_zero la
      walk_at "kf"
      exact qq v m H' (kk.trans k) hbal g ev
theorem ok_bnum (F : FunD K "number_of" "Balance.number_of" (defArgs s_Balance_number_of) (defBody s_Balance_number_of) (defScope s_Balance_number_of) [] [] f fd) (FY : Fy K mg) (CR : RatC P w K mg base) : FnOk P w K mg base CX0 4 f fd ["self", "thing"] (spBNum K) := by
  refine F.ok scBnum (fun vs H Q E h => ?_) (fun cdv A outer s H vs Q E hr h => ?_)
  · obtain ⟨x, _, _, _, _, rfl, _⟩ := h
    rfl
  · obtain ⟨x, z, m, c, a, rfl, hx, g, qq⟩ := h
    have clB := (inspB_ok FY.all.2.2.1).cls
    have nsh := noB_ok FY.all.2.2.2.2.1 "shares" (by decide +kernel)
    obtain ⟨xa, xdx, xd, xt, xks, rfl, hxa, hxd, hxs, hxt⟩ := hx
    have D := shares_df hxs g
    refine ⟨_, PSs.nox (pss_cons (ps_if (PW.pt (pw_or (pt_not (pt_val (pe_callB call_isi (by rfl) (FY.free "isinstance" (by decide +kernel)) (by decide +kernel) (pa_cons (pv 1) (pa_cons (pe_bltn (v := .ty "str") (by rfl) (FY.free "str" (by decide +kernel)) (by decide +kernel) rfl) pa_nil))))) (pw_or1 (pt_cmp (pc_dnotin (hu_of hr) (pv 1) (pe_fld (pv 0) rfl)))))) (pss_one (ps_ret (pe_rat1 CR FY hr (by decide) rfl (pa_cons pe_int pa_nil)))) pss_nil)
  (pss_one (ps_ret (pe_dget (hu_of hr) (pe_fld (pv 0) rfl) (pv 1) (fun _ _ => rfl))))), ?_⟩
    walk_at "kf"
    refine rd_isi FY (.base (.str z)) (.ty (by decide +kernel)) (by decide +kernel) ?_
    walk_at "kf"
    refine rd_dnotin ?_
    walk_at "kf"
    refine ⟨xd, _, rfl, .inl ⟨xks, .inr z, .inl hxd, rfl, rfl⟩, ?_⟩
    walk_at "kf"
    cases e : valV xks (Sum.inr z : Key) with
    | none =>
      refine KX.rd_T rfl ?_
      walk_at "kf"
      refine ⟨0, 1, rfl, by decide, by decide, fun v1 H3 k3 hv1 => ?_⟩
      rw [divInt_zero1, ← D.out z e] at hv1
      walk_at "kf"
      exact qq _ _ k3 hv1
    | some v =>
      refine KX.rd_F rfl ?_
      walk_at "kf"
      refine rd_dgetS hxd e ?_
      walk_at "kf"
      exact qq _ _ (Same.refl H) (D.has z v e)
end

end K5
namespace K5
open PySem PySem.Spec PyProof.Rows L2 KY PySem.W
local macro_rules | `(tactic| walk_at "kx1") => `(tactic| with_reducible first
  | refine KX.rd_seq ?_ | refine KX.rd_asg ?_ | refine KX.rd_op ?_ | refine KX.rd_c ?_ | refine KX.rd_cb ?_ | refine KX.rd_cons ?_ | refine KX.rd_nil ?_ | refine KX.rd_un ?_ | refine KX.rd_nx ?_ | refine KX.rd_rt ?_ | refine KX.rd_next ?_ | refine KX.rd_ret ?_
  | refine KX.rd_ifs ?_ | refine KX.rd_if ?_ | refine KX.rd_test ?_ | refine KX.rd_B ?_ | refine KX.rd_bl ?_ | refine KX.rd_and ?_ | refine KX.rd_or ?_ | refine KX.rd_not ?_ | refine KX.rd_I0 ?_ | refine KX.rd_U ?_ | refine KX.rd_int ?_ | refine KX.rd_intB ?_ | refine KX.rd_abs ?_
  | refine KX.rd_gname ?_ | refine KX.rd_gsub ?_ | refine KX.rd_call ?_ | refine KX.rd_drop ?_ | refine KX.rd_yes ?_ | refine KX.rd_andV ?_ | refine KX.rd_orV ?_ | refine KX.rd_notV ?_)
local macro_rules | `(tactic| walk_at "hp") => `(tactic| first
  | assumption
  | exact upd_same
  | (refine Eq.trans (upd_ne (by assumption)) ?_; walk_at "hp")
  | (refine Eq.trans (upd_ne (Ne.symm (by assumption))) ?_; walk_at "hp"))
local macro_rules | `(tactic| walk_at "kx2") => `(tactic| first
  | walk_at "kx1"
  | ((with_reducible refine KX.rd_T ?e ?_); (case e => rfl))
  | ((with_reducible refine KX.rd_F ?e ?_); (case e => rfl))
  | ((with_reducible refine' KX.rd_var ?e ?_); (case e => rfl))
  | ((with_reducible refine' KX.rd_I ?e ?_); (case e => first | assumption | decide | exact Or.inl ⟨by omega, by omega⟩ | exact ⟨by decide, by decide, by decide⟩ | exact ⟨by decide, by decide⟩))
  | ((with_reducible refine' KX.rd_eq ?e ?_); (case e => rfl))
  | ((with_reducible refine' KX.rd_ne ?e ?_); (case e => rfl))
  | ((with_reducible refine' KX.rd_ix ?e ?e2 ?_); (case e => first | assumption | exact SqL.of (by walk_at "hp")); (case e2 => first | assumption | rfl))
  | ((with_reducible refine' KX.rd_len ?e ?_); (case e => first | assumption | exact SqL.of (by walk_at "hp")))
  | ((with_reducible refine' KX.rd_set ?e ?e2 ?_); (case e => walk_at "hp"); (case e2 => rfl)))
local macro_rules | `(tactic| walk_at "kx") => `(tactic| repeat walk_at "kx2")
local macro_rules | `(tactic| walk_at "kx3") => `(tactic| first
  | walk_at "kx2"
  | (with_reducible refine rd_fld2 ?_)
  | ((with_reducible refine' rd_get ?e ?c ?n ?l ?_); (case e => assumption); (case c => assumption); (case n => assumption); (case l => rfl))
  | ((with_reducible refine' rd_mulw ?e ?_); (case e => assumption)))
local macro_rules | `(tactic| walk_at "kx4") => `(tactic| with_reducible first
  | refine rd_js_cons ?_ | refine rd_js_nil ?_ | refine rd_fmt ?_ | refine rd_dget ?_ | refine rd_dget2 ?_ | refine rd_dput ?_ | refine rd_rat ?_ | refine rd_bal ?_ | refine rd_forL ?_ | refine rd_sfld ?_ | refine KX.rd_tup ?_ | refine KX.rd_lst ?_ | refine rd_smeth ?_)
local macro_rules | `(tactic| walk_at "kf") => `(tactic| repeat (first | walk_at "kx3" | walk_at "kx4"))
theorem scBeq : FnScope ["self", "other"] ["self", "other"] (defScope s_Balance_eq) := ⟨rfl, rfl, rfl, by decide +kernel, rfl, by decide +kernel, by decide +kernel⟩
theorem scBstr : FnScope nmscBneg ["self"] (defScope s_Balance_str) := ⟨rfl, rfl, rfl, by decide +kernel, rfl, by decide +kernel, by decide +kernel⟩
/-! ### comprehensions whose items are told ahead -/
def accOf (out : Nat → Option V) (i : Nat) : List V := (List.range i).filterMap out
theorem accOf_succ (out : Nat → Option V) (i : Nat) : accOf out (i + 1) = accOf out i ++ (out i).toList := by
  unfold accOf
  rw [List.range_succ, List.filterMap_append]
  congr 1
theorem accOf_len (out : Nat → Option V) (i : Nat) : (accOf out i).length ≤ i := by
  unfold accOf
  refine Nat.le_trans (List.length_filterMap_le ..) ?_
  rw [List.length_range]
  exact Nat.le_refl _
theorem accOf_get (ys : List V) : ∀ i, i ≤ ys.length → accOf (fun i => ys[i]?) i = ys.take i
  | 0, _ => rfl
  | i + 1, h => by
    rw [accOf_succ, accOf_get ys i (by omega), List.take_succ]
theorem accOf_all {n : Nat} (ys : List V) (h : n = ys.length) : accOf (fun i => ys[i]?) n = ys := by rw [accOf_get ys n (by omega), h, List.take_length]
section
variable {K : PySem.W.Frag} {σ : L2.St} {H H1 : Hp} {Q : VK} {a : Addr} {xs : List V} {g : TG} {tt : TT} {te tl : TE} {vs : List Nat}
theorem rd_lcT (q : tl σ H fun x H1 => ∃ a, x = .ref a ∧ (∃ xs, SqT K H1 a xs) ∧ ∀ D, H1 D = none → ∃ W : Nat → Nat → Hp → Prop, (∃ m, W 0 m (upd H1 D (.lst []))) ∧ ∀ i m H, W i m H →
  ((Itt K a).stop i H ∧ Q (.ref D) H) ∨ ((Itt K a).go i H ∧ ∃ Nx : Hp → Prop, (∀ H', Nx H' → ∃ m', m' < m ∧ W (i + 1) m' H') ∧ ∀ x H', (Itt K a).yld i H x H' → g x (wipe σ vs) H' fun σ2 H2 => wipe σ2 vs = wipe σ vs ∧ tt σ2 H2 fun b H3 =>
    if b = true then te σ2 H3 fun y H4 => ∃ acc, H4 D = some (.lst acc) ∧ acc.length < sizeLine ∧ Nx (upd H4 D (.lst (acc ++ [y]))) else Nx H3)) : tLc (iTup K tl) g tt te vs σ H Q := q
theorem rd_lcL (q : tl σ H fun x H1 => ∃ a, x = .ref a ∧ (∃ xs, SqL K H1 a xs) ∧ ∀ D, H1 D = none → ∃ W : Nat → Nat → Hp → Prop, (∃ m, W 0 m (upd H1 D (.lst []))) ∧ ∀ i m H, W i m H →
  ((Itl K a).stop i H ∧ Q (.ref D) H) ∨ ((Itl K a).go i H ∧ ∃ Nx : Hp → Prop, (∀ H', Nx H' → ∃ m', m' < m ∧ W (i + 1) m' H') ∧ ∀ x H', (Itl K a).yld i H x H' → g x (wipe σ vs) H' fun σ2 H2 => wipe σ2 vs = wipe σ vs ∧ tt σ2 H2 fun b H3 =>
    if b = true then te σ2 H3 fun y H4 => ∃ acc, H4 D = some (.lst acc) ∧ acc.length < sizeLine ∧ Nx (upd H4 D (.lst (acc ++ [y]))) else Nx H3)) : tLc (iList K tl) g tt te vs σ H Q := q
theorem rd_lcI {J : It} {wi : TI} (q : wi σ H fun J H1 => ∀ D, H1 D = none → ∃ W : Nat → Nat → Hp → Prop, (∃ m, W 0 m (upd H1 D (.lst []))) ∧ ∀ i m H, W i m H →
  (J.stop i H ∧ Q (.ref D) H) ∨ (J.go i H ∧ ∃ Nx : Hp → Prop, (∀ H', Nx H' → ∃ m', m' < m ∧ W (i + 1) m' H') ∧ ∀ x H', J.yld i H x H' → g x (wipe σ vs) H' fun σ2 H2 => wipe σ2 vs = wipe σ vs ∧ tt σ2 H2 fun b H3 =>
    if b = true then te σ2 H3 fun y H4 => ∃ acc, H4 D = some (.lst acc) ∧ acc.length < sizeLine ∧ Nx (upd H4 D (.lst (acc ++ [y]))) else Nx H3)) : tLc wi g tt te vs σ H Q := q
/-- over anything that walks while the heap only grows: the item of turn i is out i, none where it is left out -/
theorem lc_known {Qd : Addr → Hp → Prop} {J : It} {n : Nat} {G : Hp → Prop} {Y : Nat → Hp → V → Hp → Prop} (w : Walk J n G Y) (hG : ∀ H2, Same H1 H2 → G H2) (out : Nat → Option V) (small : n ≤ 1000)
    (step : ∀ i x H2 H', i < n → Same H1 H2 → Y i H2 x H' → ∀ (Qe : VK) (Pz : Hp → Prop), (∀ H5 y, out i = some y → Same H2 H5 → Qe y H5) → (∀ H5, out i = none → Same H2 H5 → Pz H5) →
      g x (wipe σ vs) H' fun σ2 H3 => wipe σ2 vs = wipe σ vs ∧ tt σ2 H3 fun b H4 => if b = true then te σ2 H4 Qe else Pz H4)
    (done : ∀ D H2, H1 D = none → Same H1 H2 → H2 D = some (.lst (accOf out n)) → Qd D H2) : ∀ D, H1 D = none → ∃ W : Nat → Nat → Hp → Prop, (∃ m, W 0 m (upd H1 D (.lst []))) ∧ ∀ i m H, W i m H →
  (J.stop i H ∧ Qd D H) ∨ (J.go i H ∧ ∃ Nx : Hp → Prop, (∀ H', Nx H' → ∃ m', m' < m ∧ W (i + 1) m' H') ∧ ∀ x H', J.yld i H x H' → g x (wipe σ vs) H' fun σ2 H2 => wipe σ2 vs = wipe σ vs ∧ tt σ2 H2 fun b H3 =>
    if b = true then te σ2 H3 fun y H4 => ∃ acc, H4 D = some (.lst acc) ∧ acc.length < sizeLine ∧ Nx (upd H4 D (.lst (acc ++ [y]))) else Nx H3) := by
  intro D hD
  have sm : ∀ {H2}, KX.But D H1 H2 → Same H1 H2 := fun hb b o z => hb b o (ne_of_none z hD) z
  refine lc_it w (fun i H2 => KX.But D H1 H2 ∧ H2 D = some (.lst (accOf out i))) ⟨KX.But.new KX.But.refl hD, upd_same⟩ (fun i H2 _ hp => hG H2 (sm hp.1)) (fun i x H2 H' hi hp hy => ?_) (fun H2 hp => done D H2 hD (sm hp.1) hp.2)
  obtain ⟨hb, hd⟩ := hp
  refine step i x H2 H' hi (sm hb) hy _ _ (fun H5 y e k => ⟨_, k _ _ hd, ?_, (hb.trans (KX.But.of k)).upd, ?_⟩) (fun H5 e k => ⟨hb.trans (KX.But.of k), ?_⟩)
  · exact Nat.lt_of_le_of_lt (accOf_len out i) (Nat.lt_of_lt_of_le (show i < 1000 by omega) (by decide))
  · rw [upd_same, accOf_succ, e]
    rfl
  · rw [accOf_succ, e]
    show _ = some (HO.lst (accOf out i ++ []))
    rw [List.append_nil]
    exact k _ _ hd
theorem walk_t (K : PySem.W.Frag) (a : Addr) (xs : List V) : Walk (Itt K a) xs.length (fun H => SqT K H a xs) (fun i H x H' => H' = H ∧ xs[i]? = some x) :=
  ⟨fun i H hi h => ⟨xs, xs[i], h, by simp [hi]⟩, fun H h => ⟨xs, h, Nat.le_refl _⟩, fun i H x H' hi h y => ⟨y.1, y.2 xs h⟩⟩
theorem walk_l (K : PySem.W.Frag) (a : Addr) (xs : List V) : Walk (Itl K a) xs.length (fun H => SqL K H a xs) (fun i H x H' => H' = H ∧ xs[i]? = some x) :=
  ⟨fun i H hi h => ⟨xs, xs[i], h, by simp [hi]⟩, fun H h => ⟨xs, h, Nat.le_refl _⟩, fun i H x H' hi h y => ⟨y.1, y.2 xs h⟩⟩
end
def rJoin (K : PySem.W.Frag) : V → List V → Hp → VK → Prop := fun x xs H Q => ∃ a p, ∃ ys : List Str, x = .str a ∧ xs = [.ref p] ∧ (SqL K H p (ys.map V.str) ∨ SqT K H p (ys.map V.str)) ∧ (ys.map (·.length)).sum + ys.length * a.length ≤ 16777216 ∧ Q (.str (Txt.join a ys)) H
theorem pe_joinK {X : Cx} {o e : Expr} {to te : TE} {apos pos : Pos} (ho : PE X o to) (he : PE X e te) (hs : starEach [e] X.env = [(false, eval e X.env)] := by rfl) (hbase : attributeBase o "join" X.env (eval o X.env) = eval o X.env := by rfl) (hline : (apos.endLine == pos.line) = true := by rfl) :
    PE X (.Call (.Attribute o "join" apos) [e] [] pos) (tM1 (rJoin X.K) to te) := pe_join ho he hs hbase hline
theorem rd_join {K : PySem.W.Frag} {to te : TE} {σ : L2.St} {H : Hp} {Q : VK} (q : to σ H fun x H1 => (∃ a, x = .str a) ∧ te σ H1 fun y H2 => rJoin K x [y] H2 Q) : tM1 (rJoin K) to te σ H Q := q
/-! ### equality -/
theorem dict_ans {K : PySem.W.Frag} {H : Hp} {ks ls : List (Key × V)} {m n : Lst} {c1 c2 a b : Nat} (s1 : Shares K H ks m) (s2 : Shares K H ls n) (g1 : Good c1 a m) (g2 : Good c2 b n) :
    dictAns ks ls (fun k => match k with | .inr z => decide (valM m z = valM n z) | .inl _ => false) = decide (m = n) := by
  have D1 := shares_df s1 g1
  have D2 := shares_df s2 g2
  have l1 := Paired.length s1
  have l2 := Paired.length s2
  by_cases h : m = n
  · subst h
    rw [decide_eq_true rfl]
    unfold dictAns
    rw [Bool.and_eq_true, beq_iff_eq, List.all_eq_true]
    refine ⟨l1.trans l2.symm, fun p hp => ?_⟩
    obtain ⟨z, e, _⟩ := D1.names p hp
    obtain ⟨i, hi, e3⟩ := List.mem_iff_getElem.mp hp
    obtain ⟨q, hq, e4, _⟩ := paired_get (i := i) (x := p) s1 (by rw [List.getElem?_eq_getElem hi, e3])
    obtain ⟨v, hv, _⟩ := shares_val s2 (List.mem_of_getElem? hq) g2.can.nodup
    rw [Bool.and_eq_true]
    refine ⟨?_, ?_⟩
    · rw [e4, hv]
      rfl
    · rw [e]
      exact decide_eq_true rfl
  · rw [decide_eq_false h]
    refine Bool.eq_false_iff.mpr fun e => h ?_
    unfold dictAns at e
    rw [Bool.and_eq_true, beq_iff_eq, List.all_eq_true] at e
    obtain ⟨el, ea⟩ := e
    have sub : ∀ p ∈ m, p.1 ∈ n.map Prod.fst ∧ valM m p.1 = valM n p.1 := fun p hp => by
      obtain ⟨i, hi, e3⟩ := List.mem_iff_getElem.mp hp
      have hi2 : i < ks.length := by rw [l1]; exact hi
      obtain ⟨q, hq, e4, _⟩ := paired_get (i := i) (x := ks[i]) s1 (List.getElem?_eq_getElem hi2)
      rw [List.getElem?_eq_getElem hi, e3] at hq
      cases hq
      have z := ea ks[i] (List.getElem_mem hi2)
      rw [e4, Bool.and_eq_true] at z
      refine ⟨?_, of_decide_eq_true z.2⟩
      refine Classical.byContradiction fun nm => ?_
      cases ev : valV ls (Sum.inr p.1 : Key) with
      | none =>
        rw [ev] at z
        exact absurd z.1 (by decide)
      | some v =>
        obtain ⟨j, hj, e5⟩ := List.mem_iff_getElem.mp (valV_mem ev)
        obtain ⟨q2, hq2, e6, _⟩ := paired_get (i := j) (x := ((Sum.inr p.1 : Key), v)) s2 (by rw [List.getElem?_eq_getElem hj, e5])
        injection e6 with e6
        exact nm (by rw [e6]; exact List.mem_map_of_mem (List.mem_of_getElem? hq2))
    refine g1.can.ext g2.can fun z => ?_
    by_cases hz : z ∈ m.map Prod.fst
    · obtain ⟨p, hp, rfl⟩ := List.mem_map.mp hz
      exact (sub p hp).2
    · rw [valM_out hz]
      refine (valM_out fun hz2 => ?_).symm
      have nd : (z :: m.map Prod.fst).Nodup := List.nodup_cons.mpr ⟨hz, g1.can.nodup⟩
      have le := List.Nodup.length_le_of_subset (l₂ := n.map Prod.fst) nd (fun y hy => by
        rcases List.mem_cons.mp hy with rfl | hy
        · exact hz2
        · obtain ⟨p, hp, rfl⟩ := List.mem_map.mp hy
          exact (sub p hp).1)
      rw [List.length_cons, List.length_map, List.length_map] at le
      omega
/-- two balances are equal just if their numbers are -/
def DBal (K : PySem.W.Frag) : V → V → Hp → Bool → Prop := fun x y H b => ∃ m n c1 c2 a1 a2, IsBal K H x m ∧ IsBal K H y n ∧ Good c1 a1 m ∧ Good c2 a2 n ∧ b = decide (m = n)
/-- a balance's text -/
def balT (m : Lst) : Str := if m.isEmpty then "0" else Txt.join " + " (m.map fun p => termT p.2 p.1)
def spBStr (K : PySem.W.Frag) : Sp := fun vs H Q _ => ∃ x m c a, vs = [x] ∧ IsBal K H x m ∧ Good c a m ∧ c < 60 ∧ a ≤ 1900 ∧ ∀ H', Same H H' → Q (.str (balT m)) H'
theorem small_sign {c : Nat} (h : c ∈ smallT.cps.toList ∨ c ∈ digitT.cps.toList) : c < 1114112 := by
  have e1 : ∀ c ∈ smallT.cps.toList, c < 1114112 := by decide +kernel
  have e2 : ∀ c ∈ digitT.cps.toList, c < 1114112 := by decide +kernel
  rcases h with h | h
  · exact e1 c h
  · exact e2 c h
theorem name_strOk {z : Str} (h : NameOk z) : PyData.strOk z = true := by
  unfold PyData.strOk
  rw [Array.all_eq_true']
  intro c hc
  exact decide_eq_true (small_sign (h.all c (Array.mem_toList_iff.mpr hc)))
theorem term_len {q : Rat} {z : Str} (b : Bits 1900 q) (h : z.length ≤ 12) : (termT q z).length ≤ 5000 := by
  have l1 := ratT_len b
  have e0 : (Str.empty).length = 0 := rfl
  have e3 : (Str.ofString " ").length = 1 := by decide +kernel
  unfold termT
  split
  · omega
  · simp only [Str.length_append, e0, e3]
    omega
theorem sum_le {l : List Nat} {k : Nat} (h : ∀ x ∈ l, x ≤ k) : l.sum ≤ l.length * k := by
  induction l with
  | nil => simp
  | cons a r ih =>
    rw [List.sum_cons, List.length_cons, Nat.succ_mul]
    have := h a (List.mem_cons_self ..)
    have := ih fun x hx => h x (List.mem_cons_of_mem _ hx)
    omega
section
variable {P : Program} {w : World} {K : PySem.W.Frag} {mg : Str → Option Value} {base : Heap} {f gN : Addr} {fd fdN fdE : FuncData} {H : Hp} {Q : VK} {σ : L2.St} {x : V} {t : Value}
theorem rat_own (FY : Fy K mg) {x y : V} {p q : Rat} (hx : IsRat (cR K) H x p) (hy : IsRat (cR K) H y q) : DOwn K (cR K) (DRat K) x y H (decide (p = q)) := by
  obtain ⟨a, dx, rfl, h1⟩ := hx
  obtain ⟨b, dy, rfl, h2⟩ := hy
  exact ⟨a, dx, _, .ref (cR K), rfl, h1, .ins h2, (FY.rest.2.2.2 "Ratio" (by decide +kernel)).1, p, q, ⟨a, dx, rfl, h1⟩, .inl ⟨b, dy, rfl, h2⟩, rfl⟩
theorem rat_self {K : PySem.W.Frag} (x : V) (H : Hp) (b : Bool) (h : DRat K x x H b) : b = true := by
  obtain ⟨p, q, hx, hy, rfl⟩ := h
  refine decide_eq_true ?_
  obtain ⟨a, dx, rfl, h1⟩ := hx
  rcases hy with ⟨a2, dx2, e, h2⟩ | ⟨i, e, _⟩
  · cases e
    rw [h1] at h2
    have z := Option.some.inj h2
    injection z with _ _ z
    unfold ratF at z
    simp only [List.cons.injEq, Prod.mk.injEq, V.int.injEq] at z
    exact Rat.ext z.1.2 (by have := z.2.1.2; omega)
  · cases e
theorem ok_beq (F : FunD K "__eq__" "Balance.__eq__" (defArgs s_Balance_eq) (defBody s_Balance_eq) (defScope s_Balance_eq) [] [] f fd) (FY : Fy K mg) (GE : FnOk P w K mg base CX0 2 (He.ma K (cR K) "__eq__") fdE ["self", "other"] (spEqOf (DRat K))) (bE : Binds K fdE ["self", "other"] []) :
    FnOk P w K mg base CX0 4 f fd ["self", "other"] (spEqOf (DBal K)) := by
  refine F.ok scBeq (fun vs H Q E h => ?_) (fun cdv A outer s H vs Q E hr h => ?_)
  · obtain ⟨x, y, b, rfl, _⟩ := h
    rfl
  · obtain ⟨x, y, b, rfl, ⟨m, n, c1, c2, a1, a2, hx, hy, g1, g2, rfl⟩, qq⟩ := h
    have clB := (inspB_ok FY.all.2.2.1).cls
    have nsh := noB_ok FY.all.2.2.2.2.1 "shares" (by decide +kernel)
    have EqC := eqB_ok FY.all.2.1.2.2.2.2.2.2.2.1
    have hself := fun x H b => rat_self (K := K) x H b
    obtain ⟨xa, xdx, xd, xt, xks, rfl, hxa, hxd, hxs, hxt⟩ := hx
    obtain ⟨ya, ydx, yd, yt, yks, rfl, hya, hyd, hys, hyt⟩ := hy
    refine ⟨_, PSs.nox (pss_one (ps_ret (pe_and (pe_callB call_isi (by rfl) (FY.free "isinstance" (by decide +kernel)) (by decide +kernel) (pa_cons (pv 1) (pa_cons (pe_glob (v := .ref (He.ga K "Balance")) rfl (FY.glo "Balance" (by decide +kernel)) rfl) pa_nil))) (pe_one (pe_cmpR (op_eqDG (eqb_own EqC GE bE pass0 hself) (hr.mono (by decide))) (pe_fld (pv 0) rfl) (pe_fld (pv 1) rfl) (nomark _)))))), ?_⟩
    walk_at "kf"
    refine ⟨.ref ya, .ref (cB K), .ref (cB K), .ref (cB K), true, rfl, .own _, (inspB_ok FY.all.2.2.1).ty hya, kit_own FY (by decide +kernel) (by decide +kernel), ?_⟩
    walk_at "kf"
    refine ⟨xd, yd, _, rfl, rfl, ⟨xks, yks, _, hxd, hyd, (dict_ans hxs hys g1 g2).symm, fun H1 k p hp y ey => ?_⟩, fun H' e => ?_⟩
    · have ne1 : ∀ {b dx q}, H b = some (.ins (cR K) dx (ratF q)) → b ≠ xd ∧ b ≠ yd := fun h => ⟨fun e => (by rw [e, hxd] at h; cases h), fun e => (by rw [e, hyd] at h; cases h)⟩
      have D1 := shares_df (hxs.mono (H' := H1) fun b dx q h => k b _ (ne1 h).1 (ne1 h).2 h) g1
      have D2 := shares_df (hys.mono (H' := H1) fun b dx q h => k b _ (ne1 h).1 (ne1 h).2 h) g2
      obtain ⟨z, ez, _⟩ := D1.names p hp
      have hv := valV_at D1.nodup hp
      rw [ez] at hv ey ⊢
      have r1 := D1.has z _ hv
      have r2 := D2.has z _ ey
      refine ⟨?_, rat_own FY r1 r2⟩
      obtain ⟨b, _, e, _⟩ := r2
      exact ⟨b, e⟩
    · walk_at "kf"
      exact qq H' e
theorem ok_bstr (F : FunD K "__str__" "Balance.__str__" (defArgs s_Balance_str) (defBody s_Balance_str) (defScope s_Balance_str) [] [] f fd) (FY : Fy K mg) (CT : Callee P w K mg base 3 "term_text" ["ratio", "thing"] (spTerm K)) : FnOk P w K mg base CX0 4 f fd ["self"] (spBStr K) := by
  refine F.ok scBstr (fun vs H Q E h => ?_) (fun cdv A outer s H vs Q E hr h => ?_)
  · obtain ⟨x, m, _, _, rfl, _⟩ := h
    rfl
  · obtain ⟨x, m, c, a, rfl, hx, g, lc, la, qq⟩ := h
    have clB := (inspB_ok FY.all.2.2.1).cls
    have nsh := noB_ok FY.all.2.2.2.2.1 "shares" (by decide +kernel)
    have nth := noB_ok FY.all.2.2.2.2.1 "things" (by decide +kernel)
    obtain ⟨xa, xdx, xd, xt, xks, rfl, hxa, hxd, hxs, hxt⟩ := hx
    refine ⟨_, PSs.nox (pss_cons (ps_if (pt_cmpR (op_eqD hr.units) (pe_fld (pv 0) rfl) (pe_tup pa_nil) (nomark _)) (pss_one (ps_ret pe_str)) pss_nil)
  (pss_one (ps_ret (pe_joinK pe_str (pe_lc (own := [("thing", 1)]) (g := gName 1) (te := tCall (spTerm K) [] E0 (tCons (tDGet (tFld K (tVar 0) "shares") (tVar 1)) (tCons (tVar 1) tNil))) (tt := tYes) rfl scBstr.nd (pi_tup (pe_fld (pv 0) rfl)) (blkOk_by (N := nmscBneg) (sc := defScope s_Balance_str) (by decide +kernel)) (fun _ _ _ _ _ => pg_name (i := 1) scBstr.nd rfl (Or.inl rfl)) (fun _ _ _ _ _ => pts_nil) (fun _ _ _ _ _ => by exact (KX.pe_c CT hr (by decide) rfl (pa_cons (pe_dget (hu_of hr) (pe_fld (pv 0) rfl) (pv 1) (fun _ _ => rfl)) (pa_cons (pv 1) pa_nil))))))))), ?_⟩
    walk_at "kf"
    refine ⟨Nat.zero_le _, fun p hp => ?_⟩
    have k : Same H (upd H p (.tup [])) := fun b o z => by rw [upd_ne (ne_of_none z hp)]; exact z
    have e0 : (m.map fun p => V.str p.1) = (m.map Prod.fst).map V.str := by rw [List.map_map]; rfl
    have hxt2 := hxt
    rw [e0] at hxt2
    refine ⟨.tuple ((m.map Prod.fst).map .str), .tuple [], .tup (SqT.of (k _ _ hxt2)) (dp_strs _), .tup (SqT.of upd_same) .nil, strs_shaped _ (fun z hz => by
      obtain ⟨p, hp, rfl⟩ := List.mem_map.mp hz
      exact name_strOk (g.ok p hp)), rfl, ?_⟩
    rw [eqv_nil, List.isEmpty_map]
    generalize (upd H p (.tup [])) = H1 at k ⊢
    have hxa1 := k _ _ hxa
    have lf := g.few
    walk_at "kf"
    refine ite2 (fun e => ?_) (fun e => ?_)
    · have fin := qq H1 k
      unfold balT at fin
      rw [if_pos e] at fin
      walk_at "kf"
      exact fin
    · walk_at "kf"
      refine rd_join ?_
      walk_at "kf"
      refine ⟨⟨_, rfl⟩, ?_⟩
      refine rd_lcT ?_
      walk_at "kf"
      refine ⟨xt, rfl, ⟨_, SqT.of (k _ _ hxt)⟩, lc_known (walk_t K xt _) (fun H2 k2 => SqT.of (k2 _ _ (k _ _ hxt))) (fun i => (m.map fun p => V.str (termT p.2 p.1))[i]?) (by rw [List.length_map]; omega) (fun i x H2 H' hi k2 hy Qe Pz h1 h2 => ?_) (fun D H2 hD k2 hd => ?_)⟩
      · obtain ⟨rfl, hx⟩ := hy
        rw [List.getElem?_map] at hx
        obtain ⟨p, hp, rfl⟩ := Option.map_eq_some_iff.mp hx
        have pm := List.mem_of_getElem? hp
        obtain ⟨v, hv, hr0⟩ := shares_val hxs pm g.can.nodup
        have ha2 := k2 _ _ hxa1
        have hd2 := k2 _ _ (k _ _ hxd)
        refine ⟨rfl, ?_⟩
        walk_at "kf"
        refine rd_dgetS hd2 hv ?_
        walk_at "kf"
        refine ⟨v, p.2, p.1, rfl, hr0.mono (k.trans k2), (g.bitsAt pm).mono la, Nat.le_trans (g.ok p pm).most (by decide), fun H5 k5 => ?_⟩
        refine h1 H5 _ ?_ k5
        rw [List.getElem?_map, hp]
        rfl
      · rw [accOf_all _ (by rw [List.length_map, List.length_map])] at hd
        refine ⟨" + ", D, m.map fun p => termT p.2 p.1, rfl, rfl, .inl (SqL.of ?_), ?_, ?_⟩
        · rw [hd, List.map_map]
          rfl
        · have s1 := sum_le (l := (m.map fun p => termT p.2 p.1).map (·.length)) (k := 5000) (fun x hx => by
            obtain ⟨y, hy, rfl⟩ := List.mem_map.mp hx
            obtain ⟨p, hp, rfl⟩ := List.mem_map.mp hy
            exact term_len ((g.bitsAt hp).mono la) (g.ok p hp).most)
          have e3 : (Str.ofString " + ").length = 3 := by decide +kernel
          rw [List.length_map, List.length_map] at s1
          rw [List.length_map, e3]
          have : m.length ≤ 60 := by omega
          have : m.length * 5000 ≤ 60 * 5000 := Nat.mul_le_mul_right _ this
          omega
        · have fin := qq H2 (k.trans k2)
          unfold balT at fin
          rw [if_neg e] at fin
          walk_at "kf"
          exact fin
end

end K5
namespace K5
open PySem PySem.Spec PyProof.Rows L2 KY PySem.W
local macro_rules | `(tactic| walk_at "kx1") => `(tactic| with_reducible first
  | refine KX.rd_seq ?_ | refine KX.rd_asg ?_ | refine KX.rd_op ?_ | refine KX.rd_c ?_ | refine KX.rd_cb ?_ | refine KX.rd_cons ?_ | refine KX.rd_nil ?_ | refine KX.rd_un ?_ | refine KX.rd_nx ?_ | refine KX.rd_rt ?_ | refine KX.rd_next ?_ | refine KX.rd_ret ?_
  | refine KX.rd_ifs ?_ | refine KX.rd_if ?_ | refine KX.rd_test ?_ | refine KX.rd_B ?_ | refine KX.rd_bl ?_ | refine KX.rd_and ?_ | refine KX.rd_or ?_ | refine KX.rd_not ?_ | refine KX.rd_I0 ?_ | refine KX.rd_U ?_ | refine KX.rd_int ?_ | refine KX.rd_intB ?_ | refine KX.rd_abs ?_
  | refine KX.rd_gname ?_ | refine KX.rd_gsub ?_ | refine KX.rd_call ?_ | refine KX.rd_drop ?_ | refine KX.rd_yes ?_ | refine KX.rd_andV ?_ | refine KX.rd_orV ?_ | refine KX.rd_notV ?_)
local macro_rules | `(tactic| walk_at "hp") => `(tactic| first
  | assumption
  | exact upd_same
  | (refine Eq.trans (upd_ne (by assumption)) ?_; walk_at "hp")
  | (refine Eq.trans (upd_ne (Ne.symm (by assumption))) ?_; walk_at "hp"))
local macro_rules | `(tactic| walk_at "kx2") => `(tactic| first
  | walk_at "kx1"
  | ((with_reducible refine KX.rd_T ?e ?_); (case e => rfl))
  | ((with_reducible refine KX.rd_F ?e ?_); (case e => rfl))
  | ((with_reducible refine' KX.rd_var ?e ?_); (case e => rfl))
  | ((with_reducible refine' KX.rd_I ?e ?_); (case e => first | assumption | decide | exact Or.inl ⟨by omega, by omega⟩ | exact ⟨by decide, by decide, by decide⟩ | exact ⟨by decide, by decide⟩))
  | ((with_reducible refine' KX.rd_eq ?e ?_); (case e => rfl))
  | ((with_reducible refine' KX.rd_ne ?e ?_); (case e => rfl))
  | ((with_reducible refine' KX.rd_ix ?e ?e2 ?_); (case e => first | assumption | exact SqL.of (by walk_at "hp")); (case e2 => first | assumption | rfl))
  | ((with_reducible refine' KX.rd_len ?e ?_); (case e => first | assumption | exact SqL.of (by walk_at "hp")))
  | ((with_reducible refine' KX.rd_set ?e ?e2 ?_); (case e => walk_at "hp"); (case e2 => rfl)))
local macro_rules | `(tactic| walk_at "kx") => `(tactic| repeat walk_at "kx2")
local macro_rules | `(tactic| walk_at "kx3") => `(tactic| first
  | walk_at "kx2"
  | (with_reducible refine rd_fld2 ?_)
  | ((with_reducible refine' rd_get ?e ?c ?n ?l ?_); (case e => assumption); (case c => assumption); (case n => assumption); (case l => rfl))
  | ((with_reducible refine' rd_mulw ?e ?_); (case e => assumption)))
local macro_rules | `(tactic| walk_at "kx4") => `(tactic| with_reducible first
  | refine rd_js_cons ?_ | refine rd_js_nil ?_ | refine rd_fmt ?_ | refine rd_dget ?_ | refine rd_dget2 ?_ | refine rd_dput ?_ | refine rd_rat ?_ | refine rd_bal ?_ | refine rd_forL ?_ | refine rd_sfld ?_ | refine KX.rd_tup ?_ | refine KX.rd_lst ?_ | refine rd_smeth ?_)
local macro_rules | `(tactic| walk_at "kf") => `(tactic| repeat (first | walk_at "kx3" | walk_at "kx4"))
abbrev nmscBren : List Str := ["self", "names", "found", "thing", "goal"]
abbrev nmscBleast : List Str := ["self", "bottom", "shared", "thing", "ratio"]
theorem scBren : FnScope nmscBren ["self", "names"] (defScope s_Balance_renamed) := ⟨rfl, rfl, rfl, by decide +kernel, rfl, by decide +kernel, by decide +kernel⟩
theorem scBleast : FnScope nmscBleast ["self"] (defScope s_Balance_least) := ⟨rfl, rfl, rfl, by decide +kernel, rfl, by decide +kernel, by decide +kernel⟩
def rLcm : List V → Hp → VK → Prop := fun vs H Q => ∃ a b : Nat, vs = [.int a, .int b] ∧ a < 2 ^ 64 ∧ b < 2 ^ 64 ∧ Q (.int ((Nat.lcm a b : Nat) : Int)) H
theorem cr_lcm {X : Cx} : CallR X (.builtin "math.lcm") rLcm := by
  intro pins s σ H vs us Q I r h
  obtain ⟨a, b, rfl, ha, hb, q⟩ := h
  obtain ⟨t, u, rfl⟩ := Vals.int2 r
  have e : (((Nat.lcm 1 (a : Int).natAbs).lcm (b : Int).natAbs : Nat) : Int) = ((Nat.lcm a b : Nat) : Int) := by
    rw [Nat.lcm_one_left, Int.natAbs_natCast, Int.natAbs_natCast]
  have hl : Nat.lcm a b < 2 ^ 128 := by
    refine Nat.lt_of_le_of_lt (Nat.div_le_self _ _) ?_
    rw [show 2 ^ 128 = 2 ^ 64 * 2 ^ 64 by decide]
    exact Nat.mul_lt_mul'' ha hb
  refine PySem.W.mg_lcm_v (by rw [Int.natAbs_natCast]; exact ha) (by rw [Int.natAbs_natCast]; exact hb) e ?_ ⟨.int _, H, I.tok _, ⟨_, rfl⟩, q⟩
  rw [Int.natAbs_natCast]
  by_cases z : Nat.lcm a b = 0
  · rw [z]
    decide
  · exact Nat.lt_of_lt_of_le ((Nat.log2_lt z).mpr hl) (by decide)
/-- what a name becomes -/
def nameOf (ks : List (Key × V)) (z : Str) : Str := match valV ks (Sum.inr z : Key) with
  | some (.str y) => y
  | _ => z
def NewNames (ks : List (Key × V)) : Prop := ks.length ≤ 100 ∧ ∀ p ∈ ks, ∃ z y, p.1 = Sum.inr z ∧ p.2 = V.str y ∧ NameOk z ∧ NameOk y
theorem nameOf_get {ks : List (Key × V)} (N : NewNames ks) (z : Str) : (valV ks (Sum.inr z : Key)).getD (.str z) = .str (nameOf ks z) := by
  unfold nameOf
  cases e : valV ks (Sum.inr z : Key) with
  | none => rfl
  | some v =>
    obtain ⟨z2, y, _, e2, _⟩ := N.2 _ (valV_mem e)
    dsimp only at e2
    subst e2
    rfl
theorem nameOf_ok {ks : List (Key × V)} (N : NewNames ks) {z : Str} (h : NameOk z) : NameOk (nameOf ks z) := by
  unfold nameOf
  split
  · rename_i y e
    obtain ⟨z2, y2, _, e2, _, ok⟩ := N.2 _ (valV_mem e)
    dsimp only at e2
    injection e2 with e2
    rw [e2]
    exact ok
  · exact h
def spBRen (K : PySem.W.Frag) : Sp := fun vs H Q _ => ∃ x d ks m c a, vs = [x, .ref d] ∧ IsBal K H x m ∧ Good c a m ∧ H d = some (.dK ks) ∧ NewNames ks ∧ c < 60 ∧ 1 ≤ a ∧ (c + 1) * (a + 1) ≤ 6900 ∧
  retBal K c (c * (a + 1) + 1) (fun y => renF (nameOf ks) (valM m) (m.map Prod.fst) y) H Q
def spBLeast (K : PySem.W.Frag) : Sp := fun vs H Q _ => ∃ x m c a d, vs = [x] ∧ IsBal K H x m ∧ Good c a m ∧ c < 60 ∧ 1 ≤ a ∧ a ≤ 2200 ∧ (∀ p ∈ m, p.2.den < 2 ^ d) ∧ c * d ≤ 62 ∧ retBal K c (2 * a + 65) (valM (least m)) H Q
def spBOf (K : PySem.W.Frag) : Sp := fun vs H Q _ => ∃ (p : Addr) (zs : List Str), vs = [.ref p] ∧ H p = some (.tup (zs.map V.str)) ∧ (∀ z ∈ zs, NameOk z) ∧ zs.length ≤ 30 ∧ retBal K zs.length 8 (fun y => ((zs.count y : Nat) : Rat)) H Q
theorem bottom_le (d : Nat) : ∀ (m : Lst) (b : Nat), 0 < b → (∀ p ∈ m, p.2.den < 2 ^ d) → m.foldl (fun b p => Nat.lcm b p.2.den) b ≤ b * 2 ^ (d * m.length)
  | [], b, _, _ => by simp
  | p :: m, b, hb, h => by
    have h1 := bottom_le d m (Nat.lcm b p.2.den) (Nat.lcm_pos hb (Nat.pos_of_ne_zero p.2.den_nz)) fun q hq => h q (List.mem_cons_of_mem _ hq)
    have h2 : Nat.lcm b p.2.den ≤ b * 2 ^ d := Nat.le_trans (Nat.div_le_self _ _) (Nat.mul_le_mul_left _ (Nat.le_of_lt (h p (List.mem_cons_self ..))))
    rw [List.foldl_cons, List.length_cons, Nat.mul_succ, Nat.add_comm, Nat.pow_add, ← Nat.mul_assoc]
    exact Nat.le_trans h1 (Nat.mul_le_mul_right _ h2)
theorem bottom_small {m : Lst} {c d : Nat} (h : ∀ p ∈ m, p.2.den < 2 ^ d) (l : m.length ≤ c) (lc : c * d ≤ 62) : bottomOf m < 2 ^ 64 := by
  have z := bottom_le d m 1 Nat.one_pos h
  rw [Nat.one_mul] at z
  refine Nat.lt_of_le_of_lt z ?_
  have : d * m.length ≤ c * d := by
    rw [Nat.mul_comm]
    exact Nat.mul_le_mul_right _ l
  exact Nat.lt_of_le_of_lt (Nat.pow_le_pow_right (by decide) (show d * m.length ≤ 62 by omega)) (by decide)
theorem bottom_take (m : Lst) {j : Nat} {p : Str × Rat} (h : m[j]? = some p) : bottomOf (m.take (j + 1)) = Nat.lcm (bottomOf (m.take j)) p.2.den := by
  unfold bottomOf
  rw [List.take_succ, h, List.foldl_append]
  rfl
theorem shared_take (b : Nat) (m : Lst) {j : Nat} {p : Str × Rat} (h : m[j]? = some p) : sharedOf b (m.take (j + 1)) = Nat.gcd (sharedOf b (m.take j)) (p.2.num * ((b / p.2.den : Nat) : Int)).natAbs := by
  unfold sharedOf
  rw [List.take_succ, h, List.foldl_append]
  rfl
theorem fdiv_nat (a b : Nat) : (a : Int).fdiv (b : Int) = ((a / b : Nat) : Int) := by
  rw [Int.fdiv_eq_ediv_of_nonneg _ (Int.natCast_nonneg b), Int.natCast_ediv]
theorem bits_small {a : Nat} {q : Rat} (h : Bits a q) (l : a ≤ 8000) : q.den.log2 < 9000 := by
  refine Nat.lt_of_lt_of_le ((Nat.log2_lt q.den_nz).mpr h.den) (by omega)
theorem over_small {m : Lst} {a : Nat} {p : Str × Rat} (hb : bottomOf m < 2 ^ 64) (h : Bits a p.2) : (p.2.num * ((bottomOf m / p.2.den : Nat) : Int)).natAbs < 2 ^ (a + 64) :=
  wide_lt h.num (by rw [Int.natAbs_natCast]; exact Nat.lt_of_le_of_lt (Nat.div_le_self _ _) hb)
theorem shared_small {m : Lst} (c : Canon m) {a : Nat} (hb : bottomOf m < 2 ^ 64) (h : ∀ p ∈ m, Bits a p.2) : sharedOf (bottomOf m) m < 2 ^ (a + 64) := by
  cases m with
  | nil => exact Nat.pow_pos (by decide)
  | cons p r =>
    have hp : p ∈ p :: r := List.mem_cons_self ..
    refine Nat.lt_of_le_of_lt (Nat.le_of_dvd ?_ (Int.ofNat_dvd_left.mp (shared_dvd hp))) (over_small hb (h p hp))
    exact Int.natAbs_pos.mpr (over_ne hp (c.nz p hp))
theorem bits_count {n : Nat} (h : n ≤ 30) : Bits 8 ((n : Nat) : Rat) := by
  refine ⟨?_, ?_⟩
  · rw [Rat.num_natCast, Int.natAbs_natCast]
    exact Nat.lt_of_le_of_lt h (by decide)
  · rw [Rat.den_natCast]
    decide
section
variable {P : Program} {w : World} {K : PySem.W.Frag} {mg : Str → Option Value} {base : Heap} {f gN : Addr} {fd fdN fdA fdM : FuncData} {H : Hp} {Q : VK} {σ : L2.St} {x : V} {t : Value}
theorem rd_bmul (FY : Fy K mg) {y : V} {m : Lst} {q : Rat} {c a b : Nat} (hx : IsBal K H x m) (hy : NumV (cR K) H y q) (g : Good c a m) (bq : Bits b q) (lc : c < 60) (lab : a + b ≤ 6900) (r : retBal K c (a + b) (fun z => valM m z * q) H Q) : rDun K (cB K) "mul" (spBMul K) E0 x y H Q := by
  have sp : spBMul K [x, y] H Q E0 := ⟨x, y, m, q, c, a, b, rfl, hx, hy, g, bq, lc, lab, r⟩
  obtain ⟨xa, xdx, xd, xt, xks, rfl, hxa, _⟩ := hx
  refine ⟨xa, xdx, _, rfl, hxa, ?_, sp⟩
  rcases hy with ⟨b, dy, rfl, hb⟩ | ⟨i, rfl, _⟩
  · exact .other hb FY.rest.2.2.1 (dunB_ok FY.all.2.1.2.2.2.2.2.1) FY.rest.2.1
  · obtain ⟨h1, h2, h3⟩ := FY.rest.1 "mul" (by decide) "Balance" (by decide +kernel)
    obtain ⟨u1, e1⟩ := Option.isSome_iff_exists.mp h1
    obtain ⟨u2, e2⟩ := Option.isSome_iff_exists.mp h2
    exact .int e1 e2 h3
theorem ok_bren (F : FunD K "renamed" "Balance.renamed" (defArgs s_Balance_renamed) (defBody s_Balance_renamed) (defScope s_Balance_renamed) [] [] f fd) (FY : Fy K mg) (CB : BalC P w K mg base) (CR : RatC P w K mg base) (CW : Callee P w K mg base 2 "are_new_names" ["value"] spNewNames)
    (GA : FnOk P w K mg base CX0 5 (He.ma K (cR K) "__add__") fdA ["self", "other"] (spBin K (· + ·))) (bA : Binds K fdA ["self", "other"] []) : FnOk P w K mg base CX0 7 f fd ["self", "names"] (spBRen K) := by
  refine F.ok scBren (fun vs H Q E h => ?_) (fun cdv A outer s H vs Q E hr h => ?_)
  · obtain ⟨x, d, _, _, _, _, rfl, _⟩ := h
    rfl
  · obtain ⟨x, d, ks, m, c, a, rfl, hx, g, hd, N, lc, la, lca, qq⟩ := h
    have clB := (inspB_ok FY.all.2.2.1).cls
    have nsh := noB_ok FY.all.2.2.2.2.1 "shares" (by decide +kernel)
    have nth := noB_ok FY.all.2.2.2.2.1 "things" (by decide +kernel)
    have DA := dunB_ok FY.all.2.1.2.2.2.1
    obtain ⟨xa, xdx, xd, xt, xks, rfl, hxa, hxd, hxs, hxt⟩ := hx
    have lf := g.few
    refine ⟨_, PSs.nox (pss_cons (ps_if (pt_not (pt_val (KX.pe_c CW hr (by decide) rfl (pa_cons (pv 1) pa_nil)))) (pss_one ps_never) pss_nil)
  (pss_cons (ps_set (i := 2) scBren.nd rfl (Or.inl rfl) pe_dnewK)
  (pss_cons (ps_for PassesOwn.never rfl (pi_tup (pe_fld (pv 0) rfl)) (pg_name (i := 3) scBren.nd rfl (Or.inl rfl)) (pss_cons (ps_set (i := 4) scBren.nd rfl (Or.inl rfl) (pe_dget2 (hu_of hr) (pv 1) (pv 3) (pv 3) ⟨rfl, rfl, rfl, rfl⟩))
  (pss_one (ps_dput (hu_of hr) (pv 2) (pv 4) (pe_op (op_dun DA GA (hr.mono (by decide)) bA pass0) (pe_dget2 (hu_of hr) (pv 2) (pv 4) (pe_rat1 CR FY hr (by decide) rfl (pa_cons pe_int pa_nil)) ⟨rfl, rfl, rfl, rfl⟩) (pe_dget (hu_of hr) (pe_fld (pv 0) rfl) (pv 3) (fun _ _ => rfl))) rfl))))
  (pss_one (ps_ret (pe_bal CB FY hr (by decide) rfl (pa_cons (pv 2) pa_nil))))))), ?_⟩
    walk_at "kf"
    refine ⟨d, ks, rfl, hd, N.1, N.2, fun H1 k1 => ?_⟩
    walk_at "kf"
    refine fun fa hfa => ?_
    have kp : Same H (upd H1 fa (.dK [])) := k1.trans fun b o z => by rw [upd_ne (ne_of_none z hfa)]; exact z
    have hfaH : H fa = none := Same.free k1 hfa
    have hxa2 := kp _ _ hxa
    walk_at "kf"
    refine rd_forT ?_
    walk_at "kf"
    refine ⟨xt, rfl, ⟨_, SqT.of (kp _ _ hxt)⟩, for_tup (xs := m.map fun p => V.str p.1) (fun j σ2 H2 => KX.But fa H H2 ∧ ∃ b3 b4 ms, σ2 = [some (.ref xa), some (.ref d), some (.ref fa), b3, b4] ∧ H2 fa = some (.dK ms) ∧ DF (RRat K) H2 ms (fun y => renF (nameOf ks) (valM m) ((m.map Prod.fst).take j) y) j ∧ ∀ y, Bits (j * (a + 1) + 1) (renF (nameOf ks) (valM m) ((m.map Prod.fst).take j) y))
      ⟨KX.But.new (KX.But.of k1) hfa, none, none, [], rfl, upd_same, DF.nil, fun y => bits_zero (by omega)⟩ (fun j σ2 H2 _ hp => SqT.of (hp.1 _ _ (ne_of_none hxt hfaH) hxt)) (fun j x σ2 H2 hx hp => ?_) (fun σ2 H2 hp => ?_)⟩
    · obtain ⟨hb, b3, b4, ms, rfl, hms, D, bb⟩ := hp
      rw [List.getElem?_map] at hx
      obtain ⟨p, hp, rfl⟩ := Option.map_eq_some_iff.mp hx
      have pm := List.mem_of_getElem? hp
      have hj := (List.getElem?_eq_some_iff.mp hp).1
      have hxa3 := hb _ _ (ne_of_none hxa hfaH) hxa
      have hxd3 := hb _ _ (ne_of_none hxd hfaH) hxd
      have hd3 := hb _ _ (ne_of_none hd hfaH) hd
      obtain ⟨v, hv, hr0⟩ : ∃ v, valV xks (Sum.inr p.1 : Key) = some v ∧ IsRat (cR K) H v p.2 := by
        obtain ⟨v, e1, e2⟩ := shares_val hxs pm g.can.nodup
        exact ⟨v, e1, e2⟩
      have hr3 : IsRat (cR K) H2 v p.2 := rat_off (not_insN hfaH) (fun b o n z => hb b o n z) hr0
      have ok2 := nameOf_ok N (g.ok p pm)
      have jc : j + 1 ≤ c := by omega
      have jb : (j + 1) * (a + 1) ≤ c * (a + 1) := Nat.mul_le_mul_right _ jc
      have je : (j + 1) * (a + 1) = j * (a + 1) + (a + 1) := Nat.succ_mul _ _
      have ce : (c + 1) * (a + 1) = c * (a + 1) + (a + 1) := Nat.succ_mul _ _
      have tk : ((m.map Prod.fst).take (j + 1)) = (m.map Prod.fst).take j ++ [p.1] := by
        rw [List.take_succ, List.getElem?_map, hp]
        rfl
      walk_at "kf"
      refine ⟨d, rfl, .inl ⟨ks, .inl hd3⟩, ?_⟩
      walk_at "kf"
      refine ⟨_, .inl ⟨ks, .inr p.1, .inl hd3, rfl, rfl⟩, ?_⟩
      rw [nameOf_get N]
      walk_at "kf"
      refine ⟨fa, rfl, .inl ⟨ms, .inl hms⟩, ?_⟩
      walk_at "kf"
      refine ⟨0, 1, rfl, by decide, by decide, fun v1 H3 k3 hv1 => ?_⟩
      rw [divInt_zero1] at hv1
      walk_at "kf"
      refine ⟨_, .inl ⟨ms, .inr (nameOf ks p.1), .inl (k3 _ _ hms), rfl, rfl⟩, ?_⟩
      have hxa4 := k3 _ _ hxa3
      walk_at "kf"
      refine rd_dgetS (k3 _ _ hxd3) hv ?_
      have D3 : DF (RRat K) H3 ms _ j := D.mono fun v q r => r.mono k3
      have r1 := D3.get (nameOf ks p.1) hv1
      refine rd_bin FY (by decide) r1 (.inl (hr3.mono k3)) (bb _) (g.bitsAt pm) (by omega) fun v2 H4 k4 hv2 => ?_
      walk_at "kf"
      have hms4 := k4 _ _ (k3 _ _ hms)
      have nz : ∀ dx fs, H4 fa ≠ some (.ins (cR K) dx fs) := not_ins hms4 (fun _ _ e => by cases e)
      refine ⟨fa, _, rfl, DPut.k (k := Sum.inr (nameOf ks p.1)) hms4 (Nat.lt_of_le_of_lt D.few (Nat.lt_of_lt_of_le (show j < 60 by omega) (by decide))), ?_⟩
      walk_at "kf"
      have D4 : DF (RRat K) (upd H4 fa (.dK (putK ms (Sum.inr (nameOf ks p.1)) v2))) ms _ j := D3.mono fun v q r => rat_off nz (fun b o n z => by rw [upd_ne n]; exact z) (r.mono k4)
      have ev := valM_mem g.can.nodup pm
      have ef : ∀ y, renF (nameOf ks) (valM m) ((m.map Prod.fst).take (j + 1)) y = if y = nameOf ks p.1 then renF (nameOf ks) (valM m) ((m.map Prod.fst).take j) y + p.2 else renF (nameOf ks) (valM m) ((m.map Prod.fst).take j) y := fun y => by
        rw [tk, renF_app, ev]
        by_cases e : y = nameOf ks p.1
        · rw [if_pos e, if_pos e.symm]
        · rw [if_neg e, if_neg fun x => e x.symm, Rat.add_zero]
      refine ⟨((hb.trans (KX.But.of k3)).trans (KX.But.of k4)).upd, _, _, _, rfl, upd_same, ?_, fun y => ?_⟩
      · refine (D4.put ok2 (rat_off nz (fun b o n z => by rw [upd_ne n]; exact z) hv2)).congr fun y => ?_
        rw [ef]
        by_cases e : y = nameOf ks p.1
        · rw [if_pos e, if_pos e, e]
        · rw [if_neg e, if_neg e]
      · rw [ef]
        split
        · exact (bits_plus (bb y) (g.bitsAt pm)).mono (by omega)
        · exact (bb y).mono (by omega)
    · obtain ⟨hb, b3, b4, ms, rfl, hms, D, bb⟩ := hp
      rw [List.length_map] at D bb
      rw [show (m.map Prod.fst).take m.length = m.map Prod.fst by rw [List.take_of_length_le (by rw [List.length_map]; exact Nat.le_refl _)]] at D bb
      have kk : Same H H2 := fun b o z => hb b o (ne_of_none z hfaH) z
      have jb : m.length * (a + 1) ≤ c * (a + 1) := Nat.mul_le_mul_right _ lf
      walk_at "kf"
      refine to_bal hms ((D.mono (S := RNum K) fun v q r => .inl r).weak lf) (by omega) (n := c * (a + 1) + 1) (fun z => (bb z).mono (by omega)) fun v m H' k hbal g ev => ?_
      walk_at "kf"
      exact qq v m H' (kk.trans k) hbal g ev
theorem ok_bleast (F : FunD K "least" "Balance.least" (defArgs s_Balance_least) (defBody s_Balance_least) (defScope s_Balance_least) [] [] f fd) (FY : Fy K mg) (CR : RatC P w K mg base)
    (GM : FnOk P w K mg base CX0 7 (He.ma K (cB K) "__mul__") fdM ["self", "ratio"] (spBMul K)) (bM : Binds K fdM ["self", "ratio"] []) : FnOk P w K mg base CX0 8 f fd ["self"] (spBLeast K) := by
  refine F.ok scBleast (fun vs H Q E h => ?_) (fun cdv A outer s H vs Q E hr h => ?_)
  · obtain ⟨x, _, _, _, _, rfl, _⟩ := h
    rfl
  · obtain ⟨x, m, c, a, d, rfl, hx, g, lc, la, lab, hden, lcd, qq⟩ := h
    have clB := (inspB_ok FY.all.2.2.1).cls
    have nsh := noB_ok FY.all.2.2.2.2.1 "shares" (by decide +kernel)
    have nth := noB_ok FY.all.2.2.2.2.1 "things" (by decide +kernel)
    have cl := (inspB_ok FY.all.2.1.1).cls
    have nt := noB_ok FY.all.2.1.2.2.1 "top" (by decide +kernel)
    have nb := noB_ok FY.all.2.1.2.2.1 "bottom" (by decide +kernel)
    have DM := dunB_ok FY.all.2.2.2.2.2.2.2.1
    have hx0 := hx
    obtain ⟨xa, xdx, xd, xt, xks, rfl, hxa, hxd, hxs, hxt⟩ := hx
    have lf := g.few
    have bs := bottom_small hden lf lcd
    refine ⟨_, PSs.nox (pss_cons (ps_asg (pe_tup (pa_cons pe_int (pa_cons pe_int pa_nil))) (pg_tup (by rfl) (pgs_cons (pg_name (i := 1) scBleast.nd rfl (Or.inl rfl)) (pgs_cons (pg_name (i := 2) scBleast.nd rfl (Or.inl rfl)) pgs_nil))))
  (pss_cons (ps_for PassesOwn.never rfl (pi_tup (pe_fld (pv 0) rfl)) (pg_name (i := 3) scBleast.nd rfl (Or.inl rfl)) (pss_one (ps_set (i := 1) scBleast.nd rfl (Or.inl rfl) (pe_callBfun cr_lcm rfl FY.lcm (pa_cons (pv 1) (pa_cons (pe_fld (pe_dget (hu_of hr) (pe_fld (pv 0) rfl) (pv 3) (fun _ _ => rfl)) rfl) pa_nil))))))
  (pss_cons (ps_for PassesOwn.never rfl (pi_tup (pe_fld (pv 0) rfl)) (pg_name (i := 3) scBleast.nd rfl (Or.inl rfl)) (pss_cons (ps_set (i := 4) scBleast.nd rfl (Or.inl rfl) (pe_dget (hu_of hr) (pe_fld (pv 0) rfl) (pv 3) (fun _ _ => rfl)))
  (pss_one (ps_set (i := 2) scBleast.nd rfl (Or.inl rfl) (pe_callBfun cr_gcd rfl FY.gcd (pa_cons (pv 2) (pa_cons (pe_op op_mulW (pe_fld (pv 4) rfl) (pe_op op_fdivZ (pv 1) (pe_fld (pv 4) rfl))) pa_nil)))))))
  (pss_one (ps_ret (pe_ifExp (pt_cmpR op_eq (pv 2) pe_int (nomark _)) (pv 0) (pe_op (op_dun DM GM (hr.mono (by decide)) bM pass0) (pv 0) (pe_rat2 CR FY hr (by decide) rfl (pa_cons (pv 1) (pa_cons (pv 2) pa_nil)))))))))), ?_⟩
    walk_at "kf"
    refine ⟨(show (2 : Nat) ≤ sizeLine by decide), fun tp htp => ?_⟩
    refine ⟨tp, _, rfl, SqT.of upd_same, rfl, _, _, rfl, ?_⟩
    walk_at "kf"
    refine ⟨_, _, rfl, ?_⟩
    walk_at "kf"
    refine ⟨rfl, ?_⟩
    have kp : Same H (upd H tp (.tup [.int 1, .int 0])) := fun b o z => by rw [upd_ne (ne_of_none z htp)]; exact z
    have hx0 := hx0.mono kp
    have hxa := kp _ _ hxa
    have hxd := kp _ _ hxd
    have hxt := kp _ _ hxt
    have hxs := hxs.mono fun b _ _ y => kp b _ y
    have qq : retBal K c (2 * a + 65) (valM (least m)) _ Q := fun v m2 H' k hb g ev => qq v m2 H' (kp.trans k) hb g ev
    generalize (upd H tp (.tup [.int 1, .int 0])) = H at hx0 hxa hxd hxt hxs qq ⊢
    walk_at "kf"
    refine rd_forT ?_
    walk_at "kf"
    refine ⟨xt, rfl, ⟨_, SqT.of hxt⟩, for_tup (xs := m.map fun p => V.str p.1) (fun j σ2 H2 => H2 = H ∧ ∃ b3 b4, σ2 = [some (.ref xa), some (.int ((bottomOf (m.take j) : Nat) : Int)), some (.int 0), b3, b4]) ⟨rfl, none, none, rfl⟩ (fun j σ2 H2 _ hp => hp.1 ▸ SqT.of hxt) (fun j x σ2 H2 hx hp => ?_) (fun σ2 H2 hp => ?_)⟩
    · obtain ⟨rfl, b3, b4, rfl⟩ := hp
      rw [List.getElem?_map] at hx
      obtain ⟨p, hp, rfl⟩ := Option.map_eq_some_iff.mp hx
      have pm := List.mem_of_getElem? hp
      obtain ⟨v, hv, hr0⟩ := shares_val hxs pm g.can.nodup
      obtain ⟨va, vd, rfl, hva⟩ := hr0
      have b1 : bottomOf (m.take j) < 2 ^ 64 := bottom_small (fun q hq => hden q (List.mem_of_mem_take hq)) (Nat.le_trans (List.length_take_le' j m) lf) lcd
      have b2 : p.2.den < 2 ^ 64 := by
        refine Nat.lt_of_lt_of_le (hden p pm) (Nat.pow_le_pow_right (by decide) ?_)
        have : 1 ≤ c := by
          have := (List.getElem?_eq_some_iff.mp hp).1
          omega
        have : 1 * d ≤ c * d := Nat.mul_le_mul_right _ this
        omega
      walk_at "kf"
      refine rd_dgetS hxd hv ?_
      walk_at "kf"
      refine ⟨bottomOf (m.take j), p.2.den, rfl, b1, b2, ?_⟩
      walk_at "kf"
      refine ⟨rfl, some (.str p.1), b4, ?_⟩
      rw [bottom_take m hp]
      rfl
    · obtain ⟨rfl, b3, b4, rfl⟩ := hp
      rw [List.length_map, List.take_length]
      walk_at "kf"
      refine rd_forT ?_
      walk_at "kf"
      refine ⟨xt, rfl, ⟨_, SqT.of hxt⟩, for_tup (xs := m.map fun p => V.str p.1) (fun j σ2 H3 => H3 = H2 ∧ ∃ b3 b4, σ2 = [some (.ref xa), some (.int ((bottomOf m : Nat) : Int)), some (.int ((sharedOf (bottomOf m) (m.take j) : Nat) : Int)), b3, b4]) ⟨rfl, _, _, rfl⟩ (fun j σ2 H3 _ hp => hp.1 ▸ SqT.of hxt) (fun j x σ2 H3 hx hp => ?_) (fun σ2 H3 hp => ?_)⟩
      · obtain ⟨rfl, b3, b4, rfl⟩ := hp
        rw [List.getElem?_map] at hx
        obtain ⟨p, hp, rfl⟩ := Option.map_eq_some_iff.mp hx
        have pm := List.mem_of_getElem? hp
        obtain ⟨v, hv, hr0⟩ := shares_val hxs pm g.can.nodup
        obtain ⟨va, vd, rfl, hva⟩ := hr0
        have bp := g.bitsAt pm
        have z1 : CDivZ ((bottomOf m : Nat) : Int) ((p.2.den : Nat) : Int) := ⟨den_ne p.2, by rw [Int.natAbs_natCast]; exact bits_small bp (by omega)⟩
        have z2 : CMulW p.2.num (((bottomOf m / p.2.den : Nat) : Int)) := wide_mul bp.num (b := 64) (by rw [Int.natAbs_natCast]; exact Nat.lt_of_le_of_lt (Nat.div_le_self _ _) bs) (bits_pos bp) (by decide) (by omega)
        walk_at "kf"
        refine rd_dgetS hxd hv ?_
        walk_at "kf"
        rw [fdiv_nat]
        walk_at "kf"
        refine ⟨_, _, rfl, ?_⟩
        walk_at "kf"
        refine ⟨rfl, some (.str p.1), some (.ref va), ?_⟩
        rw [shared_take _ m hp, Int.natAbs_natCast]
        rfl
      · obtain ⟨rfl, b3, b4, rfl⟩ := hp
        rw [List.length_map, List.take_length]
        walk_at "kf"
        refine ite2 (fun e => ?_) (fun e => ?_)
        · have e1 : sharedOf (bottomOf m) m = 0 := by
            have : ((sharedOf (bottomOf m) m : Nat) : Int) = 0 := by simpa using e
            omega
          walk_at "kf"
          refine qq _ m _ (Same.refl _) hx0 (g.weak (Nat.le_refl _) (by omega)) fun z => ?_
          unfold least
          rw [if_pos e1]
        · have e1 : sharedOf (bottomOf m) m ≠ 0 := fun y => e (by simp [y])
          have sb := shared_small g.can bs fun p hp => g.bitsAt hp
          walk_at "kf"
          refine ⟨_, _, rfl, by omega, ?_, fun v H4 k4 hv => ?_⟩
          · rw [Int.natAbs_natCast]
            exact Nat.lt_of_lt_of_le sb (Nat.pow_le_pow_right (by decide) (by omega))
          have bf : Bits (a + 65) (Rat.divInt ((bottomOf m : Nat) : Int) ((sharedOf (bottomOf m) m : Nat) : Int)) := by
            refine bits_divInt (by omega) ?_ ?_
            · rw [Int.natAbs_natCast]
              exact Nat.lt_of_lt_of_le bs (Nat.pow_le_pow_right (by decide) (by omega))
            · rw [Int.natAbs_natCast]
              exact Nat.lt_of_lt_of_le sb (Nat.pow_le_pow_right (by decide) (by omega))
          refine rd_bmul FY (hx0.mono k4) (.inl hv) g bf lc (by omega) fun v m2 H' k hbal g2 ev => ?_
          walk_at "kf"
          refine qq v m2 H' (k4.trans k) hbal (g2.weak (Nat.le_refl _) (by omega)) fun z => ?_
          rw [ev]
          unfold least
          rw [if_neg e1, scale_val, Rat.mul_comm, Rat.divInt_eq_div]
          rfl
end

end K5
namespace K5
open PySem PySem.Spec PyProof.Rows L2 KY PySem.W
local macro_rules | `(tactic| walk_at "kx1") => `(tactic| with_reducible first
  | refine KX.rd_seq ?_ | refine KX.rd_asg ?_ | refine KX.rd_op ?_ | refine KX.rd_c ?_ | refine KX.rd_cb ?_ | refine KX.rd_cons ?_ | refine KX.rd_nil ?_ | refine KX.rd_un ?_ | refine KX.rd_nx ?_ | refine KX.rd_rt ?_ | refine KX.rd_next ?_ | refine KX.rd_ret ?_
  | refine KX.rd_ifs ?_ | refine KX.rd_if ?_ | refine KX.rd_test ?_ | refine KX.rd_B ?_ | refine KX.rd_bl ?_ | refine KX.rd_and ?_ | refine KX.rd_or ?_ | refine KX.rd_not ?_ | refine KX.rd_I0 ?_ | refine KX.rd_U ?_ | refine KX.rd_int ?_ | refine KX.rd_intB ?_ | refine KX.rd_abs ?_
  | refine KX.rd_gname ?_ | refine KX.rd_gsub ?_ | refine KX.rd_call ?_ | refine KX.rd_drop ?_ | refine KX.rd_yes ?_ | refine KX.rd_andV ?_ | refine KX.rd_orV ?_ | refine KX.rd_notV ?_)
local macro_rules | `(tactic| walk_at "hp") => `(tactic| first
  | assumption
  | exact upd_same
  | (refine Eq.trans (upd_ne (by assumption)) ?_; walk_at "hp")
  | (refine Eq.trans (upd_ne (Ne.symm (by assumption))) ?_; walk_at "hp"))
local macro_rules | `(tactic| walk_at "kx2") => `(tactic| first
  | walk_at "kx1"
  | ((with_reducible refine KX.rd_T ?e ?_); (case e => rfl))
  | ((with_reducible refine KX.rd_F ?e ?_); (case e => rfl))
  | ((with_reducible refine' KX.rd_var ?e ?_); (case e => rfl))
  | ((with_reducible refine' KX.rd_I ?e ?_); (case e => first | assumption | decide | exact Or.inl ⟨by omega, by omega⟩ | exact ⟨by decide, by decide, by decide⟩ | exact ⟨by decide, by decide⟩))
  | ((with_reducible refine' KX.rd_eq ?e ?_); (case e => rfl))
  | ((with_reducible refine' KX.rd_ne ?e ?_); (case e => rfl))
  | ((with_reducible refine' KX.rd_ix ?e ?e2 ?_); (case e => first | assumption | exact SqL.of (by walk_at "hp")); (case e2 => first | assumption | rfl))
  | ((with_reducible refine' KX.rd_len ?e ?_); (case e => first | assumption | exact SqL.of (by walk_at "hp")))
  | ((with_reducible refine' KX.rd_set ?e ?e2 ?_); (case e => walk_at "hp"); (case e2 => rfl)))
local macro_rules | `(tactic| walk_at "kx") => `(tactic| repeat walk_at "kx2")
local macro_rules | `(tactic| walk_at "kx3") => `(tactic| first
  | walk_at "kx2"
  | (with_reducible refine rd_fld2 ?_)
  | ((with_reducible refine' rd_get ?e ?c ?n ?l ?_); (case e => assumption); (case c => assumption); (case n => assumption); (case l => rfl))
  | ((with_reducible refine' rd_mulw ?e ?_); (case e => assumption)))
local macro_rules | `(tactic| walk_at "kx4") => `(tactic| with_reducible first
  | refine rd_js_cons ?_ | refine rd_js_nil ?_ | refine rd_fmt ?_ | refine rd_dget ?_ | refine rd_dget2 ?_ | refine rd_dput ?_ | refine rd_rat ?_ | refine rd_bal ?_ | refine rd_forL ?_ | refine rd_sfld ?_ | refine KX.rd_tup ?_ | refine KX.rd_lst ?_ | refine rd_smeth ?_)
local macro_rules | `(tactic| walk_at "kf") => `(tactic| repeat (first | walk_at "kx3" | walk_at "kx4"))
abbrev nmscBof : List Str := ["things", "found", "thing"]
theorem scBof : FnScope nmscBof ["things"] (defScope s_Balance_of) := ⟨rfl, rfl, rfl, by decide +kernel, rfl, by decide +kernel, by decide +kernel⟩
theorem scMean : FnScope ["things"] ["things"] (defScope s_mean_of) := ⟨rfl, rfl, rfl, by decide +kernel, rfl, by decide +kernel, by decide +kernel⟩
/-! ### calls by keywords; star calls of a staticmethod; defs with a star -/
section
variable {X : Cx} {CX : CXT} {k : Nat} {f C : Addr} {fd : FuncData} {ps ks : List Str} {sp : Sp} {E : XK} {x m : Str} {p pos apos spos : Pos} {e o : Expr} {kws : List Keyword} {te ta : TE} {t tk : TA} {g : List Value → List Value → List Value} {gV : List V → List V → List V}
/-- f(k = v, ..) -/
theorem pe_callK0 (F : FnOk X.prog X.w X.K X.mg X.base CX k f fd ps sp) (hr : Room k X.A) (hg : Gl X x) (hm : X.mg x = some (.ref f)) (hk : PySem.W.keepIn X.K (.ref f) = true) (hb : KBinds X.K fd ps ks g gV) (hx : Passes CX X E)
    (hkw : PK X kws tk) (hall : (backToKw pos (keywordEach kws X.env)).all (·.1.isSome) = true := by rfl) (hks : (backToKw pos (keywordEach kws X.env)).filterMap (·.1) = ks := by rfl)
    (hdb : (x == ("__debug__" : Str)) = false := by decide) (hpl : ((backTo pos (starEach [] X.env)).any (·.1) || (backToKw pos (keywordEach kws X.env)).any (·.1.isNone)) = false := by rfl) :
    PE X (.Call (.Name x p) [] kws pos) (tCallK sp gV E tNil tk) := by
  refine ⟨fun pins s σ H Q I h => ?_⟩
  refine wpAny_Call_Name_kw (ld_glob I hg hm ?_ hdb)
  refine PySem.W.callWith_KW0 (h₀ := X.base) I.ok.mod.kin hk hall (thn (hkw.run pos pins s σ H _ I h) fun ws s2 hh => ?_) hpl
  obtain ⟨zs, H2, I2, rz, q2⟩ := hh
  refine ⟨I2.kIn, ?_⟩
  rw [hks]
  exact run_fnk (us := []) (vs := []) F hr hb hx I2 .nil rz q2
def tMethK (C : Addr) (m : Str) (sp : Sp) (gV : List V → List V → List V) (E : XK) (ta : TE) (tk : TA) : TE := fun σ H Q => ta σ H fun x H1 => ∃ a dx fs, x = .ref a ∧ H1 a = some (.ins C dx fs) ∧ fs.lookup m = none ∧ tk σ H1 fun zs H2 => sp (gV [.ref a] zs) H2 Q E
/-- o.m(k = v, ..) -/
theorem pe_methK0 {pl : Sem Bool} (he : PE X o ta) (c : Cls X.K C) (hm : Meth X.K C m f) (F : FnOk X.prog X.w X.K X.mg X.base CX k f fd ps sp) (hr : Room k X.A) (hb : KBinds X.K fd ps ks g gV) (hx : Passes CX X E)
    (hkw : PK X kws tk) (hall : (backToKw pos (keywordEach kws X.env)).all (·.1.isSome) = true := by rfl) (hks : (backToKw pos (keywordEach kws X.env)).filterMap (·.1) = ks := by rfl)
    (hpl : ((backTo pos (starEach [] X.env)).any (·.1) || (backToKw pos (keywordEach kws X.env)).any (·.1.isNone)) = false := by rfl)
    (ht : eval (.Call (.Attribute o m apos) [] kws pos) X.env = (do
      let ov ← eval o X.env
      standAt apos.atName
      let (f, first) ← holding [ov] (getMethod ov m pl)
      callWith pos f first (backTo pos (starEach [] X.env)) (backToKw pos (keywordEach kws X.env))) := by rfl) :
    PE X (.Call (.Attribute o m apos) [] kws pos) (tMethK C m sp gV E ta tk) := by
  refine ⟨fun pins s σ H Q I h => ?_⟩
  refine PySem.W.methodCall_KW (pl := pl) (thn (he.run pins s σ H _ I h) fun u s1 hh => ?_) ht
  obtain ⟨x, H1, I1, rx, a, dx, fs, ex, ea, l, q⟩ := hh
  subst ex
  obtain rfl : u = Value.ref a := rx
  refine getmeth_ok I1 ea c hm l ?_
  refine PySem.W.callWith_KW0 (first := [.ref a]) (h₀ := X.base) I.ok.mod.kin hm.kp hall (thn (hkw.run pos pins _ σ H1 _ I1 q) fun ws s2 hh => ?_) hpl
  obtain ⟨zs, H2, I2, rz, q2⟩ := hh
  refine ⟨I2.kIn, ?_⟩
  rw [hks]
  exact run_fnk (us := [.ref a]) (vs := [.ref a]) F hr hb hx I2 (.cons rfl .nil) rz q2
def tSMethS (K : PySem.W.Frag) (C : Addr) (sp : Sp) (E : XK) (ta te : TE) : TE := fun σ H Q => ta σ H fun x H1 => x = .ref C ∧ te σ H1 fun y H2 => ∃ a xs, y = .ref a ∧ (SqT K H2 a xs ∨ SqL K H2 a xs) ∧ sp xs H2 Q E
theorem starcall1_of {M : Model} {A : Around} {E : Value → Shared → Prop} {s : Shared} {env : Env} {o e2 : Expr} {m : Str} {p apos pos : Pos} {Q : Value → Shared → Prop} (hbase : attributeBase o m env (eval o env) = eval o env)
    (hst : starEach [.Starred e2 p] env = [(true, eval e2 env)])
    (h : wpAny M A (eval o env) (fun ov s₁ => wpAny M A (getAttr ov m true) (fun f s₂ => wpAny M A (callWith pos f [] (backTo pos (starEach [.Starred e2 p] env)) []) Q E s₂) E s₁) E s) :
    wpAny M A (eval (.Call (.Attribute o m apos) [.Starred e2 p] [] pos) env) Q E s := by
  have hke : backToKw pos (keywordEach [] env) = [] := rfl
  have hform : methodCallForm ([Expr.Starred e2 p].length + ([] : List Keyword).length) (backTo pos [(true, eval e2 env)]) [] = false := rfl
  have hpos : methodCallPos false o env apos pos = pure pos := rfl
  have hcal : ∀ ov, calleeOf false o env ov m = (getAttr ov m true >>= fun v => pure (v, [])) := fun _ => rfl
  rw [hst] at h
  rw [arm_eval_Call, hbase, hst, hke]
  refine wpAny_bind (wpAny_mono h (fun ov s₁ h₁ => ?_) fun _ _ x => x)
  refine wpAny_bind (wpAny_standAt ?_)
  unfold methodCall
  rw [hform, hpos, hcal]
  refine wpAny_bind (wpAny_holding (wpAny_bind (wpAny_mono h₁ (fun f s₂ h₂ => wpAny_pure ?_) fun _ _ x => x)))
  exact wpAny_bind (wpAny_pure h₂)
/-- C.m(*y) -/
theorem pe_smethS {q : Addr} (he : PE X o ta) (M : SMet X.K C m q f) (F : FnR X.prog X.w X.K X.mg X.base CX k f sp) (hr : Room k X.A) (hx : Passes CX X E) (hs : PE X e te)
    (hbase : attributeBase o m X.env (eval o X.env) = eval o X.env := by rfl) (hst : starEach [.Starred e spos] X.env = [(true, eval e X.env)] := by rfl) :
    PE X (.Call (.Attribute o m apos) [.Starred e spos] [] pos) (tSMethS X.K C sp E ta te) := by
  refine ⟨fun pins s σ H Q I h => ?_⟩
  refine starcall1_of hbase hst (thn (he.run pins s σ H _ I h) fun u s1 hh => ?_)
  obtain ⟨x, H1, I1, rx, rfl, q⟩ := hh
  obtain rfl : u = Value.ref C := rx
  obtain ⟨rest, hp⟩ := M.rc
  refine cls_bind I1.kIn M.rd.rd M.at_ (wpAny_call (sm_get (s := { s1 with toks := s1.toks + 1 }) I1.kIn hp (handed_on rfl ?_)))
  have I2 := I1.tok (s1.toks + 1)
  refine PySem.W.callWith_S (first := []) (h₀ := X.base) I2.ok.mod.kin M.kp (thn (hs.run pins _ σ H1 _ I2 q) fun v s2 hh => ?_) hst
  obtain ⟨y, H2, I3, ry, a, xs, ey, hxs, q2⟩ := hh
  subst ey
  obtain rfl : v = Value.ref a := ry
  exact StX.star_any I3 hxs fun us s3 I4 rv => ⟨I4.kIn, wpAny_call (run_fnR F hr hx I4 rv q2)⟩
end
theorem rd_smethS {K : PySem.W.Frag} {C : Addr} {sp : Sp} {E : XK} {ta te : TE} {σ : L2.St} {H : Hp} {Q : VK} (q : ta σ H fun x H1 => x = .ref C ∧ te σ H1 fun y H2 => ∃ a xs, y = .ref a ∧ (SqT K H2 a xs ∨ SqL K H2 a xs) ∧ sp xs H2 Q E) : tSMethS K C sp E ta te σ H Q := q
/-- a def with one star parameter alone -/
theorem FunD.star {P : Program} {w : World} {K : PySem.W.Frag} {mg : Str → Option Value} {base : Heap} {x qual : Str} {params : Arguments} {body : List Stmt} {scope : Scope} {f : Addr} {fd : FuncData} {N : List Str} {pv : Str} {k : Nat} {sp : Sp} (F : FunD K x qual params body scope [] [] f fd) (S : FnScope N [pv] scope)
    (hb : ∀ (kV doc pm : Value) (an : Option Addr) (cdv ct : Value) (rest : List Value), bindArgs (PySem.W.fnOf x qual params body scope .none kV doc pm an cdv ct) ⟨rest, []⟩ = (newTuple rest >>= fun t => pure [(pv, t)]))
    (hbody : ∀ (cdv : Value) (A : Around) (outer : List Env) (s : Shared) (H : Hp) (vs : List V) (Q : VK) (E : XK), Room k (A.deeper (envOfC qual scope s.heap.objs.size f cdv)) → sp vs H Q E →
      ∃ t, PSs (cxOf CX0 P w K mg base N qual scope f cdv A outer s H E) body t ∧ t { nx := fun _ H' => Q .non H', rt := Q } (start N vs) H) :
    FnR P w K mg base CX0 (k + 1) f (fun vs H Q E => vs.length ≤ sizeLine ∧ ∀ p, H p = none → sp [V.ref p] (upd H p (.tup vs)) Q E) := by
  obtain ⟨oc, od, dV, kV, doc, pm, an, cdv, ct, osl, rfl, lk, hcd, hD, _⟩ := F.ex
  rcases hD with ⟨_, rfl⟩ | ⟨e, _⟩
  · refine (StX.fn_star (ps := []) lk hcd S StX.cxUp_none (fun us rest hl => ?_) (fun A outer s H vs Q E hr hsp => hbody cdv A outer s H vs Q E hr hsp)).imp fun vs H Q E h => ⟨[], vs, rfl, rfl, h.1, h.2⟩
    cases us with
    | nil => exact hb kV doc pm an cdv ct rest
    | cons a r => cases hl
  · exact absurd rfl e
/-! ### Balance.of, mean_of -/
abbrev RInt : Hp → V → Rat → Prop := fun _ v q => ∃ i : Int, v = .int i ∧ q = (i : Rat)
def spMean (K : PySem.W.Frag) : Sp := fun vs H Q _ => ∃ (p : Addr) (zs : List Str), vs = [.ref p] ∧ (H p = some (.lst (zs.map V.str)) ∨ H p = some (.tup (zs.map V.str))) ∧ (∀ z ∈ zs, NameOk z) ∧ zs ≠ [] ∧ zs.length ≤ 30 ∧
  retBal K zs.length 16 (fun y => ((zs.count y : Nat) : Rat) * Rat.divInt 1 (zs.length : Int)) H Q
section
variable {P : Program} {w : World} {K : PySem.W.Frag} {mg : Str → Option Value} {base : Heap} {f gN : Addr} {fd fdN fdA fdM : FuncData} {H : Hp} {Q : VK} {σ : L2.St} {x : V} {t : Value}
theorem ok_bof (F : FunD K "of" "Balance.of" (defArgs s_Balance_of) (defBody s_Balance_of) (defScope s_Balance_of) [] [] f fd) (FY : Fy K mg) (CB : BalC P w K mg base) (CN : Callee P w K mg base 2 "are_names" ["value"] (spNames K)) :
    FnR P w K mg base CX0 7 f (fun vs H Q E => vs.length ≤ sizeLine ∧ ∀ p, H p = none → spBOf K [V.ref p] (upd H p (.tup vs)) Q E) := by
  refine FunD.star F scBof (fun _ _ _ _ _ _ rest => ?_) (fun cdv A outer s H vs Q E hr h => ?_)
  · cases rest <;> rfl
  · obtain ⟨p, zs, rfl, hp, hz, hl, qq⟩ := h
    refine ⟨_, PSs.nox (pss_cons (ps_if (pt_not (pt_val (KX.pe_c CN hr (by decide) rfl (pa_cons (pv 0) pa_nil)))) (pss_one ps_never) pss_nil)
  (pss_cons (ps_set (i := 1) scBof.nd rfl (Or.inl rfl) pe_dnewK)
  (pss_cons (ps_for PassesOwn.never rfl (pi_tup (pv 0)) (pg_name (i := 2) scBof.nd rfl (Or.inl rfl)) (pss_one (ps_dput (hu_of hr) (pv 1) (pv 2) (pe_op op_add (pe_dget2 (hu_of hr) (pv 1) (pv 2) pe_int ⟨rfl, rfl, rfl, rfl⟩) pe_int) rfl)))
  (pss_one (ps_ret (pe_bal CB FY hr (by decide) rfl (pa_cons (pv 1) pa_nil))))))), ?_⟩
    walk_at "kf"
    refine ⟨p, zs, rfl, .inr hp, hz, by omega, fun H1 k1 => ?_⟩
    walk_at "kf"
    refine fun fa hfa => ?_
    have kp : Same H (upd H1 fa (.dK [])) := k1.trans fun b o z => by rw [upd_ne (ne_of_none z hfa)]; exact z
    have hfaH : H fa = none := Same.free k1 hfa
    walk_at "kf"
    refine rd_forT ?_
    walk_at "kf"
    refine ⟨p, rfl, ⟨_, SqT.of (kp _ _ hp)⟩, for_tup (xs := zs.map V.str) (fun j σ2 H2 => KX.But fa H H2 ∧ ∃ b2 ms, σ2 = [some (.ref p), some (.ref fa), b2] ∧ H2 fa = some (.dK ms) ∧ DF RInt H2 ms (fun y => (((zs.take j).count y : Nat) : Rat)) j)
      ⟨KX.But.new (KX.But.of k1) hfa, none, [], rfl, upd_same, DF.nil⟩ (fun j σ2 H2 _ hp2 => SqT.of (hp2.1 _ _ (ne_of_none hp hfaH) hp)) (fun j x σ2 H2 hx hp2 => ?_) (fun σ2 H2 hp2 => ?_)⟩
    · obtain ⟨hb, b2, ms, rfl, hms, D⟩ := hp2
      rw [List.getElem?_map] at hx
      obtain ⟨z, hz2, rfl⟩ := Option.map_eq_some_iff.mp hx
      have hj := (List.getElem?_eq_some_iff.mp hz2).1
      walk_at "kf"
      refine ⟨fa, rfl, .inl ⟨ms, .inl hms⟩, ?_⟩
      walk_at "kf"
      refine ⟨_, .inl ⟨ms, .inr z, .inl hms, rfl, rfl⟩, ?_⟩
      obtain ⟨i, ei, eq⟩ := D.get (w := .int 0) z ⟨0, rfl, rfl⟩
      rw [ei]
      walk_at "kf"
      refine ⟨fa, _, rfl, DPut.k (k := Sum.inr z) hms (Nat.lt_of_le_of_lt D.few (Nat.lt_of_lt_of_le (show j < 60 by omega) (by decide))), ?_⟩
      walk_at "kf"
      refine ⟨hb.upd, _, _, rfl, upd_same, ?_⟩
      refine ((D.mono (S := RInt) (H' := upd H2 fa (.dK (putK ms (Sum.inr z) (.int (i + 1))))) fun v q r => r).put (hz z (List.mem_of_getElem? hz2)) ⟨i + 1, rfl, rfl⟩).congr fun y => ?_
      have e1 : (zs.take (j + 1)).count y = (zs.take j).count y + if y = z then 1 else 0 := by
        rw [List.take_succ, hz2, List.count_append]
        show _ + List.count y [z] = _
        rw [List.count_singleton]
        by_cases e : y = z
        · subst e
          simp
        · rw [if_neg e, if_neg]
          simp
          exact fun x => e x.symm
      rw [e1]
      by_cases e : y = z
      · rw [if_pos e, if_pos e, e, Rat.natCast_add, eq, Rat.intCast_add]
        rfl
      · rw [if_neg e, if_neg e]
        rfl
    · obtain ⟨hb, b2, ms, rfl, hms, D⟩ := hp2
      rw [List.length_map, List.take_length] at D
      have kk : Same H H2 := fun b o z => hb b o (ne_of_none z hfaH) z
      walk_at "kf"
      refine to_bal hms ((D.mono (S := RNum K) fun v q r => .inr r)) (by omega) (n := 8) (fun y => bits_count (Nat.le_trans List.count_le_length hl)) fun v m H' k hbal g ev => ?_
      walk_at "kf"
      exact qq v m H' (kk.trans k) hbal g ev
theorem ok_mean (F : FunD K "mean_of" "mean_of" (defArgs s_mean_of) (defBody s_mean_of) (defScope s_mean_of) [] [] f fd) (FY : Fy K mg) (CR : RatC P w K mg base) (CN : Callee P w K mg base 2 "are_names" ["value"] (spNames K))
    (GOF : FnR P w K mg base CX0 7 (sAd K (cB K) "of") (fun vs H Q E => vs.length ≤ sizeLine ∧ ∀ p, H p = none → spBOf K [V.ref p] (upd H p (.tup vs)) Q E))
    (GM : FnOk P w K mg base CX0 7 (He.ma K (cB K) "__mul__") fdM ["self", "ratio"] (spBMul K)) (bM : Binds K fdM ["self", "ratio"] []) : FnOk P w K mg base CX0 8 f fd ["things"] (spMean K) := by
  refine F.ok scMean (fun vs H Q E h => ?_) (fun cdv A outer s H vs Q E hr h => ?_)
  · obtain ⟨p, zs, rfl, _⟩ := h
    rfl
  · obtain ⟨p, zs, rfl, hp, hz, hne, hl, qq⟩ := h
    have DM := dunB_ok FY.all.2.2.2.2.2.2.2.1
    have h0 : 0 < zs.length := List.length_pos_iff.mpr hne
    refine ⟨_, PSs.nox (pss_cons (ps_if (PW.pt (pw_or (pt_not (pt_val (KX.pe_c CN hr (by decide) rfl (pa_cons (pv 0) pa_nil)))) (pw_or1 (pt_cmpR op_eq (pe_callB KX.c_len (by rfl) (FY.free "len" (by decide +kernel)) (by decide +kernel) (pa_cons (pv 0) pa_nil)) pe_int (nomark _))))) (pss_one ps_never) pss_nil)
  (pss_one (ps_ret (pe_op (op_dun DM GM (hr.mono (by decide)) bM pass0) (pe_smethS (pe_glob (v := .ref (cB K)) rfl (FY.glo "Balance" (by decide +kernel)) rfl) (smB_ok FY.all.2.2.2.2.2.2.2.2.2.2.2.1) GOF (hr.mono (by decide)) pass0 (pv 0)) (pe_rat2 CR FY hr (by decide) rfl (pa_cons pe_int (pa_cons (pe_callB KX.c_len (by rfl) (FY.free "len" (by decide +kernel)) (by decide +kernel) (pa_cons (pv 0) pa_nil)) pa_nil))))))), ?_⟩
    walk_at "kf"
    refine ⟨p, zs, rfl, hp, hz, by omega, fun H1 k1 => ?_⟩
    have hq : SqL K H1 p (zs.map V.str) ∨ SqT K H1 p (zs.map V.str) := hp.imp (fun h => SqL.of (k1 _ _ h)) (fun h => SqT.of (k1 _ _ h))
    walk_at "kf"
    refine ⟨p, _, rfl, hq, ?_⟩
    rw [List.length_map]
    walk_at "kf"
    refine KX.rd_F (decide_eq_false (by intro z; injection z with z; omega)) ?_
    walk_at "kf"
    refine rd_smethS ?_
    walk_at "kf"
    refine ⟨rfl, ?_⟩
    walk_at "kf"
    refine ⟨p, _, rfl, hq.symm, by rw [List.length_map]; exact Nat.le_trans hl (by decide), fun tp htp => ?_⟩
    have k2 : Same H (upd H1 tp (.tup (zs.map V.str))) := k1.trans fun b o z => by rw [upd_ne (ne_of_none z htp)]; exact z
    refine ⟨tp, zs, rfl, upd_same, hz, hl, fun v m H3 k3 hbal g ev => ?_⟩
    have hq3 : SqL K H3 p (zs.map V.str) ∨ SqT K H3 p (zs.map V.str) := hp.imp (fun h => SqL.of (k3 _ _ (k2 _ _ h))) (fun h => SqT.of (k3 _ _ (k2 _ _ h)))
    walk_at "kf"
    refine ⟨p, _, rfl, hq3, ?_⟩
    rw [List.length_map]
    walk_at "kf"
    refine ⟨1, _, rfl, by omega, ?_, fun v4 H4 k4 hv4 => ?_⟩
    · rw [Int.natAbs_natCast]
      exact Nat.lt_of_le_of_lt hl (Nat.lt_of_lt_of_le (show 30 < 2 ^ 8 by decide) (Nat.pow_le_pow_right (by decide) (by omega)))
    have bf : Bits 8 (Rat.divInt 1 ((zs.length : Nat) : Int)) := by
      refine bits_divInt (by omega) (by decide) ?_
      rw [Int.natAbs_natCast]
      exact Nat.lt_of_le_of_lt hl (by decide)
    refine rd_bmul FY (hbal.mono k4) (.inl hv4) g bf (by omega) (by omega) fun v5 m5 H5 k5 hb5 g5 ev5 => ?_
    walk_at "kf"
    refine qq v5 m5 H5 (((k2.trans k3).trans k4).trans k5) hb5 g5 fun z => ?_
    rw [ev5]
    show valM m z * _ = _
    rw [ev]
end

end K5
namespace K5
open PySem PySem.Spec PyProof.Rows L2 KY PySem.W
local macro_rules | `(tactic| walk_at "kx1") => `(tactic| with_reducible first
  | refine KX.rd_seq ?_ | refine KX.rd_asg ?_ | refine KX.rd_op ?_ | refine KX.rd_c ?_ | refine KX.rd_cb ?_ | refine KX.rd_cons ?_ | refine KX.rd_nil ?_ | refine KX.rd_un ?_ | refine KX.rd_nx ?_ | refine KX.rd_rt ?_ | refine KX.rd_next ?_ | refine KX.rd_ret ?_
  | refine KX.rd_ifs ?_ | refine KX.rd_if ?_ | refine KX.rd_test ?_ | refine KX.rd_B ?_ | refine KX.rd_bl ?_ | refine KX.rd_and ?_ | refine KX.rd_or ?_ | refine KX.rd_not ?_ | refine KX.rd_I0 ?_ | refine KX.rd_U ?_ | refine KX.rd_int ?_ | refine KX.rd_intB ?_ | refine KX.rd_abs ?_
  | refine KX.rd_gname ?_ | refine KX.rd_gsub ?_ | refine KX.rd_call ?_ | refine KX.rd_drop ?_ | refine KX.rd_yes ?_ | refine KX.rd_andV ?_ | refine KX.rd_orV ?_ | refine KX.rd_notV ?_)
local macro_rules | `(tactic| walk_at "hp") => `(tactic| first
  | assumption
  | exact upd_same
  | (refine Eq.trans (upd_ne (by assumption)) ?_; walk_at "hp")
  | (refine Eq.trans (upd_ne (Ne.symm (by assumption))) ?_; walk_at "hp"))
local macro_rules | `(tactic| walk_at "kx2") => `(tactic| first
  | walk_at "kx1"
  | ((with_reducible refine KX.rd_T ?e ?_); (case e => rfl))
  | ((with_reducible refine KX.rd_F ?e ?_); (case e => rfl))
  | ((with_reducible refine' KX.rd_var ?e ?_); (case e => rfl))
  | ((with_reducible refine' KX.rd_I ?e ?_); (case e => first | assumption | decide | exact Or.inl ⟨by omega, by omega⟩ | exact ⟨by decide, by decide, by decide⟩ | exact ⟨by decide, by decide⟩))
  | ((with_reducible refine' KX.rd_eq ?e ?_); (case e => rfl))
  | ((with_reducible refine' KX.rd_ne ?e ?_); (case e => rfl))
  | ((with_reducible refine' KX.rd_ix ?e ?e2 ?_); (case e => first | assumption | exact SqL.of (by walk_at "hp")); (case e2 => first | assumption | rfl))
  | ((with_reducible refine' KX.rd_len ?e ?_); (case e => first | assumption | exact SqL.of (by walk_at "hp")))
  | ((with_reducible refine' KX.rd_set ?e ?e2 ?_); (case e => walk_at "hp"); (case e2 => rfl)))
local macro_rules | `(tactic| walk_at "kx") => `(tactic| repeat walk_at "kx2")
local macro_rules | `(tactic| walk_at "kx3") => `(tactic| first
  | walk_at "kx2"
  | (with_reducible refine rd_fld2 ?_)
  | ((with_reducible refine' rd_get ?e ?c ?n ?l ?_); (case e => assumption); (case c => assumption); (case n => assumption); (case l => rfl))
  | ((with_reducible refine' rd_mulw ?e ?_); (case e => assumption)))
local macro_rules | `(tactic| walk_at "kx4") => `(tactic| with_reducible first
  | refine rd_js_cons ?_ | refine rd_js_nil ?_ | refine rd_fmt ?_ | refine rd_dget ?_ | refine rd_dget2 ?_ | refine rd_dput ?_ | refine rd_rat ?_ | refine rd_bal ?_ | refine rd_forL ?_ | refine rd_sfld ?_ | refine KX.rd_tup ?_ | refine KX.rd_lst ?_ | refine rd_smeth ?_)
local macro_rules | `(tactic| walk_at "kf") => `(tactic| repeat (first | walk_at "kx3" | walk_at "kx4"))
abbrev nmscLreel : List Str := ["_law_script", "_law_cell"]
theorem scLreel : FnScope nmscLreel ["_law_script"] (defScope s_Lreel) := ⟨rfl, rfl, rfl, by decide +kernel, rfl, by decide +kernel, by decide +kernel⟩
theorem scLturn : FnScope ["_law_reel_here", "_law_many", "_law_rest", "_law_at", "_law_cell", "_law_mixed"] ["_law_reel_here", "_law_many"] (defScope s_Lturn) := ⟨rfl, rfl, rfl, by decide +kernel, rfl, by decide +kernel, by decide +kernel⟩
theorem scLpick : FnScope ["_law_reel_here", "_law_some"] ["_law_reel_here", "_law_some"] (defScope s_Lpick) := ⟨rfl, rfl, rfl, by decide +kernel, rfl, by decide +kernel, by decide +kernel⟩
/-- a reel of which at most n cells were begun -/
def RL (n : Nat) (H : Hp) (t : Addr) : Prop := ∃ c cells at_ great, KX.Till H t c cells at_ great ∧ at_ ≤ n
theorem RL.mono {n : Nat} {H H' : Hp} {t : Addr} (h : RL n H t) (k : Same H H') : RL n H' t := by
  obtain ⟨c, cells, at_, great, T, l⟩ := h
  exact ⟨c, cells, at_, great, T.mono k, l⟩
theorem RL.weak {n m : Nat} {H : Hp} {t : Addr} (h : RL n H t) (l : n ≤ m) : RL m H t := by
  obtain ⟨c, cells, at_, great, T, l2⟩ := h
  exact ⟨c, cells, at_, great, T, Nat.le_trans l2 l⟩
theorem RL.here {n : Nat} {H : Hp} {t : Addr} (h : RL n H t) : ∃ c i j, H t = some (.lst [.ref c, .int i, .int j]) := by
  obtain ⟨c, cells, at_, great, T, l2⟩ := h
  exact ⟨c, _, _, T.here⟩
/-- all but the reel is as it was, the reel's cells stand where they stood -/
structure BT (t : Addr) (H H' : Hp) : Prop where
  but : KX.But t H H'
  box : ∀ c i j, H t = some (.lst [.ref c, .int i, .int j]) → ∃ i' j', H' t = some (.lst [.ref c, .int i', .int j'])
instance {t : Addr} {H H' : Hp} : CoeFun (BT t H H') (fun _ => ∀ b o, b ≠ t → H b = some o → H' b = some o) := ⟨fun h => h.but⟩
theorem BT.trans {t : Addr} {H H1 H2 : Hp} (a : BT t H H1) (b : BT t H1 H2) : BT t H H2 := ⟨a.but.trans b.but, fun c i j e => by
  obtain ⟨i1, j1, e1⟩ := a.box c i j e
  exact b.box c i1 j1 e1⟩
theorem BT.of {t : Addr} {H H' : Hp} (k : Same H H') : BT t H H' := ⟨KX.But.of k, fun c i j e => ⟨i, j, k _ _ e⟩⟩
theorem BT.till {t c : Addr} {cells : List Int} {a a2 : Nat} {g g2 : Int} {H H' : Hp} (T : KX.Till H t c cells a g) (T2 : KX.Till H' t c cells a2 g2) (B : KX.But t H H') : BT t H H' := ⟨B, fun c' i j e => by
  rw [T.here] at e
  have z := Option.some.inj e
  injection z with z
  injection z with z _
  injection z with z
  subst z
  exact ⟨_, _, T2.here⟩⟩
def spTurn : Sp := fun vs H Q _ => ∃ (t : Addr) (n : Nat) (many : Int), vs = [.ref t, .int many] ∧ RL n H t ∧ n ≤ 10000 ∧ 0 < many ∧ many.natAbs < 2 ^ 8000 ∧ ∀ (r : Int) (H' : Hp), 0 ≤ r → r < many → RL (n + 1) H' t → BT t H H' → Q (.int r) H'
def spReel (K : PySem.W.Frag) : Sp := fun vs H Q _ => ∃ (a : Addr) (ns : List Int), vs = [.ref a] ∧ SqL K H a (ns.map V.int) ∧ ∀ t H', Same H H' → H t = none → RL 0 H' t → Q (.ref t) H'
def spPick : Sp := fun vs H Q _ => ∃ (t l : Addr) (n : Nat) (xs : List V), vs = [.ref t, .ref l] ∧ RL n H t ∧ n ≤ 10000 ∧ l ≠ t ∧ H l = some (.lst xs) ∧ xs ≠ [] ∧ xs.length ≤ 1000 ∧ ∀ (x : V) (H' : Hp), x ∈ xs → RL (n + 1) H' t → BT t H H' → Q x H'
theorem cut60 (ns : List Int) : cutV (ns.map V.int) none (some 60) = (ns.take 60).map V.int := by
  unfold cutV
  have e : HT.sIx (ns.map V.int).length (ns.map V.int).length (some 60) = min 60 (ns.map V.int).length := HT.sIx_nat _ _ 60
  rw [HT.sIx_none, List.drop_zero, e, Nat.sub_zero, ← List.take_eq_take_min, List.map_take]
section
variable {P : Program} {w : World} {K : PySem.W.Frag} {mg : Str → Option Value} {base : Heap} {f : Addr} {fd : FuncData}
theorem ok_turn (F : FunD K "_law_turn" "_law_turn" (defArgs s_Lturn) (defBody s_Lturn) (defScope s_Lturn) [] [] f fd) (FY : Fy K mg) : FnOk P w K mg base CX0 1 f fd ["_law_reel_here", "_law_many"] spTurn := by
  refine F.ok scLturn (fun vs H Q E h => ?_) (fun cdv A outer s H vs Q E hr h => ?_)
  · obtain ⟨t, n, many, rfl, _⟩ := h
    rfl
  · obtain ⟨t, n, many, rfl, ⟨c, cells, at_, great, T, hat0⟩, hn, hm0, hm1, q⟩ := h
    have hat : at_ ≤ 100000 := by omega
    have fin : ∀ (r : Int) (a2 : Nat) (g2 : Int) (H' : Hp), 0 ≤ r → r < many → a2 ≤ at_ + 1 → KX.Till H' t c cells a2 g2 → KX.But t H H' → Q (.int r) H' := fun r a2 g2 H' h0 h1 h2 T2 B => q r H' h0 h1 ⟨c, cells, a2, g2, T2, by omega⟩ (BT.till T T2 B)
    refine ⟨_, PSs.nox (pss_cons (ps_if (pt_cmpR op_gt (pe_ix ix_list (pv 0) pe_int (fun _ _ => rfl)) pe_int (nomark _)) (pss_cons (ps_set (i := 2) scLturn.nd rfl (Or.inl rfl) (pe_ix ix_list (pv 0) pe_int (fun _ _ => rfl)))
  (pss_cons (ps_asg (pe_op op_fdivW (pe_callTy KX.c_int (by rfl) (FY.free "int" (by decide +kernel)) (by decide +kernel) (pa_cons (pv 2) pa_nil)) (pv 1)) (pg_sub (pv 0) pe_int set_list))
  (pss_one (ps_ret (pe_op op_mod (pe_callTy KX.c_int (by rfl) (FY.free "int" (by decide +kernel)) (by decide +kernel) (pa_cons (pv 2) pa_nil)) (pv 1)))))) pss_nil)
  (pss_cons (ps_set (i := 3) scLturn.nd rfl (Or.inl rfl) (pe_ix ix_list (pv 0) pe_int (fun _ _ => rfl)))
  (pss_cons (ps_asg (pe_op op_add (pv 3) pe_int) (pg_sub (pv 0) pe_int set_list))
  (pss_cons (ps_set (i := 4) scLturn.nd rfl (Or.inl rfl) (pe_op op_add (pe_op op_mul pe_int (pv 3)) pe_int))
  (pss_cons (ps_if (pt_cmpR (op_neD hr.units) (pe_ix ix_list (pv 0) pe_int (fun _ _ => rfl)) (pe_lst pa_nil) (nomark _)) (pss_one (ps_set (i := 4) scLturn.nd rfl (Or.inl rfl) (pe_ix ix_list (pe_ix ix_list (pv 0) pe_int (fun _ _ => rfl)) (pe_op op_mod (pe_callTy KX.c_int (by rfl) (FY.free "int" (by decide +kernel)) (by decide +kernel) (pa_cons (pv 3) pa_nil)) (pe_callB KX.c_len (by rfl) (FY.free "len" (by decide +kernel)) (by decide +kernel) (pa_cons (pe_ix ix_list (pv 0) pe_int (fun _ _ => rfl)) pa_nil))) (fun _ _ => rfl)))) pss_nil)
  (pss_cons (ps_if (PW.pt (pw_and (pt_cmpR op_lt (pv 3) (pe_callB KX.c_len (by rfl) (FY.free "len" (by decide +kernel)) (by decide +kernel) (pa_cons (pe_ix ix_list (pv 0) pe_int (fun _ _ => rfl)) pa_nil)) (nomark _)) (pw_and1 (pt_cmpR op_ge (pe_callB KX.c_abs (by rfl) (FY.free "abs" (by decide +kernel)) (by decide +kernel) (pa_cons (pv 4) pa_nil)) (pe_op op_pow pe_int pe_int) (nomark _))))) (pss_cons (ps_set (i := 2) scLturn.nd rfl (Or.inl rfl) (pe_op op_add (pe_op op_mul pe_int (pe_op op_sub (pe_callB KX.c_abs (by rfl) (FY.free "abs" (by decide +kernel)) (by decide +kernel) (pa_cons (pv 4) pa_nil)) (pe_op op_pow pe_int pe_int))) (pe_callTy KX.c_int (by rfl) (FY.free "int" (by decide +kernel)) (by decide +kernel) (pa_cons (pe_cmpR op_lt (pv 4) pe_int (nomark _)) pa_nil))))
  (pss_cons (ps_asg (pe_op op_fdivW (pe_callTy KX.c_int (by rfl) (FY.free "int" (by decide +kernel)) (by decide +kernel) (pa_cons (pv 2) pa_nil)) (pv 1)) (pg_sub (pv 0) pe_int set_list))
  (pss_one (ps_ret (pe_op op_mod (pe_callTy KX.c_int (by rfl) (FY.free "int" (by decide +kernel)) (by decide +kernel) (pa_cons (pv 2) pa_nil)) (pv 1)))))) pss_nil)
  (pss_cons (ps_set (i := 5) scLturn.nd rfl (Or.inl rfl) (pe_op op_mod (pe_callTy KX.c_int (by rfl) (FY.free "int" (by decide +kernel)) (by decide +kernel) (pa_cons (pe_op op_pow (pe_op op_add (pe_op op_add (pe_op op_mod (pe_callTy KX.c_int (by rfl) (FY.free "int" (by decide +kernel)) (by decide +kernel) (pa_cons (pv 4) pa_nil)) pe_int) (pe_op op_mul pe_int (pv 3))) pe_int) pe_int) pa_nil)) pe_int))
  (pss_cons (ps_set (i := 5) scLturn.nd rfl (Or.inl rfl) (pe_op op_mod (pe_callTy KX.c_int (by rfl) (FY.free "int" (by decide +kernel)) (by decide +kernel) (pa_cons (pe_op op_pow (pe_op op_add (pe_op op_add (pe_op op_mul (pv 5) (pe_op op_add (pe_op op_mul pe_int (pv 3)) pe_int)) (pe_op op_mul (pe_op op_mul pe_int (pv 3)) (pv 3))) pe_int) pe_int) pa_nil)) pe_int))
  (pss_one (ps_ret (pe_op op_mod (pe_callTy KX.c_int (by rfl) (FY.free "int" (by decide +kernel)) (by decide +kernel) (pa_cons (pe_op op_fdiv (pv 5) pe_int) pa_nil)) (pv 1)))))))))))), ?_⟩
    have h0 := T.here
    have hb := T.box
    have hm2 : CDivW great many := by
      refine wide_div hm0 hm1 (by decide) (by decide)
    have hne := T.ne
    walk_at "kf"
    refine ite2 (fun e => ?_) (fun e => ?_)
    · walk_at "kf"
      exact fin _ at_ _ _ (Int.emod_nonneg _ (by omega)) (Int.emod_lt_of_pos _ hm0) (by omega) T.next (KX.But.upd KX.But.refl)
    · walk_at "kf"
      refine ⟨Nat.zero_le _, fun p np => ?_⟩
      have T1 : KX.Till (upd (upd H t (.lst [.ref c, .int ((at_ : Int) + 1), .int great])) p (.lst [])) t c cells (at_ + 1) great :=
        KX.Till.mono (T.next (a2 := at_ + 1) (g2 := great)) (KX.same_upd np)
      have B1 : KX.But t H (upd (upd H t (.lst [.ref c, .int ((at_ : Int) + 1), .int great])) p (.lst [])) := KX.But.new (KX.But.upd KX.But.refl) np
      refine ⟨.list (cells.map .int), .list [], .lst (SqL.of T1.box) (KX.dp_ints cells), .lst (SqL.of upd_same) .nil, KX.ints_shaped _, rfl, ?_⟩
      rw [KX.nil_eqv]
      have e1 : (upd (upd H t (.lst ([V.ref c, V.int at_, V.int great].set (Int.toNat 1) (V.int (at_ + 1))))) p (.lst [])) = (upd (upd H t (.lst [.ref c, .int ((at_ : Int) + 1), .int great])) p (.lst [])) := rfl
      rw [e1]
      generalize (upd (upd H t (.lst [.ref c, .int ((at_ : Int) + 1), .int great])) p (.lst [])) = H1 at T1 B1 ⊢
      clear e1 h0 hb
      have h0 := T1.here
      have hb := T1.box
      walk_at "kf"
      have hl : (cells.map V.int).length = cells.length := List.length_map ..
      have key : (∃ z : Int, z ∈ cells ∧ atI (cells.map V.int) ((at_ : Int) % ((cells.map V.int).length : Int)) = some (.int z) ∧ (0 : Int) < ((cells.map V.int).length : Int)) ∨ (!cells.isEmpty) = false := by
        cases hc : cells with
        | nil => exact .inr rfl
        | cons a r =>
          obtain ⟨z, hz, e⟩ := KX.emod_atI (l := a :: r) (a := at_) (fun y => nomatch y)
          refine .inl ⟨z, hz, ?_, ?_⟩
          · rw [List.length_map]
            exact e
          · rw [List.length_map, List.length_cons]
            omega
      refine ite2 (fun e => ?_) (fun e => ?_)
      · obtain ⟨z, _, hz, hpos⟩ := key.resolve_right (fun y => by rw [y] at e; cases e)
        walk_at "kf"
        refine ite2 (fun e2 => ?_) (fun e2 => ?_)
        all_goals (try with_reducible refine iteF ?_)
        all_goals walk_at "kf"
        all_goals (try with_reducible refine ite2 (fun e3 => ?_) (fun e3 => ?_))
        all_goals walk_at "kf"
        all_goals (try exact fin _ (at_ + 1) _ _ (Int.emod_nonneg _ (by omega)) (Int.emod_lt_of_pos _ hm0) (by omega) T1.next (KX.But.upd B1))
        all_goals
          refine KX.rd_I ⟨by decide, by decide, ?_⟩ ?_
          · omega
          walk_at "kf"
          generalize hy : ((z % 2147483477 + 53017 * (at_ : Int) + 2111) ^ (Int.toNat 5) % 2147483647) = y
          have y0 : 0 ≤ y := by
            rw [← hy]
            exact Int.emod_nonneg _ (by decide)
          have y1 : y < 2147483647 := by
            rw [← hy]
            exact Int.emod_lt_of_pos _ (by decide)
          refine KX.rd_I ⟨by decide, by decide, KX.mix_ok y0 y1 hat (by decide) (by decide) (by decide) (by decide) (by decide) (by decide)⟩ ?_
          walk_at "kf"
          exact fin _ (at_ + 1) _ _ (Int.emod_nonneg _ (by omega)) (Int.emod_lt_of_pos _ hm0) (by omega) T1 B1
      · walk_at "kf"
        refine ite2 (fun e2 => ?_) (fun e2 => ?_)
        all_goals (try with_reducible refine iteF ?_)
        all_goals walk_at "kf"
        all_goals (try with_reducible refine ite2 (fun e3 => ?_) (fun e3 => ?_))
        all_goals walk_at "kf"
        all_goals (try exact fin _ (at_ + 1) _ _ (Int.emod_nonneg _ (by omega)) (Int.emod_lt_of_pos _ hm0) (by omega) T1.next (KX.But.upd B1))
        all_goals
          refine KX.rd_I ⟨by decide, by decide, ?_⟩ ?_
          · omega
          walk_at "kf"
          generalize hy : (((42013 * (at_ : Int) + 2111) % 2147483477 + 53017 * (at_ : Int) + 2111) ^ (Int.toNat 5) % 2147483647) = y
          have y0 : 0 ≤ y := by
            rw [← hy]
            exact Int.emod_nonneg _ (by decide)
          have y1 : y < 2147483647 := by
            rw [← hy]
            exact Int.emod_lt_of_pos _ (by decide)
          refine KX.rd_I ⟨by decide, by decide, KX.mix_ok y0 y1 hat (by decide) (by decide) (by decide) (by decide) (by decide) (by decide)⟩ ?_
          walk_at "kf"
          exact fin _ (at_ + 1) _ _ (Int.emod_nonneg _ (by omega)) (Int.emod_lt_of_pos _ hm0) (by omega) T1 B1
theorem ok_pick (F : FunD K "_law_pick" "_law_pick" (defArgs s_Lpick) (defBody s_Lpick) (defScope s_Lpick) [] [] f fd) (FY : Fy K mg) (CT : Callee P w K mg base 1 "_law_turn" ["_law_reel_here", "_law_many"] spTurn) :
    FnOk P w K mg base CX0 2 f fd ["_law_reel_here", "_law_some"] spPick := by
  refine F.ok scLpick (fun vs H Q E h => ?_) (fun cdv A outer s H vs Q E hr h => ?_)
  · obtain ⟨t, l, n, xs, rfl, _⟩ := h
    rfl
  · obtain ⟨t, l, n, xs, rfl, T, hat, hlt, hl, hne, hlen, q⟩ := h
    refine ⟨_, PSs.nox (pss_one (ps_ret (pe_ix ix_list (pv 1) (KX.pe_c CT hr (by decide) rfl (pa_cons (pv 0) (pa_cons (pe_callB KX.c_len (by rfl) (FY.free "len" (by decide +kernel)) (by decide +kernel) (pa_cons (pv 1) pa_nil)) pa_nil))) (fun _ _ => rfl)))), ?_⟩
    walk_at "kf"
    have hpos : 0 < xs.length := List.length_pos_iff.mpr hne
    refine ⟨t, n, xs.length, rfl, T, hat, by omega, ?_, fun r H' h0 h1 T2 B => ?_⟩
    · show ((xs.length : Nat) : Int).natAbs < 2 ^ 8000
      rw [Int.natAbs_natCast]
      exact Nat.lt_of_lt_of_le (show xs.length < 2 ^ 10 by omega) (Nat.pow_le_pow_right (by decide) (by decide))
    · obtain ⟨n, rfl⟩ := Int.eq_ofNat_of_zero_le h0
      have hn : n < xs.length := by omega
      refine KX.rd_ix (SqL.of (B l _ hlt hl)) (atI_nat (List.getElem?_eq_getElem hn)) ?_
      walk_at "kf"
      exact q _ H' (List.getElem_mem hn) T2 B
theorem ok_reel (F : FunD K "_law_reel" "_law_reel" (defArgs s_Lreel) (defBody s_Lreel) (defScope s_Lreel) [] [] f fd) (FY : Fy K mg) : FnOk P w K mg base CX0 1 f fd ["_law_script"] (spReel K) := by
  refine F.ok scLreel (fun vs H Q E h => ?_) (fun cdv A outer s H vs Q E hr h => ?_)
  · obtain ⟨a, ns, rfl, _⟩ := h
    rfl
  · obtain ⟨a, ns, rfl, hS, q⟩ := h
    refine ⟨_, PSs.nox (pss_one (ps_ret (pe_lst (pa_cons (pe_lc (own := [("_law_cell", 1)]) (g := gName 1) (tt := tYes) rfl scLreel.nd (pi_list (pe_slice sl_list (pv 0) po_none (po_some pe_int))) (blkOk_by (N := nmscLreel) (sc := defScope s_Lreel) (by decide +kernel)) (fun _ _ _ _ _ => pg_name (i := 1) scLreel.nd rfl (Or.inl rfl)) (fun _ _ _ _ _ => pts_nil) (fun _ _ _ _ _ => (pe_callTy KX.c_int (by rfl) (FY.free "int" (by decide +kernel)) (by decide +kernel) (pa_cons (pv 1) pa_nil)))) (pa_cons pe_int (pa_cons pe_int pa_nil)))))), ?_⟩
    walk_at "kf"
    refine ⟨.ref a, rfl, 60, rfl, a, ns.map V.int, rfl, hS, fun p hp => ⟨p, rfl, ⟨_, SqL.of upd_same⟩, ?_⟩⟩
    rw [cut60]
    have k1 : Same H (upd H p (.lst ((ns.take 60).map V.int))) := KX.same_upd hp
    have e1 : (upd H p (.lst ((ns.take 60).map V.int))) p = some (.lst ((ns.take 60).map V.int)) := upd_same
    have hlen : (ns.take 60).length ≤ 60 := List.length_take_le ..
    generalize (ns.take 60) = cells at k1 e1 hlen ⊢
    generalize (upd H p (.lst (cells.map V.int))) = H1 at k1 e1 ⊢
    refine lc_known (walk_l K p (cells.map V.int)) (fun H2 k2 => SqL.of (k2 _ _ e1)) (fun i => (cells.map V.int)[i]?) (by rw [List.length_map]; omega) (fun i x H2 H' hi k2 hy Qe Pz h1 h2 => ?_) (fun D H2 hD k2 hd => ?_)
    · obtain ⟨rfl, hx⟩ := hy
      rw [List.getElem?_map] at hx
      obtain ⟨z, hz, rfl⟩ := Option.map_eq_some_iff.mp hx
      refine ⟨rfl, ?_⟩
      walk_at "kf"
      refine h1 _ _ ?_ (Same.refl _)
      rw [List.getElem?_map, hz]
      rfl
    · rw [accOf_all _ rfl] at hd
      walk_at "kf"
      refine ⟨Nat.le_of_lt (small1000 (by simp)), fun t ht => ?_⟩
      walk_at "kf"
      refine q t _ ((k1.trans k2).trans (KX.same_upd ht)) (Same.free (k1.trans k2) ht) ⟨D, cells, 0, 0, ⟨upd_same, ?_, (ne_of_none hd ht).symm, by omega⟩, Nat.le_refl _⟩
      rw [upd_ne (ne_of_none hd ht), hd]
end

end K5
namespace K5
open PySem PySem.Spec PyProof.Rows L2 KY PySem.W
local macro_rules | `(tactic| walk_at "kx1") => `(tactic| with_reducible first
  | refine KX.rd_seq ?_ | refine KX.rd_asg ?_ | refine KX.rd_op ?_ | refine KX.rd_c ?_ | refine KX.rd_cb ?_ | refine KX.rd_cons ?_ | refine KX.rd_nil ?_ | refine KX.rd_un ?_ | refine KX.rd_nx ?_ | refine KX.rd_rt ?_ | refine KX.rd_next ?_ | refine KX.rd_ret ?_
  | refine KX.rd_ifs ?_ | refine KX.rd_if ?_ | refine KX.rd_test ?_ | refine KX.rd_B ?_ | refine KX.rd_bl ?_ | refine KX.rd_and ?_ | refine KX.rd_or ?_ | refine KX.rd_not ?_ | refine KX.rd_I0 ?_ | refine KX.rd_U ?_ | refine KX.rd_int ?_ | refine KX.rd_intB ?_ | refine KX.rd_abs ?_
  | refine KX.rd_gname ?_ | refine KX.rd_gsub ?_ | refine KX.rd_call ?_ | refine KX.rd_drop ?_ | refine KX.rd_yes ?_ | refine KX.rd_andV ?_ | refine KX.rd_orV ?_ | refine KX.rd_notV ?_)
local macro_rules | `(tactic| walk_at "hp") => `(tactic| first
  | assumption
  | exact upd_same
  | (refine Eq.trans (upd_ne (by assumption)) ?_; walk_at "hp")
  | (refine Eq.trans (upd_ne (Ne.symm (by assumption))) ?_; walk_at "hp"))
local macro_rules | `(tactic| walk_at "kx2") => `(tactic| first
  | walk_at "kx1"
  | ((with_reducible refine KX.rd_T ?e ?_); (case e => rfl))
  | ((with_reducible refine KX.rd_F ?e ?_); (case e => rfl))
  | ((with_reducible refine' KX.rd_var ?e ?_); (case e => rfl))
  | ((with_reducible refine' KX.rd_I ?e ?_); (case e => first | assumption | decide | exact Or.inl ⟨by omega, by omega⟩ | exact ⟨by decide, by decide, by decide⟩ | exact ⟨by decide, by decide⟩))
  | ((with_reducible refine' KX.rd_eq ?e ?_); (case e => rfl))
  | ((with_reducible refine' KX.rd_ne ?e ?_); (case e => rfl))
  | ((with_reducible refine' KX.rd_ix ?e ?e2 ?_); (case e => first | assumption | exact SqL.of (by walk_at "hp")); (case e2 => first | assumption | rfl))
  | ((with_reducible refine' KX.rd_len ?e ?_); (case e => first | assumption | exact SqL.of (by walk_at "hp")))
  | ((with_reducible refine' KX.rd_set ?e ?e2 ?_); (case e => walk_at "hp"); (case e2 => rfl)))
local macro_rules | `(tactic| walk_at "kx") => `(tactic| repeat walk_at "kx2")
local macro_rules | `(tactic| walk_at "kx3") => `(tactic| first
  | walk_at "kx2"
  | (with_reducible refine rd_fld2 ?_)
  | ((with_reducible refine' rd_get ?e ?c ?n ?l ?_); (case e => assumption); (case c => assumption); (case n => assumption); (case l => rfl))
  | ((with_reducible refine' rd_mulw ?e ?_); (case e => assumption)))
local macro_rules | `(tactic| walk_at "kx4") => `(tactic| with_reducible first
  | refine rd_js_cons ?_ | refine rd_js_nil ?_ | refine rd_fmt ?_ | refine rd_dget ?_ | refine rd_dget2 ?_ | refine rd_dput ?_ | refine rd_rat ?_ | refine rd_bal ?_ | refine rd_forL ?_ | refine rd_sfld ?_ | refine KX.rd_tup ?_ | refine KX.rd_lst ?_ | refine rd_smeth ?_)
local macro_rules | `(tactic| walk_at "kf") => `(tactic| repeat (first | walk_at "kx3" | walk_at "kx4"))
theorem scLshared : FnScope ["_law_one", "_law_other", "_law_mine", "_law_its"] ["_law_one", "_law_other"] (defScope s_Lshared) := ⟨rfl, rfl, rfl, by decide +kernel, rfl, by decide +kernel, by decide +kernel⟩
theorem scLlow : FnScope ["_law_top", "_law_bottom", "_law_shared_here"] ["_law_top", "_law_bottom"] (defScope s_Llow) := ⟨rfl, rfl, rfl, by decide +kernel, rfl, by decide +kernel, by decide +kernel⟩
theorem scLplus : FnScope ["_law_one", "_law_other"] ["_law_one", "_law_other"] (defScope s_Lplus) := ⟨rfl, rfl, rfl, by decide +kernel, rfl, by decide +kernel, by decide +kernel⟩
theorem scLby : FnScope ["_law_one", "_law_other"] ["_law_one", "_law_other"] (defScope s_Lby) := ⟨rfl, rfl, rfl, by decide +kernel, rfl, by decide +kernel, by decide +kernel⟩
theorem scLtext : FnScope ["_law_pair"] ["_law_pair"] (defScope s_Ltext) := ⟨rfl, rfl, rfl, by decide +kernel, rfl, by decide +kernel, by decide +kernel⟩
section
variable {K : PySem.W.Frag} {H : Hp} {Q : VK} {p : Addr} {a b : V}
theorem rd_p0 (e : H p = some (.tup [a, b])) (q : Q a H) : rIxT K (.ref p) (.int 0) H Q := ⟨p, [a, b], 0, a, rfl, rfl, SqT.of e, rfl, q⟩
theorem rd_p1 (e : H p = some (.tup [a, b])) (q : Q b H) : rIxT K (.ref p) (.int 1) H Q := ⟨p, [a, b], 1, b, rfl, rfl, SqT.of e, rfl, q⟩
theorem rd_par {i j : Nat} {ta : TA} {D : Ends} {σ : L2.St} {H : Hp} (q : ta σ H fun vs H1 => ∃ v w, vs = [v, w] ∧ D.nx ((σ.set i (some v)).set j (some w)) H1) : tPar i j ta D σ H := q
end
local macro_rules | `(tactic| walk_at "kx3") => `(tactic| first
  | walk_at "kx2"
  | (with_reducible refine rd_fld2 ?_)
  | (with_reducible refine rd_par ?_)
  | ((with_reducible refine' rd_p0 ?e ?_); (case e => assumption))
  | ((with_reducible refine' rd_p1 ?e ?_); (case e => assumption))
  | ((with_reducible refine' rd_mulw ?e ?_); (case e => assumption)))
local macro_rules | `(tactic| walk_at "kf") => `(tactic| repeat (first | walk_at "kx3" | walk_at "kx4"))
def spShared : Sp := fun vs H Q _ => ∃ a b : Int, vs = [.int a, .int b] ∧ Q (.int ((Nat.gcd a.natAbs b.natAbs : Nat) : Int)) H
/-- a pair of integers comes out -/
def retPair (q : Rat) (H : Hp) (Q : VK) : Prop := ∀ v H', Same H H' → IsPair H' v q → Q v H'
def spLow : Sp := fun vs H Q _ => ∃ a b : Int, vs = [.int a, .int b] ∧ b ≠ 0 ∧ b.natAbs < 2 ^ 8000 ∧ retPair (Rat.divInt a b) H Q
def spPBin (op : Rat → Rat → Rat) : Sp := fun vs H Q _ => ∃ x y p q a b, vs = [x, y] ∧ IsPair H x p ∧ IsPair H y q ∧ Bits a p ∧ Bits b q ∧ a + b ≤ 7000 ∧ retPair (op p q) H Q
/-- a pair's text -/
def pairT (q : Rat) : Str := if q.den = 1 then numT q.num else numT q.num ++ "/" ++ numT q.den
def spText2 : Sp := fun vs H Q _ => ∃ x q, vs = [x] ∧ IsPair H x q ∧ Bits 1900 q ∧ Q (.str (pairT q)) H
theorem IsPair.mono {H H' : Hp} {v : V} {q : Rat} (h : IsPair H v q) (k : Same H H') : IsPair H' v q := by
  obtain ⟨a, e, h⟩ := h
  exact ⟨a, e, k _ _ h⟩
theorem pair_off {H H1 : Hp} {d : Addr} {v : V} {q : Rat} (hd : ∀ xs, H d ≠ some (.tup xs)) (k : ∀ b o, b ≠ d → H b = some o → H1 b = some o) (h : IsPair H v q) : IsPair H1 v q := by
  obtain ⟨a, e, h⟩ := h
  refine ⟨a, e, k _ _ (fun z => ?_) h⟩
  rw [z] at h
  exact hd _ h
theorem neg_mod (a b : Int) : Rat.divInt (-a) (-b) = Rat.divInt a b := Rat.neg_divInt_neg a b
theorem gcd_turn (m i : Nat) : Nat.gcd i (m % i) = Nat.gcd m i := by
  rw [Nat.gcd_comm i, ← Nat.gcd_rec, Nat.gcd_comm]
section
variable {P : Program} {w : World} {K : PySem.W.Frag} {mg : Str → Option Value} {base : Heap} {f : Addr} {fd : FuncData} {H : Hp} {Q : VK}
theorem ok_shared (F : FunD K "_law_shared" "_law_shared" (defArgs s_Lshared) (defBody s_Lshared) (defScope s_Lshared) [] [] f fd) (FY : Fy K mg) : FnOk P w K mg base CX0 1 f fd ["_law_one", "_law_other"] spShared := by
  refine F.ok scLshared (fun vs H Q E h => ?_) (fun cdv A outer s H vs Q E hr h => ?_)
  · obtain ⟨a, b, rfl, _⟩ := h
    rfl
  · obtain ⟨a, b, rfl, qq⟩ := h
    refine ⟨_, PSs.nox (pss_cons (ps_par (i := 2) (j := 3) (by rfl) scLshared.nd rfl rfl (by decide) rfl rfl (pa_cons (pe_callB KX.c_abs (by rfl) (FY.free "abs" (by decide +kernel)) (by decide +kernel) (pa_cons (pv 0) pa_nil)) (pa_cons (pe_callB KX.c_abs (by rfl) (FY.free "abs" (by decide +kernel)) (by decide +kernel) (pa_cons (pv 1) pa_nil)) pa_nil)) (by rfl))
  (pss_cons (ps_while PassesOwn.never (pt_cmpR op_gt (pv 3) pe_int (nomark _)) (pss_one (ps_par (i := 2) (j := 3) (by rfl) scLshared.nd rfl rfl (by decide) rfl rfl (pa_cons (pv 3) (pa_cons (pe_op op_mod (pe_callTy KX.c_int (by rfl) (FY.free "int" (by decide +kernel)) (by decide +kernel) (pa_cons (pv 2) pa_nil)) (pv 3)) pa_nil)) (by rfl))))
  (pss_one (ps_ret (pv 2))))), ?_⟩
    walk_at "kf"
    refine ⟨_, _, rfl, ?_⟩
    walk_at "kf"
    refine while_by (fun σ2 H2 => H2 = H ∧ ∃ m i : Nat, σ2 = [some (.int a), some (.int b), some (.int m), some (.int i)] ∧ Nat.gcd m i = Nat.gcd a.natAbs b.natAbs) (fun σ2 _ => match σ2 with
      | [_, _, _, some (.int i)] => i.toNat
      | _ => 0) ⟨rfl, a.natAbs, b.natAbs, ?_, rfl⟩ (fun σ2 H2 hp => ?_) (fun σ H Q Q' h z => ?_)
    · have e1 : (if a < 0 then -a else a) = ((a.natAbs : Nat) : Int) := by omega
      have e2 : (if b < 0 then -b else b) = ((b.natAbs : Nat) : Int) := by omega
      rw [e1, e2]
      rfl
    · obtain ⟨rfl, m, i, rfl, eg⟩ := hp
      walk_at "kf"
      refine ite2 (fun e => ?_) (fun e => ?_)
      · have hi : (0 : Int) < (i : Int) := of_decide_eq_true e
        walk_at "kf"
        refine ⟨_, _, rfl, ?_⟩
        walk_at "kf"
        refine ⟨⟨rfl, i, m % i, ?_, ?_⟩, ?_⟩
        · rw [Int.natCast_emod]
          rfl
        · rw [gcd_turn, eg]
        · show ((m : Int) % (i : Int)).toNat < (i : Int).toNat
          have := Int.emod_lt_of_pos (m : Int) hi
          have := Int.emod_nonneg (m : Int) (show (i : Int) ≠ 0 by omega)
          omega
      · have hi : i = 0 := by
          have : ¬ (0 : Int) < (i : Int) := fun z => e (decide_eq_true z)
          omega
        subst hi
        rw [Nat.gcd_zero_right] at eg
        walk_at "kf"
        rw [eg]
        exact qq
    · obtain ⟨v, e, i, j, e1, e2, k, e3, q⟩ := z
      exact ⟨v, e, i, j, e1, e2, k, e3, h _ _ q⟩
theorem ok_low (F : FunD K "_law_low" "_law_low" (defArgs s_Llow) (defBody s_Llow) (defScope s_Llow) [] [] f fd) (FY : Fy K mg) (CS : Callee P w K mg base 1 "_law_shared" ["_law_one", "_law_other"] spShared) : FnOk P w K mg base CX0 2 f fd ["_law_top", "_law_bottom"] spLow := by
  refine F.ok scLlow (fun vs H Q E h => ?_) (fun cdv A outer s H vs Q E hr h => ?_)
  · obtain ⟨a, b, rfl, _⟩ := h
    rfl
  · obtain ⟨t, b, rfl, hb, hbb, qq⟩ := h
    refine ⟨_, PSs.nox (pss_cons (ps_set (i := 2) scLlow.nd rfl (Or.inl rfl) (KX.pe_c CS hr (by decide) rfl (pa_cons (pv 0) (pa_cons (pv 1) pa_nil))))
  (pss_one (ps_ret (pe_ifExp (pt_cmpR op_gt (pv 1) pe_int (nomark _)) (pe_tup (pa_cons (pe_op op_fdivZ (pv 0) (pv 2)) (pa_cons (pe_op op_fdivZ (pv 1) (pv 2)) pa_nil))) (pe_tup (pa_cons (pe_op op_fdivZ (pe_un un_neg (pv 0)) (pv 2)) (pa_cons (pe_op op_fdivZ (pe_un un_neg (pv 1)) (pv 2)) pa_nil))))))), ?_⟩
    walk_at "kf"
    refine ⟨t, b, rfl, ?_⟩
    walk_at "kf"
    have g0 := gcd_pos (t := t) hb
    have gl0 : (Nat.gcd t.natAbs b.natAbs) < 2 ^ 8000 := Nat.lt_of_le_of_lt (Nat.gcd_le_right _ (Int.natAbs_pos.mpr hb)) hbb
    have lg : ((Nat.gcd t.natAbs b.natAbs : Nat) : Int).natAbs.log2 < 9000 := by
      rw [Int.natAbs_natCast]
      exact Nat.lt_of_lt_of_le ((Nat.log2_lt (by omega)).mpr gl0) (by decide)
    have z1 : ∀ x : Int, CDivZ x ((Nat.gcd t.natAbs b.natAbs : Nat) : Int) := fun x => ⟨by omega, lg⟩
    refine ite2 (fun e => ?_) (fun e => ?_)
    · have hlt : 0 < b := of_decide_eq_true e
      obtain ⟨l1, l2⟩ := low_pos (t := t) hlt
      walk_at "kf"
      refine KX.rd_I (z1 t) ?_
      walk_at "kf"
      refine KX.rd_I (z1 b) ?_
      walk_at "kf"
      refine ⟨(show (2 : Nat) ≤ sizeLine by decide), fun p hp => ?_⟩
      walk_at "kf"
      refine qq _ _ (KX.same_upd hp) ⟨p, rfl, ?_⟩
      rw [upd_same, l1, l2]
    · have hlt : 0 < -b := by
        have h : ¬ 0 < b := fun z => e (decide_eq_true z)
        clear gl0 hbb lg z1
        omega
      obtain ⟨l1, l2⟩ := low_pos (t := -t) hlt
      rw [Int.natAbs_neg, Int.natAbs_neg, neg_mod] at l1 l2
      walk_at "kf"
      refine KX.rd_I (z1 (-t)) ?_
      walk_at "kf"
      refine KX.rd_I (z1 (-b)) ?_
      walk_at "kf"
      refine ⟨(show (2 : Nat) ≤ sizeLine by decide), fun p hp => ?_⟩
      walk_at "kf"
      refine qq _ _ (KX.same_upd hp) ⟨p, rfl, ?_⟩
      rw [upd_same, l1, l2]
theorem ok_lplus (F : FunD K "_law_plus" "_law_plus" (defArgs s_Lplus) (defBody s_Lplus) (defScope s_Lplus) [] [] f fd) (FY : Fy K mg) (CL : Callee P w K mg base 2 "_law_low" ["_law_top", "_law_bottom"] spLow) : FnOk P w K mg base CX0 3 f fd ["_law_one", "_law_other"] (spPBin (· + ·)) := by
  refine F.ok scLplus (fun vs H Q E h => ?_) (fun cdv A outer s H vs Q E hr h => ?_)
  · obtain ⟨x, y, _, _, _, _, rfl, _⟩ := h
    rfl
  · obtain ⟨x, y, p, q, a, b, rfl, ⟨xa, rfl, hx⟩, ⟨ya, rfl, hy⟩, ba, bb, l, qq⟩ := h
    obtain ⟨m1, m2, m3, m4⟩ := bits_mul ba bb l
    refine ⟨_, PSs.nox (pss_one (ps_ret (KX.pe_c CL hr (by decide) rfl (pa_cons (pe_op op_add (pe_op op_mulW (pe_ix ix_tup (pv 0) pe_int (fun _ _ => rfl)) (pe_ix ix_tup (pv 1) pe_int (fun _ _ => rfl))) (pe_op op_mulW (pe_ix ix_tup (pv 1) pe_int (fun _ _ => rfl)) (pe_ix ix_tup (pv 0) pe_int (fun _ _ => rfl)))) (pa_cons (pe_op op_mulW (pe_ix ix_tup (pv 0) pe_int (fun _ _ => rfl)) (pe_ix ix_tup (pv 1) pe_int (fun _ _ => rfl))) pa_nil))))), ?_⟩
    walk_at "kf"
    refine ⟨_, _, rfl, Int.mul_ne_zero (den_ne p) (den_ne q), Nat.lt_of_lt_of_le (bits_add ba bb).2 (Nat.pow_le_pow_right (by decide) (by omega)), fun v H' k hv => ?_⟩
    rw [add_parts] at hv
    walk_at "kf"
    exact qq v H' k hv
theorem ok_lby (F : FunD K "_law_by" "_law_by" (defArgs s_Lby) (defBody s_Lby) (defScope s_Lby) [] [] f fd) (FY : Fy K mg) (CL : Callee P w K mg base 2 "_law_low" ["_law_top", "_law_bottom"] spLow) : FnOk P w K mg base CX0 3 f fd ["_law_one", "_law_other"] (spPBin (· * ·)) := by
  refine F.ok scLby (fun vs H Q E h => ?_) (fun cdv A outer s H vs Q E hr h => ?_)
  · obtain ⟨x, y, _, _, _, _, rfl, _⟩ := h
    rfl
  · obtain ⟨x, y, p, q, a, b, rfl, ⟨xa, rfl, hx⟩, ⟨ya, rfl, hy⟩, ba, bb, l, qq⟩ := h
    obtain ⟨m1, m2, m3, m4⟩ := bits_mul ba bb l
    refine ⟨_, PSs.nox (pss_one (ps_ret (KX.pe_c CL hr (by decide) rfl (pa_cons (pe_op op_mulW (pe_ix ix_tup (pv 0) pe_int (fun _ _ => rfl)) (pe_ix ix_tup (pv 1) pe_int (fun _ _ => rfl))) (pa_cons (pe_op op_mulW (pe_ix ix_tup (pv 0) pe_int (fun _ _ => rfl)) (pe_ix ix_tup (pv 1) pe_int (fun _ _ => rfl))) pa_nil))))), ?_⟩
    walk_at "kf"
    refine ⟨_, _, rfl, Int.mul_ne_zero (den_ne p) (den_ne q), Nat.lt_of_lt_of_le (bits_add ba bb).2 (Nat.pow_le_pow_right (by decide) (by omega)), fun v H' k hv => ?_⟩
    rw [mul_parts] at hv
    walk_at "kf"
    exact qq v H' k hv
theorem ok_ltext (F : FunD K "_law_text" "_law_text" (defArgs s_Ltext) (defBody s_Ltext) (defScope s_Ltext) [] [] f fd) (FY : Fy K mg) : FnOk P w K mg base CX0 1 f fd ["_law_pair"] spText2 := by
  refine F.ok scLtext (fun vs H Q E h => ?_) (fun cdv A outer s H vs Q E hr h => ?_)
  · obtain ⟨x, _, rfl, _⟩ := h
    rfl
  · obtain ⟨x, q, rfl, ⟨xa, rfl, hx⟩, bb, qq⟩ := h
    have l1 := log_of bb.num (by decide)
    have l2 : (q.den : Int).natAbs.log2 < 1920 := log_of (by rw [Int.natAbs_natCast]; exact bb.den) (by decide)
    have t1 := numT_len l1
    have t2 := numT_len l2
    have e3 : (Str.ofString "/").length = 1 := by decide +kernel
    have big : 100000 ≤ sizeLine := by decide
    refine ⟨_, PSs.nox (pss_one (ps_ret (pe_ifExp (pt_cmpR op_eq (pe_ix ix_tup (pv 0) pe_int (fun _ _ => rfl)) pe_int (nomark _)) (pe_callTy call_str_int (by rfl) (FY.free "str" (by decide +kernel)) (by decide +kernel) (pa_cons (pe_ix ix_tup (pv 0) pe_int (fun _ _ => rfl)) pa_nil)) (pe_op op_add_str (pe_op op_add_str (pe_callTy call_str_int (by rfl) (FY.free "str" (by decide +kernel)) (by decide +kernel) (pa_cons (pe_ix ix_tup (pv 0) pe_int (fun _ _ => rfl)) pa_nil)) pe_str) (pe_callTy call_str_int (by rfl) (FY.free "str" (by decide +kernel)) (by decide +kernel) (pa_cons (pe_ix ix_tup (pv 0) pe_int (fun _ _ => rfl)) pa_nil)))))), ?_⟩
    walk_at "kf"
    refine ite2 (fun e => ?_) (fun e => ?_)
    · have e1 : q.den = 1 := by
        have : (q.den : Int) = 1 := by simpa using e
        omega
      walk_at "kf"
      refine ⟨q.num, rfl, l1, ?_⟩
      walk_at "kf"
      unfold pairT at qq
      rw [if_pos e1] at qq
      exact qq
    · have e1 : ¬ q.den = 1 := by
        intro z
        exact e (by simp [z])
      unfold pairT at qq
      rw [if_neg e1] at qq
      walk_at "kf"
      refine ⟨q.num, rfl, l1, ?_⟩
      walk_at "kf"
      refine ⟨_, _, rfl, rfl, ?_, ?_⟩
      · show (numT q.num).length + _ ≤ _
        rw [e3]
        omega
      walk_at "kf"
      refine ⟨(q.den : Int), rfl, l2, ?_⟩
      walk_at "kf"
      refine ⟨_, _, rfl, rfl, ?_, ?_⟩
      · show (numT q.num ++ "/").length + (numT q.den).length ≤ _
        rw [Str.length_append, e3]
        omega
      walk_at "kf"
      exact qq
end

end K5
namespace K5
open PySem PySem.Spec PyProof.Rows L2 KY PySem.W
local macro_rules | `(tactic| walk_at "kx1") => `(tactic| with_reducible first
  | refine KX.rd_seq ?_ | refine KX.rd_asg ?_ | refine KX.rd_op ?_ | refine KX.rd_c ?_ | refine KX.rd_cb ?_ | refine KX.rd_cons ?_ | refine KX.rd_nil ?_ | refine KX.rd_un ?_ | refine KX.rd_nx ?_ | refine KX.rd_rt ?_ | refine KX.rd_next ?_ | refine KX.rd_ret ?_
  | refine KX.rd_ifs ?_ | refine KX.rd_if ?_ | refine KX.rd_test ?_ | refine KX.rd_B ?_ | refine KX.rd_bl ?_ | refine KX.rd_and ?_ | refine KX.rd_or ?_ | refine KX.rd_not ?_ | refine KX.rd_I0 ?_ | refine KX.rd_U ?_ | refine KX.rd_int ?_ | refine KX.rd_intB ?_ | refine KX.rd_abs ?_
  | refine KX.rd_gname ?_ | refine KX.rd_gsub ?_ | refine KX.rd_call ?_ | refine KX.rd_drop ?_ | refine KX.rd_yes ?_ | refine KX.rd_andV ?_ | refine KX.rd_orV ?_ | refine KX.rd_notV ?_)
local macro_rules | `(tactic| walk_at "hp") => `(tactic| first
  | assumption
  | exact upd_same
  | (refine Eq.trans (upd_ne (by assumption)) ?_; walk_at "hp")
  | (refine Eq.trans (upd_ne (Ne.symm (by assumption))) ?_; walk_at "hp"))
local macro_rules | `(tactic| walk_at "kx2") => `(tactic| first
  | walk_at "kx1"
  | ((with_reducible refine KX.rd_T ?e ?_); (case e => rfl))
  | ((with_reducible refine KX.rd_F ?e ?_); (case e => rfl))
  | ((with_reducible refine' KX.rd_var ?e ?_); (case e => rfl))
  | ((with_reducible refine' KX.rd_I ?e ?_); (case e => first | assumption | decide | exact Or.inl ⟨by omega, by omega⟩ | exact ⟨by decide, by decide, by decide⟩ | exact ⟨by decide, by decide⟩))
  | ((with_reducible refine' KX.rd_eq ?e ?_); (case e => rfl))
  | ((with_reducible refine' KX.rd_ne ?e ?_); (case e => rfl))
  | ((with_reducible refine' KX.rd_ix ?e ?e2 ?_); (case e => first | assumption | exact SqL.of (by walk_at "hp")); (case e2 => first | assumption | rfl))
  | ((with_reducible refine' KX.rd_len ?e ?_); (case e => first | assumption | exact SqL.of (by walk_at "hp")))
  | ((with_reducible refine' KX.rd_set ?e ?e2 ?_); (case e => walk_at "hp"); (case e2 => rfl)))
local macro_rules | `(tactic| walk_at "kx") => `(tactic| repeat walk_at "kx2")
local macro_rules | `(tactic| walk_at "kx3") => `(tactic| first
  | walk_at "kx2"
  | (with_reducible refine rd_fld2 ?_)
  | ((with_reducible refine' rd_get ?e ?c ?n ?l ?_); (case e => assumption); (case c => assumption); (case n => assumption); (case l => rfl))
  | ((with_reducible refine' rd_p0 ?e ?_); (case e => assumption))
  | ((with_reducible refine' rd_p1 ?e ?_); (case e => assumption))
  | ((with_reducible refine' rd_mulw ?e ?_); (case e => assumption)))
local macro_rules | `(tactic| walk_at "kx4") => `(tactic| with_reducible first
  | refine rd_js_cons ?_ | refine rd_js_nil ?_ | refine rd_fmt ?_ | refine rd_dget ?_ | refine rd_dget2 ?_ | refine rd_dput ?_ | refine rd_rat ?_ | refine rd_bal ?_ | refine rd_forL ?_ | refine rd_sfld ?_ | refine KX.rd_tup ?_ | refine KX.rd_lst ?_ | refine rd_smeth ?_ | refine rd_forT ?_ | refine rd_lcT ?_ | refine rd_lcL ?_ | refine rd_dcT ?_ | refine rd_join ?_ | refine rd_par ?_ | refine rd_sl ?_ | refine rd_part ?_ | refine rd_partI ?_ | refine rd_nopart ?_ | refine rd_revL ?_)
local macro_rules | `(tactic| walk_at "kf") => `(tactic| repeat (first | walk_at "kx3" | walk_at "kx4"))
theorem scLnumber : FnScope ["_law_reel_here", "_law_way"] ["_law_reel_here"] (defScope s_Lnumber) := ⟨rfl, rfl, rfl, by decide +kernel, rfl, by decide +kernel, by decide +kernel⟩
theorem scLthings : FnScope ["_law_reel_here", "_law_many", "_law_pool", "_law_begin", "_law_found"] ["_law_reel_here", "_law_many"] (defScope s_Lthings) := ⟨rfl, rfl, rfl, by decide +kernel, rfl, by decide +kernel, by decide +kernel⟩
section
variable {r : V → Option Int → Option Int → Hp → VK → Prop} {te : TE} {tl th : TO} {σ : L2.St} {H : Hp} {Q : VK} {K : PySem.W.Frag}
theorem rd_sl (q : te σ H fun x H1 => tl σ H1 fun l H2 => th σ H2 fun u H3 => r x l u H3 Q) : tSl r te tl th σ H Q := q
theorem rd_part {Q : Option Int → Hp → Prop} (q : te σ H fun x H1 => ∃ i, x = .int i ∧ Q (some i) H1) : tPart te σ H Q := q
theorem rd_partI {Z : Int → Prop} {i : Int} (q : Z i) : ∃ k, V.int i = .int k ∧ Z k := ⟨i, rfl, q⟩
theorem rd_nopart {Q : Option Int → Hp → Prop} (q : Q none H) : tNoPart σ H Q := q
theorem rd_revL (q : te σ H fun x H1 => ∃ a xs, x = .ref a ∧ SqL K H1 a xs ∧ ∀ p, H1 p = none → Q (.ref p) (upd H1 p (.lst xs.reverse))) : tRevL K te σ H Q := q
theorem rd_slL {a : Addr} {xs : List V} {lo hi : Option Int} (h : H a = some (.lst xs)) (q : ∀ p, H p = none → Q (.ref p) (upd H p (.lst (cutV xs lo hi)))) : rSlL K (.ref a) lo hi H Q := ⟨a, xs, rfl, SqL.of h, q⟩
end
local macro_rules | `(tactic| walk_at "kx4") => `(tactic| with_reducible first
  | refine rd_js_cons ?_ | refine rd_js_nil ?_ | refine rd_fmt ?_ | refine rd_dget ?_ | refine rd_dget2 ?_ | refine rd_dput ?_ | refine rd_rat ?_ | refine rd_bal ?_ | refine rd_forL ?_ | refine rd_sfld ?_ | refine KX.rd_tup ?_ | refine KX.rd_lst ?_ | refine rd_smeth ?_ | refine rd_forT ?_ | refine rd_lcT ?_ | refine rd_lcL ?_ | refine rd_dcT ?_ | refine rd_join ?_ | refine rd_par ?_ | refine rd_sl ?_ | refine rd_part ?_ | refine rd_partI ?_ | refine rd_nopart ?_ | refine rd_revL ?_)
theorem cut_to (zs : List Str) (b : Nat) : cutV (zs.map V.str) none (some (b : Int)) = (zs.take b).map V.str := by
  unfold cutV
  rw [HT.sIx_none, HT.sIx_nat, List.drop_zero, Nat.sub_zero, List.map_take, ← List.take_eq_take_min]
theorem cut_from (zs : List Str) (b : Nat) : cutV (zs.map V.str) (some (b : Int)) none = (zs.drop b).map V.str := by
  unfold cutV
  rw [HT.sIx_none, HT.sIx_nat, List.length_map, List.map_drop]
  by_cases h : b ≤ zs.length
  · rw [Nat.min_eq_left h, List.take_of_length_le (by rw [List.length_drop, List.length_map]; exact Nat.le_refl _)]
  · rw [Nat.min_eq_right (by omega), Nat.sub_self, List.take_zero, List.drop_of_length_le (by rw [List.length_map]; omega)]
theorem den_le {t b : Int} (hb : b ≠ 0) : (Rat.divInt t b).den ≤ b.natAbs := by
  rw [Rat.den_divInt, if_neg hb]
  exact Nat.div_le_self _ _
def pools : List (List Str) := [["a", "b", "c", "d"], ["b9", "a", "aa", "z"], ["x", "less", "ab", "abcdefghij12"]]
theorem pools_ok : ∀ zs ∈ pools, zs.Nodup ∧ zs.length = 4 ∧ ∀ z ∈ zs, NameOk z := by decide +kernel
/-- a list of good names, all different -/
structure NamesL (c : Nat) (zs : List Str) : Prop where
  nodup : zs.Nodup
  ok : ∀ z ∈ zs, NameOk z
  few : zs.length ≤ c
def spNumber : Sp := fun vs H Q _ => ∃ (t : Addr) (n : Nat), vs = [.ref t] ∧ RL n H t ∧ n ≤ 9000 ∧ ∀ v q H', RL (n + 4) H' t → BT t H H' → IsPair H' v q → Bits 84 q → q.den ≤ 15 → Q v H'
def spThings : Sp := fun vs H Q _ => ∃ (t : Addr) (n many : Nat), vs = [.ref t, .int many] ∧ RL n H t ∧ n ≤ 9000 ∧ many ≤ 4 ∧ ∀ l zs H', RL (n + 3) H' t → BT t H H' → H' l = some (.lst (zs.map V.str)) → NamesL 4 zs → l ≠ t → Q (.ref l) H'
theorem pair_int {H : Hp} {p : Addr} {i : Int} (h : H p = some (.tup [.int i, .int 1])) : IsPair H (.ref p) (i : Rat) := ⟨p, rfl, h⟩
theorem rl_tup {n : Nat} {H : Hp} {t : Addr} (h : RL n H t) : ∀ xs, H t ≠ some (.tup xs) := fun xs e => by
  obtain ⟨c, i, j, z⟩ := h.here
  rw [z] at e
  cases e
theorem rl_ne {n : Nat} {H : Hp} {t b : Addr} (h : RL n H t) (hb : H b = none) : b ≠ t := fun e => by
  obtain ⟨c, i, j, z⟩ := h.here
  rw [← e, hb] at z
  cases z
section
variable {P : Program} {w : World} {K : PySem.W.Frag} {mg : Str → Option Value} {base : Heap} {f : Addr} {fd : FuncData} {H : Hp} {Q : VK}
theorem ok_number (F : FunD K "_law_number" "_law_number" (defArgs s_Lnumber) (defBody s_Lnumber) (defScope s_Lnumber) [] [] f fd) (FY : Fy K mg) (CT : Callee P w K mg base 1 "_law_turn" ["_law_reel_here", "_law_many"] spTurn) (CL : Callee P w K mg base 2 "_law_low" ["_law_top", "_law_bottom"] spLow) :
    FnOk P w K mg base CX0 3 f fd ["_law_reel_here"] spNumber := by
  refine F.ok scLnumber (fun vs H Q E h => ?_) (fun cdv A outer s H vs Q E hr h => ?_)
  · obtain ⟨t, _, rfl, _⟩ := h
    rfl
  · obtain ⟨t, n, rfl, T, hn, qq⟩ := h
    refine ⟨_, PSs.nox (pss_cons (ps_set (i := 1) scLnumber.nd rfl (Or.inl rfl) (KX.pe_c CT hr (by decide) rfl (pa_cons (pv 0) (pa_cons pe_int pa_nil))))
  (pss_cons (ps_if (pt_cmpR op_lt (pv 1) pe_int (nomark _)) (pss_one (ps_ret (pe_tup (pa_cons (pe_op op_sub (KX.pe_c CT hr (by decide) rfl (pa_cons (pv 0) (pa_cons pe_int pa_nil))) pe_int) (pa_cons pe_int pa_nil))))) pss_nil)
  (pss_cons (ps_if (pt_cmpR op_lt (pv 1) pe_int (nomark _)) (pss_one (ps_ret (KX.pe_c CL hr (by decide) rfl (pa_cons (pe_op op_sub (KX.pe_c CT hr (by decide) rfl (pa_cons (pv 0) (pa_cons pe_int pa_nil))) pe_int) (pa_cons (pe_op op_add pe_int (KX.pe_c CT hr (by decide) rfl (pa_cons (pv 0) (pa_cons pe_int pa_nil)))) pa_nil))))) pss_nil)
  (pss_cons (ps_if (pt_cmpR op_lt (pv 1) pe_int (nomark _)) (pss_one (ps_ret (KX.pe_c CL hr (by decide) rfl (pa_cons (pe_op op_sub (KX.pe_c CT hr (by decide) rfl (pa_cons (pv 0) (pa_cons pe_int pa_nil))) pe_int) (pa_cons (pe_op op_add pe_int (pe_op op_mul (KX.pe_c CT hr (by decide) rfl (pa_cons (pv 0) (pa_cons pe_int pa_nil))) (pe_callTy KX.c_int (by rfl) (FY.free "int" (by decide +kernel)) (by decide +kernel) (pa_cons (pe_cmpR op_eq (pv 1) pe_int (nomark _)) pa_nil)))) pa_nil))))) pss_nil)
  (pss_one (ps_ret (KX.pe_c CL hr (by decide) rfl (pa_cons (pe_op op_add (pe_op op_mulW (pe_op op_sub (KX.pe_c CT hr (by decide) rfl (pa_cons (pv 0) (pa_cons (pe_op op_pow pe_int pe_int) pa_nil))) pe_int) (pe_op op_pow pe_int pe_int)) (KX.pe_c CT hr (by decide) rfl (pa_cons (pv 0) (pa_cons (pe_op op_pow pe_int pe_int) pa_nil)))) (pa_cons (pe_op op_add pe_int (KX.pe_c CT hr (by decide) rfl (pa_cons (pv 0) (pa_cons pe_int pa_nil)))) pa_nil))))))))), ?_⟩
    walk_at "kf"
    refine ⟨t, n, 9, rfl, T, by omega, by decide, by decide, fun way H1 w0 w1 T1 B1 => ?_⟩
    walk_at "kf"
    refine ite2 (fun e => ?_) (fun e => ?_)
    · walk_at "kf"
      refine ⟨t, n + 1, 7, rfl, T1, by omega, by decide, by decide, fun r H2 r0 r1 T2 B2 => ?_⟩
      walk_at "kf"
      refine ⟨(show (2 : Nat) ≤ sizeLine by decide), fun p hp => ?_⟩
      walk_at "kf"
      refine qq _ ((r - 3 : Int) : Rat) _ ((T2.mono (KX.same_upd hp)).weak (by omega)) ((B1.trans B2).trans (BT.of (KX.same_upd hp))) (pair_int upd_same) (bits_int ?_ (by decide)) ?_
      · exact Nat.lt_of_lt_of_le (show (r - 3).natAbs < 2 ^ 10 by omega) (Nat.pow_le_pow_right (by decide) (by decide))
      · rw [Rat.den_intCast]
        decide
    walk_at "kf"
    refine ite2 (fun e => ?_) (fun e => ?_)
    · walk_at "kf"
      refine ⟨t, n + 1, 13, rfl, T1, by omega, by decide, by decide, fun r H2 r0 r1 T2 B2 => ?_⟩
      walk_at "kf"
      refine ⟨t, n + 2, 6, rfl, T2, by omega, by decide, by decide, fun u H3 u0 u1 T3 B3 => ?_⟩
      walk_at "kf"
      refine ⟨_, _, rfl, by omega, Nat.lt_of_lt_of_le (show (1 + u).natAbs < 2 ^ 10 by omega) (Nat.pow_le_pow_right (by decide) (by decide)), fun v H4 k4 hv => ?_⟩
      walk_at "kf"
      refine qq v _ H4 ((T3.mono k4).weak (by omega)) (((B1.trans B2).trans B3).trans (BT.of k4)) hv (bits_divInt (by omega) ?_ ?_) (Nat.le_trans (den_le (by omega)) (by omega))
      · exact Nat.lt_of_lt_of_le (show (r - 6).natAbs < 2 ^ 10 by omega) (Nat.pow_le_pow_right (by decide) (by decide))
      · exact Nat.lt_of_lt_of_le (show (1 + u).natAbs < 2 ^ 10 by omega) (Nat.pow_le_pow_right (by decide) (by decide))
    walk_at "kf"
    refine ite2 (fun e => ?_) (fun e => ?_)
    · walk_at "kf"
      refine ⟨t, n + 1, 199, rfl, T1, by omega, by decide, by decide, fun r H2 r0 r1 T2 B2 => ?_⟩
      walk_at "kf"
      refine ⟨t, n + 2, 15, rfl, T2, by omega, by decide, by decide, fun u H3 u0 u1 T3 B3 => ?_⟩
      walk_at "kf"
      obtain ⟨d, hd, d0, d1⟩ : ∃ d : Int, 1 + u * (if decide (V.int way = V.int 7) = true then 1 else 0) = d ∧ 1 ≤ d ∧ d ≤ 15 := by
        by_cases z : decide (V.int way = V.int 7) = true
        · rw [if_pos z]
          exact ⟨_, rfl, by omega, by omega⟩
        · rw [if_neg z]
          exact ⟨_, rfl, by omega, by omega⟩
      refine ⟨_, d, congrArg (fun z => [V.int (r - 99), V.int z]) hd, by omega, Nat.lt_of_lt_of_le (show d.natAbs < 2 ^ 10 by omega) (Nat.pow_le_pow_right (by decide) (by decide)), fun v H4 k4 hv => ?_⟩
      walk_at "kf"
      refine qq v _ H4 ((T3.mono k4).weak (by omega)) (((B1.trans B2).trans B3).trans (BT.of k4)) hv (bits_divInt (by omega) ?_ ?_) (Nat.le_trans (den_le (by omega)) (by omega))
      · exact Nat.lt_of_lt_of_le (show (r - 99).natAbs < 2 ^ 10 by omega) (Nat.pow_le_pow_right (by decide) (by decide))
      · exact Nat.lt_of_lt_of_le (show d.natAbs < 2 ^ 10 by omega) (Nat.pow_le_pow_right (by decide) (by decide))
    walk_at "kf"
    refine ⟨t, n + 1, _, rfl, T1, by omega, by decide, by decide, fun r H2 r0 r1 T2 B2 => ?_⟩
    have e7 : ((10 : Int) ^ (Int.toNat 7)) = 10000000 := by decide
    rw [e7] at r1
    have e17 : ((10 : Int) ^ (Int.toNat 17)) = 100000000000000000 := by decide
    have mw : CMulW (r - 5000000) ((10 : Int) ^ (Int.toNat 17)) := by
      rw [e17]
      exact wide_mul (a := 24) (b := 57) (by omega) (by decide) (by decide) (by decide) (by decide)
    walk_at "kf"
    refine ⟨t, n + 2, _, rfl, T2, by omega, by decide, by decide, fun u H3 u0 u1 T3 B3 => ?_⟩
    rw [e7] at u1
    walk_at "kf"
    refine ⟨t, n + 3, 3, rfl, T3, by omega, by decide, by decide, fun y H4 y0 y1 T4 B4 => ?_⟩
    walk_at "kf"
    refine ⟨_, _, rfl, by omega, Nat.lt_of_lt_of_le (show (1 + y).natAbs < 2 ^ 10 by omega) (Nat.pow_le_pow_right (by decide) (by decide)), fun v H5 k5 hv => ?_⟩
    walk_at "kf"
    refine qq v _ H5 ((T4.mono k5).weak (by omega)) ((((B1.trans B2).trans B3).trans B4).trans (BT.of k5)) hv (bits_divInt (by omega) ?_ ?_) (Nat.le_trans (den_le (by omega)) (by omega))
    · rw [e17]
      omega
    · exact Nat.lt_of_lt_of_le (show (1 + y).natAbs < 2 ^ 10 by omega) (Nat.pow_le_pow_right (by decide) (by decide))
theorem ok_things (F : FunD K "_law_things" "_law_things" (defArgs s_Lthings) (defBody s_Lthings) (defScope s_Lthings) [] [] f fd) (FY : Fy K mg) (CT : Callee P w K mg base 1 "_law_turn" ["_law_reel_here", "_law_many"] spTurn) (CP : Callee P w K mg base 2 "_law_pick" ["_law_reel_here", "_law_some"] spPick) :
    FnOk P w K mg base CX0 3 f fd ["_law_reel_here", "_law_many"] spThings := by
  refine F.ok scLthings (fun vs H Q E h => ?_) (fun cdv A outer s H vs Q E hr h => ?_)
  · obtain ⟨t, _, _, rfl, _⟩ := h
    rfl
  · obtain ⟨t, n, many, rfl, T, hn, hm, qq⟩ := h
    refine ⟨_, PSs.nox (pss_cons (ps_set (i := 2) scLthings.nd rfl (Or.inl rfl) (KX.pe_c CP hr (by decide) rfl (pa_cons (pv 0) (pa_cons (pe_lst (pa_cons (pe_lst (pa_cons pe_str (pa_cons pe_str (pa_cons pe_str (pa_cons pe_str pa_nil))))) (pa_cons (pe_lst (pa_cons pe_str (pa_cons pe_str (pa_cons pe_str (pa_cons pe_str pa_nil))))) (pa_cons (pe_lst (pa_cons pe_str (pa_cons pe_str (pa_cons pe_str (pa_cons pe_str pa_nil))))) pa_nil)))) pa_nil))))
  (pss_cons (ps_set (i := 3) scLthings.nd rfl (Or.inl rfl) (KX.pe_c CT hr (by decide) rfl (pa_cons (pv 0) (pa_cons pe_int pa_nil))))
  (pss_cons (ps_set (i := 4) scLthings.nd rfl (Or.inl rfl) (pe_slice sl_list (pe_op op_cat (pe_slice sl_list (pv 2) (po_some (pv 3)) po_none) (pe_slice sl_list (pv 2) po_none (po_some (pv 3)))) po_none (po_some (pv 1))))
  (pss_one (ps_ret (pe_ifExp (pt_cmpR op_eq (KX.pe_c CT hr (by decide) rfl (pa_cons (pv 0) (pa_cons pe_int pa_nil))) pe_int (nomark _)) (pe_revL (pv 4)) (pv 4))))))), ?_⟩
    have l4 : (4 : Nat) ≤ sizeLine := by decide
    have l3 : (3 : Nat) ≤ sizeLine := by decide
    walk_at "kf"
    refine ⟨l4, fun p1 h1 => ?_⟩
    walk_at "kf"
    refine ⟨l4, fun p2 h2 => ?_⟩
    walk_at "kf"
    refine ⟨l4, fun p3 h3 => ?_⟩
    walk_at "kf"
    refine ⟨l3, fun p4 h4 => ?_⟩
    have k1 := KX.same_upd (o := .lst [.str "a", .str "b", .str "c", .str "d"]) h1
    have k2 := KX.same_upd (o := .lst [.str "b9", .str "a", .str "aa", .str "z"]) h2
    have k3 := KX.same_upd (o := .lst [.str "x", .str "less", .str "ab", .str "abcdefghij12"]) h3
    have k4 := KX.same_upd (o := .lst [.ref p1, .ref p2, .ref p3]) h4
    have kk := ((k1.trans k2).trans k3).trans k4
    have g1 := k4 _ _ (k3 _ _ (k2 _ _ (show (upd H p1 (.lst [.str "a", .str "b", .str "c", .str "d"])) p1 = _ from upd_same)))
    have g2 := k4 _ _ (k3 _ _ (show (upd (upd H p1 (.lst [.str "a", .str "b", .str "c", .str "d"])) p2 (.lst [.str "b9", .str "a", .str "aa", .str "z"])) p2 = _ from upd_same))
    have g3 := k4 _ _ (show (upd (upd (upd H p1 (.lst [.str "a", .str "b", .str "c", .str "d"])) p2 (.lst [.str "b9", .str "a", .str "aa", .str "z"])) p3 (.lst [.str "x", .str "less", .str "ab", .str "abcdefghij12"])) p3 = _ from upd_same)
    have g4 : (upd (upd (upd (upd H p1 (.lst [.str "a", .str "b", .str "c", .str "d"])) p2 (.lst [.str "b9", .str "a", .str "aa", .str "z"])) p3 (.lst [.str "x", .str "less", .str "ab", .str "abcdefghij12"])) p4 (.lst [.ref p1, .ref p2, .ref p3])) p4 = some (.lst [.ref p1, .ref p2, .ref p3]) := upd_same
    have n1 := rl_ne T h1
    have n2 := rl_ne (T.mono k1) h2
    have n3 := rl_ne ((T.mono k1).mono k2) h3
    have n4 := rl_ne (((T.mono k1).mono k2).mono k3) h4
    have T0 := T.mono kk
    have pk : ∀ x ∈ [V.ref p1, V.ref p2, V.ref p3], ∃ pl zs, x = .ref pl ∧ zs ∈ pools ∧ pl ≠ t ∧ (upd (upd (upd (upd H p1 (.lst [.str "a", .str "b", .str "c", .str "d"])) p2 (.lst [.str "b9", .str "a", .str "aa", .str "z"])) p3 (.lst [.str "x", .str "less", .str "ab", .str "abcdefghij12"])) p4 (.lst [.ref p1, .ref p2, .ref p3])) pl = some (.lst (zs.map V.str)) := by
      intro x hx
      simp only [List.mem_cons, List.not_mem_nil, or_false] at hx
      rcases hx with rfl | rfl | rfl
      · exact ⟨p1, _, rfl, List.mem_cons_self .., n1, g1⟩
      · exact ⟨p2, _, rfl, List.mem_cons_of_mem _ (List.mem_cons_self ..), n2, g2⟩
      · exact ⟨p3, _, rfl, List.mem_cons_of_mem _ (List.mem_cons_of_mem _ (List.mem_cons_self ..)), n3, g3⟩
    generalize (upd (upd (upd (upd H p1 (.lst [.str "a", .str "b", .str "c", .str "d"])) p2 (.lst [.str "b9", .str "a", .str "aa", .str "z"])) p3 (.lst [.str "x", .str "less", .str "ab", .str "abcdefghij12"])) p4 (.lst [.ref p1, .ref p2, .ref p3])) = H0 at kk g4 T0 pk ⊢
    clear k1 k2 k3 k4 g1 g2 g3 h1 h2 h3 h4 n1 n2 n3
    walk_at "kf"
    refine ⟨t, p4, n, _, rfl, T0, by omega, n4, g4, by simp, (show (3 : Nat) ≤ 1000 by decide), fun x H1 hx T1 B1 => ?_⟩
    obtain ⟨pl, zs, rfl, hzs, npl, hpl⟩ := pk x hx
    obtain ⟨nd, len4, oks⟩ := pools_ok zs hzs
    have hpl1 := B1 _ _ npl hpl
    walk_at "kf"
    refine ⟨t, n + 1, 4, rfl, T1, by omega, by decide, by decide, fun b H2 b0 b1 T2 B2 => ?_⟩
    obtain ⟨b, rfl⟩ := Int.eq_ofNat_of_zero_le b0
    have hpl2 := B2 _ _ npl hpl1
    walk_at "kf"
    refine rd_slL hpl2 fun q1 hq1 => ?_
    rw [cut_from]
    have hpl3 := KX.same_upd (o := .lst ((zs.drop b).map V.str)) hq1 _ _ hpl2
    walk_at "kf"
    refine rd_slL hpl3 fun q2 hq2 => ?_
    rw [cut_to]
    have nq : q1 ≠ q2 := ne_of_none upd_same hq2
    refine ⟨q1, q2, (zs.drop b).map V.str, (zs.take b).map V.str, rfl, rfl, by rw [upd_ne nq, upd_same], upd_same, by rw [List.length_map, List.length_map, List.length_drop, List.length_take]; exact Nat.le_trans (show _ ≤ 8 by omega) (by decide), fun q3 hq3 => ?_⟩
    rw [← List.map_append]
    walk_at "kf"
    refine rd_slL upd_same fun q4 hq4 => ?_
    rw [cut_to]
    have kx := (((KX.same_upd (o := .lst ((zs.drop b).map V.str)) hq1).trans (KX.same_upd (o := .lst ((zs.take b).map V.str)) hq2)).trans (KX.same_upd (o := .lst ((zs.drop b ++ zs.take b).map V.str)) hq3)).trans (KX.same_upd (o := .lst (((zs.drop b ++ zs.take b).take many).map V.str)) hq4)
    have n4' := rl_ne (T2.mono (((KX.same_upd (o := .lst ((zs.drop b).map V.str)) hq1).trans (KX.same_upd (o := .lst ((zs.take b).map V.str)) hq2)).trans (KX.same_upd (o := .lst ((zs.drop b ++ zs.take b).map V.str)) hq3))) hq4
    have e4 : (upd (upd (upd (upd H2 q1 (.lst ((zs.drop b).map V.str))) q2 (.lst ((zs.take b).map V.str))) q3 (.lst ((zs.drop b ++ zs.take b).map V.str))) q4 (.lst (((zs.drop b ++ zs.take b).take many).map V.str))) q4 = some (.lst (((zs.drop b ++ zs.take b).take many).map V.str)) := upd_same
    generalize (upd (upd (upd (upd H2 q1 (.lst ((zs.drop b).map V.str))) q2 (.lst ((zs.take b).map V.str))) q3 (.lst ((zs.drop b ++ zs.take b).map V.str))) q4 (.lst (((zs.drop b ++ zs.take b).take many).map V.str))) = H3 at kx e4 ⊢
    have NL : NamesL 4 ((zs.drop b ++ zs.take b).take many) := by
      have pm : (zs.drop b ++ zs.take b).Perm zs := (List.perm_append_comm).trans (by rw [List.take_append_drop])
      refine ⟨(pm.nodup_iff.mpr nd).sublist (List.take_sublist ..), fun z hz => oks z (pm.mem_iff.mp (List.mem_of_mem_take hz)), ?_⟩
      exact Nat.le_trans (List.length_take_le ..) hm
    have T3 := T2.mono kx
    have B3 := ((BT.of (t := t) kk).trans B1).trans (B2.trans (BT.of (t := t) kx))
    walk_at "kf"
    refine ⟨t, n + 2, 2, rfl, T3, by omega, by decide, by decide, fun y H4 y0 y1 T4 B4 => ?_⟩
    have e5 := B4 _ _ n4' e4
    walk_at "kf"
    refine ite2 (fun e => ?_) (fun e => ?_)
    · walk_at "kf"
      refine ⟨q4, _, rfl, SqL.of e5, fun q5 hq5 => ?_⟩
      walk_at "kf"
      refine qq q5 _ _ (T4.mono (KX.same_upd hq5)) ((B3.trans B4).trans (BT.of (KX.same_upd hq5))) (by rw [upd_same, ← List.map_reverse]) ?_ (rl_ne T4 hq5)
      exact ⟨(List.reverse_perm _).nodup_iff.mpr NL.nodup, fun z hz => NL.ok z (List.mem_reverse.mp hz), by rw [List.length_reverse]; exact NL.few⟩
    · walk_at "kf"
      exact qq q4 _ _ T4 (B3.trans B4) e5 NL n4'
end

end K5
namespace K5
open PySem PySem.Spec PyProof.Rows L2 KY PySem.W
local macro_rules | `(tactic| walk_at "kx1") => `(tactic| with_reducible first
  | refine KX.rd_seq ?_ | refine KX.rd_asg ?_ | refine KX.rd_op ?_ | refine KX.rd_c ?_ | refine KX.rd_cb ?_ | refine KX.rd_cons ?_ | refine KX.rd_nil ?_ | refine KX.rd_un ?_ | refine KX.rd_nx ?_ | refine KX.rd_rt ?_ | refine KX.rd_next ?_ | refine KX.rd_ret ?_
  | refine KX.rd_ifs ?_ | refine KX.rd_if ?_ | refine KX.rd_test ?_ | refine KX.rd_B ?_ | refine KX.rd_bl ?_ | refine KX.rd_and ?_ | refine KX.rd_or ?_ | refine KX.rd_not ?_ | refine KX.rd_I0 ?_ | refine KX.rd_U ?_ | refine KX.rd_int ?_ | refine KX.rd_intB ?_ | refine KX.rd_abs ?_
  | refine KX.rd_gname ?_ | refine KX.rd_gsub ?_ | refine KX.rd_call ?_ | refine KX.rd_drop ?_ | refine KX.rd_yes ?_ | refine KX.rd_andV ?_ | refine KX.rd_orV ?_ | refine KX.rd_notV ?_)
local macro_rules | `(tactic| walk_at "hp") => `(tactic| first
  | assumption
  | exact upd_same
  | (refine Eq.trans (upd_ne (by assumption)) ?_; walk_at "hp")
  | (refine Eq.trans (upd_ne (Ne.symm (by assumption))) ?_; walk_at "hp"))
local macro_rules | `(tactic| walk_at "kx2") => `(tactic| first
  | walk_at "kx1"
  | ((with_reducible refine KX.rd_T ?e ?_); (case e => rfl))
  | ((with_reducible refine KX.rd_F ?e ?_); (case e => rfl))
  | ((with_reducible refine' KX.rd_var ?e ?_); (case e => rfl))
  | ((with_reducible refine' KX.rd_I ?e ?_); (case e => first | assumption | decide | exact Or.inl ⟨by omega, by omega⟩ | exact ⟨by decide, by decide, by decide⟩ | exact ⟨by decide, by decide⟩))
  | ((with_reducible refine' KX.rd_eq ?e ?_); (case e => rfl))
  | ((with_reducible refine' KX.rd_ne ?e ?_); (case e => rfl))
  | ((with_reducible refine' KX.rd_ix ?e ?e2 ?_); (case e => first | assumption | exact SqL.of (by walk_at "hp")); (case e2 => first | assumption | rfl))
  | ((with_reducible refine' KX.rd_len ?e ?_); (case e => first | assumption | exact SqL.of (by walk_at "hp")))
  | ((with_reducible refine' KX.rd_set ?e ?e2 ?_); (case e => walk_at "hp"); (case e2 => rfl)))
local macro_rules | `(tactic| walk_at "kx") => `(tactic| repeat walk_at "kx2")
local macro_rules | `(tactic| walk_at "kx3") => `(tactic| first
  | walk_at "kx2"
  | (with_reducible refine rd_fld2 ?_)
  | ((with_reducible refine' rd_get ?e ?c ?n ?l ?_); (case e => assumption); (case c => assumption); (case n => assumption); (case l => rfl))
  | ((with_reducible refine' rd_p0 ?e ?_); (case e => assumption))
  | ((with_reducible refine' rd_p1 ?e ?_); (case e => assumption))
  | ((with_reducible refine' rd_mulw ?e ?_); (case e => assumption)))
local macro_rules | `(tactic| walk_at "kx4") => `(tactic| with_reducible first
  | refine rd_js_cons ?_ | refine rd_js_nil ?_ | refine rd_fmt ?_ | refine rd_dget ?_ | refine rd_dget2 ?_ | refine rd_dput ?_ | refine rd_rat ?_ | refine rd_bal ?_ | refine rd_forL ?_ | refine rd_sfld ?_ | refine KX.rd_tup ?_ | refine KX.rd_lst ?_ | refine rd_smeth ?_ | refine rd_forT ?_ | refine rd_lcT ?_ | refine rd_lcL ?_ | refine rd_dcT ?_ | refine rd_join ?_ | refine rd_par ?_ | refine rd_sl ?_ | refine rd_part ?_ | refine rd_partI ?_ | refine rd_nopart ?_ | refine rd_revL ?_)
local macro_rules | `(tactic| walk_at "kf") => `(tactic| repeat (first | walk_at "kx3" | walk_at "kx4"))
abbrev nmscLnamed : List Str := ["_law_plain", "_law_thing"]
abbrev nmscLtold : List Str := ["_law_plain", "_law_words", "_law_thing"]
theorem scLnamed : FnScope nmscLnamed ["_law_plain"] (defScope s_Lnamed) := ⟨rfl, rfl, rfl, by decide +kernel, rfl, by decide +kernel, by decide +kernel⟩
theorem scLtold : FnScope nmscLtold ["_law_plain"] (defScope s_Ltold) := ⟨rfl, rfl, rfl, by decide +kernel, rfl, by decide +kernel, by decide +kernel⟩
theorem scLratio : FnScope ["_law_reel_here", "_law_pair", "_law_times"] ["_law_reel_here", "_law_pair"] (defScope s_Lratio) := ⟨rfl, rfl, rfl, by decide +kernel, rfl, by decide +kernel, by decide +kernel⟩
def rCatSt : R2 := fun x y H Q => ∃ i j, x = .str i ∧ y = .str j ∧ i.length + j.length ≤ sizeLine ∧ Q (.str (i ++ j)) H
theorem op_catSt {X : Cx} : OpR X (binaryOp .Add) rCatSt := op_add_str
section
variable {K : PySem.W.Frag} {σ : L2.St} {H : Hp} {Q : VK} {d : Addr} {ks : List (Key × V)} {g : TG} {tt : TT} {te : TE} {vs : List Nat}
theorem rd_catSt {i j : Str} (l : i.length + j.length ≤ sizeLine) (q : Q (.str (i ++ j)) H) : rCatSt (.str i) (.str j) H Q := ⟨i, j, rfl, rfl, l, q⟩
/-- a comprehension over a dict's keys, the items told ahead -/
theorem rd_keysK {i : Nat} (e : σ[i]? = some (some (.ref d))) (hd : H d = some (.dK ks)) (out : Nat → Option V) (small : ks.length ≤ 1000)
    (step : ∀ od j k v H2, ks[j]? = some (k, v) → (∀ b o, b ≠ d → H b = some o → H2 b = some o) → H2 d = some (.frz od (.dK ks)) → ∀ (Qe : VK) (Pz : Hp → Prop), (∀ H5 y, out j = some y → Same H2 H5 → Qe y H5) → (∀ H5, out j = none → Same H2 H5 → Pz H5) →
      g (kV k) (wipe σ vs) H2 fun σ2 H3 => wipe σ2 vs = wipe σ vs ∧ tt σ2 H3 fun b H4 => if b = true then te σ2 H4 Qe else Pz H4)
    (done : ∀ D H2, H D = none → Same H H2 → H2 D = some (.lst (accOf out ks.length)) → Q (.ref D) H2) : tLockE (tLc (iKeys (tVar i)) g tt te vs) σ H Q := by
  refine ⟨d, _, hd, True.intro, fun od => ?_⟩
  have lk : ∀ b o, b ≠ d → H b = some o → (upd H d (.frz od (.dK ks))) b = some o := fun b o n z => by rw [upd_ne n]; exact z
  have lkd : (upd H d (.frz od (.dK ks))) d = some (.frz od (.dK ks)) := upd_same
  have lkn : ∀ b, (upd H d (.frz od (.dK ks))) b = none → H b = none := fun b z => by
    by_cases n : b = d
    · rw [n, lkd] at z
      cases z
    · rwa [upd_ne n] at z
  generalize (upd H d (.frz od (.dK ks))) = L at lk lkd lkn ⊢
  refine ⟨.ref d, e, d, od, rfl, .inl ⟨ks, lkd, ?_⟩⟩
  refine lc_known walk_keys (fun H2 k2 => k2 _ _ lkd) out small (fun j x H2 H' hj k2 hy Qe Pz h1 h2 => ?_) (fun D H2 hD k2 hd2 => ?_)
  · obtain ⟨rfl, k, v, hkv, rfl⟩ := hy
    exact step od j k v _ hkv (fun b o n z => k2 _ _ (lk b o n z)) (k2 _ _ lkd) Qe Pz h1 h2
  · have nD : D ≠ d := fun z => by
      rw [z, lkd] at hD
      cases hD
    refine ⟨k2 _ _ lkd, done D _ (lkn D hD) (fun b o z => ?_) (by rw [upd_ne nD]; exact hd2)⟩
    by_cases n : b = d
    · subst n
      rw [upd_same, ← z, hd]
    · rw [upd_ne n]
      exact k2 _ _ (lk b o n z)
end
theorem accOf_bind (zs : List Str) (f : Str → Option V) : ∀ i, i ≤ zs.length → accOf (fun i => (zs[i]?).bind f) i = (zs.take i).filterMap f
  | 0, _ => rfl
  | i + 1, h => by
    have hi : i < zs.length := h
    rw [accOf_succ, accOf_bind zs f i (by omega), List.take_succ, List.filterMap_append, List.getElem?_eq_getElem hi]
    congr 1
theorem keepers (h : Str → Rat) (zs : List Str) : zs.filterMap (fun z => if h z = 0 then none else some (V.str z)) = (zs.filter fun z => decide (h z ≠ 0)).map V.str := by
  induction zs with
  | nil => rfl
  | cons z r ih =>
    by_cases e : h z = 0
    · rw [List.filter_cons_of_neg (by simpa using e), ← ih, List.filterMap_cons, if_pos e]
    · rw [List.filter_cons_of_pos (by simpa using e), List.map_cons, ← ih, List.filterMap_cons, if_neg e]
/-- a plain balance: a dict from names to pairs -/
structure Plain (H : Hp) (d : Addr) (h : Str → Rat) (c n : Nat) : Prop where
  has : ∃ ks, H d = some (.dK ks) ∧ DF RPair H ks h c
  bits : ∀ z, Bits n (h z)
theorem Plain.mono {H H' : Hp} {d : Addr} {h : Str → Rat} {c n : Nat} (p : Plain H d h c n) (k : Same H H') : Plain H' d h c n := by
  obtain ⟨ks, h1, h2⟩ := p.has
  exact ⟨⟨ks, k _ _ h1, h2.mono fun v q r => r.mono k⟩, p.bits⟩
def spNamed : Sp := fun vs H Q _ => ∃ d h c n m, vs = [.ref d] ∧ Plain H d h c n ∧ c < 60 ∧ Canon m ∧ (∀ z, valM m z = h z) ∧ ∀ p H', Same H H' → H p = none → H' p = some (.lst (m.map fun p => V.str p.1)) → Q (.ref p) H'
def spTold : Sp := fun vs H Q _ => ∃ d h c n m, vs = [.ref d] ∧ Plain H d h c n ∧ c < 60 ∧ n ≤ 1900 ∧ Canon m ∧ (∀ z, valM m z = h z) ∧ ∀ H', Same H H' → Q (.str (balT m)) H'
def spRatio2 (K : PySem.W.Frag) : Sp := fun vs H Q _ => ∃ (t : Addr) (v : V) (q : Rat) (n a : Nat), vs = [.ref t, v] ∧ RL n H t ∧ n ≤ 9000 ∧ IsPair H v q ∧ Bits a q ∧ a ≤ 6900 ∧ ∀ v' H', RL (n + 2) H' t → BT t H H' → NumV (cR K) H' v' q → Q v' H'
theorem plain_names {H : Hp} {d : Addr} {h : Str → Rat} {c n : Nat} {m : Lst} (p : Plain H d h c n) (cm : Canon m) (ev : ∀ z, valM m z = h z) : ∀ p ∈ m, NameOk p.1 := by
  intro q hq
  obtain ⟨ks, _, D⟩ := p.has
  have nz : h q.1 ≠ 0 := by
    rw [← ev, valM_mem cm.nodup hq]
    exact cm.nz q hq
  have hm : q.1 ∈ keysS ks := Classical.byContradiction fun x => nz (D.keysOut x)
  obtain ⟨v, _, _, ok⟩ := D.keysIn hm
  exact ok
theorem plain_few {H : Hp} {d : Addr} {h : Str → Rat} {c n : Nat} {m : Lst} (p : Plain H d h c n) (cm : Canon m) (ev : ∀ z, valM m z = h z) : m.length ≤ c := by
  obtain ⟨ks, _, D⟩ := p.has
  have pm := cm.perm (zs := keysS ks) D.keysNd (fun z x => by rw [ev]; exact D.keysOut x)
  have l := pm.length_eq
  rw [List.length_map] at l
  rw [l]
  exact Nat.le_trans (List.length_filter_le ..) (by rw [D.keysLen]; exact D.few)
theorem eqv_pair (a b c d : Int) : PyData.eqv (.tuple [.int a, .int b]) (.tuple [.int c, .int d]) = (decide (a = c) && decide (b = d)) := by
  simp only [PyData.eqv, PyData.eqvAll, Bool.and_true]
  rw [Bool.eq_iff_iff]
  simp
theorem shaped_pair (a b : Int) : SeqAt.shaped (.tuple [.int a, .int b]) = true := rfl
theorem empty_app (z : Str) : Str.empty ++ z = z := by
  cases z with
  | mk a => 
    show Str.append ⟨#[]⟩ ⟨a⟩ = ⟨a⟩
    unfold Str.append
    simp
theorem pairT_eq (q : Rat) : pairT q = ratT q := by
  unfold pairT ratT
  rw [empty_app]
theorem strOk_of (s : String) : PyData.strOk (Str.ofString s) = true := by
  rw [Str.ofString_eq_toList]
  unfold PyData.strOk
  rw [Array.all_eq_true']
  intro c hc
  simp only [List.mem_toArray, List.mem_map] at hc
  obtain ⟨x, _, rfl⟩ := hc
  refine decide_eq_true ?_
  have h := x.valid
  rcases h with h | ⟨_, h⟩
  · exact Nat.lt_trans h (by decide)
  · exact h
theorem strOk_app {a b : Str} (h : PyData.strOk a = true) (g : PyData.strOk b = true) : PyData.strOk (a ++ b) = true := by
  unfold PyData.strOk at h g ⊢
  show (a.cps ++ b.cps).all _ = true
  rw [Array.all_append, h, g]
  rfl
theorem ratT_strOk (q : Rat) : PyData.strOk (ratT q) = true := by
  unfold ratT
  split
  · exact strOk_of _
  · exact strOk_app (strOk_app (strOk_app (by decide +kernel) (strOk_of _)) (strOk_of _)) (strOk_of _)
theorem term_strOk {q : Rat} {z : Str} (h : NameOk z) : PyData.strOk (termT q z) = true := by
  unfold termT
  split
  · exact name_strOk h
  · exact strOk_app (strOk_app (strOk_app (by decide +kernel) (ratT_strOk q)) (strOk_of _)) (name_strOk h)
theorem termT_of (q : Rat) (z : Str) : termT q z = if (decide (q.num = 1) && decide ((q.den : Int) = 1)) = true then z else pairT q ++ " " ++ z := by
  unfold termT
  rw [empty_app, pairT_eq]
  by_cases h : q = 1
  · subst h
    rfl
  · rw [if_neg h, if_neg]
    intro e
    rw [Bool.and_eq_true, decide_eq_true_iff, decide_eq_true_iff] at e
    exact h (Rat.ext e.1 (by have := e.2; show q.den = 1; omega))
section
variable {P : Program} {w : World} {K : PySem.W.Frag} {mg : Str → Option Value} {base : Heap} {f : Addr} {fd : FuncData} {H : Hp} {Q : VK}
theorem ok_named (F : FunD K "_law_named" "_law_named" (defArgs s_Lnamed) (defBody s_Lnamed) (defScope s_Lnamed) [] [] f fd) (FY : Fy K mg) : FnOk P w K mg base CX0 1 f fd ["_law_plain"] spNamed := by
  refine F.ok scLnamed (fun vs H Q E h => ?_) (fun cdv A outer s H vs Q E hr h => ?_)
  · obtain ⟨d, _, _, _, _, rfl, _⟩ := h
    rfl
  · obtain ⟨d, h, c, n, m, rfl, ⟨⟨ks, hd, D⟩, _⟩, lc, cm, ev, qq⟩ := h
    have lf := D.few
    have lk := D.keysLen
    refine ⟨_, PSs.nox (pss_one (ps_ret (pe_callB cr_sortedS (by rfl) (FY.free "sorted" (by decide +kernel)) (by decide +kernel) (pa_cons (pe_lock (pe_lc (own := [("_law_thing", 1)]) (g := gName 1) (tt := tTest (tOp rNe (tOp (rIxT K) (tDGet (tVar 0) (tVar 1)) (tC (.int 0))) (tC (.int 0)))) rfl scLnamed.nd (pi_keys (pv 0)) (blkOk_by (N := nmscLnamed) (sc := defScope s_Lnamed) (by decide +kernel)) (fun _ _ _ _ _ => pg_name (i := 1) scLnamed.nd rfl (Or.inl rfl)) (fun _ _ _ _ _ => pts_one (by exact (pt_cmpR op_ne (pe_ix ix_tup (pe_dget (hu_of hr) (pv 0) (pv 1) (fun _ _ => rfl)) pe_int (fun _ _ => rfl)) pe_int (nomark _)))) (fun _ _ _ _ _ => by exact (pe_callTy SkE.call_str_str (by rfl) (FY.free "str" (by decide +kernel)) (by decide +kernel) (pa_cons (pv 1) pa_nil))))) pa_nil)))), ?_⟩
    walk_at "kf"
    refine rd_keysK rfl hd (fun i => ((keysS ks)[i]?).bind fun z => if h z = 0 then none else some (V.str z)) (by omega) (fun od j k v H2 hj ko hfz Qe Pz h1 h2 => ?_) (fun L H2 hL k2 hl => ?_)
    · obtain ⟨z, rfl, hz, hm⟩ := D.keyAt hj
      obtain ⟨v2, hv2, r2, ok⟩ := D.keysIn hm
      obtain ⟨a, rfl, ha⟩ := r2
      have ha2 : H2 a = some (.tup [.int (h z).num, .int (h z).den]) := ko _ _ (fun e => by rw [e, hd] at ha; cases ha) ha
      rw [hz] at h1 h2
      refine ⟨rfl, ?_⟩
      walk_at "kf"
      refine ⟨d, _, rfl, .inl ⟨ks, .inr z, .inr ⟨od, hfz⟩, rfl, hv2.symm⟩, ?_⟩
      walk_at "kf"
      by_cases e : h z = 0
      · refine KX.rd_F ?_ (h2 _ (by show (if h z = 0 then none else some (V.str z)) = none; rw [if_pos e]) (Same.refl _))
        rw [e]
        rfl
      · refine KX.rd_T ?_ ?_
        · rw [decide_eq_false]
          · rfl
          · intro x
            injection x with x
            exact e (Rat.num_eq_zero.mp x)
        walk_at "kf"
        exact ⟨z, rfl, h1 _ _ (by show (if h z = 0 then none else some (V.str z)) = _; rw [if_neg e]) (Same.refl _)⟩
    · rw [← lk, accOf_bind _ _ _ (Nat.le_refl _), List.take_length, keepers] at hl
      walk_at "kf"
      refine ⟨L, (keysS ks).filter fun z => decide (h z ≠ 0), rfl, SqL.of hl, ?_, fun ys p pm st hp => ?_⟩
      · exact Nat.lt_of_le_of_lt (List.length_filter_le ..) (by omega)
      · have e : ys = m.map Prod.fst := by
          refine sorted_unique (pm.trans ?_) st cm.sorted
          refine List.Perm.symm ?_
          have z := cm.perm (zs := keysS ks) D.keysNd (fun z x => by rw [ev]; exact D.keysOut x)
          have ef : (fun z => decide (valM m z ≠ 0)) = fun z => decide (h z ≠ 0) := funext fun z => by rw [ev]
          rw [ef] at z
          exact z
        walk_at "kf"
        refine qq p _ (k2.trans (KX.same_upd hp)) (Same.free k2 hp) ?_
        rw [upd_same, e, List.map_map]
        rfl
theorem ok_told (F : FunD K "_law_told" "_law_told" (defArgs s_Ltold) (defBody s_Ltold) (defScope s_Ltold) [] [] f fd) (FY : Fy K mg) (CNM : Callee P w K mg base 1 "_law_named" ["_law_plain"] spNamed) (CX : Callee P w K mg base 1 "_law_text" ["_law_pair"] spText2) : FnOk P w K mg base CX0 2 f fd ["_law_plain"] spTold := by
  refine F.ok scLtold (fun vs H Q E h => ?_) (fun cdv A outer s H vs Q E hr h => ?_)
  · obtain ⟨d, _, _, _, _, rfl, _⟩ := h
    rfl
  · obtain ⟨d, h, c, n, m, rfl, pl, lc, ln, cm, ev, qq⟩ := h
    have oks := plain_names pl cm ev
    have lf := plain_few pl cm ev
    refine ⟨_, PSs.nox (pss_cons (ps_setLc (i := 1) (own := [("_law_thing", 2)]) (g := gName 2) (te := tIf (tTest (tOp (rEqD K) (tDGet (tVar 0) (tVar 2)) (tTup (tCons (tC (.int 1)) (tCons (tC (.int 1)) tNil))))) (tVar 2) (tOp rCatSt (tOp rCatSt (tCall spText2 [] E0 (tCons (tDGet (tVar 0) (tVar 2)) tNil)) (tC (.str " "))) (tVar 2))) (tt := tYes) rfl scLtold.nd rfl rfl (sw_true rfl rfl rfl (by decide +kernel)) (pi_list (KX.pe_c CNM hr (by decide) rfl (pa_cons (pv 0) pa_nil))) (blkOk_by (N := nmscLtold) (sc := defScope s_Ltold) (by decide +kernel)) (fun _ _ _ _ _ => pg_name (i := 2) scLtold.nd rfl (Or.inl rfl)) (fun _ _ _ _ _ => pts_nil) (fun _ _ _ _ _ => by exact (pe_ifExp (pt_cmpR (op_eqD hr.units) (pe_dget (hu_of hr) (pv 0) (pv 2) (fun _ _ => rfl)) (pe_tup (pa_cons pe_int (pa_cons pe_int pa_nil))) (nomark _)) (pv 2) (pe_op op_catSt (pe_op op_catSt (KX.pe_c CX hr (by decide) rfl (pa_cons (pe_dget (hu_of hr) (pv 0) (pv 2) (fun _ _ => rfl)) pa_nil)) pe_str) (pv 2)))))
  (pss_one (ps_ret (pe_ifExp (pt_cmpR (op_neD hr.units) (pv 1) (pe_lst pa_nil) (nomark _)) (pe_joinK pe_str (pv 1)) pe_str)))), ?_⟩
    have e3 : (Str.ofString " + ").length = 3 := by decide +kernel
    have e1 : (Str.ofString " ").length = 1 := by decide +kernel
    have big : 100000 ≤ sizeLine := by decide
    walk_at "kf"
    refine ⟨d, h, c, n, m, rfl, pl, lc, cm, ev, fun p H1 k1 hp0 hp => ?_⟩
    walk_at "kf"
    refine ⟨p, rfl, ⟨_, SqL.of hp⟩, lc_known (walk_l K p _) (fun H2 k2 => SqL.of (k2 _ _ hp)) (fun i => (m.map fun p => V.str (termT p.2 p.1))[i]?) (by rw [List.length_map]; omega) (fun i x H2 H' hi k2 hy Qe Pz h1 h2 => ?_) (fun D H2 hD k2 hl => ?_)⟩
    · obtain ⟨rfl, hx⟩ := hy
      rw [List.getElem?_map] at hx
      obtain ⟨q, hq, rfl⟩ := Option.map_eq_some_iff.mp hx
      have qm := List.mem_of_getElem? hq
      have fin : ∀ H5, Same H' H5 → Qe (.str (termT q.2 q.1)) H5 := fun H5 k5 => h1 H5 _ (by rw [List.getElem?_map, hq]; rfl) k5
      obtain ⟨ks, hd, D⟩ := (pl.mono (k1.trans k2)).has
      have hz : q.1 ∈ keysS ks := Classical.byContradiction fun x => by
        have z := D.keysOut x
        rw [← ev, valM_mem cm.nodup qm] at z
        exact cm.nz q qm z
      obtain ⟨v, hv, ⟨a, rfl, ha⟩, _⟩ := D.keysIn hz
      have ev2 : h q.1 = q.2 := by rw [← ev, valM_mem cm.nodup qm]
      rw [ev2] at ha
      have bq : Bits 1900 q.2 := by rw [← ev2]; exact (pl.bits _).mono ln
      rw [termT_of] at fin
      refine ⟨rfl, ?_⟩
      walk_at "kf"
      refine rd_dgetS hd hv ?_
      walk_at "kf"
      refine ⟨(show (2 : Nat) ≤ sizeLine by decide), fun t ht => ?_⟩
      have kt := KX.same_upd (o := .tup [.int 1, .int 1]) ht
      refine ⟨_, _, .tup (SqT.of (kt _ _ ha)) (.cons (.int _) (.cons (.int _) .nil)), .tup (SqT.of upd_same) (.cons (.int _) (.cons (.int _) .nil)), rfl, rfl, ?_⟩
      rw [eqv_pair]
      have hd2 := kt _ _ hd
      have ha2 := kt _ _ ha
      have fin2 := fin _ kt
      generalize (upd H' t (.tup [.int 1, .int 1])) = H3 at kt hd2 ha2 fin2 ⊢
      walk_at "kf"
      refine ite2 (fun e => ?_) (fun e => ?_)
      · rw [if_pos e] at fin2
        walk_at "kf"
        exact fin2
      · rw [if_neg e] at fin2
        have tl : (pairT q.2).length ≤ 4000 := by
          rw [pairT_eq]
          exact ratT_len bq
        have nl := (oks q qm).most
        walk_at "kf"
        refine rd_dgetS hd2 hv ?_
        walk_at "kf"
        refine ⟨.ref a, q.2, rfl, ⟨a, rfl, ha2⟩, bq, ?_⟩
        walk_at "kf"
        refine rd_catSt (by rw [e1]; omega) ?_
        walk_at "kf"
        refine rd_catSt (by rw [Str.length_append, e1]; omega) ?_
        walk_at "kf"
        exact fin2
    · rw [accOf_all _ (by rw [List.length_map, List.length_map])] at hl
      have hl2 : H2 D = some (.lst ((m.map fun p => termT p.2 p.1).map V.str)) := by
        rw [hl, List.map_map]
        rfl
      walk_at "kf"
      refine ⟨Nat.zero_le _, fun t ht => ?_⟩
      have kt := KX.same_upd (o := .lst []) ht
      have sh : SeqAt.shaped (.list ((m.map fun p => termT p.2 p.1).map PyData.str)) = true := ?sh
      · refine ⟨.list ((m.map fun p => termT p.2 p.1).map .str), .list [], .lst (SqL.of (kt _ _ hl2)) (dp_strs _), .lst (SqL.of upd_same) .nil, sh, rfl, ?_⟩
        have ee : PyData.eqv (.list ((m.map fun p => termT p.2 p.1).map PyData.str)) (.list []) = m.isEmpty := by
          cases m with
          | nil => simp [PyData.eqv, PyData.eqvAll]
          | cons a r => simp [PyData.eqv, PyData.eqvAll]
        rw [ee]
        have hl3 := kt _ _ hl2
        have fin := qq _ ((k1.trans k2).trans kt)
        generalize (upd H2 t (.lst [])) = H3 at hl3 fin kt ⊢
        unfold balT at fin
        walk_at "kf"
        cases he : m.isEmpty with
        | true =>
          rw [if_pos he] at fin
          refine KX.rd_F rfl ?_
          walk_at "kf"
          exact fin
        | false =>
          rw [if_neg (by rw [he]; decide)] at fin
          refine KX.rd_T rfl ?_
          walk_at "kf"
          refine ⟨⟨_, rfl⟩, ?_⟩
          walk_at "kf"
          refine ⟨" + ", D, m.map fun p => termT p.2 p.1, rfl, rfl, .inl (SqL.of hl3), ?_, ?_⟩
          · have s1 := sum_le (l := (m.map fun p => termT p.2 p.1).map (·.length)) (k := 5000) (fun x hx => by
              obtain ⟨y, hy, rfl⟩ := List.mem_map.mp hx
              obtain ⟨p, hp, rfl⟩ := List.mem_map.mp hy
              refine term_len ?_ (oks p hp).most
              have z := (pl.bits p.1).mono ln
              rw [← ev, valM_mem cm.nodup hp] at z
              exact z)
            rw [List.length_map, List.length_map] at s1
            rw [List.length_map, e3]
            have : m.length * 5000 ≤ 60 * 5000 := Nat.mul_le_mul_right _ (by omega)
            omega
          · walk_at "kf"
            exact fin
      case sh =>
        unfold SeqAt.shaped PyData.canLay0 PyData.depth
        rw [strs_lay _ (fun z hz => ?_), strs_depth]
        · rfl
        · obtain ⟨p, hp, rfl⟩ := List.mem_map.mp hz
          exact term_strOk (oks p hp)
theorem ok_ratio (F : FunD K "_law_ratio" "_law_ratio" (defArgs s_Lratio) (defBody s_Lratio) (defScope s_Lratio) [] [] f fd) (FY : Fy K mg) (CR : RatC P w K mg base) (CT : Callee P w K mg base 1 "_law_turn" ["_law_reel_here", "_law_many"] spTurn) (CP : Callee P w K mg base 2 "_law_pick" ["_law_reel_here", "_law_some"] spPick) :
    FnOk P w K mg base CX0 4 f fd ["_law_reel_here", "_law_pair"] (spRatio2 K) := by
  refine F.ok scLratio (fun vs H Q E h => ?_) (fun cdv A outer s H vs Q E hr h => ?_)
  · obtain ⟨t, _, _, _, _, rfl, _⟩ := h
    rfl
  · obtain ⟨t, v, q, n, a, rfl, T, hn, ⟨va, rfl, hv⟩, bq, la, qq⟩ := h
    refine ⟨_, PSs.nox (pss_cons (ps_if (PW.pt (pw_and (pt_cmpR op_eq (pe_ix ix_tup (pv 1) pe_int (fun _ _ => rfl)) pe_int (nomark _)) (pw_and1 (pt_cmpR op_eq (KX.pe_c CT hr (by decide) rfl (pa_cons (pv 0) (pa_cons pe_int pa_nil))) pe_int (nomark _))))) (pss_one (ps_ret (pe_ix ix_tup (pv 1) pe_int (fun _ _ => rfl)))) pss_nil)
  (pss_cons (ps_set (i := 2) scLratio.nd rfl (Or.inl rfl) (KX.pe_c CP hr (by decide) rfl (pa_cons (pv 0) (pa_cons (pe_lst (pa_cons pe_int (pa_cons pe_int (pa_cons (pe_un un_neg pe_int) pa_nil)))) pa_nil))))
  (pss_one (ps_ret (pe_rat2 CR FY hr (by decide) rfl (pa_cons (pe_op op_mulW (pe_ix ix_tup (pv 1) pe_int (fun _ _ => rfl)) (pv 2)) (pa_cons (pe_op op_mulW (pe_ix ix_tup (pv 1) pe_int (fun _ _ => rfl)) (pv 2)) pa_nil))))))), ?_⟩
    walk_at "kf"
    refine ite2 (fun e => ?_) (fun e => ?_)
    · walk_at "kf"
      refine ⟨t, n, 2, rfl, T, by omega, by decide, by decide, fun r H1 r0 r1 T1 B1 => ?_⟩
      have hv1 : H1 va = some (.tup [.int q.num, .int q.den]) := B1 _ _ (fun e => rl_tup T _ (e ▸ hv)) hv
      have e1 : q.den = 1 := by
        have : (q.den : Int) = 1 := by simpa using e
        omega
      walk_at "kf"
      refine ite2 (fun e2 => ?_) (fun e2 => ?_)
      · walk_at "kf"
        exact qq _ H1 (T1.weak (by omega)) B1 (.inr ⟨q.num, rfl, int_of_den e1⟩)
      · walk_at "kf"
        refine ⟨(show (3 : Nat) ≤ sizeLine by decide), fun p hp => ?_⟩
        have kp := KX.same_upd (o := .lst [.int 1, .int 3, .int (-2)]) hp
        walk_at "kf"
        refine ⟨t, p, n + 1, [.int 1, .int 3, .int (-2)], rfl, T1.mono kp, by omega, rl_ne T1 hp, upd_same, by simp, (show (3 : Nat) ≤ 1000 by decide), fun x H2 hx T2 B2 => ?_⟩
        obtain ⟨k, rfl, k0, k1⟩ : ∃ k : Int, x = .int k ∧ k ≠ 0 ∧ k.natAbs < 2 ^ 2 := by
          simp only [List.mem_cons, List.not_mem_nil, or_false] at hx
          rcases hx with rfl | rfl | rfl
          · exact ⟨1, rfl, by decide, by decide⟩
          · exact ⟨3, rfl, by decide, by decide⟩
          · exact ⟨-2, rfl, by decide, by decide⟩
        have hv2 : H2 va = some (.tup [.int q.num, .int q.den]) := B2 _ _ (fun e => rl_tup (T1.mono kp) _ (e ▸ kp _ _ hv1)) (kp _ _ hv1)
        have a0 := bits_pos bq
        have m1 : CMulW q.num k := wide_mul bq.num k1 a0 (by decide) (by omega)
        have dq : ((q.den : Int)).natAbs < 2 ^ a := by rw [Int.natAbs_natCast]; exact bq.den
        have m2 : CMulW (q.den : Int) k := wide_mul dq k1 a0 (by decide) (by omega)
        walk_at "kf"
        refine ⟨_, _, rfl, Int.mul_ne_zero (den_ne q) k0, Nat.lt_of_lt_of_le (wide_lt dq k1) (Nat.pow_le_pow_right (by decide) (by omega)), fun v H3 k3 hr3 => ?_⟩
        rw [Rat.divInt_mul_right k0, self_divInt] at hr3
        walk_at "kf"
        exact qq v H3 ((T2.mono k3).weak (by omega)) (((B1.trans (BT.of kp)).trans B2).trans (BT.of k3)) (.inl hr3)
    · walk_at "kf"
      refine ⟨(show (3 : Nat) ≤ sizeLine by decide), fun p hp => ?_⟩
      have kp := KX.same_upd (o := .lst [.int 1, .int 3, .int (-2)]) hp
      walk_at "kf"
      refine ⟨t, p, n, [.int 1, .int 3, .int (-2)], rfl, T.mono kp, by omega, rl_ne T hp, upd_same, by simp, (show (3 : Nat) ≤ 1000 by decide), fun x H2 hx T2 B2 => ?_⟩
      obtain ⟨k, rfl, k0, k1⟩ : ∃ k : Int, x = .int k ∧ k ≠ 0 ∧ k.natAbs < 2 ^ 2 := by
        simp only [List.mem_cons, List.not_mem_nil, or_false] at hx
        rcases hx with rfl | rfl | rfl
        · exact ⟨1, rfl, by decide, by decide⟩
        · exact ⟨3, rfl, by decide, by decide⟩
        · exact ⟨-2, rfl, by decide, by decide⟩
      have hv2 : H2 va = some (.tup [.int q.num, .int q.den]) := B2 _ _ (fun e => rl_tup (T.mono kp) _ (e ▸ kp _ _ hv)) (kp _ _ hv)
      have a0 := bits_pos bq
      have m1 : CMulW q.num k := wide_mul bq.num k1 a0 (by decide) (by omega)
      have dq : ((q.den : Int)).natAbs < 2 ^ a := by rw [Int.natAbs_natCast]; exact bq.den
      have m2 : CMulW (q.den : Int) k := wide_mul dq k1 a0 (by decide) (by omega)
      walk_at "kf"
      refine ⟨_, _, rfl, Int.mul_ne_zero (den_ne q) k0, Nat.lt_of_lt_of_le (wide_lt dq k1) (Nat.pow_le_pow_right (by decide) (by omega)), fun v H3 k3 hr3 => ?_⟩
      rw [Rat.divInt_mul_right k0, self_divInt] at hr3
      walk_at "kf"
      exact qq v H3 ((T2.mono k3).weak (by omega)) (((BT.of kp).trans B2).trans (BT.of k3)) (.inl hr3)
end

end K5
namespace K5
open PySem PySem.Spec PyProof.Rows L2 KY PySem.W
local macro_rules | `(tactic| walk_at "kx1") => `(tactic| with_reducible first
  | refine KX.rd_seq ?_ | refine KX.rd_asg ?_ | refine KX.rd_op ?_ | refine KX.rd_c ?_ | refine KX.rd_cb ?_ | refine KX.rd_cons ?_ | refine KX.rd_nil ?_ | refine KX.rd_un ?_ | refine KX.rd_nx ?_ | refine KX.rd_rt ?_ | refine KX.rd_next ?_ | refine KX.rd_ret ?_
  | refine KX.rd_ifs ?_ | refine KX.rd_if ?_ | refine KX.rd_test ?_ | refine KX.rd_B ?_ | refine KX.rd_bl ?_ | refine KX.rd_and ?_ | refine KX.rd_or ?_ | refine KX.rd_not ?_ | refine KX.rd_I0 ?_ | refine KX.rd_U ?_ | refine KX.rd_int ?_ | refine KX.rd_intB ?_ | refine KX.rd_abs ?_
  | refine KX.rd_gname ?_ | refine KX.rd_gsub ?_ | refine KX.rd_call ?_ | refine KX.rd_drop ?_ | refine KX.rd_yes ?_ | refine KX.rd_andV ?_ | refine KX.rd_orV ?_ | refine KX.rd_notV ?_)
local macro_rules | `(tactic| walk_at "hp") => `(tactic| first
  | assumption
  | exact upd_same
  | (refine Eq.trans (upd_ne (by assumption)) ?_; walk_at "hp")
  | (refine Eq.trans (upd_ne (Ne.symm (by assumption))) ?_; walk_at "hp"))
local macro_rules | `(tactic| walk_at "kx2") => `(tactic| first
  | walk_at "kx1"
  | ((with_reducible refine KX.rd_T ?e ?_); (case e => rfl))
  | ((with_reducible refine KX.rd_F ?e ?_); (case e => rfl))
  | ((with_reducible refine' KX.rd_var ?e ?_); (case e => rfl))
  | ((with_reducible refine' KX.rd_I ?e ?_); (case e => first | assumption | decide | exact Or.inl ⟨by omega, by omega⟩ | exact ⟨by decide, by decide, by decide⟩ | exact ⟨by decide, by decide⟩))
  | ((with_reducible refine' KX.rd_eq ?e ?_); (case e => rfl))
  | ((with_reducible refine' KX.rd_ne ?e ?_); (case e => rfl))
  | ((with_reducible refine' KX.rd_ix ?e ?e2 ?_); (case e => first | assumption | exact SqL.of (by walk_at "hp")); (case e2 => first | assumption | rfl))
  | ((with_reducible refine' KX.rd_len ?e ?_); (case e => first | assumption | exact SqL.of (by walk_at "hp")))
  | ((with_reducible refine' KX.rd_set ?e ?e2 ?_); (case e => walk_at "hp"); (case e2 => rfl)))
local macro_rules | `(tactic| walk_at "kx") => `(tactic| repeat walk_at "kx2")
local macro_rules | `(tactic| walk_at "kx3") => `(tactic| first
  | walk_at "kx2"
  | (with_reducible refine rd_fld2 ?_)
  | ((with_reducible refine' rd_get ?e ?c ?n ?l ?_); (case e => assumption); (case c => assumption); (case n => assumption); (case l => rfl))
  | ((with_reducible refine' rd_p0 ?e ?_); (case e => assumption))
  | ((with_reducible refine' rd_p1 ?e ?_); (case e => assumption))
  | ((with_reducible refine' rd_mulw ?e ?_); (case e => assumption)))
local macro_rules | `(tactic| walk_at "kx4") => `(tactic| with_reducible first
  | refine rd_js_cons ?_ | refine rd_js_nil ?_ | refine rd_fmt ?_ | refine rd_dget ?_ | refine rd_dget2 ?_ | refine rd_dput ?_ | refine rd_rat ?_ | refine rd_bal ?_ | refine rd_forL ?_ | refine rd_sfld ?_ | refine KX.rd_tup ?_ | refine KX.rd_lst ?_ | refine rd_smeth ?_ | refine rd_forT ?_ | refine rd_lcT ?_ | refine rd_lcL ?_ | refine rd_dcT ?_ | refine rd_join ?_ | refine rd_par ?_ | refine rd_sl ?_ | refine rd_part ?_ | refine rd_partI ?_ | refine rd_nopart ?_ | refine rd_revL ?_)
local macro_rules | `(tactic| walk_at "kf") => `(tactic| repeat (first | walk_at "kx3" | walk_at "kx4"))
abbrev nmscLmade : List Str := ["_law_reel_here", "_law_plain", "_law_thing"]
abbrev nmscLisas : List Str := ["_law_balance", "_law_plain", "_law_names_here", "_law_numbers", "_law_thing", "_law_one"]
theorem scLmade : FnScope nmscLmade ["_law_reel_here", "_law_plain"] (defScope s_Lmade) := ⟨rfl, rfl, rfl, by decide +kernel, rfl, by decide +kernel, by decide +kernel⟩
theorem scLisas : FnScope nmscLisas ["_law_balance", "_law_plain"] (defScope s_Lis_as) := ⟨rfl, rfl, rfl, by decide +kernel, rfl, by decide +kernel, by decide +kernel⟩
open Classical in
/-- a dict of pairs, one put in behind another -/
theorem merge_df {R : Hp → V → Rat → Prop} {H : Hp} {h : Str → Rat} : ∀ (kvs acc : List (Key × V)) (g : Str → Rat) (c : Nat), DF R H acc g c → (∀ p ∈ kvs, ∃ z, p.1 = Sum.inr z ∧ NameOk z ∧ R H p.2 (h z)) →
    DF R H (mergeK acc kvs) (fun z => if (Sum.inr z : Key) ∈ kvs.map Prod.fst then h z else g z) (c + kvs.length)
  | [], acc, g, c, D, _ => D.congr fun z => by simp
  | p :: r, acc, g, c, D, hk => by
    obtain ⟨z, e, ok, rz⟩ := hk p (List.mem_cons_self ..)
    have D2 := D.put ok rz
    rw [← e] at D2
    have D3 := merge_df r (putK acc p.1 p.2) _ _ D2 fun q hq => hk q (List.mem_cons_of_mem _ hq)
    refine (D3.weak (by rw [List.length_cons]; omega)).congr fun y => ?_
    rw [List.map_cons, List.mem_cons]
    by_cases h1 : (Sum.inr y : Key) ∈ r.map Prod.fst
    · rw [if_pos h1, if_pos (Or.inr h1)]
    · rw [if_neg h1]
      by_cases h2 : y = z
      · rw [if_pos h2, if_pos (Or.inl (by rw [e, h2])), h2]
      · rw [if_neg h2, if_neg]
        rintro (x | x)
        · rw [e] at x
          injection x with x
          exact h2 x
        · exact h1 x
theorem but_new {t D : Addr} {L H : Hp} {o : HO} (B : KX.But t L H) (hD : L D = none) : KX.But t L (upd H D o) := fun b u n e => by
  rw [upd_ne (ne_of_none e hD)]
  exact B b u n e
theorem RL.put {m n : Nat} {L H : Hp} {t D : Addr} {o : HO} (T : RL m L t) (B : BT t L H) (T2 : RL n H t) (hD : L D = none) : RL n (upd H D o) t := by
  obtain ⟨c, cells, a1, g1, T, _⟩ := T
  obtain ⟨c2, cells2, a2, g2, T2, l⟩ := T2
  obtain ⟨i, j, e⟩ := B.box c _ _ T.here
  rw [T2.here] at e
  have z := Option.some.inj e
  injection z with z
  injection z with z _
  injection z with z
  subst z
  have n1 : t ≠ D := ne_of_none T.here hD
  have n2 : c2 ≠ D := ne_of_none T.box hD
  exact ⟨c2, cells2, a2, g2, ⟨by rw [upd_ne n1]; exact T2.here, by rw [upd_ne n2]; exact T2.box, T2.ne, T2.len⟩, l⟩
theorem BT.put {L H : Hp} {t D : Addr} {o : HO} {m : Nat} (T : RL m L t) (B : BT t L H) (hD : L D = none) : BT t L (upd H D o) :=
  ⟨but_new B.but hD, fun c i j e => by
    obtain ⟨i', j', e2⟩ := B.box c i j e
    exact ⟨i', j', by rw [upd_ne (ne_of_none e hD)]; exact e2⟩⟩
theorem BT.refl {t : Addr} {H : Hp} : BT t H H := BT.of (Same.refl H)
/-- stays while one list changes -/
def Stable {α : Type} (Rel : Hp → V → α → Prop) : Prop := ∀ (H H' : Hp) (v : V) (a : α) (d : Addr) (xs : List V), H d = some (.lst xs) → (∀ b o, b ≠ d → H b = some o → H' b = some o) → Rel H v a → Rel H' v a
/-- a comprehension that draws -/
theorem lc_draw {α : Type} {σ : L2.St} {g : TG} {tt : TT} {te : TE} {vs : List Nat} {L : Hp} {t : Addr} {n k : Nat} {Qd : Addr → Hp → Prop} {J : It} {N : Nat} {G : Hp → Prop} {Y : Nat → Hp → V → Hp → Prop} (w : Walk J N G Y) (as : List α) (len : as.length = N) (small : N ≤ 1000) (hG : ∀ H2, BT t L H2 → G H2) (T : RL n L t)
    (Rel : Hp → V → α → Prop) (st : Stable Rel)
    (step : ∀ j x a H2 H', j < N → as[j]? = some a → BT t L H2 → RL (n + k * j) H2 t → Y j H2 x H' → ∀ (Qe : VK) (Pz : Hp → Prop), (∀ H5 y, BT t H2 H5 → RL (n + k * (j + 1)) H5 t → Rel H5 y a → Qe y H5) →
      g x (wipe σ vs) H' fun σ2 H3 => wipe σ2 vs = wipe σ vs ∧ tt σ2 H3 fun b H4 => if b = true then te σ2 H4 Qe else Pz H4)
    (done : ∀ D H2 acc, L D = none → BT t L H2 → RL (n + k * N) H2 t → H2 D = some (.lst acc) → Paired (Rel H2) acc as → Qd D H2) : ∀ D, L D = none → ∃ W : Nat → Nat → Hp → Prop, (∃ m, W 0 m (upd L D (.lst []))) ∧ ∀ i m H, W i m H →
  (J.stop i H ∧ Qd D H) ∨ (J.go i H ∧ ∃ Nx : Hp → Prop, (∀ H', Nx H' → ∃ m', m' < m ∧ W (i + 1) m' H') ∧ ∀ x H', J.yld i H x H' → g x (wipe σ vs) H' fun σ2 H2 => wipe σ2 vs = wipe σ vs ∧ tt σ2 H2 fun b H3 =>
    if b = true then te σ2 H3 fun y H4 => ∃ acc, H4 D = some (.lst acc) ∧ acc.length < sizeLine ∧ Nx (upd H4 D (.lst (acc ++ [y]))) else Nx H3) := by
  intro D hD
  have nD : D ≠ t := rl_ne T hD
  refine lc_it w (fun j H2 => BT t L H2 ∧ RL (n + k * j) H2 t ∧ ∃ acc, H2 D = some (.lst acc) ∧ Paired (Rel H2) acc (as.take j)) ⟨BT.put T BT.refl hD, (RL.put T BT.refl T hD).weak (by omega), [], upd_same, .nil⟩ (fun j H2 _ hp => hG H2 hp.1) (fun j x H2 H' hj hp hy => ?_) (fun H2 hp => ?_)
  · obtain ⟨hb, T2, acc, hl, hps⟩ := hp
    have hj2 : j < as.length := by omega
    refine step j x as[j] H2 H' hj (List.getElem?_eq_getElem hj2) hb T2 hy _ _ (fun H5 y B5 T5 r5 => ?_)
    have hl5 := B5 _ _ nD hl
    have B6 := hb.trans B5
    refine ⟨acc, hl5, ?_, BT.put T B6 hD, RL.put T B6 T5 hD, acc ++ [y], upd_same, ?_⟩
    · rw [Paired.length hps, List.length_take]
      exact Nat.lt_of_lt_of_le (show _ < 1001 by omega) (by decide)
    · rw [List.take_succ, List.getElem?_eq_getElem hj2]
      obtain ⟨c2, cells2, a2, g2, TT2, _⟩ := T2
      refine paired_app (Paired.mapP hps fun v a r => ?_) (st _ _ _ _ D acc hl5 (fun b o n z => by rw [upd_ne n]; exact z) r5)
      exact st _ _ _ _ D acc hl5 (fun b o n z => by rw [upd_ne n]; exact z) (st _ _ _ _ t _ TT2.here (fun b o n z => B5 b o n z) r)
  · obtain ⟨hb, T2, acc, hl, hps⟩ := hp
    rw [← len, List.take_length] at hps
    exact done D H2 acc hD hb T2 hl hps
/-- a pair of a name and a value -/
def IsItem (S : Hp → V → Str → Prop) : Hp → V → Str → Prop := fun H v z => ∃ p v', v = .ref p ∧ H p = some (.tup [.str z, v']) ∧ S H v' z
theorem items_of {S : Hp → V → Str → Prop} {H : Hp} : ∀ {acc : List V} {zs : List Str}, Paired (IsItem S H) acc zs → ∃ (ps : List Addr) (kvs : List (Key × V)), acc = ps.map V.ref ∧ Paired (fun (p : Addr) (kv : Key × V) => H p = some (.tup [kV kv.1, kv.2])) ps kvs ∧ Paired (fun (kv : Key × V) (z : Str) => kv.1 = Sum.inr z ∧ S H kv.2 z) kvs zs
  | _, _, .nil => ⟨[], [], rfl, .nil, .nil⟩
  | _, _, .cons r t => by
    obtain ⟨p, v', rfl, hp, s⟩ := r
    obtain ⟨ps, kvs, rfl, h1, h2⟩ := items_of t
    exact ⟨p :: ps, (Sum.inr _, v') :: kvs, rfl, .cons hp h1, .cons ⟨rfl, s⟩ h2⟩
theorem stable_item {S : Hp → V → Str → Prop} (st : Stable S) : Stable (IsItem S) := by
  intro H H' v a d xs hd k ⟨p, v', e0, hp, s⟩
  subst e0
  exact ⟨p, v', rfl, k _ _ (fun e => by rw [e, hd] at hp; cases hp) hp, st _ _ _ _ d xs hd k s⟩
theorem stable_num {K : PySem.W.Frag} (h : Str → Rat) : Stable (fun H v (z : Str) => NumV (cR K) H v (h z)) := fun _ _ _ _ d xs hd k r => num_off hd (fun _ _ e => by cases e) k r
theorem keys_of {S : Hp → V → Str → Prop} {H : Hp} : ∀ {kvs : List (Key × V)} {zs : List Str}, Paired (fun (kv : Key × V) (z : Str) => kv.1 = Sum.inr z ∧ S H kv.2 z) kvs zs → kvs.map Prod.fst = zs.map (Sum.inr : Str → Key)
  | _, _, .nil => rfl
  | _, _, .cons r t => by rw [List.map_cons, List.map_cons, r.1, keys_of t]
theorem mem_of {S : Hp → V → Str → Prop} {H : Hp} {kvs : List (Key × V)} {zs : List Str} (h : Paired (fun (kv : Key × V) (z : Str) => kv.1 = Sum.inr z ∧ S H kv.2 z) kvs zs) : ∀ p ∈ kvs, ∃ z ∈ zs, p.1 = Sum.inr z ∧ S H p.2 z := by
  induction h with
  | nil => intro p hp; cases hp
  | cons r _ ih =>
    intro p hp
    rcases List.mem_cons.mp hp with rfl | hp
    · exact ⟨_, List.mem_cons_self .., r⟩
    · obtain ⟨z, hz, e⟩ := ih p hp
      exact ⟨z, List.mem_cons_of_mem _ hz, e⟩
def spMade (K : PySem.W.Frag) : Sp := fun vs H Q _ => ∃ (t d : Addr) (n c a : Nat) (h : Str → Rat), vs = [.ref t, .ref d] ∧ RL n H t ∧ n ≤ 8000 ∧ Plain H d h c a ∧ c ≤ 8 ∧ a ≤ 6900 ∧
  ∀ v m H', RL (n + 2 * c) H' t → BT t H H' → IsBal K H' v m → Good c a m → (∀ z, valM m z = h z) → Q v H'
def spIsAs (K : PySem.W.Frag) : Sp := fun vs H Q _ => ∃ x d m h c a c' a', vs = [x, .ref d] ∧ IsBal K H x m ∧ Good c a m ∧ c < 60 ∧ a ≤ 1900 ∧ Plain H d h c' a' ∧ c' < 60 ∧ a' ≤ 1900 ∧ (∀ z, valM m z = h z) ∧ ∀ H', Same H H' → Q (.bl true) H'
section
variable {P : Program} {w : World} {K : PySem.W.Frag} {mg : Str → Option Value} {base : Heap} {f : Addr} {fd fdU fdN fdS : FuncData} {H : Hp} {Q : VK}
theorem ok_made (F : FunD K "_law_made" "_law_made" (defArgs s_Lmade) (defBody s_Lmade) (defScope s_Lmade) [] [] f fd) (FY : Fy K mg) (CB : BalC P w K mg base) (CRT : Callee P w K mg base 4 "_law_ratio" ["_law_reel_here", "_law_pair"] (spRatio2 K)) :
    FnOk P w K mg base CX0 7 f fd ["_law_reel_here", "_law_plain"] (spMade K) := by
  refine F.ok scLmade (fun vs H Q E h => ?_) (fun cdv A outer s H vs Q E hr h => ?_)
  · obtain ⟨t, d, _, _, _, _, rfl, _⟩ := h
    rfl
  · obtain ⟨t, d, n, c, a, h, rfl, T, hn, ⟨⟨ks, hd, D⟩, bb⟩, lc, la, qq⟩ := h
    have lf := D.few
    have lk := D.keysLen
    refine ⟨_, PSs.nox (pss_one (ps_ret (pe_bal CB FY hr (by decide) rfl (pa_cons (pe_callTy (call_dictP rfl) (by rfl) (FY.free "dict" (by decide +kernel)) (by decide +kernel) (pa_cons (pe_lock (pe_lc (own := [("_law_thing", 2)]) (g := gName 2) (te := tTup (tCons (tVar 2) (tCons (tCall (spRatio2 K) [] E0 (tCons (tVar 0) (tCons (tDGet (tVar 1) (tVar 2)) tNil))) tNil))) (tt := tYes) rfl scLmade.nd (pi_keys (pv 1)) (blkOk_by (N := nmscLmade) (sc := defScope s_Lmade) (by decide +kernel)) (fun _ _ _ _ _ => pg_name (i := 2) scLmade.nd rfl (Or.inl rfl)) (fun _ _ _ _ _ => pts_nil) (fun _ _ _ _ _ => by exact (pe_tup (pa_cons (pv 2) (pa_cons (KX.pe_c CRT hr (by decide) rfl (pa_cons (pv 0) (pa_cons (pe_dget (hu_of hr) (pv 1) (pv 2) (fun _ _ => rfl)) pa_nil))) pa_nil)))))) pa_nil)) pa_nil)))), ?_⟩
    walk_at "kf"
    have ndt : d ≠ t := fun e => by
      obtain ⟨_, _, _, z⟩ := T.here
      rw [← e, hd] at z
      cases z
    refine ⟨d, _, hd, True.intro, fun od => ?_⟩
    have lo : ∀ b o, b ≠ d → H b = some o → (upd H d (.frz od (.dK ks))) b = some o := fun b o n z => by rw [upd_ne n]; exact z
    have lkd : (upd H d (.frz od (.dK ks))) d = some (.frz od (.dK ks)) := upd_same
    have lkn : ∀ b, (upd H d (.frz od (.dK ks))) b = none → H b = none := fun b z => by
      by_cases n : b = d
      · rw [n, lkd] at z
        cases z
      · rwa [upd_ne n] at z
    have TL : RL n (upd H d (.frz od (.dK ks))) t := by
      obtain ⟨cc, cells, at_, great, TT, l⟩ := T
      exact ⟨cc, cells, at_, great, ⟨lo _ _ (Ne.symm ndt) TT.here, lo _ _ (fun e => by have z := TT.box; rw [e, hd] at z; cases z) TT.box, TT.ne, TT.len⟩, l⟩
    generalize (upd H d (.frz od (.dK ks))) = L at lo lkd lkn TL ⊢
    walk_at "kf"
    refine ⟨.ref d, rfl, d, od, rfl, .inl ⟨ks, lkd, lc_draw (n := n) (k := 2) walk_keys (keysS ks) lk (by omega) (fun H2 B2 => B2 _ _ ndt lkd) TL (IsItem fun H v z => NumV (cR K) H v (h z)) (stable_item (stable_num h)) (fun j x z H2 H' hj hz B2 T2 hy Qe Pz fin => ?_) (fun D0 H2 acc hD B2 T2 hl hps => ?_)⟩⟩
    · obtain ⟨rfl, k, v, hkv, rfl⟩ := hy
      obtain ⟨z2, rfl, hz2, hm⟩ := D.keyAt hkv
      rw [hz] at hz2
      cases hz2
      obtain ⟨v2, hv2, ⟨va, rfl, hva⟩, ok⟩ := D.keysIn hm
      have hd2 := B2 _ _ ndt lkd
      have hvL := lo _ _ (fun e => by rw [e, hd] at hva; cases hva) hva
      have hva2 : H' va = some (.tup [.int (h z).num, .int (h z).den]) := B2 _ _ (fun e => rl_tup TL _ (e ▸ hvL)) hvL
      refine ⟨rfl, ?_⟩
      walk_at "kf"
      refine ⟨d, _, rfl, .inl ⟨ks, .inr z, .inr ⟨od, hd2⟩, rfl, hv2.symm⟩, ?_⟩
      walk_at "kf"
      refine ⟨t, .ref va, h z, n + 2 * j, a, rfl, T2, by omega, ⟨va, rfl, hva2⟩, bb z, la, fun v' H4 T4 B4 hv4 => ?_⟩
      walk_at "kf"
      refine ⟨(show (2 : Nat) ≤ sizeLine by decide), fun tp htp => ?_⟩
      have kt := KX.same_upd (o := .tup [.str z, v']) htp
      exact fin _ _ (B4.trans (BT.of kt)) ((T4.mono kt).weak (by omega)) ⟨tp, v', rfl, upd_same, hv4.mono kt⟩
    · obtain ⟨ps, kvs, rfl, hps2, hks⟩ := items_of hps
      have nD : D0 ≠ d := fun z => by
        rw [z, lkd] at hD
        cases hD
      have nDt : D0 ≠ t := rl_ne TL hD
      have ld2 := B2 _ _ ndt lkd
      refine ⟨ld2, ?_⟩
      -- the dict is open again
      have B3 : BT t H (upd H2 d (.dK ks)) := ⟨fun b o n1 z => by
        by_cases e : b = d
        · subst e
          rw [upd_same, ← z, hd]
        · rw [upd_ne e]
          exact B2 _ _ n1 (lo b o e z), fun c i j e => by
        have e2 := lo _ _ (Ne.symm ndt) e
        obtain ⟨i', j', e3⟩ := B2.box c i j e2
        exact ⟨i', j', by rw [upd_ne (Ne.symm ndt)]; exact e3⟩⟩
      have T3 : RL (n + 2 * ks.length) (upd H2 d (.dK ks)) t := by
        obtain ⟨cc, cells, at_, great, TT, l⟩ := T2
        refine ⟨cc, cells, at_, great, ⟨by rw [upd_ne (Ne.symm ndt)]; exact TT.here, ?_, TT.ne, TT.len⟩, l⟩
        rw [upd_ne (fun e => by have z := TT.box; rw [e, ld2] at z; cases z)]
        exact TT.box
      have k23 : ∀ b o, b ≠ d → H2 b = some o → (upd H2 d (.dK ks)) b = some o := fun b o n z => by rw [upd_ne n]; exact z
      have hl3 := k23 _ _ nD hl
      have hps3 : Paired (fun (p : Addr) (kv : Key × V) => SqT K (upd H2 d (.dK ks)) p [kV kv.1, kv.2]) ps kvs := Paired.mapP hps2 fun p kv e => SqT.of (k23 _ _ (fun x => by rw [x, ld2] at e; cases e) e)
      have hks3 : Paired (fun (kv : Key × V) (z : Str) => kv.1 = Sum.inr z ∧ NumV (cR K) (upd H2 d (.dK ks)) kv.2 (h z)) kvs (keysS ks) := Paired.mapP hks fun kv z e => ⟨e.1, num_off ld2 (fun _ _ e => by cases e) k23 e.2⟩
      have len2 : kvs.length = ks.length := by rw [Paired.length hks3, lk]
      generalize (upd H2 d (.dK ks)) = H3 at B3 T3 hl3 hps3 hks3 ⊢
      walk_at "kf"
      refine ⟨D0, ps, kvs, rfl, SqL.of hl3, hps3, fun dp hdp => ?_⟩
      have kd := KX.same_upd (o := .dK (mergeK [] kvs)) hdp
      walk_at "kf"
      have D5 : DF (RNum K) (upd H3 dp (.dK (mergeK [] kvs))) (mergeK [] kvs) h c := by
        refine ((merge_df (h := h) kvs [] (fun _ => 0) 0 DF.nil fun p hp => ?_).weak (by omega)).congr fun z => ?_
        · obtain ⟨z, hz, e, r⟩ := mem_of (S := fun H v z => NumV (cR K) H v (h z)) hks3 p hp
          obtain ⟨_, _, _, ok⟩ := D.keysIn hz
          exact ⟨z, e, ok, r.mono kd⟩
        · rw [keys_of (S := fun H v z => NumV (cR K) H v (h z)) hks3]
          by_cases m : (Sum.inr z : Key) ∈ (keysS ks).map (Sum.inr : Str → Key)
          · rw [if_pos m]
          · rw [if_neg m, D.keysOut fun x => m (List.mem_map_of_mem x)]
      refine to_bal upd_same D5 (by omega) bb fun v m H' k hbal g ev => ?_
      walk_at "kf"
      exact qq v m H' (((T3.mono kd).mono k).weak (by omega)) ((B3.trans (BT.of kd)).trans (BT.of k)) hbal g ev
theorem eqv_strs (l : List Str) : PyData.eqvAll (l.map PyData.str) (l.map PyData.str) = true := by
  induction l with
  | nil => simp [PyData.eqvAll]
  | cons a r ih => simp [PyData.eqvAll, PyData.eqv, ih]
theorem eqv_tup_strs (l : List Str) : PyData.eqv (.tuple (l.map PyData.str)) (.tuple (l.map PyData.str)) = true := by
  rw [PyData.eqv]
  exact eqv_strs l
def pairD (q : Rat) : PyData := .tuple [.int q.num, .int q.den]
theorem pairs_eqv (m : Lst) : PyData.eqvAll (m.map fun p => pairD p.2) (m.map fun p => pairD p.2) = true := by
  induction m with
  | nil => simp [PyData.eqvAll]
  | cons a r ih =>
    rw [List.map_cons, PyData.eqvAll, ih]
    unfold pairD
    rw [eqv_pair, decide_eq_true rfl, decide_eq_true rfl]
    rfl
theorem pairs_lay (m : Lst) : PyData.canLayAll0 (m.map fun p => pairD p.2) = true := by
  induction m with
  | nil => rfl
  | cons a r ih =>
    show (PyData.canLay0 (pairD a.2) && PyData.canLayAll0 (r.map fun p => pairD p.2)) = true
    rw [ih]
    rfl
theorem pairs_depth (m : Lst) : PyData.depthAll (m.map fun p => pairD p.2) ≤ 1 := by
  induction m with
  | nil => exact Nat.zero_le _
  | cons a r ih =>
    show max (PyData.depth (pairD a.2)) (PyData.depthAll (r.map fun p => pairD p.2)) ≤ 1
    have : PyData.depth (pairD a.2) = 1 := rfl
    omega
theorem pairs_shaped (m : Lst) : SeqAt.shaped (.list (m.map fun p => pairD p.2)) = true := by
  unfold SeqAt.shaped PyData.canLay0 PyData.depth
  rw [pairs_lay, Bool.true_and]
  have := pairs_depth m
  exact decide_eq_true (by omega)
theorem dp_pairs {K : PySem.W.Frag} {H : Hp} : ∀ {acc : List V} {m : Lst}, Paired (fun (v : V) (p : Str × Rat) => IsPair H v p.2) acc m → DpAll K H acc (m.map fun p => pairD p.2)
  | _, _, .nil => .nil
  | _, _, .cons r t => by
    obtain ⟨a, rfl, h⟩ := r
    exact .cons (.tup (SqT.of h) (.cons (.int _) (.cons (.int _) .nil))) (dp_pairs t)
theorem ok_isas (F : FunD K "_law_is_as" "_law_is_as" (defArgs s_Lis_as) (defBody s_Lis_as) (defScope s_Lis_as) [] [] f fd) (FY : Fy K mg) (CNM : Callee P w K mg base 1 "_law_named" ["_law_plain"] spNamed) (CTO : Callee P w K mg base 2 "_law_told" ["_law_plain"] spTold)
    (GNO : FnOk P w K mg base CX0 1 (pAd K (cB K) "is_nothing") fdN ["self"] (spNothing K)) (bNO : Binds K fdN ["self"] []) (GNU : FnOk P w K mg base CX0 4 (He.ma K (cB K) "number_of") fdU ["self", "thing"] (spBNum K)) (bNU : Binds K fdU ["self", "thing"] [])
    (GSB : FnOk P w K mg base CX0 4 (He.ma K (cB K) "__str__") fdS ["self"] (spBStr K)) (bSB : Binds K fdS ["self"] []) : FnOk P w K mg base CX0 7 f fd ["_law_balance", "_law_plain"] (spIsAs K) := by
  refine F.ok scLisas (fun vs H Q E h => ?_) (fun cdv A outer s H vs Q E hr h => ?_)
  · obtain ⟨x, d, _, _, _, _, _, _, rfl, _⟩ := h
    rfl
  · obtain ⟨x, d, m, h, c, a, c', a', rfl, hx, g, lc, la, pl, lc', la', ev, qq⟩ := h
    have clB := (inspB_ok FY.all.2.2.1).cls
    have nth := noB_ok FY.all.2.2.2.2.1 "things" (by decide +kernel)
    have cl := (inspB_ok FY.all.2.1.1).cls
    have nt := noB_ok FY.all.2.1.2.2.1 "top" (by decide +kernel)
    have nb := noB_ok FY.all.2.1.2.2.1 "bottom" (by decide +kernel)
    have PN := propB_ok FY.all.2.2.2.2.2.2.2.2.2.2.2.2.1
    have MNU := methB_ok FY.all.2.2.2.2.2.2.2.2.2.2.2.2.2.1
    have FSB := strB_ok FY.all.2.2.2.2.2.2.2.2.2.2.1
    have hx0 := hx
    obtain ⟨xa, xdx, xd, xt, xks, rfl, hxa, hxd, hxs, hxt⟩ := hx
    have lf := g.few
    have so : ∀ z ∈ m.map Prod.fst, PyData.strOk z = true := fun z hz => by
      obtain ⟨p, hp, rfl⟩ := List.mem_map.mp hz
      exact name_strOk (g.ok p hp)
    have e0 : (m.map fun p => V.str p.1) = (m.map Prod.fst).map V.str := by rw [List.map_map]; rfl
    refine ⟨_, PSs.nox (pss_cons (ps_set (i := 2) scLisas.nd rfl (Or.inl rfl) (KX.pe_c CNM hr (by decide) rfl (pa_cons (pv 1) pa_nil)))
  (pss_cons (ps_if (PW.pt (pw_or (pt_not (pt_val (pe_callB call_isi (by rfl) (FY.free "isinstance" (by decide +kernel)) (by decide +kernel) (pa_cons (pv 0) (pa_cons (pe_glob (v := .ref (He.ga K "Balance")) rfl (FY.glo "Balance" (by decide +kernel)) rfl) pa_nil))))) (pw_or (pt_cmpR (op_neD hr.units) (pe_fld (pv 0) rfl) (pe_callTy call_tuple_of (by rfl) (FY.free "tuple" (by decide +kernel)) (by decide +kernel) (pa_cons (pv 2) pa_nil)) (nomark _)) (pw_or1 (pt_cmpR op_ne (pe_prop (pv 0) clB PN GNO (hr.mono (by decide)) bNO .nil pass0 rfl) (pe_cmpR (op_eqD hr.units) (pv 2) (pe_lst pa_nil) (nomark _)) (nomark _)))))) (pss_one (ps_ret pe_bl)) pss_nil)
  (pss_cons (ps_setLc (i := 3) (own := [("_law_thing", 4)]) (g := gName 4) (te := tMeth (cB K) "number_of" (spBNum K) [] E0 (tVar 0) (tCons (tVar 4) tNil)) (tt := tYes) rfl scLisas.nd rfl rfl (sw_true rfl rfl rfl (by decide +kernel)) (pi_list (pv 2)) (blkOk_by (N := nmscLisas) (sc := defScope s_Lis_as) (by decide +kernel)) (fun _ _ _ _ _ => pg_name (i := 4) scLisas.nd rfl (Or.inl rfl)) (fun _ _ _ _ _ => pts_nil) (fun _ _ _ _ _ => by exact (pe_meth (pv 0) clB MNU GNU (hr.mono (by decide)) bNU .nil pass0 (pa_cons (pv 4) pa_nil))))
  (pss_cons (ps_if (pt_cmpR (op_neD hr.units) (pe_lc (own := [("_law_one", 5)]) (g := gName 5) (te := tVar 5) (tt := tNot (tB (tCB (rIsi K) (tCons (tVar 5) (tCons (tC (.ref (He.ga K "Ratio"))) tNil))))) rfl scLisas.nd (pi_list (pv 3)) (blkOk_by (N := nmscLisas) (sc := defScope s_Lis_as) (by decide +kernel)) (fun _ _ _ _ _ => pg_name (i := 5) scLisas.nd rfl (Or.inl rfl)) (fun _ _ _ _ _ => pts_one (by exact (pt_not (pt_val (pe_callB call_isi (by rfl) (FY.free "isinstance" (by decide +kernel)) (by decide +kernel) (pa_cons (pv 5) (pa_cons (pe_glob (v := .ref (He.ga K "Ratio")) rfl (FY.glo "Ratio" (by decide +kernel)) rfl) pa_nil))))))) (fun _ _ _ _ _ => by exact (pv 5))) (pe_lst pa_nil) (nomark _)) (pss_one (ps_ret pe_bl)) pss_nil)
  (pss_one (ps_ret (pe_and (pe_cmpR (op_eqD hr.units) (pe_lc (own := [("_law_one", 5)]) (g := gName 5) (te := tTup (tCons (tFld K (tVar 5) "top") (tCons (tFld K (tVar 5) "bottom") tNil))) (tt := tYes) rfl scLisas.nd (pi_list (pv 3)) (blkOk_by (N := nmscLisas) (sc := defScope s_Lis_as) (by decide +kernel)) (fun _ _ _ _ _ => pg_name (i := 5) scLisas.nd rfl (Or.inl rfl)) (fun _ _ _ _ _ => pts_nil) (fun _ _ _ _ _ => by exact (pe_tup (pa_cons (pe_fld (pv 5) rfl) (pa_cons (pe_fld (pv 5) rfl) pa_nil))))) (pe_lc (own := [("_law_thing", 4)]) (g := gName 4) (te := tDGet (tVar 1) (tVar 4)) (tt := tYes) rfl scLisas.nd (pi_list (pv 2)) (blkOk_by (N := nmscLisas) (sc := defScope s_Lis_as) (by decide +kernel)) (fun _ _ _ _ _ => pg_name (i := 4) scLisas.nd rfl (Or.inl rfl)) (fun _ _ _ _ _ => pts_nil) (fun _ _ _ _ _ => by exact (pe_dget (hu_of hr) (pv 1) (pv 4) (fun _ _ => rfl)))) (nomark _)) (pe_one (pe_cmpR op_eq (pe_callTy (call_str_own FSB.at_ FSB.fn GSB (hr.mono (by decide)) bSB pass0) (by rfl) (FY.free "str" (by decide +kernel)) (by decide +kernel) (pa_cons (pv 0) pa_nil)) (KX.pe_c CTO hr (by decide) rfl (pa_cons (pv 1) pa_nil)) (nomark _)))))))))), ?_⟩
    walk_at "kf"
    refine ⟨d, h, c', a', m, rfl, pl, lc', g.can, ev, fun np H1 k1 hnp0 hnp => ?_⟩
    have hxa1 := k1 _ _ hxa
    walk_at "kf"
    refine ⟨.ref xa, .ref (cB K), .ref (cB K), .ref (cB K), true, rfl, .own _, (inspB_ok FY.all.2.2.1).ty hxa1, kit_own FY (by decide +kernel) (by decide +kernel), ?_⟩
    walk_at "kf"
    refine ⟨np, _, rfl, .inl ⟨SqL.of hnp, fun tl htl => ?_⟩⟩
    have kt := KX.same_upd (o := .tup (m.map fun p => V.str p.1)) htl
    have htl2 : (upd H1 tl (.tup (m.map fun p => V.str p.1))) tl = some (.tup ((m.map Prod.fst).map V.str)) := by rw [upd_same, e0]
    have hxt2 : (upd H1 tl (.tup (m.map fun p => V.str p.1))) xt = some (.tup ((m.map Prod.fst).map V.str)) := by
      rw [← e0]
      exact kt _ _ (k1 _ _ hxt)
    refine ⟨.tuple ((m.map Prod.fst).map .str), .tuple ((m.map Prod.fst).map .str), .tup (SqT.of hxt2) (dp_strs _), .tup (SqT.of htl2) (dp_strs _), strs_shaped _ so, strs_shaped _ so, ?_⟩
    rw [eqv_tup_strs]
    have k2 := k1.trans kt
    have hnp2 := kt _ _ hnp
    generalize (upd H1 tl (.tup (m.map fun p => V.str p.1))) = H2 at k2 hnp2 ⊢
    clear kt htl2 hxt2 htl hxa1 hnp
    walk_at "kf"
    refine ⟨.ref xa, rfl, xa, xdx, _, rfl, k2 _ _ hxa, .ref xa, m, rfl, hx0.mono k2, fun p hp => name_strOk (g.ok p hp), fun H3 k3 => ?_⟩
    have hnp3 := k3 _ _ hnp2
    walk_at "kf"
    refine ⟨Nat.zero_le _, fun el hel => ?_⟩
    have k4 := KX.same_upd (o := .lst []) hel
    have hnp4 := k4 _ _ hnp3
    rw [e0] at hnp4
    refine ⟨.list ((m.map Prod.fst).map .str), .list [], .lst (SqL.of hnp4) (dp_strs _), .lst (SqL.of upd_same) .nil, ?_, rfl, ?_⟩
    · have z := strs_shaped _ so
      exact z
    have ee : PyData.eqv (.list ((m.map Prod.fst).map PyData.str)) (.list []) = m.isEmpty := by
      cases m with
      | nil => simp [PyData.eqv, PyData.eqvAll]
      | cons a r => simp [PyData.eqv, PyData.eqvAll]
    rw [ee]
    have k5 := (k2.trans k3).trans k4
    rw [← e0] at hnp4
    generalize (upd H3 el (.lst [])) = H5 at k5 hnp4 ⊢
    clear k4 hnp3 hnp2 hel
    walk_at "kf"
    refine KX.rd_F (by rw [decide_eq_true rfl]; rfl) ?_
    have hxa5 := k5 _ _ hxa
    walk_at "kf"
    -- the numbers
    refine ⟨np, rfl, ⟨_, SqL.of hnp4⟩, fun D hD => lc_it (walk_l K np _) (fun j H6 => KX.But D H5 H6 ∧ ∃ acc, H6 D = some (.lst acc) ∧ Paired (fun (v : V) (p : Str × Rat) => IsRat (cR K) H6 v p.2) acc (m.take j)) ⟨KX.But.new KX.But.refl hD, [], upd_same, .nil⟩ (fun j H6 _ hp => SqL.of (hp.1 _ _ (ne_of_none hnp4 hD) hnp4)) (fun j x H6 H7 hj hp hy => ?_) (fun H6 hp => ?_)⟩
    · obtain ⟨hb, acc, hac, hps⟩ := hp
      obtain ⟨rfl, hx⟩ := hy
      rw [List.getElem?_map] at hx
      obtain ⟨p, hp, rfl⟩ := Option.map_eq_some_iff.mp hx
      have pm := List.mem_of_getElem? hp
      have sm : Same H5 H7 := fun b o z => hb b o (ne_of_none z hD) z
      refine ⟨rfl, ?_⟩
      walk_at "kf"
      refine ⟨.ref xa, rfl, xa, xdx, _, rfl, sm _ _ hxa5, rfl, ?_⟩
      walk_at "kf"
      refine ⟨.ref xa, p.1, m, c, a, rfl, (hx0.mono k5).mono sm, g, fun v H8 k8 hv => ⟨acc, k8 _ _ hac, ?_, (hb.trans (KX.But.of k8)).upd, acc ++ [v], upd_same, ?_⟩⟩
      · rw [Paired.length hps, List.length_take]
        exact Nat.lt_of_lt_of_le (show _ < 64 by omega) (by decide)
      · rw [valM_mem g.can.nodup pm] at hv
        have nz : ∀ dx fs, H8 D ≠ some (.ins (cR K) dx fs) := not_ins (k8 _ _ hac) (fun _ _ e => by cases e)
        rw [List.take_succ, hp]
        exact paired_app (Paired.mapP hps fun v q r => rat_off nz (fun b o n z => by rw [upd_ne n]; exact z) (r.mono k8)) (rat_off nz (fun b o n z => by rw [upd_ne n]; exact z) hv)
    obtain ⟨hb, acc, hac, hps⟩ := hp
    rw [List.length_map, List.take_length] at hps
    have sm : Same H5 H6 := fun b o z => hb b o (ne_of_none z hD) z
    have k6 := k5.trans sm
    have hnp6 := sm _ _ hnp4
    have la2 : acc.length = m.length := Paired.length hps
    clear hb
    walk_at "kf"
    -- none is no Ratio
    refine ⟨D, rfl, ⟨_, SqL.of hac⟩, lc_known (walk_l K D acc) (fun H7 k7 => SqL.of (k7 _ _ hac)) (fun _ => none) (by omega) (fun i x H7 H' hi k7 hy Qe Pz h1 h2 => ?_) (fun D2 H7 hD2 k7 hl => ?_)⟩
    · obtain ⟨rfl, hx⟩ := hy
      obtain ⟨p, hp, r⟩ := paired_get hps hx
      refine ⟨rfl, ?_⟩
      walk_at "kf"
      refine ⟨x, .ref (cR K), .ref (cR K), .ref (cR K), true, rfl, .own _, rat_ty FY (r.mono k7), kit_own FY (by decide +kernel) (by decide +kernel), ?_⟩
      walk_at "kf"
      exact h2 _ rfl (Same.refl _)
    have eno : accOf (fun _ : Nat => (none : Option V)) acc.length = [] := by
      unfold accOf
      simp
    rw [eno] at hl
    walk_at "kf"
    refine ⟨Nat.zero_le _, fun el hel => ?_⟩
    have k8 := KX.same_upd (o := .lst []) hel
    refine ⟨.list [], .list [], .lst (SqL.of (k8 _ _ hl)) .nil, .lst (SqL.of upd_same) .nil, rfl, rfl, ?_⟩
    have k9 := (k6.trans k7).trans k8
    have hnp9 := k8 _ _ (k7 _ _ hnp6)
    have hac9 := k8 _ _ (k7 _ _ hac)
    have hps9 : Paired (fun (v : V) (p : Str × Rat) => IsRat (cR K) (upd H7 el (.lst [])) v p.2) acc m := Paired.mapP hps fun v q r => (r.mono k7).mono k8
    generalize (upd H7 el (.lst [])) = H9 at k9 hnp9 hac9 hps9 ⊢
    clear k8 hel hl k7 hD2 hnp6 hac hps k6 sm hD
    have evn : (!PyData.eqv (.list []) (.list [])) = false := by simp [PyData.eqv, PyData.eqvAll]
    rw [evn]
    walk_at "kf"
    -- tops and bottoms
    refine ⟨D, rfl, ⟨_, SqL.of hac9⟩, fun D3 hD3 => lc_it (walk_l K D acc) (fun j H10 => KX.But D3 H9 H10 ∧ ∃ ac3, H10 D3 = some (.lst ac3) ∧ Paired (fun (v : V) (p : Str × Rat) => IsPair H10 v p.2) ac3 (m.take j)) ⟨KX.But.new KX.But.refl hD3, [], upd_same, .nil⟩ (fun j H10 _ hp => SqL.of (hp.1 _ _ (ne_of_none hac9 hD3) hac9)) (fun j x H10 H11 hj hp hy => ?_) (fun H10 hp => ?_)⟩
    · obtain ⟨hb, ac3, ha3, hp3⟩ := hp
      obtain ⟨rfl, hx⟩ := hy
      obtain ⟨p, hp, r⟩ := paired_get hps9 hx
      have sm : Same H9 H11 := fun b o z => hb b o (ne_of_none z hD3) z
      obtain ⟨ra, rd, rfl, hra⟩ := r.mono sm
      refine ⟨rfl, ?_⟩
      walk_at "kf"
      refine ⟨(show (2 : Nat) ≤ sizeLine by decide), fun tp htp => ?_⟩
      have kt := KX.same_upd (o := .tup [.int p.2.num, .int p.2.den]) htp
      have nz : ∀ xs, (upd H11 tp (.tup [.int p.2.num, .int p.2.den])) D3 ≠ some (.tup xs) := fun xs e => by
        rw [kt _ _ ha3] at e
        cases e
      refine ⟨ac3, kt _ _ ha3, ?_, (hb.trans (KX.But.of kt)).upd, ac3 ++ [.ref tp], upd_same, ?_⟩
      · rw [Paired.length hp3, List.length_take]
        exact Nat.lt_of_lt_of_le (show _ < 64 by omega) (by decide)
      · rw [List.take_succ, hp]
        exact paired_app (Paired.mapP hp3 fun v q r => pair_off nz (fun b o n z => by rw [upd_ne n]; exact z) (r.mono kt)) (pair_off nz (fun b o n z => by rw [upd_ne n]; exact z) ⟨tp, rfl, upd_same⟩)
    obtain ⟨hb, ac3, ha3, hp3⟩ := hp
    rw [la2, List.take_length] at hp3
    have sm : Same H9 H10 := fun b o z => hb b o (ne_of_none z hD3) z
    have k10 := k9.trans sm
    have hnp10 := sm _ _ hnp9
    clear hb
    walk_at "kf"
    obtain ⟨ks, hd, DD⟩ := (pl.mono k10).has
    refine ⟨np, rfl, ⟨_, SqL.of hnp10⟩, fun D4 hD4 => lc_it (walk_l K np _) (fun j H11 => KX.But D4 H10 H11 ∧ ∃ ac4, H11 D4 = some (.lst ac4) ∧ Paired (fun (v : V) (p : Str × Rat) => IsPair H10 v p.2) ac4 (m.take j)) ⟨KX.But.new KX.But.refl hD4, [], upd_same, .nil⟩ (fun j H11 _ hp => SqL.of (hp.1 _ _ (ne_of_none hnp10 hD4) hnp10)) (fun j x H11 H12 hj hp hy => ?_) (fun H11 hp => ?_)⟩
    · obtain ⟨hb, ac4, ha4, hp4⟩ := hp
      obtain ⟨rfl, hx⟩ := hy
      rw [List.getElem?_map] at hx
      obtain ⟨p, hp, rfl⟩ := Option.map_eq_some_iff.mp hx
      have pm := List.mem_of_getElem? hp
      have sm4 : Same H10 H12 := fun b o z => hb b o (ne_of_none z hD4) z
      have ev2 : h p.1 = p.2 := by rw [← ev, valM_mem g.can.nodup pm]
      have hz : p.1 ∈ keysS ks := Classical.byContradiction fun x => by
        have z := DD.keysOut x
        rw [ev2] at z
        exact g.can.nz p pm z
      obtain ⟨v, hv, r, _⟩ := DD.keysIn hz
      rw [ev2] at r
      refine ⟨rfl, ?_⟩
      walk_at "kf"
      refine rd_dgetS (sm4 _ _ hd) hv ?_
      refine ⟨ac4, ha4, ?_, hb.upd, ac4 ++ [v], upd_same, ?_⟩
      · rw [Paired.length hp4, List.length_take]
        exact Nat.lt_of_lt_of_le (show _ < 64 by omega) (by decide)
      · rw [List.take_succ, hp]
        exact paired_app hp4 r
    obtain ⟨hb, ac4, ha4, hp4⟩ := hp
    rw [List.length_map, List.take_length] at hp4
    have sm4 : Same H10 H11 := fun b o z => hb b o (ne_of_none z hD4) z
    have k11 := k10.trans sm4
    clear hb
    refine ⟨.list (m.map fun p => pairD p.2), .list (m.map fun p => pairD p.2), .lst (SqL.of (sm4 _ _ ha3)) (dp_pairs (Paired.mapP hp3 fun v q r => r.mono sm4)), .lst (SqL.of ha4) (dp_pairs (Paired.mapP hp4 fun v q r => r.mono sm4)), pairs_shaped m, pairs_shaped m, ?_⟩
    have evp : PyData.eqv (.list (m.map fun p => pairD p.2)) (.list (m.map fun p => pairD p.2)) = true := by
      rw [PyData.eqv]
      exact pairs_eqv m
    rw [evp]
    walk_at "kf"
    refine ⟨xa, xdx, _, rfl, k11 _ _ hxa, .ref xa, m, c, a, rfl, hx0.mono k11, g, lc, la, fun H12 k12 => ⟨balT m, rfl, ?_⟩⟩
    walk_at "kf"
    refine ⟨d, h, c', a', m, rfl, pl.mono (k11.trans k12), lc', la', g.can, ev, fun H13 k13 => ?_⟩
    walk_at "kf"
    rw [decide_eq_true rfl]
    exact qq H13 ((k11.trans k12).trans k13)
end

end K5
namespace K5
open PySem PySem.Spec PyProof.Rows L2 KY PySem.W
local macro_rules | `(tactic| walk_at "kx1") => `(tactic| with_reducible first
  | refine KX.rd_seq ?_ | refine KX.rd_asg ?_ | refine KX.rd_op ?_ | refine KX.rd_c ?_ | refine KX.rd_cb ?_ | refine KX.rd_cons ?_ | refine KX.rd_nil ?_ | refine KX.rd_un ?_ | refine KX.rd_nx ?_ | refine KX.rd_rt ?_ | refine KX.rd_next ?_ | refine KX.rd_ret ?_
  | refine KX.rd_ifs ?_ | refine KX.rd_if ?_ | refine KX.rd_test ?_ | refine KX.rd_B ?_ | refine KX.rd_bl ?_ | refine KX.rd_and ?_ | refine KX.rd_or ?_ | refine KX.rd_not ?_ | refine KX.rd_I0 ?_ | refine KX.rd_U ?_ | refine KX.rd_int ?_ | refine KX.rd_intB ?_ | refine KX.rd_abs ?_
  | refine KX.rd_gname ?_ | refine KX.rd_gsub ?_ | refine KX.rd_call ?_ | refine KX.rd_drop ?_ | refine KX.rd_yes ?_ | refine KX.rd_andV ?_ | refine KX.rd_orV ?_ | refine KX.rd_notV ?_)
local macro_rules | `(tactic| walk_at "hp") => `(tactic| first
  | assumption
  | exact upd_same
  | (refine Eq.trans (upd_ne (by assumption)) ?_; walk_at "hp")
  | (refine Eq.trans (upd_ne (Ne.symm (by assumption))) ?_; walk_at "hp"))
local macro_rules | `(tactic| walk_at "kx2") => `(tactic| first
  | walk_at "kx1"
  | ((with_reducible refine KX.rd_T ?e ?_); (case e => rfl))
  | ((with_reducible refine KX.rd_F ?e ?_); (case e => rfl))
  | ((with_reducible refine' KX.rd_var ?e ?_); (case e => rfl))
  | ((with_reducible refine' KX.rd_I ?e ?_); (case e => first | assumption | decide | exact Or.inl ⟨by omega, by omega⟩ | exact ⟨by decide, by decide, by decide⟩ | exact ⟨by decide, by decide⟩))
  | ((with_reducible refine' KX.rd_eq ?e ?_); (case e => rfl))
  | ((with_reducible refine' KX.rd_ne ?e ?_); (case e => rfl))
  | ((with_reducible refine' KX.rd_ix ?e ?e2 ?_); (case e => first | assumption | exact SqL.of (by walk_at "hp")); (case e2 => first | assumption | rfl))
  | ((with_reducible refine' KX.rd_len ?e ?_); (case e => first | assumption | exact SqL.of (by walk_at "hp")))
  | ((with_reducible refine' KX.rd_set ?e ?e2 ?_); (case e => walk_at "hp"); (case e2 => rfl)))
local macro_rules | `(tactic| walk_at "kx") => `(tactic| repeat walk_at "kx2")
local macro_rules | `(tactic| walk_at "kx3") => `(tactic| first
  | walk_at "kx2"
  | (with_reducible refine rd_fld2 ?_)
  | ((with_reducible refine' rd_get ?e ?c ?n ?l ?_); (case e => assumption); (case c => assumption); (case n => assumption); (case l => rfl))
  | ((with_reducible refine' rd_p0 ?e ?_); (case e => assumption))
  | ((with_reducible refine' rd_p1 ?e ?_); (case e => assumption))
  | ((with_reducible refine' rd_mulw ?e ?_); (case e => assumption)))
local macro_rules | `(tactic| walk_at "kx4") => `(tactic| with_reducible first
  | refine rd_js_cons ?_ | refine rd_js_nil ?_ | refine rd_fmt ?_ | refine rd_dget ?_ | refine rd_dget2 ?_ | refine rd_dput ?_ | refine rd_rat ?_ | refine rd_bal ?_ | refine rd_forL ?_ | refine rd_sfld ?_ | refine KX.rd_tup ?_ | refine KX.rd_lst ?_ | refine rd_smeth ?_ | refine rd_forT ?_ | refine rd_lcT ?_ | refine rd_lcL ?_ | refine rd_dcT ?_ | refine rd_join ?_ | refine rd_par ?_ | refine rd_sl ?_ | refine rd_part ?_ | refine rd_partI ?_ | refine rd_nopart ?_ | refine rd_revL ?_)
local macro_rules | `(tactic| walk_at "kf") => `(tactic| repeat (first | walk_at "kx3" | walk_at "kx4"))
theorem scLsum : FnScope ["_law_one", "_law_other", "_law_times", "_law_found", "_law_thing"] ["_law_one", "_law_other", "_law_times"] (defScope s_Lsum) := ⟨rfl, rfl, rfl, by decide +kernel, rfl, by decide +kernel, by decide +kernel⟩
theorem scLren : FnScope ["_law_plain", "_law_names_here", "_law_found", "_law_thing", "_law_goal"] ["_law_plain", "_law_names_here"] (defScope s_Lrenamed) := ⟨rfl, rfl, rfl, by decide +kernel, rfl, by decide +kernel, by decide +kernel⟩
section
variable {K : PySem.W.Frag} {σ : L2.St} {H : Hp} {Q : VK} {d : Addr} {ks : List (Key × V)} {g : TG} {tb : TS} {D : Ends}
/-- for over a dict's keys -/
theorem rd_forKeys {i : Nat} (e : σ[i]? = some (some (.ref d))) (hd : H d = some (.dK ks)) (Pv : Obj → Nat → L2.St → Hp → Prop) (h0 : ∀ od, Pv od 0 σ (upd H d (.frz od (.dK ks)))) (hG : ∀ od j σ2 H2, Pv od j σ2 H2 → H2 d = some (.frz od (.dK ks)))
    (step : ∀ od j k v σ2 H2, ks[j]? = some (k, v) → Pv od j σ2 H2 → ∀ (rt : VK) (bk : L2.St → Hp → Prop), g (kV k) σ2 H2 fun σ3 H3 => tb ⟨Pv od (j + 1), rt, bk, Pv od (j + 1)⟩ σ3 H3)
    (done : ∀ od σ2 H2, Pv od ks.length σ2 H2 → D.nx σ2 (upd H2 d (.dK ks))) : tLock (tFor (iKeys (tVar i)) g tb) D σ H := by
  refine ⟨d, _, hd, True.intro, fun od => ?_⟩
  have lkd : (upd H d (.frz od (.dK ks))) d = some (.frz od (.dK ks)) := upd_same
  refine ⟨.ref d, e, d, od, rfl, .inl ⟨ks, lkd, ?_⟩⟩
  refine for_it walk_keys (Pv od) (h0 od) (fun j σ2 H2 _ hp => hG od j σ2 H2 hp) (fun j x σ2 H2 H' hj hp hy => ?_) (fun σ2 H2 hp => ⟨hG od _ σ2 H2 hp, done od σ2 H2 hp⟩)
  obtain ⟨rfl, k, v, hkv, rfl⟩ := hy
  exact step od j k v σ2 _ hkv hp _ _
theorem rd_items {te : TE} (q : te σ H fun x H1 => LiI.rItemsL x H1 Q) : LiI.tListItems te σ H Q := q
end
/-- dict(list(d.items())): the same keys and values -/
theorem merge_self : ∀ (kvs acc : List (Key × V)), ((acc ++ kvs).map Prod.fst).Nodup → mergeK acc kvs = acc ++ kvs
  | [], acc, _ => (List.append_nil acc).symm
  | p :: r, acc, nd => by
    show mergeK (putK acc p.1 p.2) r = _
    have ab : valV acc p.1 = none := by
      cases e : valV acc p.1 with
      | none => rfl
      | some v =>
        have m := List.mem_map_of_mem (f := Prod.fst) (valV_mem e)
        rw [List.map_append, List.nodup_append] at nd
        exact absurd rfl (nd.2.2 _ m _ (by rw [List.map_cons]; exact List.mem_cons_self ..))
    have pn := putK_new p.2 ab
    rw [pn, merge_self r (acc ++ [(p.1, p.2)]) (by rw [List.append_assoc]; exact nd), List.append_assoc]
    rfl
theorem plain_off {H H1 : Hp} {e d : Addr} {h : Str → Rat} {c n : Nat} (hd : ∀ xs, H e ≠ some (.tup xs)) (hk : ∀ ks, H e ≠ some (.dK ks)) (k : ∀ b o, b ≠ e → H b = some o → H1 b = some o) (p : Plain H d h c n) : Plain H1 d h c n := by
  obtain ⟨ks, h1, D⟩ := p.has
  exact ⟨⟨ks, k _ _ (fun x => hk ks (x ▸ h1)) h1, D.mono fun v q r => pair_off hd k r⟩, p.bits⟩
def retPlain (c n : Nat) (f : Str → Rat) (H : Hp) (Q : VK) : Prop := ∀ d H', Same H H' → H d = none → Plain H' d f c n → Q (.ref d) H'
def spLSum : Sp := fun vs H Q _ => ∃ d1 d2 tv h1 h2 q c1 c2 a1 a2 b, vs = [.ref d1, .ref d2, tv] ∧ Plain H d1 h1 c1 a1 ∧ Plain H d2 h2 c2 a2 ∧ IsPair H tv q ∧ Bits b q ∧ c1 + c2 ≤ 60 ∧ a1 + a2 + b ≤ 6900 ∧ retPlain (c1 + c2) (a1 + a2 + b + 1) (fun z => h1 z + h2 z * q) H Q
def spLRen : Sp := fun vs H Q _ => ∃ d dn h kn ks c a, vs = [.ref d, .ref dn] ∧ Plain H d h c a ∧ H d = some (.dK ks) ∧ H dn = some (.dK kn) ∧ NewNames kn ∧ c ≤ 60 ∧ (c + 1) * (a + 1) ≤ 6900 ∧ retPlain c (c * (a + 1) + 1) (fun y => renF (nameOf kn) h (keysS ks) y) H Q
section
variable {P : Program} {w : World} {K : PySem.W.Frag} {mg : Str → Option Value} {base : Heap} {f : Addr} {fd : FuncData} {H : Hp} {Q : VK}
theorem ok_lsum (F : FunD K "_law_sum" "_law_sum" (defArgs s_Lsum) (defBody s_Lsum) (defScope s_Lsum) [] [] f fd) (FY : Fy K mg) (CPL : Callee P w K mg base 3 "_law_plus" ["_law_one", "_law_other"] (spPBin (· + ·))) (CBY : Callee P w K mg base 3 "_law_by" ["_law_one", "_law_other"] (spPBin (· * ·))) :
    FnOk P w K mg base CX0 4 f fd ["_law_one", "_law_other", "_law_times"] spLSum := by
  refine F.ok scLsum (fun vs H Q E h => ?_) (fun cdv A outer s H vs Q E hr h => ?_)
  · obtain ⟨_, _, _, _, _, _, _, _, _, _, _, rfl, _⟩ := h
    rfl
  · obtain ⟨d1, d2, tv, h1, h2, q, c1, c2, a1, a2, b, rfl, p1, p2, ht, bq, lc, lab, qq⟩ := h
    obtain ⟨ks1, hd1, D1⟩ := p1.has
    obtain ⟨ks2, hd2, D2⟩ := p2.has
    have lf1 := D1.few
    have lf2 := D2.few
    have lk2 := D2.keysLen
    refine ⟨_, PSs.nox (pss_cons (ps_set (i := 3) scLsum.nd rfl (Or.inl rfl) (pe_callTy (call_dictP rfl) (by rfl) (FY.free "dict" (by decide +kernel)) (by decide +kernel) (pa_cons (LiI.pe_listItems rfl (pv 0) rfl (FY.free "list" (by decide +kernel)) (by decide +kernel)) pa_nil)))
  (pss_cons (ps_lock (ps_for PassesOwn.never rfl (pi_keys (pv 1)) (pg_name (i := 4) scLsum.nd rfl (Or.inl rfl)) (pss_one (ps_dput (hu_of hr) (pv 3) (pv 4) (KX.pe_c CPL hr (by decide) rfl (pa_cons (pe_dget2 (hu_of hr) (pv 3) (pv 4) (pe_tup (pa_cons pe_int (pa_cons pe_int pa_nil))) ⟨rfl, rfl, rfl, rfl⟩) (pa_cons (KX.pe_c CBY hr (by decide) rfl (pa_cons (pe_dget (hu_of hr) (pv 1) (pv 4) (fun _ _ => rfl)) (pa_cons (pv 2) pa_nil))) pa_nil))) rfl))))
  (pss_one (ps_ret (pv 3))))), ?_⟩
    walk_at "kf"
    refine rd_items ?_
    walk_at "kf"
    refine ⟨d1, ks1, rfl, hd1, fun H1 lp ts k1 hlp hts hnot hl hps => ?_⟩
    refine ⟨lp, ts, ks1, rfl, SqL.of hl, Paired.mapP hps fun t kv e => SqT.of e, fun fa hfa => ?_⟩
    have hfaH : H fa = none := Same.free k1 hfa
    rw [merge_self ks1 [] (by simpa using D1.nodup), List.nil_append]
    have k2 : Same H (upd H1 fa (.dK ks1)) := Same.trans k1 (KX.same_upd hfa)
    have e2 : (upd H1 fa (.dK ks1)) fa = some (.dK ks1) := upd_same
    generalize (upd H1 fa (.dK ks1)) = G at k2 e2 ⊢
    have n2 : fa ≠ d2 := fun e => by rw [e, hd2] at hfaH; cases hfaH
    walk_at "kf"
    refine rd_forKeys (i := 1) (d := d2) (ks := ks2) rfl (k2 _ _ hd2) (fun od j σ2 H2 => H2 d2 = some (.frz od (.dK ks2)) ∧ (∀ b o, b ≠ d2 → b ≠ fa → H b = some o → H2 b = some o) ∧ ∃ b4 ms, σ2 = [some (.ref d1), some (.ref d2), some tv, some (.ref fa), b4] ∧ H2 fa = some (.dK ms) ∧ DF RPair H2 ms (fun z => h1 z + if z ∈ (keysS ks2).take j then h2 z * q else 0) (c1 + j))
      (fun od => ⟨upd_same, fun b o n _ z => by rw [upd_ne n]; exact k2 _ _ z, none, ks1, rfl, by rw [upd_ne n2]; exact e2, ?_⟩) (fun od j σ2 H2 hp => hp.1) (fun od j k v σ2 H2 hj hp rt bk => ?_) (fun od σ2 H2 hp => ?_)
    · refine (D1.mono (S := RPair) fun v q r => pair_off (H := G) (d := d2) (fun xs e => by rw [k2 _ _ hd2] at e; cases e) (fun b o n z => by rw [upd_ne n]; exact z) (r.mono k2)).congr fun z => ?_
      rw [List.take_zero, if_neg (by simp), Rat.add_zero]
    · obtain ⟨hfz, ko, b4, ms, rfl, hms, D⟩ := hp
      obtain ⟨z, rfl, hz, hm⟩ := D2.keyAt hj
      obtain ⟨v2, hv2, r2, ok⟩ := D2.keysIn hm
      have hjl := (List.getElem?_eq_some_iff.mp hz).1
      have up : ∀ {v q}, IsPair H v q → IsPair H2 v q := fun ⟨a, e, h⟩ => ⟨a, e, ko _ _ (fun x => by rw [x, hd2] at h; cases h) (fun x => by rw [x, hfaH] at h; cases h) h⟩
      have r2' := up r2
      have ht' := up ht
      have nin : z ∉ (keysS ks2).take j := fun m => by
        obtain ⟨i, hi, e⟩ := List.mem_iff_getElem.mp m
        rw [List.length_take] at hi
        rw [List.getElem_take] at e
        have z2 := (List.pairwise_iff_getElem.mp D2.keysNd) i j (by omega) hjl (by omega)
        rw [e] at z2
        exact z2 (List.getElem?_eq_some_iff.mp hz).2.symm
      walk_at "kf"
      refine ⟨fa, rfl, .inl ⟨ms, .inl hms⟩, ?_⟩
      walk_at "kf"
      refine ⟨(show (2 : Nat) ≤ sizeLine by decide), fun t0 ht0 => ?_⟩
      have k3 := KX.same_upd (o := .tup [.int 0, .int 1]) ht0
      have e3 : IsPair (upd H2 t0 (.tup [.int 0, .int 1])) (.ref t0) 0 := ⟨t0, rfl, upd_same⟩
      have hms3 := k3 _ _ hms
      have hfz3 := k3 _ _ hfz
      have D3 := D.mono (S := RPair) (H' := (upd H2 t0 (.tup [.int 0, .int 1]))) fun v q r => r.mono k3
      have r3 := r2'.mono k3
      have ht3 := ht'.mono k3
      have ko3 : ∀ b o, b ≠ d2 → b ≠ fa → H b = some o → (upd H2 t0 (.tup [.int 0, .int 1])) b = some o := fun b o n1 n2 e => k3 _ _ (ko b o n1 n2 e)
      generalize (upd H2 t0 (.tup [.int 0, .int 1])) = H3 at k3 e3 hms3 hfz3 D3 r3 ht3 ko3 ⊢
      refine ⟨_, .inl ⟨ms, .inr z, .inl hms3, rfl, rfl⟩, ?_⟩
      have g3 := D3.get z e3
      rw [if_neg nin, Rat.add_zero] at g3
      walk_at "kf"
      refine ⟨d2, v2, rfl, .inl ⟨ks2, .inr z, .inr ⟨od, hfz3⟩, rfl, hv2.symm⟩, ?_⟩
      walk_at "kf"
      refine ⟨v2, tv, h2 z, q, a2, b, rfl, r3, ht3, p2.bits z, bq, by omega, fun v4 H4 k4 hv4 => ?_⟩
      walk_at "kf"
      refine ⟨_, v4, h1 z, h2 z * q, a1, a2 + b, rfl, g3.mono k4, hv4, p1.bits z, bits_times (p2.bits z) bq, by omega, fun v5 H5 k5 hv5 => ?_⟩
      walk_at "kf"
      have hms5 := k5 _ _ (k4 _ _ hms3)
      have nz : ∀ xs, H5 fa ≠ some (.tup xs) := fun xs e => by rw [hms5] at e; cases e
      refine ⟨fa, _, rfl, DPut.k (k := Sum.inr z) hms5 (Nat.lt_of_le_of_lt D.few (Nat.lt_of_lt_of_le (show c1 + j < 61 by omega) (by decide))), ?_⟩
      walk_at "kf"
      refine ⟨by rw [upd_ne (Ne.symm n2)]; exact k5 _ _ (k4 _ _ hfz3), fun b o n1 n3 e => by rw [upd_ne n3]; exact k5 _ _ (k4 _ _ (ko3 b o n1 n3 e)), _, _, rfl, upd_same, ?_⟩
      have D5 : DF RPair (upd H5 fa (.dK (putK ms (Sum.inr z) v5))) ms _ (c1 + j) := D3.mono fun v q r => pair_off nz (fun b o n z => by rw [upd_ne n]; exact z) ((r.mono k4).mono k5)
      refine (D5.put ok (pair_off nz (fun b o n z => by rw [upd_ne n]; exact z) hv5)).congr fun y => ?_
      have tk : (keysS ks2).take (j + 1) = (keysS ks2).take j ++ [z] := by
        rw [List.take_succ, hz]
        rfl
      rw [tk]
      by_cases e : y = z
      · rw [if_pos e, e, if_pos (by simp)]
      · rw [if_neg e]
        by_cases m : y ∈ (keysS ks2).take j
        · rw [if_pos m, if_pos (List.mem_append_left _ m)]
        · rw [if_neg m, if_neg]
          intro x
          rcases List.mem_append.mp x with x | x
          · exact m x
          · exact e (by simpa using x)
    · obtain ⟨hfz, ko, b4, ms, rfl, hms, D⟩ := hp
      rw [← lk2, List.take_length] at D
      walk_at "kf"
      refine qq fa _ (fun b o z => ?_) hfaH ⟨⟨ms, by rw [upd_ne n2]; exact hms, ?_⟩, fun z => (bits_plus (p1.bits z) (bits_times (p2.bits z) bq)).mono (by omega)⟩
      · by_cases e : b = d2
        · subst e
          rw [upd_same, ← z, hd2]
        · rw [upd_ne e]
          exact ko b o e (fun x => by rw [x, hfaH] at z; cases z) z
      · refine ((D.mono (S := RPair) fun v q r => pair_off (d := d2) (fun xs e => by rw [hfz] at e; cases e) (fun b o n z => by rw [upd_ne n]; exact z) r).weak (by omega)).congr fun z => ?_
        by_cases m : z ∈ keysS ks2
        · rw [if_pos m]
        · rw [if_neg m, D2.keysOut m, Rat.zero_mul]
theorem ok_lren (F : FunD K "_law_renamed" "_law_renamed" (defArgs s_Lrenamed) (defBody s_Lrenamed) (defScope s_Lrenamed) [] [] f fd) (FY : Fy K mg) (CPL : Callee P w K mg base 3 "_law_plus" ["_law_one", "_law_other"] (spPBin (· + ·))) :
    FnOk P w K mg base CX0 4 f fd ["_law_plain", "_law_names_here"] spLRen := by
  refine F.ok scLren (fun vs H Q E h => ?_) (fun cdv A outer s H vs Q E hr h => ?_)
  · obtain ⟨_, _, _, _, _, _, _, rfl, _⟩ := h
    rfl
  · obtain ⟨d, dn, h, kn, ks, c, a, rfl, pl, hd, hdn, N, lc, lca, qq⟩ := h
    have D : DF RPair H ks h c := by
      obtain ⟨ks', e1, e2⟩ := pl.has
      rw [hd] at e1
      injection e1 with e1
      injection e1 with e1
      rw [e1]
      exact e2
    have lf := D.few
    have lk := D.keysLen
    refine ⟨_, PSs.nox (pss_cons (ps_set (i := 2) scLren.nd rfl (Or.inl rfl) pe_dnewK)
  (pss_cons (ps_lock (ps_for PassesOwn.never rfl (pi_keys (pv 0)) (pg_name (i := 3) scLren.nd rfl (Or.inl rfl)) (pss_cons (ps_set (i := 4) scLren.nd rfl (Or.inl rfl) (pe_dget2 (hu_of hr) (pv 1) (pv 3) (pv 3) ⟨rfl, rfl, rfl, rfl⟩))
  (pss_one (ps_dput (hu_of hr) (pv 2) (pv 4) (KX.pe_c CPL hr (by decide) rfl (pa_cons (pe_dget2 (hu_of hr) (pv 2) (pv 4) (pe_tup (pa_cons pe_int (pa_cons pe_int pa_nil))) ⟨rfl, rfl, rfl, rfl⟩) (pa_cons (pe_dget (hu_of hr) (pv 0) (pv 3) (fun _ _ => rfl)) pa_nil))) rfl)))))
  (pss_one (ps_ret (pv 2))))), ?_⟩
    walk_at "kf"
    refine fun fa hfa => ?_
    have k2 : Same H (upd H fa (.dK [])) := KX.same_upd hfa
    have e2 : (upd H fa (.dK [])) fa = some (.dK []) := upd_same
    generalize (upd H fa (.dK [])) = G at k2 e2 ⊢
    have n2 : fa ≠ d := fun e => by rw [e, hd] at hfa; cases hfa
    have n3 : fa ≠ dn := fun e => by rw [e, hdn] at hfa; cases hfa
    walk_at "kf"
    refine rd_forKeys (i := 0) (d := d) (ks := ks) rfl (k2 _ _ hd) (fun od j σ2 H2 => H2 d = some (.frz od (.dK ks)) ∧ (∀ b o, b ≠ d → b ≠ fa → H b = some o → H2 b = some o) ∧ ∃ b3 b4 ms, σ2 = [some (.ref d), some (.ref dn), some (.ref fa), b3, b4] ∧ H2 fa = some (.dK ms) ∧ DF RPair H2 ms (fun y => renF (nameOf kn) h ((keysS ks).take j) y) j ∧ ∀ y, Bits (j * (a + 1) + 1) (renF (nameOf kn) h ((keysS ks).take j) y))
      (fun od => ⟨upd_same, fun b o n _ z => by rw [upd_ne n]; exact k2 _ _ z, none, none, [], rfl, by rw [upd_ne n2]; exact e2, DF.nil, fun y => bits_zero (by omega)⟩) (fun od j σ2 H2 hp => hp.1) (fun od j k v σ2 H2 hj hp rt bk => ?_) (fun od σ2 H2 hp => ?_)
    · obtain ⟨hfz, ko, b3, b4, ms, rfl, hms, DD, bb⟩ := hp
      obtain ⟨z, rfl, hz, hm⟩ := D.keyAt hj
      obtain ⟨v2, hv2, r2, ok⟩ := D.keysIn hm
      have hjl := (List.getElem?_eq_some_iff.mp hz).1
      have up : ∀ {v q}, IsPair H v q → IsPair H2 v q := fun ⟨a, e, h⟩ => ⟨a, e, ko _ _ (fun x => by rw [x, hd] at h; cases h) (fun x => by rw [x, hfa] at h; cases h) h⟩
      have r2' := up r2
      -- the names' dict, perhaps the plain one itself
      obtain ⟨gn, egn⟩ : ∃ u, DGet H2 dn (.str z) u ∧ u = valV kn (Sum.inr z : Key) := by
        by_cases e : dn = d
        · subst e
          rw [hd] at hdn
          injection hdn with hdn
          injection hdn with hdn
          subst hdn
          exact ⟨_, .inl ⟨ks, .inr z, .inr ⟨od, hfz⟩, rfl, rfl⟩, rfl⟩
        · exact ⟨_, .inl ⟨kn, .inr z, .inl (ko _ _ e (Ne.symm n3) hdn), rfl, rfl⟩, rfl⟩
      have isd : IsD H2 dn := by
        by_cases e : dn = d
        · subst e
          exact .inl ⟨ks, .inr ⟨od, hfz⟩⟩
        · exact .inl ⟨kn, .inl (ko _ _ e (Ne.symm n3) hdn)⟩
      obtain ⟨egn, eu⟩ := egn
      subst eu
      have ok2 := nameOf_ok N ok
      have jb : (j + 1) * (a + 1) ≤ c * (a + 1) := Nat.mul_le_mul_right _ (by omega)
      have je : (j + 1) * (a + 1) = j * (a + 1) + (a + 1) := Nat.succ_mul _ _
      have ce : (c + 1) * (a + 1) = c * (a + 1) + (a + 1) := Nat.succ_mul _ _
      walk_at "kf"
      refine ⟨dn, rfl, isd, ?_⟩
      walk_at "kf"
      refine ⟨_, egn, ?_⟩
      rw [show kV (Sum.inr z) = V.str z from rfl, nameOf_get N]
      walk_at "kf"
      refine ⟨fa, rfl, .inl ⟨ms, .inl hms⟩, ?_⟩
      walk_at "kf"
      refine ⟨(show (2 : Nat) ≤ sizeLine by decide), fun t0 ht0 => ?_⟩
      have k3 := KX.same_upd (o := .tup [.int 0, .int 1]) ht0
      have e3 : IsPair (upd H2 t0 (.tup [.int 0, .int 1])) (.ref t0) 0 := ⟨t0, rfl, upd_same⟩
      have hms3 := k3 _ _ hms
      have hfz3 := k3 _ _ hfz
      have D3 := DD.mono (S := RPair) (H' := (upd H2 t0 (.tup [.int 0, .int 1]))) fun v q r => r.mono k3
      have r3 := r2'.mono k3
      have ko3 : ∀ b o, b ≠ d → b ≠ fa → H b = some o → (upd H2 t0 (.tup [.int 0, .int 1])) b = some o := fun b o n1 n2 e => k3 _ _ (ko b o n1 n2 e)
      generalize (upd H2 t0 (.tup [.int 0, .int 1])) = H3 at k3 e3 hms3 hfz3 D3 r3 ko3 ⊢
      refine ⟨_, .inl ⟨ms, .inr (nameOf kn z), .inl hms3, rfl, rfl⟩, ?_⟩
      have g3 := D3.get (nameOf kn z) e3
      walk_at "kf"
      refine ⟨d, v2, rfl, .inl ⟨ks, .inr z, .inr ⟨od, hfz3⟩, rfl, hv2.symm⟩, ?_⟩
      walk_at "kf"
      refine ⟨_, v2, _, h z, _, a, rfl, g3, r3, bb _, pl.bits z, by omega, fun v5 H5 k5 hv5 => ?_⟩
      walk_at "kf"
      have hms5 := k5 _ _ hms3
      have nz : ∀ xs, H5 fa ≠ some (.tup xs) := fun xs e => by rw [hms5] at e; cases e
      refine ⟨fa, _, rfl, DPut.k (k := Sum.inr (nameOf kn z)) hms5 (Nat.lt_of_le_of_lt DD.few (Nat.lt_of_lt_of_le (show j < 61 by omega) (by decide))), ?_⟩
      walk_at "kf"
      have tk : (keysS ks).take (j + 1) = (keysS ks).take j ++ [z] := by
        rw [List.take_succ, hz]
        rfl
      have ef : ∀ y, renF (nameOf kn) h ((keysS ks).take (j + 1)) y = if y = nameOf kn z then renF (nameOf kn) h ((keysS ks).take j) y + h z else renF (nameOf kn) h ((keysS ks).take j) y := fun y => by
        rw [tk, renF_app]
        by_cases e : y = nameOf kn z
        · rw [if_pos e, if_pos e.symm]
        · rw [if_neg e, if_neg fun x => e x.symm, Rat.add_zero]
      refine ⟨by rw [upd_ne (Ne.symm n2)]; exact k5 _ _ hfz3, fun b o n1 n3 e => by rw [upd_ne n3]; exact k5 _ _ (ko3 b o n1 n3 e), _, _, _, rfl, upd_same, ?_, fun y => ?_⟩
      · have D5 : DF RPair (upd H5 fa (.dK (putK ms (Sum.inr (nameOf kn z)) v5))) ms _ j := D3.mono fun v q r => pair_off nz (fun b o n z => by rw [upd_ne n]; exact z) (r.mono k5)
        refine (D5.put ok2 (pair_off nz (fun b o n z => by rw [upd_ne n]; exact z) hv5)).congr fun y => ?_
        rw [ef]
        by_cases e : y = nameOf kn z
        · rw [if_pos e, if_pos e, e]
        · rw [if_neg e, if_neg e]
      · rw [ef]
        split
        · exact (bits_plus (bb y) (pl.bits z)).mono (by omega)
        · exact (bb y).mono (by omega)
    · obtain ⟨hfz, ko, b3, b4, ms, rfl, hms, DD, bb⟩ := hp
      rw [← lk, List.take_length] at DD bb
      have jb : (keysS ks).length * (a + 1) ≤ c * (a + 1) := Nat.mul_le_mul_right _ (by omega)
      walk_at "kf"
      refine qq fa _ (fun b o z => ?_) hfa ⟨⟨ms, by rw [upd_ne n2]; exact hms, ?_⟩, fun z => (bb z).mono (by omega)⟩
      · by_cases e : b = d
        · subst e
          rw [upd_same, ← z, hd]
        · rw [upd_ne e]
          exact ko b o e (fun x => by rw [x, hfa] at z; cases z) z
      · exact (DD.mono (S := RPair) fun v q r => pair_off (d := d) (fun xs e => by rw [hfz] at e; cases e) (fun b o n z => by rw [upd_ne n]; exact z) r).weak (by omega)
end

end K5
namespace K5
open PySem PySem.Spec PyProof.Rows L2 KY PySem.W
local macro_rules | `(tactic| walk_at "kx1") => `(tactic| with_reducible first
  | refine KX.rd_seq ?_ | refine KX.rd_asg ?_ | refine KX.rd_op ?_ | refine KX.rd_c ?_ | refine KX.rd_cb ?_ | refine KX.rd_cons ?_ | refine KX.rd_nil ?_ | refine KX.rd_un ?_ | refine KX.rd_nx ?_ | refine KX.rd_rt ?_ | refine KX.rd_next ?_ | refine KX.rd_ret ?_
  | refine KX.rd_ifs ?_ | refine KX.rd_if ?_ | refine KX.rd_test ?_ | refine KX.rd_B ?_ | refine KX.rd_bl ?_ | refine KX.rd_and ?_ | refine KX.rd_or ?_ | refine KX.rd_not ?_ | refine KX.rd_I0 ?_ | refine KX.rd_U ?_ | refine KX.rd_int ?_ | refine KX.rd_intB ?_ | refine KX.rd_abs ?_
  | refine KX.rd_gname ?_ | refine KX.rd_gsub ?_ | refine KX.rd_call ?_ | refine KX.rd_drop ?_ | refine KX.rd_yes ?_ | refine KX.rd_andV ?_ | refine KX.rd_orV ?_ | refine KX.rd_notV ?_)
local macro_rules | `(tactic| walk_at "hp") => `(tactic| first
  | assumption
  | exact upd_same
  | (refine Eq.trans (upd_ne (by assumption)) ?_; walk_at "hp")
  | (refine Eq.trans (upd_ne (Ne.symm (by assumption))) ?_; walk_at "hp"))
local macro_rules | `(tactic| walk_at "kx2") => `(tactic| first
  | walk_at "kx1"
  | ((with_reducible refine KX.rd_T ?e ?_); (case e => rfl))
  | ((with_reducible refine KX.rd_F ?e ?_); (case e => rfl))
  | ((with_reducible refine' KX.rd_var ?e ?_); (case e => rfl))
  | ((with_reducible refine' KX.rd_I ?e ?_); (case e => first | assumption | decide | exact Or.inl ⟨by omega, by omega⟩ | exact ⟨by decide, by decide, by decide⟩ | exact ⟨by decide, by decide⟩))
  | ((with_reducible refine' KX.rd_eq ?e ?_); (case e => rfl))
  | ((with_reducible refine' KX.rd_ne ?e ?_); (case e => rfl))
  | ((with_reducible refine' KX.rd_ix ?e ?e2 ?_); (case e => first | assumption | exact SqL.of (by walk_at "hp")); (case e2 => first | assumption | rfl))
  | ((with_reducible refine' KX.rd_len ?e ?_); (case e => first | assumption | exact SqL.of (by walk_at "hp")))
  | ((with_reducible refine' KX.rd_set ?e ?e2 ?_); (case e => walk_at "hp"); (case e2 => rfl)))
local macro_rules | `(tactic| walk_at "kx") => `(tactic| repeat walk_at "kx2")
local macro_rules | `(tactic| walk_at "kx3") => `(tactic| first
  | walk_at "kx2"
  | (with_reducible refine rd_fld2 ?_)
  | ((with_reducible refine' rd_get ?e ?c ?n ?l ?_); (case e => assumption); (case c => assumption); (case n => assumption); (case l => rfl))
  | ((with_reducible refine' rd_p0 ?e ?_); (case e => assumption))
  | ((with_reducible refine' rd_p1 ?e ?_); (case e => assumption))
  | ((with_reducible refine' rd_mulw ?e ?_); (case e => assumption)))
local macro_rules | `(tactic| walk_at "kx4") => `(tactic| with_reducible first
  | refine rd_js_cons ?_ | refine rd_js_nil ?_ | refine rd_fmt ?_ | refine rd_dget ?_ | refine rd_dget2 ?_ | refine rd_dput ?_ | refine rd_rat ?_ | refine rd_bal ?_ | refine rd_forL ?_ | refine rd_sfld ?_ | refine KX.rd_tup ?_ | refine KX.rd_lst ?_ | refine rd_smeth ?_ | refine rd_forT ?_ | refine rd_lcT ?_ | refine rd_lcL ?_ | refine rd_dcT ?_ | refine rd_join ?_ | refine rd_par ?_ | refine rd_sl ?_ | refine rd_part ?_ | refine rd_partI ?_ | refine rd_nopart ?_ | refine rd_revL ?_)
local macro_rules | `(tactic| walk_at "kf") => `(tactic| repeat (first | walk_at "kx3" | walk_at "kx4"))
abbrev nmscLleast : List Str := ["_law_plain", "_law_bottom", "_law_shared_here", "_law_thing"]
theorem scLleast : FnScope nmscLleast ["_law_plain"] (defScope s_Lleast) := ⟨rfl, rfl, rfl, by decide +kernel, rfl, by decide +kernel, by decide +kernel⟩
theorem scLnames : FnScope ["_law_reel_here", "_law_things_here", "_law_names_here", "_law_thing"] ["_law_reel_here", "_law_things_here"] (defScope s_Lnames) := ⟨rfl, rfl, rfl, by decide +kernel, rfl, by decide +kernel, by decide +kernel⟩
def rDictP (K : PySem.W.Frag) : List V → Hp → VK → Prop := fun xs H Q => ∃ (a : Addr) (ps : List Addr) (kvs : List (Key × V)), xs = [.ref a] ∧ SqL K H a (ps.map V.ref) ∧ Paired (fun p kv => SqT K H p [kV kv.1, kv.2]) ps kvs ∧ ∀ p, H p = none → Q (.ref p) (upd H p (.dK (mergeK [] kvs)))
theorem c_dictP {X : Cx} (hc : X.calm = true) : CallR X (.type "dict") (rDictP X.K) := call_dictP hc
theorem rd_dictP {K : PySem.W.Frag} {H : Hp} {Q : VK} {D : Addr} {S : Hp → V → Str → Prop} {acc : List V} {zs : List Str} (hl : H D = some (.lst acc)) (hps : Paired (IsItem S H) acc zs)
    (q : ∀ p kvs, H p = none → Paired (fun (kv : Key × V) (z : Str) => kv.1 = Sum.inr z ∧ S H kv.2 z) kvs zs → Q (.ref p) (upd H p (.dK (mergeK [] kvs)))) : rDictP K [.ref D] H Q := by
  obtain ⟨ps, kvs, rfl, h1, h2⟩ := items_of hps
  exact ⟨D, ps, kvs, rfl, SqL.of hl, Paired.mapP h1 fun _ _ e => SqT.of e, fun p hp => q p kvs hp h2⟩
theorem items_df {S : Hp → V → Str → Prop} {R : Hp → V → Rat → Prop} {H H' : Hp} {h : Str → Rat} {kvs : List (Key × V)} {zs : List Str} (hk : Paired (fun (kv : Key × V) (z : Str) => kv.1 = Sum.inr z ∧ S H kv.2 z) kvs zs) (hR : ∀ v z, z ∈ zs → S H v z → R H' v (h z)) (ok : ∀ z ∈ zs, NameOk z) (out : ∀ z, z ∉ zs → h z = 0) :
    DF R H' (mergeK [] kvs) h zs.length := by
  refine ((merge_df (h := h) kvs [] (fun _ => 0) 0 DF.nil fun p hp => ?_).weak (by rw [Paired.length hk]; omega)).congr fun z => ?_
  · obtain ⟨z, hz, e, r⟩ := mem_of hk p hp
    exact ⟨z, e, ok z hz, hR _ _ hz r⟩
  · rw [keys_of hk]
    by_cases m : (Sum.inr z : Key) ∈ zs.map (Sum.inr : Str → Key)
    · rw [if_pos m]
    · rw [if_neg m, out z fun x => m (List.mem_map_of_mem x)]
/-- a comprehension whose items are new objects -/
theorem lc_rel {α : Type} {σ : L2.St} {g : TG} {tt : TT} {te : TE} {vs : List Nat} {L : Hp} {Qd : Addr → Hp → Prop} {J : It} {N : Nat} {G : Hp → Prop} {Y : Nat → Hp → V → Hp → Prop} (w : Walk J N G Y) (as : List α) (len : as.length = N) (small : N ≤ 1000) (hG : ∀ H2, Same L H2 → G H2)
    (Rel : Hp → V → α → Prop) (st : Stable Rel) (mono : ∀ H H' v a, Same H H' → Rel H v a → Rel H' v a)
    (step : ∀ j x a H2 H', j < N → as[j]? = some a → Same L H2 → Y j H2 x H' → ∀ (Qe : VK) (Pz : Hp → Prop), (∀ H5 y, Same H2 H5 → Rel H5 y a → Qe y H5) →
      g x (wipe σ vs) H' fun σ2 H3 => wipe σ2 vs = wipe σ vs ∧ tt σ2 H3 fun b H4 => if b = true then te σ2 H4 Qe else Pz H4)
    (done : ∀ D H2 acc, L D = none → Same L H2 → H2 D = some (.lst acc) → Paired (Rel H2) acc as → Qd D H2) : ∀ D, L D = none → ∃ W : Nat → Nat → Hp → Prop, (∃ m, W 0 m (upd L D (.lst []))) ∧ ∀ i m H, W i m H →
  (J.stop i H ∧ Qd D H) ∨ (J.go i H ∧ ∃ Nx : Hp → Prop, (∀ H', Nx H' → ∃ m', m' < m ∧ W (i + 1) m' H') ∧ ∀ x H', J.yld i H x H' → g x (wipe σ vs) H' fun σ2 H2 => wipe σ2 vs = wipe σ vs ∧ tt σ2 H2 fun b H3 =>
    if b = true then te σ2 H3 fun y H4 => ∃ acc, H4 D = some (.lst acc) ∧ acc.length < sizeLine ∧ Nx (upd H4 D (.lst (acc ++ [y]))) else Nx H3) := by
  intro D hD
  have sm : ∀ {H2}, KX.But D L H2 → Same L H2 := fun hb b o z => hb b o (ne_of_none z hD) z
  refine lc_it w (fun j H2 => KX.But D L H2 ∧ ∃ acc, H2 D = some (.lst acc) ∧ Paired (Rel H2) acc (as.take j)) ⟨KX.But.new KX.But.refl hD, [], upd_same, .nil⟩ (fun j H2 _ hp => hG H2 (sm hp.1)) (fun j x H2 H' hj hp hy => ?_) (fun H2 hp => ?_)
  · obtain ⟨hb, acc, hl, hps⟩ := hp
    have hj2 : j < as.length := by omega
    refine step j x as[j] H2 H' hj (List.getElem?_eq_getElem hj2) (sm hb) hy _ _ (fun H5 y k5 r5 => ?_)
    have hl5 := k5 _ _ hl
    refine ⟨acc, hl5, ?_, (hb.trans (KX.But.of k5)).upd, acc ++ [y], upd_same, ?_⟩
    · rw [Paired.length hps, List.length_take]
      exact Nat.lt_of_lt_of_le (show _ < 1001 by omega) (by decide)
    · rw [List.take_succ, List.getElem?_eq_getElem hj2]
      refine paired_app (Paired.mapP hps fun v a r => ?_) (st _ _ _ _ D acc hl5 (fun b o n z => by rw [upd_ne n]; exact z) r5)
      exact st _ _ _ _ D acc hl5 (fun b o n z => by rw [upd_ne n]; exact z) (mono _ _ _ _ k5 r)
  · obtain ⟨hb, acc, hl, hps⟩ := hp
    rw [← len, List.take_length] at hps
    exact done D H2 acc hD (sm hb) hl hps
theorem stable_pair (h : Str → Rat) : Stable (fun H v (z : Str) => IsPair H v (h z)) := fun _ _ _ _ d xs hd k r => pair_off (fun ys e => by rw [hd] at e; cases e) k r
theorem item_mono {S : Hp → V → Str → Prop} (m : ∀ H H' v z, Same H H' → S H v z → S H' v z) : ∀ H H' v z, Same H H' → IsItem S H v z → IsItem S H' v z := by
  intro H H' v z k ⟨p, v', e, hp, s⟩
  exact ⟨p, v', e, k _ _ hp, m _ _ _ _ k s⟩
def spLLeast : Sp := fun vs H Q _ => ∃ d h c a m e, vs = [.ref d] ∧ Plain H d h c a ∧ c < 60 ∧ 1 ≤ a ∧ a ≤ 2200 ∧ Canon m ∧ (∀ z, valM m z = h z) ∧ (∀ p ∈ m, p.2.den < 2 ^ e) ∧ c * e ≤ 62 ∧ retPlain c (a + 64) (valM (least m)) H Q
def spNames2 : Sp := fun vs H Q _ => ∃ (t l : Addr) (n : Nat) (zs : List Str), vs = [.ref t, .ref l] ∧ RL n H t ∧ n ≤ 9000 ∧ l ≠ t ∧ H l = some (.lst (zs.map V.str)) ∧ NamesL 4 zs ∧
  ∀ d ks H', RL (n + 8) H' t → BT t H H' → H d = none → H' d = some (.dK ks) → NewNames ks → (ks.map Prod.fst).Nodup → Q (.ref d) H'
theorem lcm_int (b d : Nat) : (b : Int) * ((d / Nat.gcd b d : Nat) : Int) = ((Nat.lcm b d : Nat) : Int) := by
  rw [← Int.natCast_mul]
  congr 1
  unfold Nat.lcm
  rw [Nat.mul_div_assoc _ (Nat.gcd_dvd_right b d)]
theorem newnames_put {ks : List (Key × V)} {z y : Str} {c : Nat} (N : ∀ p ∈ ks, ∃ z y, p.1 = Sum.inr z ∧ p.2 = V.str y ∧ NameOk z ∧ NameOk y) (hz : NameOk z) (hy : NameOk y) : ∀ p ∈ putK ks (Sum.inr z) (.str y), ∃ z y, p.1 = Sum.inr z ∧ p.2 = V.str y ∧ NameOk z ∧ NameOk y := by
  intro p hp
  unfold putK at hp
  split at hp
  · obtain ⟨q, hq, e⟩ := List.mem_map.mp hp
    by_cases e2 : q.1 = Sum.inr z
    · rw [if_pos e2] at e
      subst e
      exact ⟨z, y, e2, rfl, hz, hy⟩
    · rw [if_neg e2] at e
      subst e
      exact N q hq
  · rcases List.mem_append.mp hp with hp | hp
    · exact N p hp
    · rw [List.mem_singleton] at hp
      subst hp
      exact ⟨z, y, rfl, rfl, hz, hy⟩
theorem putK_nd {ks : List (Key × V)} {k : Key} {v : V} (nd : (ks.map Prod.fst).Nodup) : ((putK ks k v).map Prod.fst).Nodup := by
  rw [putK_keys]
  split
  · exact nd
  · rename_i n
    refine List.nodup_append.mpr ⟨nd, by simp, fun a ha b hb => ?_⟩
    rw [List.mem_singleton] at hb
    subst hb
    intro e
    subst e
    refine valV_none ?_ ha
    cases x : valV ks a with
    | none => rfl
    | some _ => rw [x] at n; exact absurd rfl n
section
variable {P : Program} {w : World} {K : PySem.W.Frag} {mg : Str → Option Value} {base : Heap} {f : Addr} {fd : FuncData} {H : Hp} {Q : VK}
theorem ok_lleast (F : FunD K "_law_least" "_law_least" (defArgs s_Lleast) (defBody s_Lleast) (defScope s_Lleast) [] [] f fd) (FY : Fy K mg) (CNM : Callee P w K mg base 1 "_law_named" ["_law_plain"] spNamed) (CS : Callee P w K mg base 1 "_law_shared" ["_law_one", "_law_other"] spShared) :
    FnOk P w K mg base CX0 2 f fd ["_law_plain"] spLLeast := by
  refine F.ok scLleast (fun vs H Q E h => ?_) (fun cdv A outer s H vs Q E hr h => ?_)
  · obtain ⟨_, _, _, _, _, _, rfl, _⟩ := h
    rfl
  · obtain ⟨d, h, c, a, m, ee, rfl, pl, lc, la, lab, cm, ev, hden, lcd, qq⟩ := h
    have lf := plain_few pl cm ev
    have oks := plain_names pl cm ev
    have bs := bottom_small hden lf lcd
    have bq : ∀ p ∈ m, Bits a p.2 := fun p hp => by
      have z := pl.bits p.1
      rw [← ev, valM_mem cm.nodup hp] at z
      exact z
    -- the pair at a name
    have rd : ∀ {H2 : Hp} {p : Str × Rat}, Plain H2 d h c a → p ∈ m → ∃ ks va, H2 d = some (.dK ks) ∧ valV ks (Sum.inr p.1 : Key) = some (.ref va) ∧ H2 va = some (.tup [.int p.2.num, .int p.2.den]) := fun {H2 p} pl2 pm => by
      obtain ⟨ks, hd, D⟩ := pl2.has
      have ev2 : h p.1 = p.2 := by rw [← ev, valM_mem cm.nodup pm]
      have hz : p.1 ∈ keysS ks := Classical.byContradiction fun x => by
        have z := D.keysOut x
        rw [ev2] at z
        exact cm.nz p pm z
      obtain ⟨v, hv, ⟨va, rfl, r⟩, _⟩ := D.keysIn hz
      rw [ev2] at r
      exact ⟨ks, va, hd, hv, r⟩
    refine ⟨_, PSs.nox (pss_cons (ps_asg (pe_tup (pa_cons pe_int (pa_cons pe_int pa_nil))) (pg_tup (by rfl) (pgs_cons (pg_name (i := 1) scLleast.nd rfl (Or.inr rfl)) (pgs_cons (pg_name (i := 2) scLleast.nd rfl (Or.inr rfl)) pgs_nil))))
  (pss_cons (ps_for PassesOwn.never rfl (pi_list (KX.pe_c CNM hr (by decide) rfl (pa_cons (pv 0) pa_nil))) (pg_name (i := 3) scLleast.nd rfl (Or.inl rfl)) (pss_one (ps_set (i := 1) scLleast.nd rfl (Or.inr rfl) (pe_op op_mulW (pv 1) (pe_op op_fdivZ (pe_ix ix_tup (pe_dget (hu_of hr) (pv 0) (pv 3) (fun _ _ => rfl)) pe_int (fun _ _ => rfl)) (KX.pe_c CS hr (by decide) rfl (pa_cons (pv 1) (pa_cons (pe_ix ix_tup (pe_dget (hu_of hr) (pv 0) (pv 3) (fun _ _ => rfl)) pe_int (fun _ _ => rfl)) pa_nil))))))))
  (pss_cons (ps_for PassesOwn.never rfl (pi_list (KX.pe_c CNM hr (by decide) rfl (pa_cons (pv 0) pa_nil))) (pg_name (i := 3) scLleast.nd rfl (Or.inl rfl)) (pss_one (ps_set (i := 2) scLleast.nd rfl (Or.inr rfl) (KX.pe_c CS hr (by decide) rfl (pa_cons (pv 2) (pa_cons (pe_op op_mulW (pe_ix ix_tup (pe_dget (hu_of hr) (pv 0) (pv 3) (fun _ _ => rfl)) pe_int (fun _ _ => rfl)) (pe_op op_fdivZ (pv 1) (pe_ix ix_tup (pe_dget (hu_of hr) (pv 0) (pv 3) (fun _ _ => rfl)) pe_int (fun _ _ => rfl)))) pa_nil))))))
  (pss_one (ps_ret (pe_callTy (c_dictP rfl) (by rfl) (FY.free "dict" (by decide +kernel)) (by decide +kernel) (pa_cons (pe_lc (own := [("_law_thing", 3)]) (g := gName 3) (te := tTup (tCons (tVar 3) (tCons (tTup (tCons (tOp (rI CDivZ fun i j => .int (i.fdiv j)) (tOp (rI CMulW fun i j => .int (i * j)) (tOp (rIxT K) (tDGet (tVar 0) (tVar 3)) (tC (.int 0))) (tOp (rI CDivZ fun i j => .int (i.fdiv j)) (tVar 1) (tOp (rIxT K) (tDGet (tVar 0) (tVar 3)) (tC (.int 1))))) (tVar 2)) (tCons (tC (.int 1)) tNil))) tNil))) (tt := tYes) rfl scLleast.nd (pi_list (KX.pe_c CNM hr (by decide) rfl (pa_cons (pv 0) pa_nil))) (blkOk_by (N := nmscLleast) (sc := defScope s_Lleast) (by decide +kernel)) (fun _ _ _ _ _ => pg_name (i := 3) scLleast.nd rfl (Or.inl rfl)) (fun _ _ _ _ _ => pts_nil) (fun _ _ _ _ _ => by exact (pe_tup (pa_cons (pv 3) (pa_cons (pe_tup (pa_cons (pe_op op_fdivZ (pe_op op_mulW (pe_ix ix_tup (pe_dget (hu_of hr) (pv 0) (pv 3) (fun _ _ => rfl)) pe_int (fun _ _ => rfl)) (pe_op op_fdivZ (pv 1) (pe_ix ix_tup (pe_dget (hu_of hr) (pv 0) (pv 3) (fun _ _ => rfl)) pe_int (fun _ _ => rfl)))) (pv 2)) (pa_cons pe_int pa_nil))) pa_nil))))) pa_nil))))))), ?_⟩
    walk_at "kf"
    refine ⟨(show (2 : Nat) ≤ sizeLine by decide), fun tp htp => ?_⟩
    refine ⟨tp, _, rfl, SqT.of upd_same, rfl, _, _, rfl, ?_⟩
    walk_at "kf"
    refine ⟨_, _, rfl, ?_⟩
    walk_at "kf"
    refine ⟨rfl, ?_⟩
    have k0 : Same H (upd H tp (.tup [.int 1, .int 0])) := KX.same_upd htp
    generalize (upd H tp (.tup [.int 1, .int 0])) = H0 at k0 ⊢
    walk_at "kf"
    refine ⟨d, h, c, a, m, rfl, pl.mono k0, lc, cm, ev, fun np H1 k1 _ hnp => ?_⟩
    have pl1 := (pl.mono k0).mono k1
    refine ⟨np, rfl, ⟨_, SqL.of hnp⟩, for_list (xs := m.map fun p => V.str p.1) (fun j σ2 H2 => H2 = H1 ∧ ∃ b3, σ2 = [some (.ref d), some (.int ((bottomOf (m.take j) : Nat) : Int)), some (.int 0), b3]) ⟨rfl, none, rfl⟩ (fun j σ2 H2 _ hp => hp.1 ▸ SqL.of hnp) (fun j x σ2 H2 hx hp => ?_) (fun σ2 H2 hp => ?_)⟩
    · obtain ⟨rfl, b3, rfl⟩ := hp
      rw [List.getElem?_map] at hx
      obtain ⟨p, hp, rfl⟩ := Option.map_eq_some_iff.mp hx
      have pm := List.mem_of_getElem? hp
      obtain ⟨ks, va, hd, hv, hva⟩ := rd pl1 pm
      have b1 : bottomOf (m.take j) < 2 ^ 64 := bottom_small (fun q hq => hden q (List.mem_of_mem_take hq)) (Nat.le_trans (List.length_take_le' j m) lf) lcd
      have bp := bq p pm
      have g0 : 0 < Nat.gcd (bottomOf (m.take j)) p.2.den := Nat.gcd_pos_of_pos_right _ (Nat.pos_of_ne_zero p.2.den_nz)
      have gl : Nat.gcd (bottomOf (m.take j)) p.2.den ≤ p.2.den := Nat.gcd_le_right _ (Nat.pos_of_ne_zero p.2.den_nz)
      have z1 : CDivZ ((p.2.den : Nat) : Int) ((Nat.gcd ((bottomOf (m.take j) : Nat) : Int).natAbs ((p.2.den : Nat) : Int).natAbs : Nat) : Int) := by
        rw [Int.natAbs_natCast, Int.natAbs_natCast]
        refine ⟨by omega, ?_⟩
        rw [Int.natAbs_natCast]
        refine Nat.lt_of_lt_of_le ((Nat.log2_lt (by omega)).mpr (Nat.lt_of_le_of_lt gl bp.den)) (by omega)
      have z2 : CMulW ((bottomOf (m.take j) : Nat) : Int) (((p.2.den / Nat.gcd (bottomOf (m.take j)) p.2.den : Nat)) : Int) := wide_mul (a := 64) (by rw [Int.natAbs_natCast]; exact b1) (b := a) (by rw [Int.natAbs_natCast]; exact Nat.lt_of_le_of_lt (Nat.div_le_self _ _) bp.den) (by decide) (by omega) (by omega)
      walk_at "kf"
      refine rd_dgetS hd hv ?_
      walk_at "kf"
      refine rd_dgetS hd hv ?_
      walk_at "kf"
      refine ⟨_, _, rfl, ?_⟩
      refine KX.rd_I z1 ?_
      rw [Int.natAbs_natCast, Int.natAbs_natCast, fdiv_nat]
      walk_at "kf"
      refine ⟨rfl, some (.str p.1), ?_⟩
      rw [bottom_take m hp, lcm_int]
      rfl
    obtain ⟨rfl, b3, rfl⟩ := hp
    rw [List.length_map, List.take_length]
    walk_at "kf"
    refine ⟨d, h, c, a, m, rfl, pl1, lc, cm, ev, fun np2 H3 k3 _ hnp2 => ?_⟩
    have pl3 := pl1.mono k3
    refine ⟨np2, rfl, ⟨_, SqL.of hnp2⟩, for_list (xs := m.map fun p => V.str p.1) (fun j σ2 H4 => H4 = H3 ∧ ∃ b3, σ2 = [some (.ref d), some (.int ((bottomOf m : Nat) : Int)), some (.int ((sharedOf (bottomOf m) (m.take j) : Nat) : Int)), b3]) ⟨rfl, _, rfl⟩ (fun j σ2 H4 _ hp => hp.1 ▸ SqL.of hnp2) (fun j x σ2 H4 hx hp => ?_) (fun σ2 H4 hp => ?_)⟩
    · obtain ⟨rfl, b3, rfl⟩ := hp
      rw [List.getElem?_map] at hx
      obtain ⟨p, hp, rfl⟩ := Option.map_eq_some_iff.mp hx
      have pm := List.mem_of_getElem? hp
      obtain ⟨ks, va, hd, hv, hva⟩ := rd pl3 pm
      have bp := bq p pm
      have z1 : CDivZ ((bottomOf m : Nat) : Int) ((p.2.den : Nat) : Int) := ⟨den_ne p.2, by rw [Int.natAbs_natCast]; exact bits_small bp (by omega)⟩
      have z2 : CMulW p.2.num (((bottomOf m / p.2.den : Nat) : Int)) := wide_mul bp.num (b := 64) (by rw [Int.natAbs_natCast]; exact Nat.lt_of_le_of_lt (Nat.div_le_self _ _) bs) (bits_pos bp) (by decide) (by omega)
      walk_at "kf"
      refine rd_dgetS hd hv ?_
      walk_at "kf"
      refine rd_dgetS hd hv ?_
      walk_at "kf"
      rw [fdiv_nat]
      walk_at "kf"
      refine ⟨_, _, rfl, ?_⟩
      walk_at "kf"
      refine ⟨rfl, some (.str p.1), ?_⟩
      rw [shared_take _ m hp, Int.natAbs_natCast]
      rfl
    obtain ⟨rfl, b4, rfl⟩ := hp
    rw [List.length_map, List.take_length]
    walk_at "kf"
    refine ⟨d, h, c, a, m, rfl, pl3, lc, cm, ev, fun np3 H5 k5 _ hnp3 => ?_⟩
    have pl5 := pl3.mono k5
    have kA := ((k0.trans k1).trans k3).trans k5
    refine ⟨np3, rfl, ⟨_, SqL.of hnp3⟩, lc_rel (walk_l K np3 _) m (by rw [List.length_map]) (by rw [List.length_map]; omega) (fun H6 k6 => SqL.of (k6 _ _ hnp3)) (fun H v (p : Str × Rat) => IsItem (fun H v z => IsPair H v (valM (least m) z)) H v p.1) (fun _ _ _ _ d xs hd k r => stable_item (stable_pair _) _ _ _ _ d xs hd k r) (fun _ _ _ _ k r => item_mono (S := fun H v z => IsPair H v (valM (least m) z)) (fun _ _ _ _ k s => IsPair.mono s k) _ _ _ _ k r) (fun j x p H6 H7 hj hp k6 hy Qe Pz fin => ?_) (fun D H6 acc hD k6 hl hps => ?_)⟩
    · obtain ⟨rfl, hx⟩ := hy
      rw [List.getElem?_map, hp] at hx
      injection hx with hx
      subst hx
      have pm := List.mem_of_getElem? hp
      obtain ⟨ks, va, hd, hv, hva⟩ := rd (pl5.mono k6) pm
      have bp := bq p pm
      have hne : m ≠ [] := List.ne_nil_of_mem pm
      have s0 := shared_ne cm hne
      have sb := shared_small cm bs bq
      have z1 : CDivZ ((bottomOf m : Nat) : Int) ((p.2.den : Nat) : Int) := ⟨den_ne p.2, by rw [Int.natAbs_natCast]; exact bits_small bp (by omega)⟩
      have z2 : CMulW p.2.num (((bottomOf m / p.2.den : Nat) : Int)) := wide_mul bp.num (b := 64) (by rw [Int.natAbs_natCast]; exact Nat.lt_of_le_of_lt (Nat.div_le_self _ _) bs) (bits_pos bp) (by decide) (by omega)
      have z3 : CDivZ (p.2.num * (((bottomOf m / p.2.den : Nat)) : Int)) ((sharedOf (bottomOf m) m : Nat) : Int) := ⟨by omega, by rw [Int.natAbs_natCast]; exact Nat.lt_of_lt_of_le ((Nat.log2_lt s0).mpr sb) (by omega)⟩
      refine ⟨rfl, ?_⟩
      walk_at "kf"
      refine rd_dgetS hd hv ?_
      walk_at "kf"
      refine rd_dgetS hd hv ?_
      walk_at "kf"
      rw [fdiv_nat]
      walk_at "kf"
      rw [Int.fdiv_eq_ediv_of_nonneg _ (Int.natCast_nonneg (sharedOf (bottomOf m) m))]
      have el : p.2.num * (((bottomOf m / p.2.den : Nat)) : Int) / ((sharedOf (bottomOf m) m : Nat) : Int) = leastInt m p.2 := rfl
      rw [el]
      refine ⟨(show (2 : Nat) ≤ sizeLine by decide), fun t1 ht1 => ?_⟩
      have kt1 := KX.same_upd (o := .tup [.int (leastInt m p.2), .int 1]) ht1
      walk_at "kf"
      refine ⟨(show (2 : Nat) ≤ sizeLine by decide), fun t2 ht2 => ?_⟩
      have kt2 := KX.same_upd (o := .tup [.str p.1, .ref t1]) ht2
      refine fin _ _ (kt1.trans kt2) ⟨t2, .ref t1, rfl, upd_same, ?_⟩
      have e1 : valM (least m) p.1 = (leastInt m p.2 : Rat) := by
        rw [least_eq cm hne, scale_val, valM_mem cm.nodup pm, factor_mul cm pm]
      show IsPair _ _ (valM (least m) p.1)
      rw [e1]
      exact pair_int (kt2 _ _ upd_same)
    · have hps2 : Paired (IsItem (fun H v z => IsPair H v (valM (least m) z)) H6) acc (m.map Prod.fst) := by
        have go : ∀ {acc : List V} {m' : Lst}, Paired (fun v (p : Str × Rat) => IsItem (fun H v z => IsPair H v (valM (least m) z)) H6 v p.1) acc m' → Paired (IsItem (fun H v z => IsPair H v (valM (least m) z)) H6) acc (m'.map Prod.fst) := by
          intro acc m' h
          induction h with
          | nil => exact .nil
          | cons r _ ih => exact .cons r ih
        exact go hps
      walk_at "kf"
      refine rd_dictP hl hps2 fun dp kvs hdp hks => ?_
      have kd := KX.same_upd (o := .dK (mergeK [] kvs)) hdp
      walk_at "kf"
      refine qq dp _ ((kA.trans k6).trans kd) (Same.free (kA.trans k6) hdp) ⟨⟨_, upd_same, ?_⟩, fun z => ?_⟩
      · refine (items_df (R := RPair) (S := fun H v z => IsPair H v (valM (least m) z)) (h := valM (least m)) hks (fun v z _ r => IsPair.mono r kd) (fun z hz => ?_) (fun z hz => ?_)).weak (by rw [List.length_map]; exact lf)
        · obtain ⟨p, hp, rfl⟩ := List.mem_map.mp hz
          exact oks p hp
        · refine valM_out ?_
          by_cases hne : m = []
          · subst hne
            exact hz
          · rw [least_eq cm hne, scale_fst]
            exact hz
      · by_cases hz : z ∈ m.map Prod.fst
        · obtain ⟨p, hp, rfl⟩ := List.mem_map.mp hz
          have hne : m ≠ [] := List.ne_nil_of_mem hp
          have e1 : valM (least m) p.1 = (leastInt m p.2 : Rat) := by
            rw [least_eq cm hne, scale_val, valM_mem cm.nodup hp, factor_mul cm hp]
          rw [e1]
          refine bits_int ?_ (by omega)
          exact Nat.lt_of_le_of_lt (Int.natAbs_ediv_le_natAbs _ _) (over_small bs (bq p hp))
        · have e0 : valM (least m) z = 0 := by
            refine valM_out ?_
            by_cases hne : m = []
            · subst hne
              exact hz
            · rw [least_eq cm hne, scale_fst]
              exact hz
          rw [e0]
          exact bits_zero (by omega)
theorem ok_names2 (F : FunD K "_law_names" "_law_names" (defArgs s_Lnames) (defBody s_Lnames) (defScope s_Lnames) [] [] f fd) (FY : Fy K mg) (CT : Callee P w K mg base 1 "_law_turn" ["_law_reel_here", "_law_many"] spTurn) (CP : Callee P w K mg base 2 "_law_pick" ["_law_reel_here", "_law_some"] spPick) :
    FnOk P w K mg base CX0 3 f fd ["_law_reel_here", "_law_things_here"] spNames2 := by
  refine F.ok scLnames (fun vs H Q E h => ?_) (fun cdv A outer s H vs Q E hr h => ?_)
  · obtain ⟨_, _, _, _, rfl, _⟩ := h
    rfl
  · obtain ⟨t, l, n, zs, rfl, T, hn, nlt, hl, NL, qq⟩ := h
    have five : ∀ z ∈ (["a", "b", "c", "new", "z9"] : List Str), NameOk z := by decide +kernel
    have ok0 : NameOk "nobody" ∧ NameOk "a" := by decide +kernel
    have zl := NL.few
    refine ⟨_, PSs.nox (pss_cons (ps_set (i := 2) scLnames.nd rfl (Or.inl rfl) (pe_disp (pps_cons pe_str pe_str pps_nil) (by rfl) (by rfl) (fun z => by cases z) (by decide)))
  (pss_cons (ps_for PassesOwn.never rfl (pi_list (pv 1)) (pg_name (i := 3) scLnames.nd rfl (Or.inl rfl)) (pss_one (ps_if (pt_cmpR op_gt (KX.pe_c CT hr (by decide) rfl (pa_cons (pv 0) (pa_cons pe_int pa_nil))) pe_int (nomark _)) (pss_one (ps_dput (hu_of hr) (pv 2) (pv 3) (KX.pe_c CP hr (by decide) rfl (pa_cons (pv 0) (pa_cons (pe_op op_cat (pe_lst (pa_cons pe_str (pa_cons pe_str (pa_cons pe_str (pa_cons pe_str (pa_cons pe_str pa_nil)))))) (pv 1)) pa_nil))) rfl)) pss_nil)))
  (pss_one (ps_ret (pv 2))))), ?_⟩
    walk_at "kf"
    refine fun d hd => ?_
    walk_at "kf"
    refine ⟨upd_same, [(Sum.inr "nobody", .str "a")], rfl, by decide, ?_⟩
    rw [upd_upd, show mergeK [] [((Sum.inr "nobody" : Key), V.str "a")] = [((Sum.inr "nobody" : Key), V.str "a")] from rfl]
    have k1 : Same H (upd H d (.dK [(Sum.inr "nobody", .str "a")])) := KX.same_upd hd
    have e1 : (upd H d (.dK [((Sum.inr "nobody" : Key), V.str "a")])) d = some (.dK [(Sum.inr "nobody", .str "a")]) := upd_same
    generalize (upd H d (.dK [((Sum.inr "nobody" : Key), V.str "a")])) = H1 at k1 e1 ⊢
    have ndl : d ≠ l := fun e => by rw [e, hl] at hd; cases hd
    have ndt := rl_ne T hd
    walk_at "kf"
    refine ⟨l, rfl, ⟨_, SqL.of (k1 _ _ hl)⟩, for_list (xs := zs.map V.str) (fun j σ2 H2 => BT t H H2 ∧ RL (n + 2 * j) H2 t ∧ ∃ b3 ks, σ2 = [some (.ref t), some (.ref l), some (.ref d), b3] ∧ H2 d = some (.dK ks) ∧ ks.length ≤ 1 + j ∧ (∀ p ∈ ks, ∃ z y, p.1 = Sum.inr z ∧ p.2 = V.str y ∧ NameOk z ∧ NameOk y) ∧ (ks.map Prod.fst).Nodup)
      ⟨BT.of k1, T.mono k1, none, _, rfl, e1, by decide, ?_, by decide +kernel⟩ (fun j σ2 H2 _ hp => SqL.of (hp.1 _ _ nlt hl)) (fun j x σ2 H2 hx hp => ?_) (fun σ2 H2 hp => ?_)⟩
    · intro p hp
      rw [List.mem_singleton] at hp
      subst hp
      exact ⟨_, _, rfl, rfl, ok0.1, ok0.2⟩
    · obtain ⟨B2, T2, b3, ks, rfl, hks, lks, N, nd⟩ := hp
      rw [List.getElem?_map] at hx
      obtain ⟨z, hz, rfl⟩ := Option.map_eq_some_iff.mp hx
      have hj := (List.getElem?_eq_some_iff.mp hz).1
      have zok := NL.ok z (List.mem_of_getElem? hz)
      walk_at "kf"
      refine ⟨t, n + 2 * j, 3, rfl, T2, by omega, by decide, by decide, fun r H3 r0 r1 T3 B3 => ?_⟩
      have hks3 := B3 _ _ ndt hks
      walk_at "kf"
      refine ite2 (fun e => ?_) (fun e => ?_)
      · walk_at "kf"
        refine ⟨(show (5 : Nat) ≤ sizeLine by decide), fun p5 hp5 => ?_⟩
        have k5 := KX.same_upd (o := .lst [.str "a", .str "b", .str "c", .str "new", .str "z9"]) hp5
        have hl5 := k5 _ _ (B3 _ _ nlt (B2 _ _ nlt hl))
        have e5 : (upd H3 p5 (.lst [.str "a", .str "b", .str "c", .str "new", .str "z9"])) p5 = some (.lst [.str "a", .str "b", .str "c", .str "new", .str "z9"]) := upd_same
        have T5 := T3.mono k5
        have hks5 := k5 _ _ hks3
        have B5 := (B2.trans B3).trans (BT.of k5)
        generalize (upd H3 p5 (.lst [.str "a", .str "b", .str "c", .str "new", .str "z9"])) = H5 at k5 hl5 e5 T5 hks5 B5 ⊢
        walk_at "kf"
        refine ⟨p5, l, _, _, rfl, rfl, e5, hl5, by rw [List.length_map]; exact Nat.le_trans (show 5 + zs.length ≤ 9 by omega) (by decide), fun p6 hp6 => ?_⟩
        have k6 := KX.same_upd (o := .lst ([V.str "a", V.str "b", V.str "c", V.str "new", V.str "z9"] ++ zs.map V.str)) hp6
        walk_at "kf"
        refine ⟨t, p6, _, _, rfl, T5.mono k6, by omega, rl_ne T5 hp6, upd_same, by simp, by rw [List.length_append, List.length_map]; show 5 + zs.length ≤ 1000; omega, fun x H7 hx T7 B7 => ?_⟩
        obtain ⟨y, rfl, yok⟩ : ∃ y, x = V.str y ∧ NameOk y := by
          have e7 : ([V.str "a", V.str "b", V.str "c", V.str "new", V.str "z9"] ++ zs.map V.str) = ((["a", "b", "c", "new", "z9"] : List Str) ++ zs).map V.str := by
            rw [List.map_append]
            rfl
          rw [e7] at hx
          obtain ⟨y, hy, rfl⟩ := List.mem_map.mp hx
          rcases List.mem_append.mp hy with hy | hy
          · exact ⟨y, rfl, five y hy⟩
          · exact ⟨y, rfl, NL.ok y hy⟩
        have hks7 := B7 _ _ ndt (k6 _ _ hks5)
        have B8 := (B5.trans (BT.of k6)).trans B7
        walk_at "kf"
        refine ⟨d, _, rfl, DPut.k (k := Sum.inr z) hks7 (Nat.lt_of_le_of_lt lks (Nat.lt_of_lt_of_le (show 1 + j < 60 by omega) (by decide))), ?_⟩
        walk_at "kf"
        exact ⟨BT.put T B8 hd, (RL.put T B8 T7 hd).weak (by omega), _, _, rfl, upd_same, Nat.le_trans (length_putK ..) (by omega), newnames_put (c := 0) N zok yok, putK_nd nd⟩
      · exact ⟨B2.trans B3, T3.weak (by omega), _, _, rfl, hks3, by omega, N, nd⟩
    · obtain ⟨B2, T2, b3, ks, rfl, hks, lks, N, nd⟩ := hp
      rw [List.length_map] at T2 lks
      walk_at "kf"
      exact qq d ks H2 (T2.weak (by omega)) B2 hd hks ⟨by omega, N⟩ nd
end

end K5
namespace K5
open PySem PySem.Spec PyProof.Rows L2 KY PySem.W
local macro_rules | `(tactic| walk_at "kx1") => `(tactic| with_reducible first
  | refine KX.rd_seq ?_ | refine KX.rd_asg ?_ | refine KX.rd_op ?_ | refine KX.rd_c ?_ | refine KX.rd_cb ?_ | refine KX.rd_cons ?_ | refine KX.rd_nil ?_ | refine KX.rd_un ?_ | refine KX.rd_nx ?_ | refine KX.rd_rt ?_ | refine KX.rd_next ?_ | refine KX.rd_ret ?_
  | refine KX.rd_ifs ?_ | refine KX.rd_if ?_ | refine KX.rd_test ?_ | refine KX.rd_B ?_ | refine KX.rd_bl ?_ | refine KX.rd_and ?_ | refine KX.rd_or ?_ | refine KX.rd_not ?_ | refine KX.rd_I0 ?_ | refine KX.rd_U ?_ | refine KX.rd_int ?_ | refine KX.rd_intB ?_ | refine KX.rd_abs ?_
  | refine KX.rd_gname ?_ | refine KX.rd_gsub ?_ | refine KX.rd_call ?_ | refine KX.rd_drop ?_ | refine KX.rd_yes ?_ | refine KX.rd_andV ?_ | refine KX.rd_orV ?_ | refine KX.rd_notV ?_)
local macro_rules | `(tactic| walk_at "hp") => `(tactic| first
  | assumption
  | exact upd_same
  | (refine Eq.trans (upd_ne (by assumption)) ?_; walk_at "hp")
  | (refine Eq.trans (upd_ne (Ne.symm (by assumption))) ?_; walk_at "hp"))
local macro_rules | `(tactic| walk_at "kx2") => `(tactic| first
  | walk_at "kx1"
  | ((with_reducible refine KX.rd_T ?e ?_); (case e => rfl))
  | ((with_reducible refine KX.rd_F ?e ?_); (case e => rfl))
  | ((with_reducible refine' KX.rd_var ?e ?_); (case e => rfl))
  | ((with_reducible refine' KX.rd_I ?e ?_); (case e => first | assumption | decide | exact Or.inl ⟨by omega, by omega⟩ | exact ⟨by decide, by decide, by decide⟩ | exact ⟨by decide, by decide⟩))
  | ((with_reducible refine' KX.rd_eq ?e ?_); (case e => rfl))
  | ((with_reducible refine' KX.rd_ne ?e ?_); (case e => rfl))
  | ((with_reducible refine' KX.rd_ix ?e ?e2 ?_); (case e => first | assumption | exact SqL.of (by walk_at "hp")); (case e2 => first | assumption | rfl))
  | ((with_reducible refine' KX.rd_len ?e ?_); (case e => first | assumption | exact SqL.of (by walk_at "hp")))
  | ((with_reducible refine' KX.rd_set ?e ?e2 ?_); (case e => walk_at "hp"); (case e2 => rfl)))
local macro_rules | `(tactic| walk_at "kx") => `(tactic| repeat walk_at "kx2")
local macro_rules | `(tactic| walk_at "kx3") => `(tactic| first
  | walk_at "kx2"
  | (with_reducible refine rd_fld2 ?_)
  | ((with_reducible refine' rd_get ?e ?c ?n ?l ?_); (case e => assumption); (case c => assumption); (case n => assumption); (case l => rfl))
  | ((with_reducible refine' rd_p0 ?e ?_); (case e => assumption))
  | ((with_reducible refine' rd_p1 ?e ?_); (case e => assumption))
  | ((with_reducible refine' rd_mulw ?e ?_); (case e => assumption)))
local macro_rules | `(tactic| walk_at "kx4") => `(tactic| with_reducible first
  | refine rd_js_cons ?_ | refine rd_js_nil ?_ | refine rd_fmt ?_ | refine rd_dget ?_ | refine rd_dget2 ?_ | refine rd_dput ?_ | refine rd_rat ?_ | refine rd_bal ?_ | refine rd_forL ?_ | refine rd_sfld ?_ | refine KX.rd_tup ?_ | refine KX.rd_lst ?_ | refine rd_smeth ?_ | refine rd_forT ?_ | refine rd_lcT ?_ | refine rd_lcL ?_ | refine rd_dcT ?_ | refine rd_join ?_ | refine rd_par ?_ | refine rd_sl ?_ | refine rd_part ?_ | refine rd_partI ?_ | refine rd_nopart ?_ | refine rd_revL ?_ | refine rd_meth0 ?_)
local macro_rules | `(tactic| walk_at "kf") => `(tactic| repeat (first | walk_at "kx3" | walk_at "kx4"))
theorem scLlr : FnScope ["_law_reel_here", "_law_balance", "_law_plain", "_law_due", "_law_above"] ["_law_reel_here", "_law_balance", "_law_plain"] (defScope s_Lleast_right) := ⟨rfl, rfl, rfl, by decide +kernel, rfl, by decide +kernel, by decide +kernel⟩
/-- e.m() -/
def rM0 (C : Addr) (m : Str) (sp : Sp) (E : XK) : V → Hp → VK → Prop := fun x H Q => ∃ a dx fs, x = .ref a ∧ H a = some (.ins C dx fs) ∧ fs.lookup m = none ∧ sp [x] H Q E
section
variable {K : PySem.W.Frag} {mg : Str → Option Value} {σ : L2.St} {H : Hp} {Q : VK} {x y : V} {m m' : Lst} {c c' a a' : Nat}
theorem rd_meth0 {C : Addr} {nm : Str} {sp : Sp} {E : XK} {ta : TE} (q : ta σ H fun x H1 => rM0 C nm sp E x H1 Q) : tMeth C nm sp [] E ta tNil σ H Q := q
theorem bal_m0 {nm : Str} {sp : Sp} (hx : IsBal K H x m) (hl : ∀ d t, ([("shares", V.ref d), ("things", .ref t)] : List (Str × V)).lookup nm = none) (q : sp [x] H Q E0) : rM0 (cB K) nm sp E0 x H Q := by
  obtain ⟨xa, xdx, xd, xt, xks, rfl, hxa, _⟩ := hx
  exact ⟨xa, xdx, _, rfl, hxa, hl xd xt, q⟩
theorem ret_is {f : Str → Rat} (cm : Canon m) (e : ∀ z, valM m z = f z) (q : ∀ v H', Same H H' → IsBal K H' v m → Good c a m → Q v H') : retBal K c a f H Q := by
  intro v m2 H' k hb g ev
  have z : m2 = m := g.can.ext cm fun z => by rw [ev, e]
  subst z
  exact q v H' k hb g
theorem rd_leastB {d : Nat} (hx : IsBal K H x m) (g : Good c a m) (lc : c < 60) (l1 : 1 ≤ a) (l2 : a ≤ 2200) (hd : ∀ p ∈ m, p.2.den < 2 ^ d) (lcd : c * d ≤ 62) (q : ∀ v H', Same H H' → IsBal K H' v (least m) → Good c (2 * a + 65) (least m) → Q v H') : rM0 (cB K) "least" (spBLeast K) E0 x H Q :=
  bal_m0 hx (fun _ _ => rfl) ⟨x, m, c, a, d, rfl, hx, g, lc, l1, l2, hd, lcd, ret_is (least_canon g.can) (fun _ => rfl) q⟩
theorem bal_own (FY : Fy K mg) (hx : IsBal K H x m) (hy : IsBal K H y m') (g : Good c a m) (g' : Good c' a' m') : DOwn K (cB K) (DBal K) x y H (decide (m = m')) := by
  have hx0 := hx
  have hy0 := hy
  obtain ⟨xa, xdx, xd, xt, xks, rfl, hxa, _⟩ := hx
  obtain ⟨ya, ydx, yd, yt, yks, rfl, hya, _⟩ := hy
  exact ⟨xa, xdx, _, .ref (cB K), rfl, hxa, .ins hya, (FY.rest.2.2.2 "Balance" (by decide +kernel)).1, m, m', c, c', a, a', hx0, hy0, g, g', rfl⟩
theorem rd_bbin {nm : String} {f : Rat → Rat → Rat} (hx : IsBal K H x m) (hy : IsBal K H y m') (g : Good c a m) (g' : Good c' a' m') (lc : c + c' < 60) (l1 : 1 ≤ a) (l2 : 1 ≤ a') (l3 : a + a' ≤ 6900) (r : retBal K (c + c') (a + a' + 1) (fun z => f (valM m z) (valM m' z)) H Q) : rDun K (cB K) nm (spBBin K f) E0 x y H Q := by
  have hx0 := hx
  have hy0 := hy
  obtain ⟨xa, xdx, xd, xt, xks, rfl, hxa, _⟩ := hx
  obtain ⟨ya, ydx, yd, yt, yks, rfl, hya, _⟩ := hy
  exact ⟨xa, xdx, _, rfl, hxa, .own hya, _, _, m, m', c, c', a, a', rfl, hx0, hy0, g, g', lc, l1, l2, l3, r⟩
theorem rd_bneg (hx : IsBal K H x m) (g : Good c a m) (lc : c < 60) (la : a ≤ 6900) (q : ∀ v H', Same H H' → IsBal K H' v (scale (-1) m) → Good c a (scale (-1) m) → Q v H') : rDunU (cB K) (spBNeg K) E0 x H Q := by
  have hx0 := hx
  obtain ⟨xa, xdx, xd, xt, xks, rfl, hxa, _⟩ := hx
  refine ⟨xa, xdx, _, rfl, hxa, _, m, rfl, hx0, (g.weak (Nat.le_refl _) (show a ≤ 7000 by omega)).toM (by omega), gives_of (f := fun z => -valM m z) (c := c) (n := a) g.can.nodup (fun z hz => ?_) (by rw [List.length_map]; exact g.few) (fun z => ?_) (fun z => bits_neg (g.bits z)) (ret_is (scale_canon (by decide +kernel) g.can) (fun z => ?_) q)⟩
  · obtain ⟨p, hp, rfl⟩ := List.mem_map.mp hz
    exact g.ok p hp
  · split
    · rfl
    · rename_i h
      show -valM m z = 0
      rw [valM_out h]
      rfl
  · rw [scale_val, Rat.neg_mul, Rat.one_mul]
theorem IsBal.off {H' : Hp} {t : Addr} {xs : List V} (hx : H t = some (.lst xs)) (k : ∀ b o, b ≠ t → H b = some o → H' b = some o) (h : IsBal K H x m) : IsBal K H' x m := by
  obtain ⟨a, dx, d, t2, ks, rfl, h1, h2, h3, h4⟩ := h
  have n : ∀ {b o}, H b = some o → (∀ ys, o ≠ .lst ys) → b ≠ t := fun e ne z => by
    rw [z, hx] at e
    exact ne _ (Option.some.inj e).symm
  exact ⟨a, dx, d, t2, ks, rfl, k _ _ (n h1 fun _ z => by cases z) h1, k _ _ (n h2 fun _ z => by cases z) h2, h3.mono fun b _ _ y => k _ _ (n y fun _ z => by cases z) y, k _ _ (n h4 fun _ z => by cases z) h4⟩
theorem IsBal.bt {H' : Hp} {t : Addr} {n : Nat} (T : RL n H t) (B : BT t H H') (h : IsBal K H x m) : IsBal K H' x m := by
  obtain ⟨_, _, _, z⟩ := T.here
  exact h.off z B
theorem Plain.bt {H' : Hp} {t d : Addr} {n : Nat} {h : Str → Rat} (T : RL n H t) (B : BT t H H') (p : Plain H d h c a) : Plain H' d h c a := by
  obtain ⟨_, _, _, z⟩ := T.here
  exact plain_off (fun xs e => by rw [z] at e; cases e) (fun ks e => by rw [z] at e; cases e) B p
theorem dens_least (g : Good c a m) : ∀ p ∈ least m, p.2.den < 2 ^ 1 := fun p hp => by
  have hne : m ≠ [] := fun e => by
    subst e
    cases hp
  rw [(least_prim g.can hne).whole p hp]
  decide
theorem dens_scale {q : Rat} {d e : Nat} (hd : ∀ p ∈ m, p.2.den < 2 ^ d) (hq : q.den < 2 ^ e) : ∀ p ∈ scale q m, p.2.den < 2 ^ (e + d) := fun p hp => by
  obtain ⟨r, hr, rfl⟩ := List.mem_map.mp hp
  refine Nat.lt_of_le_of_lt (?_ : (q * r.2).den ≤ q.den * r.2.den) ?_
  · rw [Rat.den_mul]
    exact Nat.div_le_self _ _
  · rw [Nat.pow_add]
    exact Nat.mul_lt_mul'' hq (hd r hr)
end
local macro_rules | `(tactic| walk_at "kx4") => `(tactic| with_reducible first
  | refine rd_js_cons ?_ | refine rd_js_nil ?_ | refine rd_fmt ?_ | refine rd_dget ?_ | refine rd_dget2 ?_ | refine rd_dput ?_ | refine rd_rat ?_ | refine rd_bal ?_ | refine rd_forL ?_ | refine rd_sfld ?_ | refine KX.rd_tup ?_ | refine KX.rd_lst ?_ | refine rd_smeth ?_ | refine rd_forT ?_ | refine rd_lcT ?_ | refine rd_lcL ?_ | refine rd_dcT ?_ | refine rd_join ?_ | refine rd_par ?_ | refine rd_sl ?_ | refine rd_part ?_ | refine rd_partI ?_ | refine rd_nopart ?_ | refine rd_revL ?_ | refine rd_meth0 ?_)
theorem gain_loss (q : Rat) : gainF q - lossF q = q := by
  unfold gainF lossF
  by_cases h : 0 < q.num
  · rw [if_pos h, if_neg (by omega)]
    grind
  · by_cases h2 : q.num < 0
    · rw [if_neg h, if_pos h2]
      grind
    · rw [if_neg h, if_neg h2, Rat.num_eq_zero.mp (show q.num = 0 by omega)]
      exact Rat.sub_self
theorem divInt_pos {a b : Int} (ha : 0 < a) (hb : 0 < b) : 0 < Rat.divInt a b := by
  rw [Rat.divInt_eq_div, Rat.div_def]
  exact Rat.mul_pos (Rat.intCast_pos.mpr ha) (Rat.inv_pos.mpr (Rat.intCast_pos.mpr hb))
def spLR (K : PySem.W.Frag) : Sp := fun vs H Q _ => ∃ (t : Addr) (x : V) (d : Addr) (n : Nat) (m : Lst) (h : Str → Rat) (c : Nat), vs = [.ref t, x, .ref d] ∧ RL n H t ∧ n ≤ 9000 ∧ IsBal K H x m ∧ Good 4 84 m ∧ Plain H d h c 84 ∧ c ≤ 4 ∧ (∀ z, valM m z = h z) ∧ (∀ p ∈ m, p.2.den ≤ 15) ∧
  ∀ H', RL (n + 2) H' t → BT t H H' → Q (.bl true) H'
section
variable {P : Program} {w : World} {K : PySem.W.Frag} {mg : Str → Option Value} {base : Heap} {f : Addr} {fd fdL fdM fdN fdNB fdS fdE fdGA fdLO : FuncData} {H : Hp} {Q : VK}
theorem ok_lr (F : FunD K "_law_least_right" "_law_least_right" (defArgs s_Lleast_right) (defBody s_Lleast_right) (defScope s_Lleast_right) [] [] f fd) (FY : Fy K mg) (CR : RatC P w K mg base) (CT : Callee P w K mg base 1 "_law_turn" ["_law_reel_here", "_law_many"] spTurn)
    (CLE : Callee P w K mg base 2 "_law_least" ["_law_plain"] spLLeast) (CIA : Callee P w K mg base 7 "_law_is_as" ["_law_balance", "_law_plain"] (spIsAs K))
    (GL : FnOk P w K mg base CX0 8 (He.ma K (cB K) "least") fdL ["self"] (spBLeast K)) (bL : Binds K fdL ["self"] []) (GM : FnOk P w K mg base CX0 7 (He.ma K (cB K) "__mul__") fdM ["self", "ratio"] (spBMul K)) (bM : Binds K fdM ["self", "ratio"] [])
    (GN : FnOk P w K mg base CX0 4 (He.ma K (cR K) "__neg__") fdN ["self"] (spNegR K)) (bN : Binds K fdN ["self"] []) (GNB : FnOk P w K mg base CX0 7 (He.ma K (cB K) "__neg__") fdNB ["self"] (spBNeg K)) (bNB : Binds K fdNB ["self"] [])
    (GS : FnOk P w K mg base CX0 7 (He.ma K (cB K) "__sub__") fdS ["self", "other"] (spBBin K (· - ·))) (bS : Binds K fdS ["self", "other"] []) (GEB : FnOk P w K mg base CX0 4 (He.ma K (cB K) "__eq__") fdE ["self", "other"] (spEqOf (DBal K))) (bEB : Binds K fdE ["self", "other"] [])
    (GGA : FnOk P w K mg base CX0 7 (He.ma K (cB K) "gains") fdGA ["self"] (spBUn K gainF)) (bGA : Binds K fdGA ["self"] []) (GLO : FnOk P w K mg base CX0 7 (He.ma K (cB K) "losses") fdLO ["self"] (spBUn K lossF)) (bLO : Binds K fdLO ["self"] []) :
    FnOk P w K mg base CX0 9 f fd ["_law_reel_here", "_law_balance", "_law_plain"] (spLR K) := by
  refine F.ok scLlr (fun vs H Q E h => ?_) (fun cdv A outer s H vs Q E hr h => ?_)
  · obtain ⟨_, _, _, _, _, _, _, rfl, _⟩ := h
    rfl
  · obtain ⟨t, x, d, n, m, h, c, rfl, T, hn, hx, g, pl, lc, ev, hden, qq⟩ := h
    have clB := (inspB_ok FY.all.2.2.1).cls
    have DM := dunB_ok FY.all.2.2.2.2.2.2.2.1
    have DS := dunB_ok FY.all.2.2.2.2.2.2.1
    have mN := methB_ok FY.all.2.1.2.2.2.2.2.2.1
    have mNB := methB_ok FY.all.2.2.2.2.2.2.2.2.1
    have EqB := eqB_ok FY.all.2.2.2.2.2.2.2.2.2.1
    have MGA := methB_ok FY.all.2.2.2.2.2.2.2.2.2.2.2.2.2.2.1
    have MLO := methB_ok FY.all.2.2.2.2.2.2.2.2.2.2.2.2.2.2.2.1
    have ML := methB_ok FY.all.2.2.2.2.2.2.2.2.2.2.2.2.2.2.2.2.1
    have hd4 : ∀ p ∈ m, p.2.den < 2 ^ 4 := fun p hp => Nat.lt_of_le_of_lt (hden p hp) (by decide)
    refine ⟨_, PSs.nox (pss_cons (ps_par (i := 3) (j := 4) (by rfl) scLlr.nd rfl rfl (by decide) rfl rfl (pa_cons (KX.pe_c CLE hr (by decide) rfl (pa_cons (pv 2) pa_nil)) (pa_cons (pe_rat2 CR FY hr (by decide) rfl (pa_cons (pe_op op_add pe_int (KX.pe_c CT hr (by decide) rfl (pa_cons (pv 0) (pa_cons pe_int pa_nil)))) (pa_cons (pe_op op_add pe_int (KX.pe_c CT hr (by decide) rfl (pa_cons (pv 0) (pa_cons pe_int pa_nil)))) pa_nil))) pa_nil)) (by rfl))
  (pss_cons (ps_if (PW.pt (pw_or (pt_not (pt_val (KX.pe_c CIA hr (by decide) rfl (pa_cons (pe_meth0 (pv 1) clB ML GL (hr.mono (by decide)) bL .nil pass0) (pa_cons (pv 3) pa_nil))))) (pw_or1 (pt_cmpR (op_neO EqB GEB (hr.mono (by decide)) bEB pass0) (pe_meth0 (pv 1) clB ML GL (hr.mono (by decide)) bL .nil pass0) (pe_meth0 (pe_meth0 (pv 1) clB ML GL (hr.mono (by decide)) bL .nil pass0) clB ML GL (hr.mono (by decide)) bL .nil pass0) (nomark _))))) (pss_one (ps_ret pe_bl)) pss_nil)
  (pss_cons (ps_if (PW.pt (pw_or (pt_cmpR (op_neO EqB GEB (hr.mono (by decide)) bEB pass0) (pe_meth0 (pe_op (op_dun DM GM (hr.mono (by decide)) bM pass0) (pv 1) (pv 4)) clB ML GL (hr.mono (by decide)) bL .nil pass0) (pe_meth0 (pv 1) clB ML GL (hr.mono (by decide)) bL .nil pass0) (nomark _)) (pw_or1 (pt_cmpR (op_neO EqB GEB (hr.mono (by decide)) bEB pass0) (pe_meth0 (pe_op (op_dun DM GM (hr.mono (by decide)) bM pass0) (pv 1) (pe_rneg (pv 4) mN.at_ mN.fn GN hr (by decide) bN)) clB ML GL (hr.mono (by decide)) bL .nil pass0) (pe_un (un_dun mNB.at_ mNB.fn GNB (hr.mono (by decide)) bNB pass0) (pe_meth0 (pv 1) clB ML GL (hr.mono (by decide)) bL .nil pass0)) (nomark _))))) (pss_one (ps_ret pe_bl)) pss_nil)
  (pss_one (ps_ret (pe_and (pe_cmpR (op_eqO EqB GEB (hr.mono (by decide)) bEB pass0) (pe_op (op_dun DS GS (hr.mono (by decide)) bS pass0) (pe_meth0 (pv 1) clB MGA GGA (hr.mono (by decide)) bGA .nil pass0) (pe_meth0 (pv 1) clB MLO GLO (hr.mono (by decide)) bLO .nil pass0)) (pv 1) (nomark _)) (pe_one (KX.pe_c CIA hr (by decide) rfl (pa_cons (pv 1) (pa_cons (pv 2) pa_nil)))))))))), ?_⟩
    walk_at "kf"
    refine ⟨d, h, c, 84, m, 4, rfl, pl, by omega, by decide, by decide, g.can, ev, hd4, by omega, fun d2 H1 k1 _ pl2 => ?_⟩
    have T1 := T.mono k1
    walk_at "kf"
    refine ⟨t, n, 12, rfl, T1, by omega, by decide, by decide, fun r H2 r0 r1 T2 B2 => ?_⟩
    walk_at "kf"
    refine ⟨t, n + 1, 12, rfl, T2, by omega, by decide, by decide, fun u H3 u0 u1 T3 B3 => ?_⟩
    walk_at "kf"
    refine ⟨1 + r, 1 + u, rfl, by omega, Nat.lt_of_lt_of_le (show (1 + u).natAbs < 2 ^ 10 by omega) (Nat.pow_le_pow_right (by decide) (by decide)), fun va H4 k4 hv => ?_⟩
    have q0 : 0 < Rat.divInt (1 + r) (1 + u) := divInt_pos (by omega) (by omega)
    have qb : Bits 4 (Rat.divInt (1 + r) (1 + u)) := bits_divInt (by omega) (by omega) (by omega)
    generalize Rat.divInt (1 + r) (1 + u) = q at hv q0 qb
    have qn : q ≠ 0 := fun e => by rw [e] at q0; exact Rat.lt_irrefl q0
    have Bk : BT t H1 H4 := (B2.trans B3).trans (BT.of k4)
    have hx4 := (hx.mono k1).bt T1 Bk
    have pl4 := (pl.mono k1).bt T1 Bk
    have due4 := pl2.bt T1 Bk
    have T4 := T3.mono k4
    have B4 : BT t H H4 := (BT.of k1).trans Bk
    clear Bk k4 B3 T3 B2 T2 hx pl pl2 T1 k1
    have gl2 : ∀ p ∈ least m, p.2.den < 2 ^ 1 := dens_least g
    walk_at "kf"
    refine ⟨_, _, rfl, ?_⟩
    walk_at "kf"
    -- is_as(balance.least(), due)
    refine rd_leastB hx4 g (by decide) (by decide) (by decide) hd4 (by decide) fun v5 H5 k5 hb5 g5 => ?_
    walk_at "kf"
    refine ⟨v5, d2, least m, valM (least m), 4, _, c, _, rfl, hb5, g5, by decide, by decide, due4.mono k5, by omega, by decide, fun _ => rfl, fun H6 k6 => ?_⟩
    walk_at "kf"
    refine rd_leastB (hx4.mono (k5.trans k6)) g (by decide) (by decide) (by decide) hd4 (by decide) fun v7 H7 k7 hb7 g7 => ?_
    walk_at "kf"
    have k57 := (k5.trans k6).trans k7
    refine rd_leastB (hx4.mono k57) g (by decide) (by decide) (by decide) hd4 (by decide) fun v8 H8 k8 hb8 g8 => ?_
    walk_at "kf"
    refine rd_leastB hb8 g8 (by decide) (by decide) (by decide) gl2 (by decide) fun v9 H9 k9 hb9 g9 => ?_
    walk_at "kf"
    refine ⟨_, bal_own FY (hb7.mono (k8.trans k9)) hb9 g7 g9, fun H10 e10 => ?_⟩
    rw [least_least g.can, decide_eq_true rfl]
    have k510 : Same H4 H10 := ((k57.trans k8).trans k9).trans e10
    clear k57 hb5 hb7 hb8 hb9 k5 k6 k7 k8 k9 e10
    walk_at "kf"
    -- times a ratio above 0
    refine rd_bmul FY (hx4.mono k510) (.inl (hv.mono k510)) g qb (by decide) (by decide) (ret_is (scale_canon qn g.can) (fun z => by rw [scale_val, Rat.mul_comm]) fun v11 H11 k11 hb11 g11 => ?_)
    walk_at "kf"
    refine rd_leastB hb11 g11 (by decide) (by decide) (by decide) (dens_scale hd4 qb.den) (by decide) fun v12 H12 k12 hb12 g12 => ?_
    walk_at "kf"
    have k412 := (k510.trans k11).trans k12
    refine rd_leastB (hx4.mono k412) g (by decide) (by decide) (by decide) hd4 (by decide) fun v13 H13 k13 hb13 g13 => ?_
    walk_at "kf"
    refine ⟨_, bal_own FY (hb12.mono k13) hb13 g12 g13, fun H14 e14 => ?_⟩
    rw [least_scale g.can q0, decide_eq_true rfl]
    have k414 := (k412.trans k13).trans e14
    clear k510 k412 hb11 hb12 hb13 k11 k12 k13 e14
    walk_at "kf"
    -- times one below 0
    refine rd_negR (hv.mono k414) (qb.mono (by decide)) fun v15 H15 k15 hv15 => ?_
    have q1 : -q ≠ 0 := fun e => qn (by grind)
    have k415 := k414.trans k15
    refine rd_bmul FY (hx4.mono k415) (.inl hv15) g (bits_neg qb) (by decide) (by decide) (ret_is (scale_canon q1 g.can) (fun z => by rw [scale_val, Rat.mul_comm]) fun v16 H16 k16 hb16 g16 => ?_)
    walk_at "kf"
    refine rd_leastB hb16 g16 (by decide) (by decide) (by decide) (dens_scale hd4 (show (-q).den < 2 ^ 4 by rw [Rat.neg_den]; exact qb.den)) (by decide) fun v17 H17 k17 hb17 g17 => ?_
    walk_at "kf"
    have k417 := (k415.trans k16).trans k17
    refine rd_leastB (hx4.mono k417) g (by decide) (by decide) (by decide) hd4 (by decide) fun v18 H18 k18 hb18 g18 => ?_
    walk_at "kf"
    refine rd_bneg hb18 g18 (by decide) (by decide) fun v19 H19 k19 hb19 g19 => ?_
    refine ⟨_, bal_own FY (hb17.mono (k18.trans k19)) hb19 g17 g19, fun H20 e20 => ?_⟩
    rw [least_neg_scale g.can q0, decide_eq_true rfl]
    have k420 := ((k417.trans k18).trans k19).trans e20
    clear k415 k417 hb16 hb17 hb18 hb19 k15 k16 k17 k18 k19 e20 k414
    walk_at "kf"
    -- gains less losses
    refine bal_m0 (hx4.mono k420) (fun _ _ => rfl) ⟨x, m, 4, 84, rfl, hx4.mono k420, g, by decide, by decide, by decide, fun v21 m21 H21 k21 hb21 g21 ev21 => ?_⟩
    walk_at "kf"
    have k421 := k420.trans k21
    refine bal_m0 (hx4.mono k421) (fun _ _ => rfl) ⟨x, m, 4, 84, rfl, hx4.mono k421, g, by decide, by decide, by decide, fun v22 m22 H22 k22 hb22 g22 ev22 => ?_⟩
    walk_at "kf"
    refine rd_bbin (hb21.mono k22) hb22 g21 g22 (by decide) (by decide) (by decide) (by decide) (ret_is g.can (fun z => by rw [ev21, ev22]; exact (gain_loss _).symm) fun v23 H23 k23 hb23 g23 => ?_)
    walk_at "kf"
    have k423 := (k421.trans k22).trans k23
    refine ⟨_, bal_own FY hb23 (hx4.mono k423) g23 g, fun H24 e24 => ?_⟩
    rw [decide_eq_true rfl]
    have k424 := k423.trans e24
    walk_at "kf"
    refine ⟨x, d, m, h, 4, 84, c, 84, rfl, hx4.mono k424, g, by decide, by decide, pl4.mono k424, by omega, by decide, ev, fun H25 k25 => ?_⟩
    walk_at "kf"
    exact qq H25 ((T4.mono (k424.trans k25)).weak (by omega)) (B4.trans (BT.of (k424.trans k25)))
end

end K5
namespace K5
open PySem PySem.Spec PyProof.Rows L2 KY PySem.W
local macro_rules | `(tactic| walk_at "kx1") => `(tactic| with_reducible first
  | refine KX.rd_seq ?_ | refine KX.rd_asg ?_ | refine KX.rd_op ?_ | refine KX.rd_c ?_ | refine KX.rd_cb ?_ | refine KX.rd_cons ?_ | refine KX.rd_nil ?_ | refine KX.rd_un ?_ | refine KX.rd_nx ?_ | refine KX.rd_rt ?_ | refine KX.rd_next ?_ | refine KX.rd_ret ?_
  | refine KX.rd_ifs ?_ | refine KX.rd_if ?_ | refine KX.rd_test ?_ | refine KX.rd_B ?_ | refine KX.rd_bl ?_ | refine KX.rd_and ?_ | refine KX.rd_or ?_ | refine KX.rd_not ?_ | refine KX.rd_I0 ?_ | refine KX.rd_U ?_ | refine KX.rd_int ?_ | refine KX.rd_intB ?_ | refine KX.rd_abs ?_
  | refine KX.rd_gname ?_ | refine KX.rd_gsub ?_ | refine KX.rd_call ?_ | refine KX.rd_drop ?_ | refine KX.rd_yes ?_ | refine KX.rd_andV ?_ | refine KX.rd_orV ?_ | refine KX.rd_notV ?_)
local macro_rules | `(tactic| walk_at "hp") => `(tactic| first
  | assumption
  | exact upd_same
  | (refine Eq.trans (upd_ne (by assumption)) ?_; walk_at "hp")
  | (refine Eq.trans (upd_ne (Ne.symm (by assumption))) ?_; walk_at "hp"))
local macro_rules | `(tactic| walk_at "kx2") => `(tactic| first
  | walk_at "kx1"
  | ((with_reducible refine KX.rd_T ?e ?_); (case e => rfl))
  | ((with_reducible refine KX.rd_F ?e ?_); (case e => rfl))
  | ((with_reducible refine' KX.rd_var ?e ?_); (case e => rfl))
  | ((with_reducible refine' KX.rd_I ?e ?_); (case e => first | assumption | decide | exact Or.inl ⟨by omega, by omega⟩ | exact ⟨by decide, by decide, by decide⟩ | exact ⟨by decide, by decide⟩))
  | ((with_reducible refine' KX.rd_eq ?e ?_); (case e => rfl))
  | ((with_reducible refine' KX.rd_ne ?e ?_); (case e => rfl))
  | ((with_reducible refine' KX.rd_ix ?e ?e2 ?_); (case e => first | assumption | exact SqL.of (by walk_at "hp")); (case e2 => first | assumption | rfl))
  | ((with_reducible refine' KX.rd_len ?e ?_); (case e => first | assumption | exact SqL.of (by walk_at "hp")))
  | ((with_reducible refine' KX.rd_set ?e ?e2 ?_); (case e => walk_at "hp"); (case e2 => rfl)))
local macro_rules | `(tactic| walk_at "kx") => `(tactic| repeat walk_at "kx2")
local macro_rules | `(tactic| walk_at "kx3") => `(tactic| first
  | walk_at "kx2"
  | (with_reducible refine rd_fld2 ?_)
  | ((with_reducible refine' rd_get ?e ?c ?n ?l ?_); (case e => assumption); (case c => assumption); (case n => assumption); (case l => rfl))
  | ((with_reducible refine' rd_p0 ?e ?_); (case e => assumption))
  | ((with_reducible refine' rd_p1 ?e ?_); (case e => assumption))
  | ((with_reducible refine' rd_mulw ?e ?_); (case e => assumption)))
local macro_rules | `(tactic| walk_at "kx4") => `(tactic| with_reducible first
  | refine rd_js_cons ?_ | refine rd_js_nil ?_ | refine rd_fmt ?_ | refine rd_dget ?_ | refine rd_dget2 ?_ | refine rd_dput ?_ | refine rd_rat ?_ | refine rd_bal ?_ | refine rd_forL ?_ | refine rd_sfld ?_ | refine KX.rd_tup ?_ | refine KX.rd_lst ?_ | refine rd_smeth ?_ | refine rd_forT ?_ | refine rd_lcT ?_ | refine rd_lcL ?_ | refine rd_dcT ?_ | refine rd_join ?_ | refine rd_par ?_ | refine rd_sl ?_ | refine rd_part ?_ | refine rd_partI ?_ | refine rd_nopart ?_ | refine rd_revL ?_ | refine rd_meth0 ?_)
local macro_rules | `(tactic| walk_at "kf") => `(tactic| repeat (first | walk_at "kx3" | walk_at "kx4"))
/-! ### calls by keywords alone; xs.count(text) -/
section
variable {X : Cx} {CX : CXT} {k n : Nat} {f C : Addr} {fd : FuncData} {ps ks : List Str} {sp : Sp} {E : XK} {x m : Str} {p pos apos : Pos} {o : Expr} {kws : List Keyword} {ta : TE} {tk : TA} {g : List Value → List Value → List Value} {gV : List V → List V → List V}
def tCallKn (n : Nat) (sp : Sp) (gV : List V → List V → List V) (E : XK) (tk : TA) : TE := fun σ H Q => tk σ H fun zs H2 => zs.length = n ∧ sp (gV [] zs) H2 Q E
/-- f(k = v, ..) -/
theorem pe_callKn0 (F : FnOk X.prog X.w X.K X.mg X.base CX k f fd ps sp) (hr : Room k X.A) (hg : Gl X x) (hm : X.mg x = some (.ref f)) (hk : PySem.W.keepIn X.K (.ref f) = true) (hb : KBn X.K fd ps 0 ks g gV) (hx : Passes CX X E)
    (hkw : PK X kws tk) (hall : (backToKw pos (keywordEach kws X.env)).all (·.1.isSome) = true := by rfl) (hks : (backToKw pos (keywordEach kws X.env)).filterMap (·.1) = ks := by rfl)
    (hdb : (x == ("__debug__" : Str)) = false := by decide) (hpl : ((backTo pos (starEach [] X.env)).any (·.1) || (backToKw pos (keywordEach kws X.env)).any (·.1.isNone)) = false := by rfl) :
    PE X (.Call (.Name x p) [] kws pos) (tCallKn ks.length sp gV E tk) := by
  refine ⟨fun pins s σ H Q I h => ?_⟩
  refine wpAny_Call_Name_kw (ld_glob I hg hm ?_ hdb)
  refine PySem.W.callWith_KW0 (h₀ := X.base) I.ok.mod.kin hk hall (thn (hkw.run pos pins s σ H _ I h) fun ws s2 hh => ?_) hpl
  obtain ⟨zs, H2, I2, rz, l2, q2⟩ := hh
  refine ⟨I2.kIn, ?_⟩
  rw [hks]
  exact run_fnN (us := []) (vs := []) F hr hb hx I2 .nil rz rfl l2 q2
def tMethKn (n : Nat) (C : Addr) (m : Str) (sp : Sp) (gV : List V → List V → List V) (E : XK) (ta : TE) (tk : TA) : TE := fun σ H Q => ta σ H fun x H1 => ∃ a dx fs, x = .ref a ∧ H1 a = some (.ins C dx fs) ∧ fs.lookup m = none ∧ tk σ H1 fun zs H2 => zs.length = n ∧ sp (gV [.ref a] zs) H2 Q E
/-- o.m(k = v, ..) -/
theorem pe_methKn0 {pl : Sem Bool} (he : PE X o ta) (c : Cls X.K C) (hm : Meth X.K C m f) (F : FnOk X.prog X.w X.K X.mg X.base CX k f fd ps sp) (hr : Room k X.A) (hb : KBn X.K fd ps 1 ks g gV) (hx : Passes CX X E)
    (hkw : PK X kws tk) (hall : (backToKw pos (keywordEach kws X.env)).all (·.1.isSome) = true := by rfl) (hks : (backToKw pos (keywordEach kws X.env)).filterMap (·.1) = ks := by rfl)
    (hpl : ((backTo pos (starEach [] X.env)).any (·.1) || (backToKw pos (keywordEach kws X.env)).any (·.1.isNone)) = false := by rfl)
    (ht : eval (.Call (.Attribute o m apos) [] kws pos) X.env = (do
      let ov ← eval o X.env
      standAt apos.atName
      let (f, first) ← holding [ov] (getMethod ov m pl)
      callWith pos f first (backTo pos (starEach [] X.env)) (backToKw pos (keywordEach kws X.env))) := by rfl) :
    PE X (.Call (.Attribute o m apos) [] kws pos) (tMethKn ks.length C m sp gV E ta tk) := by
  refine ⟨fun pins s σ H Q I h => ?_⟩
  refine PySem.W.methodCall_KW (pl := pl) (thn (he.run pins s σ H _ I h) fun u s1 hh => ?_) ht
  obtain ⟨x, H1, I1, rx, a, dx, fs, ex, ea, l, q⟩ := hh
  subst ex
  obtain rfl : u = Value.ref a := rx
  refine getmeth_ok I1 ea c hm l ?_
  refine PySem.W.callWith_KW0 (first := [.ref a]) (h₀ := X.base) I.ok.mod.kin hm.kp hall (thn (hkw.run pos pins _ σ H1 _ I1 q) fun ws s2 hh => ?_) hpl
  obtain ⟨zs, H2, I2, rz, l2, q2⟩ := hh
  refine ⟨I2.kIn, ?_⟩
  rw [hks]
  exact run_fnN (us := [.ref a]) (vs := [.ref a]) F hr hb hx I2 (.cons rfl .nil) rz rfl l2 q2
end
/-- a def without defaults, called by keywords behind n positional values -/
theorem FunD.kbn {K : PySem.W.Frag} {x qual : Str} {params : Arguments} {body : List Stmt} {scope : Scope} {f : Addr} {fd : FuncData} {ps ks : List Str} {n : Nat} (F : FunD K x qual params body scope [] [] f fd)
    (h : ∀ (kV doc pm : Value) (an : Option Addr) (cdv ct : Value) (us ws : List Value), us.length = n → ws.length = ks.length → bindArgs (PySem.W.fnOf x qual params body scope .none kV doc pm an cdv ct) ⟨us, ks.zip ws⟩ = pure (ps.zip (us ++ ws))) : KBn K fd ps n ks (fun us ws => us ++ ws) (fun vs zs => vs ++ zs) := by
  obtain ⟨oc, od, dV, kV, doc, pm, an, cdv, ct, osl, rfl, lk, hcd, hD, _⟩ := F.ex
  rcases hD with ⟨_, rfl⟩ | ⟨e, _⟩
  · exact ⟨fun s us ws _ l1 l2 => .of_eq (h kV doc pm an cdv ct us ws l1 l2), fun r1 r2 => r1.append r2⟩
  · exact absurd rfl e
theorem type_lcount : typeOf (.builtin "list.count") = pure (.type "method_descriptor") := by
  show builtinType _ = _
  rw [builtinType_eq_fast]
  kernel_rfl
def eqst (k : Str) : Value → Bool
  | .str x _ => x.cps.toList == k.cps.toList
  | _ => false
theorem str_eqst (z k : Str) : (z.cps.toList == k.cps.toList) = (z == k) := by
  rw [Bool.eq_iff_iff, beq_iff_eq, beq_iff_eq]
  constructor
  · intro e
    cases z
    cases k
    exact congrArg Str.mk (Array.toList_inj.mp e)
  · intro e
    rw [e]
theorem eqst_count (k : Str) : ∀ {zs : List Str} {us : List Value}, Vals (zs.map V.str) us → us.countP (eqst k) = zs.count k
  | [], _, r => by
    cases r
    rfl
  | z :: zs, _, r => by
    rw [List.map_cons] at r
    cases r with
    | cons r1 r2 =>
      obtain ⟨t, rfl⟩ := r1
      rw [List.countP_cons, List.count_cons, eqst_count k r2]
      show _ + (if (z.cps.toList == k.cps.toList) = true then 1 else 0) = _
      rw [str_eqst]
theorem eqst_gives {k : Str} {t : Tok} : ∀ {zs : List Str} {us : List Value}, Vals (zs.map V.str) us → ∀ y ∈ us, MeetsSeq.EqGives y (.str k t) (eqst k y)
  | [], _, r, y, hy => by
    cases r
    cases hy
  | z :: zs, _, r, y, hy => by
    rw [List.map_cons] at r
    cases r with
    | cons r1 r2 =>
      obtain ⟨t', rfl⟩ := r1
      rcases List.mem_cons.mp hy with e | e
      · rw [e]
        exact SeqRoads2.EqGives.str z k t' t
      · exact eqst_gives r2 y e
def rCntS (K : PySem.W.Frag) : V → List V → Hp → VK → Prop := fun x xs H Q => ∃ (p : Addr) (zs : List Str) (k : Str), x = .ref p ∧ xs = [.str k] ∧ SqL K H p (zs.map V.str) ∧ Q (.int (zs.count k : Nat)) H
theorem mt_scount {X : Cx} : MtR X "list.count" (rCntS X.K) := by
  intro pins s σ H x xs v us Q I rx rxs h
  obtain ⟨p, zs, k, rfl, rfl, hs, q⟩ := h
  cases rx
  obtain ⟨u, rfl, ru⟩ := rxs.one
  obtain ⟨t, rfl⟩ := ru
  obtain ⟨its, rv, ⟨⟨cls, dd, data, sl⟩, n, ho, hc, hdn, hd⟩, hlen⟩ := I.list hs
  simp only at hc hd
  subst hc hd
  refine call_meets PySem.F.slot_list_count ⟨_, ho, rfl⟩ PySem.F.entry_list_count (PySem.F.args_list_count_2 _ _)
    (SeqAt.list_countAt p its.toArray n dd sl (.str k t) (eqst k)) ⟨ho, fun y hy => (eqst_gives rv y (by simpa using hy)).at _ _, ?_⟩
  have ec : its.toArray.toList.countP (eqst k) = zs.count k := eqst_count k rv
  refine ⟨.int (zs.count k : Nat), H, I.tok _, ⟨s.toks, ?_⟩, q⟩
  show Value.int ((its.toArray.toList.countP (eqst k) : Nat) : Int) s.toks = Value.int ((zs.count k : Nat) : Int) s.toks
  rw [ec]
section
variable {K : PySem.W.Frag} {σ : L2.St} {H : Hp} {Q : VK} {D : Ends}
theorem rd_par3 {i j l : Nat} {ta : TA} (q : ta σ H fun vs H1 => ∃ u v w, vs = [u, v, w] ∧ D.nx (((σ.set i (some u)).set j (some v)).set l (some w)) H1) : tPar3 i j l ta D σ H := q
theorem rd_methKn {n : Nat} {C : Addr} {m : Str} {sp : Sp} {gV : List V → List V → List V} {E : XK} {ta : TE} {tk : TA} (q : ta σ H fun x H1 => ∃ a dx fs, x = .ref a ∧ H1 a = some (.ins C dx fs) ∧ fs.lookup m = none ∧ tk σ H1 fun zs H2 => zs.length = n ∧ sp (gV [.ref a] zs) H2 Q E) : tMethKn n C m sp gV E ta tk σ H Q := q
theorem rd_callKn {n : Nat} {sp : Sp} {gV : List V → List V → List V} {E : XK} {tk : TA} (q : tk σ H fun zs H2 => zs.length = n ∧ sp (gV [] zs) H2 Q E) : tCallKn n sp gV E tk σ H Q := q
theorem rd_bm {T : String} {r : V → List V → Hp → VK → Prop} {to : TE} {t : TA} (q : to σ H fun x H1 => tyV K T x H1 ∧ t σ H1 fun xs H2 => r x xs H2 Q) : tBM K T r to t σ H Q := q
theorem rd_prop {C : Addr} {sp : Sp} {E : XK} {ta : TE} (q : ta σ H fun x H1 => ∃ a dx fs, x = .ref a ∧ H1 a = some (.ins C dx fs) ∧ sp [.ref a] H1 Q E) : tProp C sp [] E ta σ H Q := q
end
/-! ### the law's state -/
/-- numbers chosen for names -/
theorem choose_h {S : Hp → V → Rat → Prop} {H : Hp} : ∀ {kvs : List (Key × V)} {zs : List Str}, Paired (fun (kv : Key × V) (z : Str) => kv.1 = Sum.inr z ∧ ∃ q, S H kv.2 q) kvs zs → zs.Nodup → ∃ h : Str → Rat, Paired (fun (kv : Key × V) (z : Str) => kv.1 = Sum.inr z ∧ S H kv.2 (h z)) kvs zs ∧ ∀ z, z ∉ zs → h z = 0
  | _, _, .nil, _ => ⟨fun _ => 0, .nil, fun _ _ => rfl⟩
  | _, _, .cons (b := z) r t, nd => by
    rw [List.nodup_cons] at nd
    obtain ⟨e, q, hq⟩ := r
    obtain ⟨h, h1, h2⟩ := choose_h t nd.2
    refine ⟨fun y => if y = z then q else h y, .cons ⟨e, by show S H _ (if z = z then q else h z); rw [if_pos rfl]; exact hq⟩ ?_, fun y hy => ?_⟩
    · have go : ∀ {kvs : List (Key × V)} {ys : List Str}, Paired (fun (kv : Key × V) (z : Str) => kv.1 = Sum.inr z ∧ S H kv.2 (h z)) kvs ys → z ∉ ys → Paired (fun (kv : Key × V) (y : Str) => kv.1 = Sum.inr y ∧ S H kv.2 (if y = z then q else h y)) kvs ys := by
        intro kvs ys p
        induction p with
        | nil => exact fun _ => .nil
        | cons r _ ih =>
          intro n
          rw [List.mem_cons, not_or] at n
          exact .cons ⟨r.1, by rw [if_neg fun x => n.1 x.symm]; exact r.2⟩ (ih n.2)
      exact go h1 nd.1
    · rw [List.mem_cons, not_or] at hy
      show (if y = z then q else h y) = 0
      rw [if_neg hy.1]
      exact h2 y hy.2
/-- a drawn number -/
def SNum : Hp → V → Rat → Prop := fun H v q => IsPair H v q ∧ Bits 84 q ∧ q.den ≤ 15
theorem stable_snum : Stable (fun H v (_ : Str) => ∃ q, SNum H v q) := fun _ _ _ _ d xs hd k ⟨q, r, b, l⟩ => ⟨q, pair_off (fun ys e => by rw [hd] at e; cases e) k r, b, l⟩
/-- what the drawn dict tells -/
theorem drawn_plain {H H' : Hp} {kvs : List (Key × V)} {zs : List Str} {dp : Addr} (NL : NamesL 4 zs) (hks : Paired (fun (kv : Key × V) (z : Str) => kv.1 = Sum.inr z ∧ ∃ q, SNum H kv.2 q) kvs zs) (k : Same H H') (e : H' dp = some (.dK (mergeK [] kvs))) : ∃ h, Plain H' dp h 4 84 ∧ ∀ z, (h z).den ≤ 15 := by
  obtain ⟨h, h1, h2⟩ := choose_h hks NL.nodup
  have ex : ∀ z ∈ zs, ∃ v, SNum H v (h z) := by
    have go : ∀ {kvs : List (Key × V)} {ys : List Str}, Paired (fun (kv : Key × V) (z : Str) => kv.1 = Sum.inr z ∧ SNum H kv.2 (h z)) kvs ys → ∀ z ∈ ys, ∃ v, SNum H v (h z) := by
      intro kvs ys p
      induction p with
      | nil => intro z hz; cases hz
      | cons r _ ih =>
        intro z hz
        rcases List.mem_cons.mp hz with rfl | hz
        · exact ⟨_, r.2⟩
        · exact ih z hz
    exact go h1
  refine ⟨h, ⟨⟨_, e, ?_⟩, fun z => ?_⟩, fun z => ?_⟩
  · exact (items_df (R := RPair) (S := fun H v z => SNum H v (h z)) (h := h) h1 (fun v z _ r => IsPair.mono r.1 k) NL.ok h2).weak NL.few
  · by_cases hz : z ∈ zs
    · obtain ⟨v, r⟩ := ex z hz
      exact r.2.1
    · rw [h2 z hz]
      exact bits_zero (by decide)
  · by_cases hz : z ∈ zs
    · obtain ⟨v, r⟩ := ex z hz
      exact r.2.2
    · rw [h2 z hz]
      decide
/-- what stands while the law goes on -/
structure LS (K : PySem.W.Frag) (H : Hp) (t l1 d1 d2 : Addr) (zs : List Str) (h1 h2 : Str → Rat) (tv x y r : V) (m1 m2 : Lst) (q : Rat) : Prop where
  ne : l1 ≠ t
  l : H l1 = some (.lst (zs.map V.str))
  p1 : Plain H d1 h1 4 84
  p2 : Plain H d2 h2 4 84
  tp : IsPair H tv q
  b1 : IsBal K H x m1
  b2 : IsBal K H y m2
  rr : NumV (cR K) H r q
section
variable {K : PySem.W.Frag} {H H' : Hp} {t l1 d1 d2 : Addr} {zs : List Str} {h1 h2 : Str → Rat} {tv x y r : V} {m1 m2 : Lst} {q : Rat} {n : Nat}
theorem LS.mono (s : LS K H t l1 d1 d2 zs h1 h2 tv x y r m1 m2 q) (k : Same H H') : LS K H' t l1 d1 d2 zs h1 h2 tv x y r m1 m2 q :=
  ⟨s.ne, k _ _ s.l, s.p1.mono k, s.p2.mono k, s.tp.mono k, s.b1.mono k, s.b2.mono k, s.rr.mono k⟩
theorem LS.bt (s : LS K H t l1 d1 d2 zs h1 h2 tv x y r m1 m2 q) (T : RL n H t) (B : BT t H H') : LS K H' t l1 d1 d2 zs h1 h2 tv x y r m1 m2 q := by
  obtain ⟨_, _, _, z⟩ := T.here
  exact ⟨s.ne, B _ _ s.ne s.l, s.p1.bt T B, s.p2.bt T B, pair_off (fun xs e => by rw [z] at e; cases e) B s.tp, s.b1.bt T B, s.b2.bt T B, num_off z (fun _ _ e => by cases e) B s.rr⟩
end
theorem count_mul (n N : Nat) : ((n : Nat) : Rat) * Rat.divInt 1 (N : Int) = Rat.divInt (n : Int) (N : Int) := by
  rw [Rat.divInt_eq_div, Rat.divInt_eq_div, Rat.div_def, Rat.div_def]
  show (n : Rat) * ((1 : Rat) * _) = (n : Rat) * _
  rw [Rat.one_mul]

end K5
namespace K5
open PySem PySem.Spec PyProof.Rows L2 KY PySem.W
local macro_rules | `(tactic| walk_at "kx1") => `(tactic| with_reducible first
  | refine KX.rd_seq ?_ | refine KX.rd_asg ?_ | refine KX.rd_op ?_ | refine KX.rd_c ?_ | refine KX.rd_cb ?_ | refine KX.rd_cons ?_ | refine KX.rd_nil ?_ | refine KX.rd_un ?_ | refine KX.rd_nx ?_ | refine KX.rd_rt ?_ | refine KX.rd_next ?_ | refine KX.rd_ret ?_
  | refine KX.rd_ifs ?_ | refine KX.rd_if ?_ | refine KX.rd_test ?_ | refine KX.rd_B ?_ | refine KX.rd_bl ?_ | refine KX.rd_and ?_ | refine KX.rd_or ?_ | refine KX.rd_not ?_ | refine KX.rd_I0 ?_ | refine KX.rd_U ?_ | refine KX.rd_int ?_ | refine KX.rd_intB ?_ | refine KX.rd_abs ?_
  | refine KX.rd_gname ?_ | refine KX.rd_gsub ?_ | refine KX.rd_call ?_ | refine KX.rd_drop ?_ | refine KX.rd_yes ?_ | refine KX.rd_andV ?_ | refine KX.rd_orV ?_ | refine KX.rd_notV ?_)
local macro_rules | `(tactic| walk_at "hp") => `(tactic| first
  | assumption
  | exact upd_same
  | (refine Eq.trans (upd_ne (by assumption)) ?_; walk_at "hp")
  | (refine Eq.trans (upd_ne (Ne.symm (by assumption))) ?_; walk_at "hp"))
local macro_rules | `(tactic| walk_at "kx2") => `(tactic| first
  | walk_at "kx1"
  | ((with_reducible refine KX.rd_T ?e ?_); (case e => rfl))
  | ((with_reducible refine KX.rd_F ?e ?_); (case e => rfl))
  | ((with_reducible refine' KX.rd_var ?e ?_); (case e => rfl))
  | ((with_reducible refine' KX.rd_I ?e ?_); (case e => first | assumption | decide | exact Or.inl ⟨by omega, by omega⟩ | exact ⟨by decide, by decide, by decide⟩ | exact ⟨by decide, by decide⟩))
  | ((with_reducible refine' KX.rd_eq ?e ?_); (case e => rfl))
  | ((with_reducible refine' KX.rd_ne ?e ?_); (case e => rfl))
  | ((with_reducible refine' KX.rd_ix ?e ?e2 ?_); (case e => first | assumption | exact SqL.of (by walk_at "hp")); (case e2 => first | assumption | rfl))
  | ((with_reducible refine' KX.rd_len ?e ?_); (case e => first | assumption | exact SqL.of (by walk_at "hp")))
  | ((with_reducible refine' KX.rd_set ?e ?e2 ?_); (case e => walk_at "hp"); (case e2 => rfl)))
local macro_rules | `(tactic| walk_at "kx") => `(tactic| repeat walk_at "kx2")
local macro_rules | `(tactic| walk_at "kx3") => `(tactic| first
  | walk_at "kx2"
  | (with_reducible refine rd_fld2 ?_)
  | ((with_reducible refine' rd_get ?e ?c ?n ?l ?_); (case e => assumption); (case c => assumption); (case n => assumption); (case l => rfl))
  | ((with_reducible refine' rd_p0 ?e ?_); (case e => assumption))
  | ((with_reducible refine' rd_p1 ?e ?_); (case e => assumption))
  | ((with_reducible refine' rd_mulw ?e ?_); (case e => assumption)))
local macro_rules | `(tactic| walk_at "kx4") => `(tactic| with_reducible first
  | refine rd_js_cons ?_ | refine rd_js_nil ?_ | refine rd_fmt ?_ | refine rd_dget ?_ | refine rd_dget2 ?_ | refine rd_dput ?_ | refine rd_rat ?_ | refine rd_bal ?_ | refine rd_forL ?_ | refine rd_sfld ?_ | refine KX.rd_tup ?_ | refine KX.rd_lst ?_ | refine rd_smeth ?_ | refine rd_forT ?_ | refine rd_lcT ?_ | refine rd_lcL ?_ | refine rd_dcT ?_ | refine rd_join ?_ | refine rd_par ?_ | refine rd_sl ?_ | refine rd_part ?_ | refine rd_partI ?_ | refine rd_nopart ?_ | refine rd_revL ?_ | refine rd_meth0 ?_)
local macro_rules | `(tactic| walk_at "kf") => `(tactic| repeat (first | walk_at "kx3" | walk_at "kx4"))
abbrev nmscLaw : List Str := ["_law_script", "_law_reel_here", "_law_things_here", "_law_others", "_law_one", "_law_other", "_law_thing", "_law_times", "_law_mine", "_law_its", "_law_ratio_here", "_law_names_here", "_law_kept", "_law_some", "_law_turn_here", "_law_due"]
theorem scLaw : FnScope nmscLaw ["_law_script"] (defScope s_law) := ⟨rfl, rfl, rfl, by decide +kernel, rfl, by decide +kernel, by decide +kernel⟩
def spLaw (K : PySem.W.Frag) : Sp := fun vs H Q _ => ∃ (a : Addr) (ns : List Int), vs = [.ref a] ∧ SqL K H a (ns.map V.int) ∧ ∀ H', Q (.bl true) H'
theorem bits_one : Bits 1 1 := ⟨by decide +kernel, by decide +kernel⟩
theorem bits_mone : Bits 1 (-1) := ⟨by decide +kernel, by decide +kernel⟩
theorem rd_rng1 {ta : TA} {σ : L2.St} {H : Hp} {R : It → Hp → Prop} (q : ta σ H fun vs H1 => ∃ j : Int, vs = [.int j] ∧ -(2 ^ 62) ≤ j ∧ j < 2 ^ 62 ∧ R (Itr 0 j.toNat) H1) : iRng1 ta σ H R := q
theorem ren_same {m : Lst} {h : Str → Rat} {zs : List Str} (f : Str → Str) (cm : Canon m) (nd : zs.Nodup) (ev : ∀ z, valM m z = h z) (out : ∀ z, z ∉ zs → h z = 0) (y : Str) : renF f (valM m) (m.map Prod.fst) y = renF f h zs y := by
  rw [renF_perm f (valM m) (cm.perm nd fun z hz => by rw [ev, out z hz]), renF_nz]
  exact renF_congr f (fun z _ => ev z) y
section
variable {P : Program} {w : World} {K : PySem.W.Frag} {mg : Str → Option Value} {base : Heap} {f gMe : Addr} {fd fdA fdS fdM fdNB fdE fdN fdRN fdME : FuncData} {H : Hp} {Q : VK}
theorem ok_law (F : FunD K "law" "law" (defArgs s_law) (defBody s_law) (defScope s_law) [] [] f fd) (FY : Fy K mg)
    (CRE : Callee P w K mg base 1 "_law_reel" ["_law_script"] (spReel K)) (CT : Callee P w K mg base 1 "_law_turn" ["_law_reel_here", "_law_many"] spTurn) (CP : Callee P w K mg base 2 "_law_pick" ["_law_reel_here", "_law_some"] spPick) (CL : Callee P w K mg base 2 "_law_low" ["_law_top", "_law_bottom"] spLow)
    (CNU : Callee P w K mg base 3 "_law_number" ["_law_reel_here"] spNumber) (CTH : Callee P w K mg base 3 "_law_things" ["_law_reel_here", "_law_many"] spThings) (CRT : Callee P w K mg base 4 "_law_ratio" ["_law_reel_here", "_law_pair"] (spRatio2 K)) (CIA : Callee P w K mg base 7 "_law_is_as" ["_law_balance", "_law_plain"] (spIsAs K))
    (CMA : Callee P w K mg base 7 "_law_made" ["_law_reel_here", "_law_plain"] (spMade K)) (CSU : Callee P w K mg base 4 "_law_sum" ["_law_one", "_law_other", "_law_times"] spLSum) (CLR : Callee P w K mg base 9 "_law_least_right" ["_law_reel_here", "_law_balance", "_law_plain"] (spLR K)) (CRN : Callee P w K mg base 4 "_law_renamed" ["_law_plain", "_law_names_here"] spLRen)
    (CNA : Callee P w K mg base 3 "_law_names" ["_law_reel_here", "_law_things_here"] spNames2) (CME : Callee P w K mg base 8 "mean_of" ["things"] (spMean K))
    (gME : mg "mean_of" = some (.ref gMe)) (kME : PySem.W.keepIn K (.ref gMe) = true) (GME : FnOk P w K mg base CX0 8 gMe fdME ["things"] (spMean K)) (bME : KBn K fdME ["things"] 0 ["things"] (fun us ws => us ++ ws) (fun vs zs => vs ++ zs))
    (GRN : FnOk P w K mg base CX0 7 (He.ma K (cB K) "renamed") fdRN ["self", "names"] (spBRen K)) (bRN : KBn K fdRN ["self", "names"] 1 ["names"] (fun us ws => us ++ ws) (fun vs zs => vs ++ zs))
    (GA : FnOk P w K mg base CX0 7 (He.ma K (cB K) "__add__") fdA ["self", "other"] (spBBin K (· + ·))) (bA : Binds K fdA ["self", "other"] []) (GS : FnOk P w K mg base CX0 7 (He.ma K (cB K) "__sub__") fdS ["self", "other"] (spBBin K (· - ·))) (bS : Binds K fdS ["self", "other"] [])
    (GM : FnOk P w K mg base CX0 7 (He.ma K (cB K) "__mul__") fdM ["self", "ratio"] (spBMul K)) (bM : Binds K fdM ["self", "ratio"] []) (GNB : FnOk P w K mg base CX0 7 (He.ma K (cB K) "__neg__") fdNB ["self"] (spBNeg K)) (bNB : Binds K fdNB ["self"] [])
    (GEB : FnOk P w K mg base CX0 4 (He.ma K (cB K) "__eq__") fdE ["self", "other"] (spEqOf (DBal K))) (bEB : Binds K fdE ["self", "other"] []) (GNO : FnOk P w K mg base CX0 1 (pAd K (cB K) "is_nothing") fdN ["self"] (spNothing K)) (bNO : Binds K fdN ["self"] []) :
    FnOk P w K mg base CX0 10 f fd ["_law_script"] (spLaw K) := by
  refine F.ok scLaw (fun vs H Q E h => ?_) (fun cdv A outer s H vs Q E hr h => ?_)
  · obtain ⟨a, ns, rfl, _⟩ := h
    rfl
  · obtain ⟨a, ns, rfl, hS, qq⟩ := h
    have clB := (inspB_ok FY.all.2.2.1).cls
    have DA := dunB_ok FY.all.2.2.2.2.2.1
    have DM := dunB_ok FY.all.2.2.2.2.2.2.2.1
    have DS := dunB_ok FY.all.2.2.2.2.2.2.1
    have mNB := methB_ok FY.all.2.2.2.2.2.2.2.2.1
    have EqB := eqB_ok FY.all.2.2.2.2.2.2.2.2.2.1
    have PN := propB_ok FY.all.2.2.2.2.2.2.2.2.2.2.2.2.1
    have MRN := methB_ok FY.all.2.2.2.2.2.2.2.2.2.2.2.2.2.2.2.2.2
    refine ⟨_, PSs.nox (pss_cons (ps_set (i := 1) scLaw.nd rfl (Or.inr rfl) (KX.pe_c CRE hr (by decide) rfl (pa_cons (pv 0) pa_nil)))
  (pss_cons (ps_par (i := 2) (j := 3) (by rfl) scLaw.nd rfl rfl (by decide) rfl rfl (pa_cons (KX.pe_c CTH hr (by decide) rfl (pa_cons (pv 1) (pa_cons (KX.pe_c CT hr (by decide) rfl (pa_cons (pv 1) (pa_cons pe_int pa_nil))) pa_nil))) (pa_cons (KX.pe_c CTH hr (by decide) rfl (pa_cons (pv 1) (pa_cons (KX.pe_c CT hr (by decide) rfl (pa_cons (pv 1) (pa_cons pe_int pa_nil))) pa_nil))) pa_nil)) (by rfl))
  (pss_cons (ps_par (i := 4) (j := 5) (by rfl) scLaw.nd rfl rfl (by decide) rfl rfl (pa_cons (pe_callTy (c_dictP rfl) (by rfl) (FY.free "dict" (by decide +kernel)) (by decide +kernel) (pa_cons (pe_lc (own := [("_law_thing", 6)]) (g := gName 6) (te := tTup (tCons (tVar 6) (tCons (tCall spNumber [] E0 (tCons (tVar 1) tNil)) tNil))) (tt := tYes) rfl scLaw.nd (pi_list (pv 2)) (blkOk_by (N := nmscLaw) (sc := defScope s_law) (by decide +kernel)) (fun _ _ _ _ _ => pg_name (i := 6) scLaw.nd rfl (Or.inl rfl)) (fun _ _ _ _ _ => pts_nil) (fun _ _ _ _ _ => by exact (pe_tup (pa_cons (pv 6) (pa_cons (KX.pe_c CNU hr (by decide) rfl (pa_cons (pv 1) pa_nil)) pa_nil))))) pa_nil)) (pa_cons (pe_callTy (c_dictP rfl) (by rfl) (FY.free "dict" (by decide +kernel)) (by decide +kernel) (pa_cons (pe_lc (own := [("_law_thing", 6)]) (g := gName 6) (te := tTup (tCons (tVar 6) (tCons (tCall spNumber [] E0 (tCons (tVar 1) tNil)) tNil))) (tt := tYes) rfl scLaw.nd (pi_list (pv 3)) (blkOk_by (N := nmscLaw) (sc := defScope s_law) (by decide +kernel)) (fun _ _ _ _ _ => pg_name (i := 6) scLaw.nd rfl (Or.inl rfl)) (fun _ _ _ _ _ => pts_nil) (fun _ _ _ _ _ => by exact (pe_tup (pa_cons (pv 6) (pa_cons (KX.pe_c CNU hr (by decide) rfl (pa_cons (pv 1) pa_nil)) pa_nil))))) pa_nil)) pa_nil)) (by rfl))
  (pss_cons (ps_set (i := 7) scLaw.nd rfl (Or.inl rfl) (KX.pe_c CNU hr (by decide) rfl (pa_cons (pv 1) pa_nil)))
  (pss_cons (ps_par3 (i := 8) (j := 9) (l := 10) (by rfl) scLaw.nd rfl rfl rfl (by decide) (by decide) (by decide) rfl rfl rfl (pa_cons (KX.pe_c CMA hr (by decide) rfl (pa_cons (pv 1) (pa_cons (pv 4) pa_nil))) (pa_cons (KX.pe_c CMA hr (by decide) rfl (pa_cons (pv 1) (pa_cons (pv 5) pa_nil))) (pa_cons (KX.pe_c CRT hr (by decide) rfl (pa_cons (pv 1) (pa_cons (pv 7) pa_nil))) pa_nil))) (by rfl))
  (pss_cons (ps_if (PW.pt (pw_or (pt_not (pt_val (KX.pe_c CIA hr (by decide) rfl (pa_cons (pe_op (op_dun DA GA (hr.mono (by decide)) bA pass0) (pv 8) (pv 9)) (pa_cons (KX.pe_c CSU hr (by decide) rfl (pa_cons (pv 4) (pa_cons (pv 5) (pa_cons (pe_tup (pa_cons pe_int (pa_cons pe_int pa_nil))) pa_nil)))) pa_nil))))) (pw_or1 (pt_not (pt_val (KX.pe_c CIA hr (by decide) rfl (pa_cons (pe_op (op_dun DS GS (hr.mono (by decide)) bS pass0) (pv 8) (pv 9)) (pa_cons (KX.pe_c CSU hr (by decide) rfl (pa_cons (pv 4) (pa_cons (pv 5) (pa_cons (pe_tup (pa_cons (pe_un un_neg pe_int) (pa_cons pe_int pa_nil))) pa_nil)))) pa_nil)))))))) (pss_one (ps_ret pe_bl)) pss_nil)
  (pss_cons (ps_if (PW.pt (pw_or (pt_not (pt_val (KX.pe_c CIA hr (by decide) rfl (pa_cons (pe_un (un_dun mNB.at_ mNB.fn GNB (hr.mono (by decide)) bNB pass0) (pv 8)) (pa_cons (KX.pe_c CSU hr (by decide) rfl (pa_cons pe_dnewK (pa_cons (pv 4) (pa_cons (pe_tup (pa_cons (pe_un un_neg pe_int) (pa_cons pe_int pa_nil))) pa_nil)))) pa_nil))))) (pw_or1 (pt_not (pt_val (KX.pe_c CIA hr (by decide) rfl (pa_cons (pe_op (op_dun DM GM (hr.mono (by decide)) bM pass0) (pv 8) (pv 10)) (pa_cons (KX.pe_c CSU hr (by decide) rfl (pa_cons pe_dnewK (pa_cons (pv 4) (pa_cons (pv 7) pa_nil)))) pa_nil)))))))) (pss_one (ps_ret pe_bl)) pss_nil)
  (pss_cons (ps_if (PW.pt (pw_or (pt_cmpR (op_neO EqB GEB (hr.mono (by decide)) bEB pass0) (pe_op (op_dun DS GS (hr.mono (by decide)) bS pass0) (pe_op (op_dun DA GA (hr.mono (by decide)) bA pass0) (pv 8) (pv 9)) (pv 9)) (pv 8) (nomark _)) (pw_or (pt_not (pt_val (pe_prop (pe_op (op_dun DS GS (hr.mono (by decide)) bS pass0) (pv 8) (pv 8)) clB PN GNO (hr.mono (by decide)) bNO .nil pass0 rfl))) (pw_or (pt_cmpR (op_neO EqB GEB (hr.mono (by decide)) bEB pass0) (pe_op (op_dun DA GA (hr.mono (by decide)) bA pass0) (pv 8) (pv 9)) (pe_op (op_dun DA GA (hr.mono (by decide)) bA pass0) (pv 9) (pv 8)) (nomark _)) (pw_or1 (pt_cmpR (op_neO EqB GEB (hr.mono (by decide)) bEB pass0) (pe_op (op_dun DM GM (hr.mono (by decide)) bM pass0) (pe_op (op_dun DA GA (hr.mono (by decide)) bA pass0) (pv 8) (pv 9)) (pv 10)) (pe_op (op_dun DA GA (hr.mono (by decide)) bA pass0) (pe_op (op_dun DM GM (hr.mono (by decide)) bM pass0) (pv 8) (pv 10)) (pe_op (op_dun DM GM (hr.mono (by decide)) bM pass0) (pv 9) (pv 10))) (nomark _))))))) (pss_one (ps_ret pe_bl)) pss_nil)
  (pss_cons (ps_if (PW.pt (pw_or (pt_not (pt_val (KX.pe_c CIA hr (by decide) rfl (pa_cons (pv 8) (pa_cons (pv 4) pa_nil))))) (pw_or (pt_not (pt_val (KX.pe_c CIA hr (by decide) rfl (pa_cons (pv 9) (pa_cons (pv 5) pa_nil))))) (pw_or1 (pt_not (pt_val (KX.pe_c CLR hr (by decide) rfl (pa_cons (pv 1) (pa_cons (pv 8) (pa_cons (pv 4) pa_nil)))))))))) (pss_one (ps_ret pe_bl)) pss_nil)
  (pss_cons (ps_set (i := 11) scLaw.nd rfl (Or.inl rfl) (KX.pe_c CNA hr (by decide) rfl (pa_cons (pv 1) (pa_cons (pv 2) pa_nil))))
  (pss_cons (ps_set (i := 12) scLaw.nd rfl (Or.inl rfl) (pe_callTy (c_dictP rfl) (by rfl) (FY.free "dict" (by decide +kernel)) (by decide +kernel) (pa_cons (LiI.pe_listItems rfl (pv 11) rfl (FY.free "list" (by decide +kernel)) (by decide +kernel)) pa_nil)))
  (pss_cons (ps_if (PW.pt (pw_or (pt_not (pt_val (KX.pe_c CIA hr (by decide) rfl (pa_cons (pe_methKn0 (pv 8) clB MRN GRN (hr.mono (by decide)) bRN pass0 (pk_cons (pv 11) pk_nil)) (pa_cons (KX.pe_c CRN hr (by decide) rfl (pa_cons (pv 4) (pa_cons (pv 12) pa_nil))) pa_nil))))) (pw_or (pt_cmpR (op_ne_dictA hr.units0) (pv 11) (pv 12) (nomark _)) (pw_or1 (pt_not (pt_val (KX.pe_c CIA hr (by decide) rfl (pa_cons (pv 8) (pa_cons (pv 4) pa_nil))))))))) (pss_one (ps_ret pe_bl)) pss_nil)
  (pss_cons (ps_set (i := 13) scLaw.nd rfl (Or.inr rfl) (pe_lc (own := [("_law_turn_here", 14)]) (g := gName 14) (tt := tYes) rfl scLaw.nd (pi_range1 rfl (FY.free "range" (by decide +kernel)) (pa_cons (pe_op op_add pe_int (KX.pe_c CT hr (by decide) rfl (pa_cons (pv 1) (pa_cons pe_int pa_nil)))) pa_nil)) (blkOk_by (N := nmscLaw) (sc := defScope s_law) (by decide +kernel)) (fun _ _ _ _ _ => pg_name (i := 14) scLaw.nd rfl (Or.inl rfl)) (fun _ _ _ _ _ => pts_nil) (fun _ _ _ _ _ => by exact (KX.pe_c CP hr (by decide) rfl (pa_cons (pv 1) (pa_cons (pe_lst (pa_cons pe_str (pa_cons pe_str (pa_cons pe_str (pa_cons pe_str pa_nil))))) pa_nil))))))
  (pss_cons (ps_set (i := 15) scLaw.nd rfl (Or.inl rfl) (pe_callTy (c_dictP rfl) (by rfl) (FY.free "dict" (by decide +kernel)) (by decide +kernel) (pa_cons (pe_lc (own := [("_law_thing", 6)]) (g := gName 6) (te := tTup (tCons (tVar 6) (tCons (tCall spLow [] E0 (tCons (tBM K "list" (rCntS K) (tVar 13) (tCons (tVar 6) tNil)) (tCons (tCB (KX.rLenQ K) (tCons (tVar 13) tNil)) tNil))) tNil))) (tt := tYes) rfl scLaw.nd (pi_list (pv 13)) (blkOk_by (N := nmscLaw) (sc := defScope s_law) (by decide +kernel)) (fun _ _ _ _ _ => pg_name (i := 6) scLaw.nd rfl (Or.inl rfl)) (fun _ _ _ _ _ => pts_nil) (fun _ _ _ _ _ => by exact (pe_tup (pa_cons (pv 6) (pa_cons (KX.pe_c CL hr (by decide) rfl (pa_cons (pe_bm PySem.F.plainAttrs_list PySem.F.slot_list_count type_lcount mt_scount (pv 13) (pa_cons (pv 6) pa_nil)) (pa_cons (pe_callB KX.c_len (by rfl) (FY.free "len" (by decide +kernel)) (by decide +kernel) (pa_cons (pv 13) pa_nil)) pa_nil))) pa_nil))))) pa_nil)))
  (pss_one (ps_ret (pe_and (KX.pe_c CIA hr (by decide) rfl (pa_cons (pe_callKn0 GME (hr.mono (by decide)) rfl gME kME bME pass0 (pk_cons (pv 13) pk_nil)) (pa_cons (pv 15) pa_nil))) (pe_one (KX.pe_c CIA hr (by decide) rfl (pa_cons (KX.pe_c CME hr (by decide) rfl (pa_cons (pe_callTy call_tuple_of (by rfl) (FY.free "tuple" (by decide +kernel)) (by decide +kernel) (pa_cons (pe_revL (pv 13)) pa_nil)) pa_nil)) (pa_cons (pv 15) pa_nil))))))))))))))))))))), ?_⟩
    walk_at "kf"
    refine ⟨a, ns, rfl, hS, fun t H1 k1 nt T1 => ?_⟩
    walk_at "kf"
    refine ⟨t, 0, 5, rfl, T1, by omega, by decide, by decide, fun r H2 r0 r1 T2 B2 => ?_⟩
    obtain ⟨r, rfl⟩ := Int.eq_ofNat_of_zero_le r0
    walk_at "kf"
    refine ⟨t, 1, r, rfl, T2, by omega, by omega, fun l1 zs1 H3 T3 B3 hl1 NL1 n1 => ?_⟩
    walk_at "kf"
    refine ⟨t, 4, 5, rfl, T3, by omega, by decide, by decide, fun u H4 u0 u1 T4 B4 => ?_⟩
    obtain ⟨u, rfl⟩ := Int.eq_ofNat_of_zero_le u0
    walk_at "kf"
    refine ⟨t, 5, u, rfl, T4, by omega, by omega, fun l2 zs2 H5 T5 B5 hl2 NL2 n2 => ?_⟩
    have hl1' := B5 _ _ n1 (B4 _ _ n1 hl1)
    clear B2 B3 B4 B5 T1 T2 T3 T4 hl1 k1 nt hS r0 r1 u0 u1
    walk_at "kf"
    refine ⟨_, _, rfl, ?_⟩
    walk_at "kf"
    refine ⟨l1, rfl, ⟨_, SqL.of hl1'⟩, lc_draw (n := 8) (k := 4) (walk_l K l1 _) zs1 (by rw [List.length_map]) (by rw [List.length_map]; have := NL1.few; omega) (fun H2 B2 => SqL.of (B2 _ _ n1 hl1')) T5 (IsItem fun H v _ => ∃ q, SNum H v q) (stable_item stable_snum) (fun j x z H2 H' hj hz B2 T2 hy Qe Pz fin => ?_) (fun D0 H2 acc hD B2 T2 hl hps => ?_)⟩
    · obtain ⟨rfl, hx⟩ := hy
      rw [List.getElem?_map, hz] at hx
      injection hx with hx
      subst hx
      have hj4 : j < 4 := by
        have := NL1.few
        rw [List.length_map] at hj
        omega
      refine ⟨rfl, ?_⟩
      walk_at "kf"
      refine ⟨t, 8 + 4 * j, rfl, T2, by omega, fun v q H3 T3 B3 hv hb hd => ?_⟩
      walk_at "kf"
      refine ⟨(show (2 : Nat) ≤ sizeLine by decide), fun tp htp => ?_⟩
      have kt := KX.same_upd (o := .tup [.str z, v]) htp
      exact fin _ _ (B3.trans (BT.of kt)) ((T3.mono kt).weak (by omega)) ⟨tp, v, rfl, upd_same, q, hv.mono kt, hb, hd⟩
    rw [List.length_map] at T2
    have T2 := T2.weak (show 8 + 4 * zs1.length ≤ 8 + 16 by have := NL1.few; omega)
    walk_at "kf"
    refine rd_dictP hl hps fun d1 kvs hdp hks => ?_
    have kd := KX.same_upd (o := .dK (mergeK [] kvs)) hdp
    obtain ⟨h1, p1, dn1⟩ := drawn_plain NL1 hks kd upd_same
    have T3 := T2.mono kd
    have B3 := B2.trans (BT.of kd)
    generalize (upd H2 d1 (.dK (mergeK [] kvs))) = H6 at p1 T3 B3 ⊢
    clear hks hdp hl hps kd B2 T2 hD
    have T6 : RL 24 H6 t := T3
    have hl1 := B3 _ _ n1 hl1'
    have hl2' := B3 _ _ n2 hl2
    clear T5 T3 B3 hl1' hl2
    walk_at "kf"
    refine ⟨l2, rfl, ⟨_, SqL.of hl2'⟩, lc_draw (n := 24) (k := 4) (walk_l K l2 _) zs2 (by rw [List.length_map]) (by rw [List.length_map]; have := NL2.few; omega) (fun H2 B2 => SqL.of (B2 _ _ n2 hl2')) T6 (IsItem fun H v _ => ∃ q, SNum H v q) (stable_item stable_snum) (fun j x z H2 H' hj hz B2 T2 hy Qe Pz fin => ?_) (fun D0 H2 acc hD B2 T2 hl hps => ?_)⟩
    · obtain ⟨rfl, hx⟩ := hy
      rw [List.getElem?_map, hz] at hx
      injection hx with hx
      subst hx
      have hj4 : j < 4 := by
        have := NL2.few
        rw [List.length_map] at hj
        omega
      refine ⟨rfl, ?_⟩
      walk_at "kf"
      refine ⟨t, 24 + 4 * j, rfl, T2, by omega, fun v q H3 T3 B3 hv hb hd => ?_⟩
      walk_at "kf"
      refine ⟨(show (2 : Nat) ≤ sizeLine by decide), fun tp htp => ?_⟩
      have kt := KX.same_upd (o := .tup [.str z, v]) htp
      exact fin _ _ (B3.trans (BT.of kt)) ((T3.mono kt).weak (by omega)) ⟨tp, v, rfl, upd_same, q, hv.mono kt, hb, hd⟩
    rw [List.length_map] at T2
    have T2 := T2.weak (show 24 + 4 * zs2.length ≤ 24 + 16 by have := NL2.few; omega)
    walk_at "kf"
    refine rd_dictP hl hps fun d2 kvs hdp hks => ?_
    have kd := KX.same_upd (o := .dK (mergeK [] kvs)) hdp
    obtain ⟨h2, p2, dn2⟩ := drawn_plain NL2 hks kd upd_same
    have T3 := T2.mono kd
    have B3 := B2.trans (BT.of kd)
    generalize (upd H2 d2 (.dK (mergeK [] kvs))) = H7 at p2 T3 B3 ⊢
    clear hks hdp hl hps kd B2 T2 hD
    have T7 : RL 40 H7 t := T3
    have hl1 := B3 _ _ n1 hl1
    have p1 := p1.bt T6 B3
    clear T6 T3 B3 hl2' 
    walk_at "kf"
    refine ⟨_, _, rfl, ?_⟩
    walk_at "kf"
    refine ⟨t, 40, rfl, T7, by omega, fun tv q H8 T8 B8 htv bq dq => ?_⟩
    have hl1 := B8 _ _ n1 hl1
    have p1 := p1.bt T7 B8
    have p2 := p2.bt T7 B8
    clear T7 B8
    walk_at "kf"
    refine rd_par3 ?_
    walk_at "kf"
    refine ⟨t, d1, 44, 4, 84, h1, rfl, T8, by omega, p1, by decide, by decide, fun x m1 H9 T9 B9 hx g1 ev1 => ?_⟩
    have hl1 := B9 _ _ n1 hl1
    have p1 := p1.bt T8 B9
    have p2 := p2.bt T8 B9
    have htv : IsPair H9 tv q := by
      obtain ⟨_, _, _, z⟩ := T8.here
      exact pair_off (fun xs e => by rw [z] at e; cases e) B9 htv
    clear T8 B9
    walk_at "kf"
    refine ⟨t, d2, 52, 4, 84, h2, rfl, T9, by omega, p2, by decide, by decide, fun y m2 H10 T10 B10 hy g2 ev2 => ?_⟩
    have hl1 := B10 _ _ n1 hl1
    have p1 := p1.bt T9 B10
    have p2 := p2.bt T9 B10
    have hx := hx.bt T9 B10
    have htv : IsPair H10 tv q := by
      obtain ⟨_, _, _, z⟩ := T9.here
      exact pair_off (fun xs e => by rw [z] at e; cases e) B10 htv
    clear T9 B10
    walk_at "kf"
    refine ⟨t, tv, q, 60, 84, rfl, T10, by omega, htv, bq, by decide, fun rv H11 T11 B11 hrv => ?_⟩
    have S : LS K H11 t l1 d1 d2 zs1 h1 h2 tv x y rv m1 m2 q := by
      obtain ⟨_, _, _, z⟩ := T10.here
      exact ⟨n1, B11 _ _ n1 hl1, p1.bt T10 B11, p2.bt T10 B11, pair_off (fun xs e => by rw [z] at e; cases e) B11 htv, hx.bt T10 B11, hy.bt T10 B11, hrv⟩
    have T11 : RL 62 H11 t := T11
    have hd1 : ∀ p ∈ m1, p.2.den ≤ 15 := fun p hp => by
      have z := dn1 p.1
      rw [← ev1, valM_mem g1.can.nodup hp] at z
      exact z
    clear T10 B11 hl1 p1 p2 hx hy htv hrv
    walk_at "kf"
    refine ⟨_, _, _, rfl, ?_⟩
    walk_at "kf"
    -- the sum
    refine rd_bbin S.b1 S.b2 g1 g2 (by decide) (by decide) (by decide) (by decide) fun v12 m12 H12 k12 hb12 g12 ev12 => ?_
    have S := S.mono k12
    have T12 := T11.mono k12
    walk_at "kf"
    refine ⟨(show (2 : Nat) ≤ sizeLine by decide), fun tp htp => ?_⟩
    have kt := KX.same_upd (o := .tup [.int 1, .int 1]) htp
    have et : IsPair (upd H12 tp (.tup [.int 1, .int 1])) (.ref tp) 1 := ⟨tp, rfl, upd_same⟩
    have S := S.mono kt
    have T13 := T12.mono kt
    have hb13 := hb12.mono kt
    generalize (upd H12 tp (.tup [.int 1, .int 1])) = H13 at kt et S T13 hb13 ⊢
    clear T11 T12 k12 hb12 kt htp
    walk_at "kf"
    refine ⟨d1, d2, _, h1, h2, 1, 4, 4, 84, 84, 1, rfl, S.p1, S.p2, et, bits_one, by decide, by decide, fun d14 H14 k14 _ pl14 => ?_⟩
    walk_at "kf"
    refine ⟨v12, d14, m12, _, 8, _, 8, _, rfl, hb13.mono k14, g12, by decide, by decide, pl14, by decide, by decide, fun z => ?_, fun H15 k15 => ?_⟩
    · rw [ev12]
      show valM m1 z + valM m2 z = h1 z + h2 z * 1
      rw [ev1, ev2, Rat.mul_one]
    have S := S.mono (k14.trans k15)
    have T15 := T13.mono (k14.trans k15)
    clear hb13 k14 k15 pl14 et T13
    walk_at "kf"
    -- the difference
    refine rd_bbin S.b1 S.b2 g1 g2 (by decide) (by decide) (by decide) (by decide) fun v16 m16 H16 k16 hb16 g16 ev16 => ?_
    have S := S.mono k16
    have T16 := T15.mono k16
    walk_at "kf"
    refine ⟨(show (2 : Nat) ≤ sizeLine by decide), fun tp htp => ?_⟩
    have kt := KX.same_upd (o := .tup [.int (-1), .int 1]) htp
    have et : IsPair (upd H16 tp (.tup [.int (-1), .int 1])) (.ref tp) (-1) := ⟨tp, rfl, upd_same⟩
    have S := S.mono kt
    have T17 := T16.mono kt
    have hb17 := hb16.mono kt
    generalize (upd H16 tp (.tup [.int (-1), .int 1])) = H17 at kt et S T17 hb17 ⊢
    clear T15 T16 k16 hb16 kt htp
    walk_at "kf"
    refine ⟨d1, d2, _, h1, h2, -1, 4, 4, 84, 84, 1, rfl, S.p1, S.p2, et, bits_mone, by decide, by decide, fun d18 H18 k18 _ pl18 => ?_⟩
    walk_at "kf"
    refine ⟨v16, d18, m16, _, 8, _, 8, _, rfl, hb17.mono k18, g16, by decide, by decide, pl18, by decide, by decide, fun z => ?_, fun H19 k19 => ?_⟩
    · rw [ev16]
      show valM m1 z - valM m2 z = h1 z + h2 z * (-1)
      rw [ev1, ev2]
      grind
    have S := S.mono (k18.trans k19)
    have T19 := T17.mono (k18.trans k19)
    clear hb17 k18 k19 pl18 et T17
    walk_at "kf"
    -- the negative
    refine rd_bneg S.b1 g1 (by decide) (by decide) fun v20 H20 k20 hb20 g20 => ?_
    have S := S.mono k20
    have T20 := T19.mono k20
    walk_at "kf"
    refine fun e0 he0 => ?_
    have ke := KX.same_upd (o := .dK []) he0
    have pe : Plain (upd H20 e0 (.dK [])) e0 (fun _ => 0) 0 1 := ⟨⟨[], upd_same, DF.nil⟩, fun _ => bits_zero (by decide)⟩
    have S := S.mono ke
    have T21 := T20.mono ke
    have hb21 := hb20.mono ke
    generalize (upd H20 e0 (.dK [])) = H21 at ke pe S T21 hb21 ⊢
    clear T19 T20 k20 hb20 ke he0
    walk_at "kf"
    refine ⟨(show (2 : Nat) ≤ sizeLine by decide), fun tp htp => ?_⟩
    have kt := KX.same_upd (o := .tup [.int (-1), .int 1]) htp
    have et : IsPair (upd H21 tp (.tup [.int (-1), .int 1])) (.ref tp) (-1) := ⟨tp, rfl, upd_same⟩
    have S := S.mono kt
    have T22 := T21.mono kt
    have hb22 := hb21.mono kt
    have pe := pe.mono kt
    generalize (upd H21 tp (.tup [.int (-1), .int 1])) = H22 at kt et S T22 hb22 pe ⊢
    clear T21 hb21 kt htp
    walk_at "kf"
    refine ⟨e0, d1, _, fun _ => 0, h1, -1, 0, 4, 1, 84, 1, rfl, pe, S.p1, et, bits_mone, by decide, by decide, fun d23 H23 k23 _ pl23 => ?_⟩
    walk_at "kf"
    refine ⟨v20, d23, scale (-1) m1, _, 4, _, 4, _, rfl, hb22.mono k23, g20, by decide, by decide, pl23, by decide, by decide, fun z => ?_, fun H24 k24 => ?_⟩
    · rw [scale_val]
      show -1 * valM m1 z = 0 + h1 z * (-1)
      rw [ev1]
      grind
    have S := S.mono (k23.trans k24)
    have T24 := T22.mono (k23.trans k24)
    clear hb22 k23 k24 pl23 et T22 pe
    walk_at "kf"
    -- the multiple
    refine rd_bmul FY S.b1 S.rr g1 bq (by decide) (by decide) fun v25 m25 H25 k25 hb25 g25 ev25 => ?_
    have S := S.mono k25
    have T25 := T24.mono k25
    walk_at "kf"
    refine fun e0 he0 => ?_
    have ke := KX.same_upd (o := .dK []) he0
    have pe : Plain (upd H25 e0 (.dK [])) e0 (fun _ => 0) 0 1 := ⟨⟨[], upd_same, DF.nil⟩, fun _ => bits_zero (by decide)⟩
    have S := S.mono ke
    have T26 := T25.mono ke
    have hb26 := hb25.mono ke
    generalize (upd H25 e0 (.dK [])) = H26 at ke pe S T26 hb26 ⊢
    clear T24 T25 k25 hb25 ke he0
    walk_at "kf"
    refine ⟨e0, d1, tv, fun _ => 0, h1, q, 0, 4, 1, 84, 84, rfl, pe, S.p1, S.tp, bq, by decide, by decide, fun d27 H27 k27 _ pl27 => ?_⟩
    walk_at "kf"
    refine ⟨v25, d27, m25, _, 4, _, 4, _, rfl, hb26.mono k27, g25, by decide, by decide, pl27, by decide, by decide, fun z => ?_, fun H28 k28 => ?_⟩
    · rw [ev25]
      show valM m1 z * q = 0 + h1 z * q
      rw [ev1, Rat.zero_add]
    have S := S.mono (k27.trans k28)
    have T28 := T26.mono (k27.trans k28)
    clear hb26 k27 k28 pl27 T26 pe
    walk_at "kf"
    -- added and taken again
    refine rd_bbin S.b1 S.b2 g1 g2 (by decide) (by decide) (by decide) (by decide) fun v29 m29 H29 k29 hb29 g29 ev29 => ?_
    have S := S.mono k29
    have T29 := T28.mono k29
    walk_at "kf"
    refine rd_bbin hb29 S.b2 g29 g2 (by decide) (by decide) (by decide) (by decide) (ret_is g1.can (fun z => by show _ = valM m29 z - valM m2 z; rw [ev29]; show _ = valM m1 z + valM m2 z - valM m2 z; grind) fun v30 H30 k30 hb30 g30 => ?_)
    have S := S.mono k30
    have T30 := T29.mono k30
    walk_at "kf"
    refine ⟨_, bal_own FY hb30 S.b1 g30 g1, fun H31 e31 => ?_⟩
    rw [decide_eq_true rfl]
    have S := S.mono e31
    have T31 := T30.mono e31
    clear T28 T29 T30 k29 hb29 k30 hb30 e31
    walk_at "kf"
    -- nothing is left
    refine rd_prop ?_
    walk_at "kf"
    refine rd_bbin S.b1 S.b1 g1 g1 (by decide) (by decide) (by decide) (by decide) (ret_is (m := []) ⟨rfl, List.nodup_nil, fun _ h => by cases h⟩ (fun z => by show 0 = valM m1 z - valM m1 z; grind) fun v32 H32 k32 hb32 g32 => ?_)
    have hb32' := hb32
    obtain ⟨a32, dx32, _, _, _, e32, ha32, _⟩ := hb32'
    refine ⟨a32, dx32, _, e32, ha32, .ref a32, [], rfl, e32 ▸ hb32, (fun _ h => by cases h), fun H33 k33 => ?_⟩
    have S := S.mono (k32.trans k33)
    have T33 := T31.mono (k32.trans k33)
    clear T31 k32 k33 hb32
    walk_at "kf"
    -- the other way about
    refine rd_bbin S.b1 S.b2 g1 g2 (by decide) (by decide) (by decide) (by decide) fun v34 m34 H34 k34 hb34 g34 ev34 => ?_
    have S := S.mono k34
    have T34 := T33.mono k34
    walk_at "kf"
    refine rd_bbin S.b2 S.b1 g2 g1 (by decide) (by decide) (by decide) (by decide) (ret_is g34.can (fun z => by rw [ev34]; show valM m1 z + valM m2 z = valM m2 z + valM m1 z; grind) fun v35 H35 k35 hb35 g35 => ?_)
    have S := S.mono k35
    have T35 := T34.mono k35
    walk_at "kf"
    refine ⟨_, bal_own FY (hb34.mono k35) hb35 g34 g35, fun H36 e36 => ?_⟩
    rw [decide_eq_true rfl]
    have S := S.mono e36
    have T36 := T35.mono e36
    clear T33 T34 T35 k34 hb34 k35 hb35 e36
    walk_at "kf"
    -- many times
    refine rd_bbin S.b1 S.b2 g1 g2 (by decide) (by decide) (by decide) (by decide) fun v37 m37 H37 k37 hb37 g37 ev37 => ?_
    have S := S.mono k37
    have T37 := T36.mono k37
    walk_at "kf"
    refine rd_bmul FY hb37 S.rr g37 bq (by decide) (by decide) fun v38 m38 H38 k38 hb38 g38 ev38 => ?_
    have S := S.mono k38
    have T38 := T37.mono k38
    walk_at "kf"
    refine rd_bmul FY S.b1 S.rr g1 bq (by decide) (by decide) fun v39 m39 H39 k39 hb39 g39 ev39 => ?_
    have S := S.mono k39
    have T39 := T38.mono k39
    walk_at "kf"
    refine rd_bmul FY S.b2 S.rr g2 bq (by decide) (by decide) fun v40 m40 H40 k40 hb40 g40 ev40 => ?_
    have S := S.mono k40
    have T40 := T39.mono k40
    walk_at "kf"
    refine rd_bbin (hb39.mono k40) hb40 g39 g40 (by decide) (by decide) (by decide) (by decide) (ret_is g38.can (fun z => by rw [ev38]; show valM m37 z * q = valM m39 z + valM m40 z; rw [ev37, ev39, ev40]; show (valM m1 z + valM m2 z) * q = valM m1 z * q + valM m2 z * q; rw [Rat.add_mul]) fun v41 H41 k41 hb41 g41 => ?_)
    have S := S.mono k41
    have T41 := T40.mono k41
    walk_at "kf"
    refine ⟨_, bal_own FY (((hb38.mono k39).mono k40).mono k41) hb41 g38 g41, fun H42 e42 => ?_⟩
    rw [decide_eq_true rfl]
    have S := S.mono e42
    have T42 := T41.mono e42
    clear T36 T37 T38 T39 T40 T41 k37 k38 k39 k40 k41 hb37 hb38 hb39 hb40 hb41 e42
    walk_at "kf"
    -- they stay; least terms
    refine ⟨x, d1, m1, h1, 4, 84, 4, 84, rfl, S.b1, g1, by decide, by decide, S.p1, by decide, by decide, ev1, fun H43 k43 => ?_⟩
    have S := S.mono k43
    have T43 := T42.mono k43
    walk_at "kf"
    refine ⟨y, d2, m2, h2, 4, 84, 4, 84, rfl, S.b2, g2, by decide, by decide, S.p2, by decide, by decide, ev2, fun H44 k44 => ?_⟩
    have S := S.mono k44
    have T44 := T43.mono k44
    clear T42 T43 k43 k44
    walk_at "kf"
    refine ⟨t, x, d1, 62, m1, h1, 4, rfl, T44, by omega, S.b1, g1, S.p1, by decide, ev1, hd1, fun H45 T45 B45 => ?_⟩
    have S := S.bt T44 B45
    clear T44 B45
    walk_at "kf"
    -- new names
    refine ⟨t, l1, 64, zs1, rfl, T45, by omega, S.ne, S.l, NL1, fun dn kn H46 T46 B46 _ hdn N ndn => ?_⟩
    have S := S.bt T45 B46
    have T46 : RL 72 H46 t := T46
    clear T45 B46
    walk_at "kf"
    refine rd_items ?_
    walk_at "kf"
    refine ⟨dn, kn, rfl, hdn, fun H47 lp ts k47 hlp hts hnot hl47 hps47 => ?_⟩
    refine ⟨lp, ts, kn, rfl, SqL.of hl47, Paired.mapP hps47 fun _ _ e => SqT.of e, fun dk hdk => ?_⟩
    rw [merge_self kn [] (by simpa using ndn), List.nil_append]
    have kk := KX.same_upd (o := .dK kn) hdk
    have S := (S.mono k47).mono kk
    have T48 := RL.mono (RL.mono T46 k47) kk
    have hdn := kk _ _ (k47 _ _ hdn)
    have hdk2 : (upd H47 dk (.dK kn)) dk = some (.dK kn) := upd_same
    generalize (upd H47 dk (.dK kn)) = H48 at S T48 hdn hdk2 ⊢
    clear kk hdk hps47 hl47 hnot hts hlp k47 T46
    walk_at "kf"
    refine rd_methKn ?_
    walk_at "kf"
    have hb48 := S.b1
    obtain ⟨xa, xdx, xd, xt, xks, ex, hxa, _⟩ := hb48
    refine ⟨xa, xdx, _, ex, hxa, rfl, ?_⟩
    walk_at "kf"
    refine ⟨rfl, .ref xa, dn, kn, m1, 4, 84, rfl, ex ▸ S.b1, g1, hdn, N, by decide, by decide, by decide, fun v49 m49 H49 k49 hb49 g49 ev49 => ?_⟩
    have S := S.mono k49
    have T49 := T48.mono k49
    have hdn := k49 _ _ hdn
    have hdk2 := k49 _ _ hdk2
    walk_at "kf"
    obtain ⟨ks1, hd1k, D1⟩ := S.p1.has
    refine ⟨d1, dk, h1, kn, ks1, 4, 84, rfl, S.p1, hd1k, hdk2, N, by decide, by decide, fun d50 H50 k50 _ pl50 => ?_⟩
    walk_at "kf"
    refine ⟨v49, d50, m49, _, 4, _, 4, _, rfl, hb49.mono k50, g49, by decide, by decide, pl50, by decide, by decide, fun z => ?_, fun H51 k51 => ?_⟩
    · rw [ev49]
      exact ren_same _ g1.can D1.keysNd ev1 (fun z hz => D1.keysOut hz) z
    have S := S.mono (k50.trans k51)
    have T51 := T49.mono (k50.trans k51)
    have hdn := k51 _ _ (k50 _ _ hdn)
    have hdk2 := k51 _ _ (k50 _ _ hdk2)
    clear T48 T49 k49 k50 k51 hb49 pl50 D1 hd1k hxa
    walk_at "kf"
    refine ⟨dn, dk, kn, kn, rfl, rfl, hdn, hdk2, rfl, fun p hp => ⟨valV_at ndn hp, ?_⟩, ?_⟩
    · obtain ⟨_, y2, _, e, _⟩ := N.2 p hp
      rw [e]
      rfl
    walk_at "kf"
    refine ⟨x, d1, m1, h1, 4, 84, 4, 84, rfl, S.b1, g1, by decide, by decide, S.p1, by decide, by decide, ev1, fun H52 k52 => ?_⟩
    have T52 := T51.mono k52
    clear S T51 hdn hdk2 k52
    walk_at "kf"
    -- the mean
    refine rd_lcI (J := Itr 0 0) ?_
    refine rd_rng1 ?_
    walk_at "kf"
    refine ⟨t, 72, 5, rfl, T52, by omega, by decide, by decide, fun r5 H53 r0 r1 T53 B53 => ?_⟩
    obtain ⟨r5, rfl⟩ := Int.eq_ofNat_of_zero_le r0
    walk_at "kf"
    have T53 : RL 73 H53 t := T53
    obtain ⟨N5, hN5, n5a, n5b⟩ : ∃ N5 : Nat, (1 + (r5 : Int)) = (N5 : Int) ∧ 1 ≤ N5 ∧ N5 ≤ 5 := ⟨1 + r5, by omega, by omega, by omega⟩
    rw [hN5]
    refine ⟨(N5 : Int), rfl, by omega, by omega, ?_⟩
    rw [Int.toNat_natCast]
    refine lc_draw (n := 73) (k := 1) walk_range (List.replicate N5 ()) (by rw [List.length_replicate]) (by omega) (fun _ _ => True.intro) T53 (fun _ v (_ : Unit) => ∃ z, v = V.str z ∧ NameOk z) (fun _ _ _ _ _ _ _ _ h => h) (fun j x z H2 H' hj hz B2 T2 hy Qe Pz fin => ?_) (fun D0 H2 acc hD B2 T2 hl hps => ?_)
    · obtain ⟨rfl, rfl⟩ := hy
      refine ⟨rfl, ?_⟩
      walk_at "kf"
      refine ⟨(show (4 : Nat) ≤ sizeLine by decide), fun p4 hp4 => ?_⟩
      have k4 := KX.same_upd (o := .lst [.str "a", .str "b", .str "c", .str "dd"]) hp4
      walk_at "kf"
      refine ⟨t, p4, _, [.str "a", .str "b", .str "c", .str "dd"], rfl, T2.mono k4, by omega, rl_ne T2 hp4, upd_same, by simp, (show (4 : Nat) ≤ 1000 by decide), fun x3 H3 hx T3 B3 => ?_⟩
      have four : ∀ z ∈ (["a", "b", "c", "dd"] : List Str), NameOk z := by decide +kernel
      refine fin _ _ ((BT.of k4).trans B3) (T3.weak (by omega)) ?_
      simp only [List.mem_cons, List.not_mem_nil, or_false] at hx
      rcases hx with rfl | rfl | rfl | rfl
      · exact ⟨_, rfl, four _ (by simp)⟩
      · exact ⟨_, rfl, four _ (by simp)⟩
      · exact ⟨_, rfl, four _ (by simp)⟩
      · exact ⟨_, rfl, four _ (by simp)⟩
    obtain ⟨zs, rfl, zok, zlen⟩ : ∃ zs : List Str, acc = zs.map V.str ∧ (∀ z ∈ zs, NameOk z) ∧ zs.length = N5 := by
      have go : ∀ {acc : List V} {us : List Unit}, Paired (fun v (_ : Unit) => ∃ z, v = V.str z ∧ NameOk z) acc us → ∃ zs : List Str, acc = zs.map V.str ∧ (∀ z ∈ zs, NameOk z) ∧ zs.length = us.length := by
        intro acc us p
        induction p with
        | nil => exact ⟨[], rfl, (fun _ h => by cases h), rfl⟩
        | cons r _ ih =>
          obtain ⟨z, rfl, ok⟩ := r
          obtain ⟨zs, rfl, h1, h2⟩ := ih
          refine ⟨z :: zs, rfl, fun y hy => ?_, by rw [List.length_cons, List.length_cons, h2]⟩
          rcases List.mem_cons.mp hy with rfl | hy
          · exact ok
          · exact h1 y hy
      obtain ⟨zs, h1, h2, h3⟩ := go hps
      exact ⟨zs, h1, h2, by rw [h3, List.length_replicate]⟩
    have zne : zs ≠ [] := fun e => by
      subst e
      rw [List.length_nil] at zlen
      omega
    clear hps B2 T2 hD T52 T53 B53
    walk_at "kf"
    refine ⟨D0, rfl, ⟨_, SqL.of hl⟩, lc_rel (walk_l K D0 _) zs (by rw [List.length_map]) (by rw [List.length_map]; omega) (fun H3 k3 => SqL.of (k3 _ _ hl)) (IsItem fun H v z => IsPair H v (Rat.divInt ((zs.count z : Nat) : Int) ((zs.length : Nat) : Int))) (stable_item (stable_pair _)) (item_mono (S := fun H v z => IsPair H v (Rat.divInt ((zs.count z : Nat) : Int) ((zs.length : Nat) : Int))) fun _ _ _ _ k s => IsPair.mono s k) (fun j x z H3 H4 hj hz k3 hy Qe Pz fin => ?_) (fun D1 H3 acc hD1 k3 hl3 hps => ?_)⟩
    · obtain ⟨rfl, hx⟩ := hy
      rw [List.getElem?_map, hz] at hx
      injection hx with hx
      subst hx
      have hlq := k3 _ _ hl
      refine ⟨rfl, ?_⟩
      walk_at "kf"
      refine rd_bm ?_
      walk_at "kf"
      refine ⟨.inl ⟨rfl, _, SqL.of hlq⟩, ?_⟩
      walk_at "kf"
      refine ⟨D0, zs, z, rfl, rfl, SqL.of hlq, ?_⟩
      walk_at "kf"
      rw [List.length_map]
      refine ⟨_, _, rfl, by omega, ?_, fun v H5 k5 hv => ?_⟩
      · rw [Int.natAbs_natCast]
        exact Nat.lt_of_lt_of_le (show zs.length < 2 ^ 10 by omega) (Nat.pow_le_pow_right (by decide) (by decide))
      walk_at "kf"
      refine ⟨(show (2 : Nat) ≤ sizeLine by decide), fun tp htp => ?_⟩
      have kt := KX.same_upd (o := .tup [.str z, v]) htp
      exact fin _ _ (k5.trans kt) ⟨tp, v, rfl, upd_same, hv.mono kt⟩
    walk_at "kf"
    refine rd_dictP hl3 hps fun dd kvs hdd hks => ?_
    have kd := KX.same_upd (o := .dK (mergeK [] kvs)) hdd
    have cb : ∀ z, Bits 8 (Rat.divInt ((zs.count z : Nat) : Int) ((zs.length : Nat) : Int)) := fun z => by
      refine bits_divInt (by omega) ?_ ?_
      · rw [Int.natAbs_natCast]
        exact Nat.lt_of_le_of_lt (Nat.le_trans List.count_le_length (show zs.length ≤ 5 by omega)) (by decide)
      · rw [Int.natAbs_natCast]
        exact Nat.lt_of_le_of_lt (show zs.length ≤ 5 by omega) (by decide)
    have pd : Plain (upd H3 dd (.dK (mergeK [] kvs))) dd (fun z => Rat.divInt ((zs.count z : Nat) : Int) ((zs.length : Nat) : Int)) zs.length 8 := by
      refine ⟨⟨_, upd_same, items_df (R := RPair) (S := fun H v z => IsPair H v (Rat.divInt ((zs.count z : Nat) : Int) ((zs.length : Nat) : Int))) (h := fun z => Rat.divInt ((zs.count z : Nat) : Int) ((zs.length : Nat) : Int)) hks (fun v z _ r => IsPair.mono r kd) zok (fun z hz => ?_)⟩, cb⟩
      show Rat.divInt _ _ = 0
      rw [List.count_eq_zero_of_not_mem hz]
      exact Rat.zero_divInt _
    have hl4 := kd _ _ (k3 _ _ hl)
    generalize (upd H3 dd (.dK (mergeK [] kvs))) = H4 at pd hl4 ⊢
    clear hks kd hdd hps hl3 k3 hD1 hl
    walk_at "kf"
    refine rd_callKn ?_
    walk_at "kf"
    refine ⟨rfl, D0, zs, rfl, .inl hl4, zok, zne, by omega, fun v5 m5 H5 k5 hb5 g5 ev5 => ?_⟩
    walk_at "kf"
    refine ⟨v5, dd, m5, _, zs.length, 16, zs.length, 8, rfl, hb5, g5, by omega, by decide, pd.mono k5, by omega, by decide, fun z => by rw [ev5]; exact count_mul _ _, fun H6 k6 => ?_⟩
    have hl6 := k6 _ _ (k5 _ _ hl4)
    have pd6 := (pd.mono k5).mono k6
    clear hb5 k5 k6 pd hl4
    walk_at "kf"
    refine ⟨D0, zs.map V.str, rfl, SqL.of hl6, fun lr hlr => ?_⟩
    walk_at "kf"
    rw [← List.map_reverse]
    refine ⟨lr, _, rfl, .inl ⟨SqL.of upd_same, fun tl htl => ?_⟩⟩
    have kr := (KX.same_upd (o := .lst (zs.reverse.map V.str)) hlr).trans (KX.same_upd (o := .tup (zs.reverse.map V.str)) htl)
    have pd7 := pd6.mono kr
    have etl : (upd (upd H6 lr (.lst (zs.reverse.map V.str))) tl (.tup (zs.reverse.map V.str))) tl = some (.tup (zs.reverse.map V.str)) := upd_same
    generalize (upd (upd H6 lr (.lst (zs.reverse.map V.str))) tl (.tup (zs.reverse.map V.str))) = H7 at pd7 etl ⊢
    clear kr htl hlr pd6 hl6
    walk_at "kf"
    refine ⟨tl, zs.reverse, rfl, .inr etl, fun z hz => zok z (List.mem_reverse.mp hz), fun e => zne (List.reverse_eq_nil_iff.mp e), by rw [List.length_reverse]; omega, fun v8 m8 H8 k8 hb8 g8 ev8 => ?_⟩
    walk_at "kf"
    refine ⟨v8, dd, m8, _, zs.reverse.length, 16, zs.length, 8, rfl, hb8, g8, by rw [List.length_reverse]; omega, by decide, pd7.mono k8, by omega, by decide, fun z => by rw [ev8]; show ((zs.reverse.count z : Nat) : Rat) * Rat.divInt 1 ((zs.reverse.length : Nat) : Int) = _; rw [List.count_reverse, List.length_reverse]; exact count_mul _ _, fun H9 k9 => ?_⟩
    walk_at "kf"
    exact qq H9
end

end K5
namespace K5
open PySem PySem.Spec PyProof.Rows L2 KY PySem.W
theorem Fy.of {K : PySem.W.Frag} {h : Heap} {mg : Str → Option Value} (X : K.In h) (G : h.Ns mainGlobals mg) (cy : SaysY fa fn ex K) : Fy K mg := by
  obtain ⟨c, cs, cx⟩ := cy
  have g : ∀ n ∈ gl, mg n = some (.ref (He.ga K n)) := fun n hn => He.glo_ok X G (factsY c (List.mem_append_left _ (List.mem_map_of_mem hn)))
  have fr : ∀ n ∈ freeN, mg n = none := fun n hn => He.free_ok X G (factsY c (List.mem_append_right _ (List.mem_append_left _ (List.mem_map_of_mem hn))))
  have h1 := cx
  unfold ex at h1
  simp only [Bool.and_eq_true] at h1
  obtain ⟨h0, r1, r2, r3, r4, r5, r6, r7, r8, r9, r10, b1, b2, b3, b4, b5, b6, b7, b8, b9, b10, b11, b12, b13, b14, b15, b16, ⟨hg, hl⟩, _⟩ := h1
  exact ⟨g, fr, PySem.W.mg_of X G (of_decide_eq_true hg), PySem.W.mg_of X G (of_decide_eq_true hl),
    He.int_ok X G (factsY c (List.mem_append_right _ (List.mem_append_right _ (List.mem_cons_self ..)))),
    He.str_ok X G (factsY c (List.mem_append_right _ (List.mem_append_right _ (List.mem_cons_of_mem _ (List.mem_cons_self ..))))),
    He.str_ok X G (factsY c (List.mem_append_right _ (List.mem_append_right _ (List.mem_cons_of_mem _ (List.mem_cons_of_mem _ (List.mem_cons_self ..)))))), cx⟩
theorem facts {P : Program} {w : World} {K : PySem.W.Frag} {h : Heap} {mg : Str → Option Value} {f : Addr} (X : K.In h) (G : h.Ns mainGlobals mg) (hfa : mg ("law" : Str) = some (.ref f)) (cy : SaysY fa fn ex K) :
    ∃ fd : FuncData, (∀ (s : Shared) (v : Value), BindsTo s fd ⟨[v], []⟩ [("_law_script", v)]) ∧ ∀ base : Heap, K.In base → base.Ns mainGlobals mg → FnOk P w K mg base CX0 10 f fd ["_law_script"] (spLaw K) := by
  have fy := Fy.of X G cy
  obtain ⟨c, cs, cx⟩ := cy
  have g := fy.glo
  obtain ⟨v0, F0⟩ := c.def_ 0 (d := d0) rfl
  obtain ⟨v1, F1⟩ := c.def_ 1 (d := d1) rfl
  obtain ⟨v2, F2⟩ := c.def_ 2 (d := d2) rfl
  obtain ⟨v3, F3⟩ := c.def_ 3 (d := d3) rfl
  obtain ⟨v4, F4⟩ := c.def_ 4 (d := d4) rfl
  obtain ⟨v5, F5⟩ := c.def_ 5 (d := d5) rfl
  obtain ⟨v6, F6⟩ := c.def_ 6 (d := d6) rfl
  obtain ⟨v7, F7⟩ := c.def_ 7 (d := d7) rfl
  obtain ⟨v8, F8⟩ := c.def_ 8 (d := d8) rfl
  obtain ⟨v9, F9⟩ := c.def_ 9 (d := d9) rfl
  obtain ⟨v10, F10⟩ := c.def_ 10 (d := d10) rfl
  obtain ⟨v11, F11⟩ := c.def_ 11 (d := d11) rfl
  obtain ⟨v12, F12⟩ := c.def_ 12 (d := d12) rfl
  obtain ⟨v13, F13⟩ := c.def_ 13 (d := d13) rfl
  obtain ⟨v14, F14⟩ := c.def_ 14 (d := d14) rfl
  obtain ⟨v15, F15⟩ := c.def_ 15 (d := d15) rfl
  obtain ⟨v16, F16⟩ := c.def_ 16 (d := d16) rfl
  obtain ⟨v17, F17⟩ := c.def_ 17 (d := d17) rfl
  obtain ⟨v18, F18⟩ := c.def_ 18 (d := d18) rfl
  obtain ⟨v19, F19⟩ := c.def_ 19 (d := d19) rfl
  obtain ⟨v20, F20⟩ := c.def_ 20 (d := d20) rfl
  obtain ⟨v21, F21⟩ := c.def_ 21 (d := d21) rfl
  obtain ⟨v22, F22⟩ := c.def_ 22 (d := d22) rfl
  obtain ⟨v23, F23⟩ := c.def_ 23 (d := d23) rfl
  obtain ⟨v24, F24⟩ := c.def_ 24 (d := d24) rfl
  obtain ⟨v25, F25⟩ := c.def_ 25 (d := d25) rfl
  obtain ⟨v26, F26⟩ := c.def_ 26 (d := d26) rfl
  obtain ⟨v27, F27⟩ := c.def_ 27 (d := d27) rfl
  obtain ⟨v28, F28⟩ := c.def_ 28 (d := d28) rfl
  obtain ⟨v29, F29⟩ := c.def_ 29 (d := d29) rfl
  obtain ⟨v30, F30⟩ := c.def_ 30 (d := d30) rfl
  obtain ⟨v31, F31⟩ := c.def_ 31 (d := d31) rfl
  obtain ⟨v32, F32⟩ := c.def_ 32 (d := d32) rfl
  obtain ⟨v33, F33⟩ := c.def_ 33 (d := d33) rfl
  obtain ⟨v34, F34⟩ := c.def_ 34 (d := d34) rfl
  obtain ⟨v35, F35⟩ := c.def_ 35 (d := d35) rfl
  obtain ⟨v36, F36⟩ := c.def_ 36 (d := d36) rfl
  obtain ⟨v37, F37⟩ := c.def_ 37 (d := d37) rfl
  obtain ⟨v38, F38⟩ := c.def_ 38 (d := d38) rfl
  obtain ⟨v39, F39⟩ := c.def_ 39 (d := d39) rfl
  obtain ⟨v40, F40⟩ := c.def_ 40 (d := d40) rfl
  obtain ⟨v41, F41⟩ := c.def_ 41 (d := d41) rfl
  obtain ⟨v42, F42⟩ := c.def_ 42 (d := d42) rfl
  obtain ⟨v43, F43⟩ := c.def_ 43 (d := d43) rfl
  obtain ⟨v44, F44⟩ := c.def_ 44 (d := d44) rfl
  obtain ⟨v45, F45⟩ := c.def_ 45 (d := d45) rfl
  obtain ⟨v46, F46⟩ := c.def_ 46 (d := d46) rfl
  obtain ⟨v47, F47⟩ := c.def_ 47 (d := d47) rfl
  obtain ⟨v48, F48⟩ := c.def_ 48 (d := d48) rfl
  obtain ⟨v49, F49⟩ := c.def_ 49 (d := d49) rfl
  obtain ⟨v50, F50⟩ := c.def_ 50 (d := d50) rfl
  obtain ⟨v51, F51⟩ := c.def_ 51 (d := d51) rfl
  obtain ⟨v52, F52⟩ := c.def_ 52 (d := d52) rfl
  obtain ⟨v53, F53⟩ := c.def_ 53 (d := d53) rfl
  have e := hfa.symm.trans (g "law" (by decide +kernel))
  cases e
  have b := FunD.bindsA (ps := ["_law_script"]) F53 fun _ _ _ _ _ _ us hl => match us, hl with | [_], _ => rfl
  refine ⟨_, fun s v => b s [v] rfl, fun base _ _ => ?_⟩
  have CI : Callee P w K mg base 1 "is_integer" ["value"] (spInt K) := ⟨_, _, g _ (by decide +kernel), F0.kp, F0.bindsN (fun _ _ _ _ _ _ us hl => match us, hl with | [_], _ => rfl), ok_int F0 fy⟩
  have GRI := ok_rinit (P := P) (w := w) (base := base) F4 fy CI
  have bR0 : ∃ ds, Vals ([] : List V) ds ∧ Binds K v4 ["self", "top", "bottom"] ds := F4.binds1 3 1 (List.cons_ne_nil _ _) rfl fun _ _ _ _ _ _ _ us its l1 l2 => match us, l1, its, l2 with | [_, _, _], _, [_], _ => ⟨_, rfl, rfl⟩
  have bR1 : ∃ ds, Vals ([.int 1] : List V) ds ∧ Binds K v4 ["self", "top", "bottom"] ds := F4.binds1 2 0 (List.cons_ne_nil _ _) rfl fun _ _ _ _ _ _ _ us its l1 l2 => match us, l1, its, l2 with | [_, _], _, [_], _ => ⟨_, rfl, rfl⟩
  have bR00 : Binds K v4 ["self", "top", "bottom"] [] := by
    obtain ⟨ds, r, bb⟩ := bR0
    cases r
    exact bb
  have CR : RatC P w K mg base := ⟨_, GRI, bR00, bR1⟩
  have CO : Callee P w K mg base 4 "other_of" ["value"] (spOther K) := ⟨_, _, g _ (by decide +kernel), F12.kp, F12.bindsN (fun _ _ _ _ _ _ us hl => match us, hl with | [_], _ => rfl), ok_other F12 fy CI CR⟩
  have GRA := ok_radd F6 fy CO CR
  have bRA : Binds K v6 ["self", "other"] [] := F6.bindsN (fun _ _ _ _ _ _ us hl => match us, hl with | [_, _], _ => rfl)
  have GRS := ok_rsub F7 fy CO CR
  have bRS : Binds K v7 ["self", "other"] [] := F7.bindsN (fun _ _ _ _ _ _ us hl => match us, hl with | [_, _], _ => rfl)
  have GRM := ok_rmul F8 fy CO CR
  have bRM : Binds K v8 ["self", "other"] [] := F8.bindsN (fun _ _ _ _ _ _ us hl => match us, hl with | [_, _], _ => rfl)
  have GRN := ok_rneg F9 fy CR
  have bRN : Binds K v9 ["self"] [] := F9.bindsN (fun _ _ _ _ _ _ us hl => match us, hl with | [_], _ => rfl)
  have GRO := ok_rof F5 fy CI CR
  have bRO : Binds K v5 ["value"] [] := F5.bindsN (fun _ _ _ _ _ _ us hl => match us, hl with | [_], _ => rfl)
  have CQ : Callee P w K mg base 2 "is_ratio" ["value"] (spIsRat K) := ⟨_, _, g _ (by decide +kernel), F13.kp, F13.bindsN (fun _ _ _ _ _ _ us hl => match us, hl with | [_], _ => rfl), ok_isratio F13 fy CI⟩
  have GRE := ok_req F10 fy CI
  have bRE : Binds K v10 ["self", "other"] [] := F10.bindsN (fun _ _ _ _ _ _ us hl => match us, hl with | [_, _], _ => rfl)
  have GRT := ok_rstr (P := P) (w := w) (base := base) F11 fy
  have bRT : Binds K v11 ["self"] [] := F11.bindsN (fun _ _ _ _ _ _ us hl => match us, hl with | [_], _ => rfl)
  have CN : Callee P w K mg base 1 "is_name" ["value"] spName := ⟨_, _, g _ (by decide +kernel), F1.kp, F1.bindsN (fun _ _ _ _ _ _ us hl => match us, hl with | [_], _ => rfl), ok_name F1 fy⟩
  have CIL : Callee P w K mg base 1 "is_list" ["value"] (spList K) := ⟨_, _, g _ (by decide +kernel), F2.kp, F2.bindsN (fun _ _ _ _ _ _ us hl => match us, hl with | [_], _ => rfl), ok_isl F2 fy⟩
  have CNS : Callee P w K mg base 2 "are_names" ["value"] (spNames K) := ⟨_, _, g _ (by decide +kernel), F3.kp, F3.bindsN (fun _ _ _ _ _ _ us hl => match us, hl with | [_], _ => rfl), ok_names F3 fy CIL CN⟩
  have CTM : Callee P w K mg base 3 "term_text" ["ratio", "thing"] (spTerm K) := ⟨_, _, g _ (by decide +kernel), F16.kp, F16.bindsN (fun _ _ _ _ _ _ us hl => match us, hl with | [_, _], _ => rfl), ok_term F16 fy GRE bRE GRT bRT⟩
  have CNB : Callee P w K mg base 1 "need_balance" ["value", "part"] (spNeed K) := ⟨_, _, g _ (by decide +kernel), F31.kp, F31.bindsN (fun _ _ _ _ _ _ us hl => match us, hl with | [_, _], _ => rfl), ok_need F31 fy⟩
  have CNU : Callee P w K mg base 3 "are_numbers" ["value"] (spNumbers K) := ⟨_, _, g _ (by decide +kernel), F14.kp, F14.bindsN (fun _ _ _ _ _ _ us hl => match us, hl with | [_], _ => rfl), ok_numbers F14 fy CN CQ⟩
  have GBI := ok_binit F17 fy CNU GRO bRO
  have bBI : Binds K v17 ["self", "numbers"] [] := F17.bindsN (fun _ _ _ _ _ _ us hl => match us, hl with | [_, _], _ => rfl)
  have CB : BalC P w K mg base := ⟨_, GBI, bBI⟩
  have GBN := ok_bneg F27 fy CB GRN bRN
  have bBN : Binds K v27 ["self"] [] := F27.bindsN (fun _ _ _ _ _ _ us hl => match us, hl with | [_], _ => rfl)
  have CWN : Callee P w K mg base 2 "are_new_names" ["value"] spNewNames := ⟨_, _, g _ (by decide +kernel), F15.kp, F15.bindsN (fun _ _ _ _ _ _ us hl => match us, hl with | [_], _ => rfl), ok_newnames F15 fy CN⟩
  have GNO := ok_nothing (P := P) (w := w) (base := base) F19 fy
  have bNO : Binds K v19 ["self"] [] := F19.bindsN (fun _ _ _ _ _ _ us hl => match us, hl with | [_], _ => rfl)
  have GBA := ok_badd F25 fy CB CR CNB GRA bRA
  have bBA : Binds K v25 ["self", "other"] [] := F25.bindsN (fun _ _ _ _ _ _ us hl => match us, hl with | [_, _], _ => rfl)
  have GBS := ok_bsub F26 fy CB CR CNB GRS bRS
  have bBS : Binds K v26 ["self", "other"] [] := F26.bindsN (fun _ _ _ _ _ _ us hl => match us, hl with | [_, _], _ => rfl)
  have GBM := ok_bmul F28 fy CB CQ GRM bRM
  have bBM : Binds K v28 ["self", "ratio"] [] := F28.bindsN (fun _ _ _ _ _ _ us hl => match us, hl with | [_, _], _ => rfl)
  have GGA := ok_bgains F21 fy CB GRN bRN
  have bGA : Binds K v21 ["self"] [] := F21.bindsN (fun _ _ _ _ _ _ us hl => match us, hl with | [_], _ => rfl)
  have GLO := ok_blosses F22 fy CB GRN bRN
  have bLO : Binds K v22 ["self"] [] := F22.bindsN (fun _ _ _ _ _ _ us hl => match us, hl with | [_], _ => rfl)
  have GNM := ok_bnum F20 fy CR
  have bNM : Binds K v20 ["self", "thing"] [] := F20.bindsN (fun _ _ _ _ _ _ us hl => match us, hl with | [_, _], _ => rfl)
  have GBE := ok_beq F29 fy GRE bRE
  have bBE : Binds K v29 ["self", "other"] [] := F29.bindsN (fun _ _ _ _ _ _ us hl => match us, hl with | [_, _], _ => rfl)
  have GBT := ok_bstr F30 fy CTM
  have bBT : Binds K v30 ["self"] [] := F30.bindsN (fun _ _ _ _ _ _ us hl => match us, hl with | [_], _ => rfl)
  have GBR := ok_bren F24 fy CB CR CWN GRA bRA
  have bBR : KBn K v24 ["self", "names"] 1 ["names"] (fun us ws => us ++ ws) (fun vs zs => vs ++ zs) := FunD.kbn F24 (n := 1) fun _ _ _ _ _ _ us ws l1 l2 => match us, l1, ws, l2 with | [_], _, [_], _ => rfl
  have GBL := ok_bleast F23 fy CR GBM bBM
  have bBL : Binds K v23 ["self"] [] := F23.bindsN (fun _ _ _ _ _ _ us hl => match us, hl with | [_], _ => rfl)
  have GOF := ok_bof F18 fy CB CNS
  have CME : Callee P w K mg base 8 "mean_of" ["things"] (spMean K) := ⟨_, _, g _ (by decide +kernel), F32.kp, F32.bindsN (fun _ _ _ _ _ _ us hl => match us, hl with | [_], _ => rfl), ok_mean F32 fy CR CNS GOF GBM bBM⟩
  have GME := ok_mean F32 fy CR CNS GOF GBM bBM
  have bME : KBn K v32 ["things"] 0 ["things"] (fun us ws => us ++ ws) (fun vs zs => vs ++ zs) := FunD.kbn F32 (n := 0) fun _ _ _ _ _ _ us ws l1 l2 => match us, l1, ws, l2 with | [], _, [_], _ => rfl
  have CT : Callee P w K mg base 1 "_law_turn" ["_law_reel_here", "_law_many"] spTurn := ⟨_, _, g _ (by decide +kernel), F34.kp, F34.bindsN (fun _ _ _ _ _ _ us hl => match us, hl with | [_, _], _ => rfl), ok_turn F34 fy⟩
  have CP : Callee P w K mg base 2 "_law_pick" ["_law_reel_here", "_law_some"] spPick := ⟨_, _, g _ (by decide +kernel), F35.kp, F35.bindsN (fun _ _ _ _ _ _ us hl => match us, hl with | [_, _], _ => rfl), ok_pick F35 fy CT⟩
  have CRE : Callee P w K mg base 1 "_law_reel" ["_law_script"] (spReel K) := ⟨_, _, g _ (by decide +kernel), F33.kp, F33.bindsN (fun _ _ _ _ _ _ us hl => match us, hl with | [_], _ => rfl), ok_reel F33 fy⟩
  have CSH : Callee P w K mg base 1 "_law_shared" ["_law_one", "_law_other"] spShared := ⟨_, _, g _ (by decide +kernel), F36.kp, F36.bindsN (fun _ _ _ _ _ _ us hl => match us, hl with | [_, _], _ => rfl), ok_shared F36 fy⟩
  have CLW : Callee P w K mg base 2 "_law_low" ["_law_top", "_law_bottom"] spLow := ⟨_, _, g _ (by decide +kernel), F37.kp, F37.bindsN (fun _ _ _ _ _ _ us hl => match us, hl with | [_, _], _ => rfl), ok_low F37 fy CSH⟩
  have CPL : Callee P w K mg base 3 "_law_plus" ["_law_one", "_law_other"] (spPBin (· + ·)) := ⟨_, _, g _ (by decide +kernel), F38.kp, F38.bindsN (fun _ _ _ _ _ _ us hl => match us, hl with | [_, _], _ => rfl), ok_lplus F38 fy CLW⟩
  have CBY : Callee P w K mg base 3 "_law_by" ["_law_one", "_law_other"] (spPBin (· * ·)) := ⟨_, _, g _ (by decide +kernel), F39.kp, F39.bindsN (fun _ _ _ _ _ _ us hl => match us, hl with | [_, _], _ => rfl), ok_lby F39 fy CLW⟩
  have CTX : Callee P w K mg base 1 "_law_text" ["_law_pair"] spText2 := ⟨_, _, g _ (by decide +kernel), F42.kp, F42.bindsN (fun _ _ _ _ _ _ us hl => match us, hl with | [_], _ => rfl), ok_ltext F42 fy⟩
  have CNR : Callee P w K mg base 3 "_law_number" ["_law_reel_here"] spNumber := ⟨_, _, g _ (by decide +kernel), F40.kp, F40.bindsN (fun _ _ _ _ _ _ us hl => match us, hl with | [_], _ => rfl), ok_number F40 fy CT CLW⟩
  have CTH : Callee P w K mg base 3 "_law_things" ["_law_reel_here", "_law_many"] spThings := ⟨_, _, g _ (by decide +kernel), F41.kp, F41.bindsN (fun _ _ _ _ _ _ us hl => match us, hl with | [_, _], _ => rfl), ok_things F41 fy CT CP⟩
  have CNM : Callee P w K mg base 1 "_law_named" ["_law_plain"] spNamed := ⟨_, _, g _ (by decide +kernel), F43.kp, F43.bindsN (fun _ _ _ _ _ _ us hl => match us, hl with | [_], _ => rfl), ok_named F43 fy⟩
  have CTO : Callee P w K mg base 2 "_law_told" ["_law_plain"] spTold := ⟨_, _, g _ (by decide +kernel), F44.kp, F44.bindsN (fun _ _ _ _ _ _ us hl => match us, hl with | [_], _ => rfl), ok_told F44 fy CNM CTX⟩
  have CRT : Callee P w K mg base 4 "_law_ratio" ["_law_reel_here", "_law_pair"] (spRatio2 K) := ⟨_, _, g _ (by decide +kernel), F45.kp, F45.bindsN (fun _ _ _ _ _ _ us hl => match us, hl with | [_, _], _ => rfl), ok_ratio F45 fy CR CT CP⟩
  have CMA : Callee P w K mg base 7 "_law_made" ["_law_reel_here", "_law_plain"] (spMade K) := ⟨_, _, g _ (by decide +kernel), F47.kp, F47.bindsN (fun _ _ _ _ _ _ us hl => match us, hl with | [_, _], _ => rfl), ok_made F47 fy CB CRT⟩
  have CIA : Callee P w K mg base 7 "_law_is_as" ["_law_balance", "_law_plain"] (spIsAs K) := ⟨_, _, g _ (by decide +kernel), F46.kp, F46.bindsN (fun _ _ _ _ _ _ us hl => match us, hl with | [_, _], _ => rfl), ok_isas F46 fy CNM CTO GNO bNO GNM bNM GBT bBT⟩
  have CSU : Callee P w K mg base 4 "_law_sum" ["_law_one", "_law_other", "_law_times"] spLSum := ⟨_, _, g _ (by decide +kernel), F48.kp, F48.bindsN (fun _ _ _ _ _ _ us hl => match us, hl with | [_, _, _], _ => rfl), ok_lsum F48 fy CPL CBY⟩
  have CRN : Callee P w K mg base 4 "_law_renamed" ["_law_plain", "_law_names_here"] spLRen := ⟨_, _, g _ (by decide +kernel), F51.kp, F51.bindsN (fun _ _ _ _ _ _ us hl => match us, hl with | [_, _], _ => rfl), ok_lren F51 fy CPL⟩
  have CLE : Callee P w K mg base 2 "_law_least" ["_law_plain"] spLLeast := ⟨_, _, g _ (by decide +kernel), F49.kp, F49.bindsN (fun _ _ _ _ _ _ us hl => match us, hl with | [_], _ => rfl), ok_lleast F49 fy CNM CSH⟩
  have CNA : Callee P w K mg base 3 "_law_names" ["_law_reel_here", "_law_things_here"] spNames2 := ⟨_, _, g _ (by decide +kernel), F52.kp, F52.bindsN (fun _ _ _ _ _ _ us hl => match us, hl with | [_, _], _ => rfl), ok_names2 F52 fy CT CP⟩
  have CLR : Callee P w K mg base 9 "_law_least_right" ["_law_reel_here", "_law_balance", "_law_plain"] (spLR K) := ⟨_, _, g _ (by decide +kernel), F50.kp, F50.bindsN (fun _ _ _ _ _ _ us hl => match us, hl with | [_, _, _], _ => rfl), ok_lr F50 fy CR CT CLE CIA GBL bBL GBM bBM GRN bRN GBN bBN GBS bBS GBE bBE GGA bGA GLO bLO⟩
  exact ok_law F53 fy CRE CT CP CLW CNR CTH CRT CIA CMA CSU CLR CRN CNA CME (g "mean_of" (by decide +kernel)) F32.kp GME bME GBR bBR GBA bBA GBS bBS GBM bBM GBN bBN GBE bBE GNO bNO
end K5
open PySem PySem.W PySem.Calls PyProof.Rows
theorem PySem.Challenge.cw_scaleborn_k05_balances_added_and_brought_holds : PySem.Challenge.rw_scaleborn_k05_balances_added_and_brought.Holds := by
  w_on; o_law
  refine HandSHeadRun.head_imp (r := K5.R) (q := view K5.R.prog [0, 58]) (H := K5.hk) (ob := K5.ob) (M := 100000) (loose := K5.looseI) (d := HandSHeadRun.topDef K5.R.prog 58) (kwd := []) K5.ob_eq K5.run
    (by kernel_rfl) (by kernel_rfl) (by kernel_rfl) (by rfl) (by first | assumption | decide +kernel) (by decide +kernel) ⟨rfl, rfl, rfl, rfl, rfl, by decide +kernel⟩ ?hw ?hc
  case hw => w_witness2
  case hc =>
    refine L2.walk_ofE (l := PySem.Challenge.rw_scaleborn_k05_balances_added_and_brought) (n := 63) (k := 10) (x := "_law_script") (CX := L2.CX0) ?hn (by decide) (by kernel_rfl) ⟨rfl, by decide, by decide⟩ ?F (fun _ _ _ _ z => z)
    case hn => rfl
    case F =>
      intro w mg fa h Y G hmg0
      obtain ⟨K, kin, c⟩ := Y
      have hmg : mg ("law" : PySem.Str) = some (.ref fa) := by
        have e : (HandSHeadRun.topDef K5.R.prog 58).name = ("law" : PySem.Str) := by kernel_rfl
        rw [← e]
        exact hmg0
      obtain ⟨fd, hb, hF⟩ := K5.facts (P := (PySem.Challenge.rw_scaleborn_k05_balances_added_and_brought).prog) (w := w) kin G hmg c
      exact ⟨K, fd, K5.spLaw K, kin, hb, fun H a ns hl hO hS => ⟨a, ns, rfl, hS, fun _ => rfl⟩, hF⟩
