import PyProof.Rows.All
import Wide.All
import OpenK.AllK
import Wide.FinOn
import HandS.ForMost
import HandS.More
import HandS.Defaults
import HandS.Lambda
import HandS.MakeKw
import HandS.EndTab
import PyProof.ReprRoads
import HandS.Codes
import PySem.Challenge.RW_webrooms_k82_classes_made_by_hand
import HandS.IsInst
import HandS.NoneIn
import HandS.MakeKwOnly
import HandS.Comp
import HandS.TupLe
import Lean
import KE.KStateDown
import HandS.Ends
import HandS.Head0
import HandS.Head1
import HandS.Head2
import HandS.HeadEnd
import HandS.HeadHook1
import HandS.HeadHook2
set_option Elab.async false
set_option linter.all false
set_option maxRecDepth 100000
set_option maxHeartbeats 4000000
namespace Idn
open PySem PySem.Spec PyProof.Rows PySem.SeqAt L2
section
variable {prog : Program} {w : World} {A : Around} {E : Value → Shared → Prop} {s : Shared} {K : PySem.W.Frag} {x y C D : Addr} {ox oy : Obj} {od od2 : Option Obj}

theorem objEq_same {Q : Value → Shared → Prop} (X : K.In s.heap) (I : PySem.W.InstAt s.heap x ox C od) (hm : PySem.W.mroIn K C (.type "object") = some true) (hq : Q (.bool true) s) :
    wpAny (model prog w) A (call (.builtin "object.__eq__") [.ref x, .ref x]) Q E s :=
  wpAny_call (codeAny_call_builtin F.cmp_object.eq.plain F.cmpEntry_eq (PySem.W.check_slot F.cmpKind_eq F.cmpSplit_eq (I.type.andThen (PySem.W.looks_mroIn X hm)) (F.cmpArgs_eq _ _) (objEq_entry_same hq)))
theorem objEq_other {Q : Value → Shared → Prop} (X : K.In s.heap) (I : PySem.W.InstAt s.heap x ox C od) (J : PySem.W.InstAt s.heap y oy D od2) (hxy : x ≠ y) (hm : PySem.W.mroIn K C (.type "object") = some true) (hq : Q .notImplemented s) :
    wpAny (model prog w) A (call (.builtin "object.__eq__") [.ref x, .ref y]) Q E s :=
  wpAny_call (codeAny_call_builtin F.cmp_object.eq.plain F.cmpEntry_eq (PySem.W.check_slot F.cmpKind_eq F.cmpSplit_eq (I.type.andThen (PySem.W.looks_mroIn X hm)) (F.cmpArgs_eq _ _)
    (objEq_entry_other hxy I.at_ J.at_ (by rw [I.cls]; exact fun e => nomatch e) hq)))
/-- what the text says of a class whose instances are compared by identity -/
structure Eqo (K : PySem.W.Frag) (C : Addr) : Prop where
  mro : PySem.W.mroIn K C (.type "object") = some true
  eq : PySem.W.findIn K (.ref C) "__eq__" = some (some (.builtin "object.__eq__"))
  ne : PySem.W.findIn K (.ref C) "__ne__" = some (some (.builtin "object.__ne__"))
theorem ifBound {name : Str} {id : String} {args : List Value} {Q : Option Value → Shared → Prop} (S : Slot "object" name id) (X : K.In s.heap) (I : PySem.W.InstAt s.heap x ox C od) (hs : PySem.W.findIn K (.ref C) name = some (some (.builtin id)))
    (h : wpAny (model prog w) A (call (.builtin id) (.ref x :: args)) (fun v => Q (some v)) E s) : wpAny (model prog w) A (callSpecialIfBound? (.ref x) name args) Q E s := by
  simp only [callSpecialIfBound?, bindSpecialIfBound?]
  refine wpAny_holding (wpAny_bind (wpAny_bind (wpAny_bind (I.type.here ((PySem.W.looks_findIn X hs).here ?_)))))
  refine wpAny_bind (wpAny_askSetting (wpAny_ite ?_))
  have fin : wpAny (model prog w) A (call (.builtin id) ([.ref x] ++ args) >>= fun v => pure (some v)) Q E s := wpAny_bind (wpAny_mono h (fun v s' h' => wpAny_pure h') fun _ _ h' => h')
  split
  · exact wpAny_bind (wpAny_of_eq (S.bind _) (wpAny_pure (by exact fin)))
  · exact wpAny_tryCatch (wpAny_bind (wpAny_of_eq (S.bind _) (wpAny_pure (by exact fin))))
theorem spEq_same {Q : Option Value → Shared → Prop} (X : K.In s.heap) (I : PySem.W.InstAt s.heap x ox C od) (e : Eqo K C) (hq : Q (some (.bool true)) s) :
    wpAny (model prog w) A (callSpecialIfBound? (.ref x) "__eq__" [.ref x]) Q E s := ifBound F.cmp_object.eq X I e.eq (objEq_same X I e.mro hq)
theorem spEq_other {Q : Option Value → Shared → Prop} (X : K.In s.heap) (I : PySem.W.InstAt s.heap x ox C od) (J : PySem.W.InstAt s.heap y oy D od2) (hxy : x ≠ y) (e : Eqo K C) (hq : Q (some .notImplemented) s) :
    wpAny (model prog w) A (callSpecialIfBound? (.ref x) "__eq__" [.ref y]) Q E s := ifBound F.cmp_object.eq X I e.eq (objEq_other X I J hxy e.mro hq)
theorem entryNe_other {Q : Fin → Shared → Prop} (X : K.In s.heap) (I : PySem.W.InstAt s.heap x ox C od) (J : PySem.W.InstAt s.heap y oy D od2) (hxy : x ≠ y) (e : Eqo K C) (hu : A.units < cLine) (hq : Q (.done (.ret .notImplemented)) s) :
    wpAny (model prog w) A (Builtin.«object.__ne__» ⟨[.ref x, .ref y], []⟩) Q E s := by
  unfold Builtin.«object.__ne__»
  repeat (first | with_reducible refine wpAny_cRoomFor hu ?_ | with_reducible refine spEq_other X I J hxy e ?_ | wp_step)
  exact hq
theorem spNe_other {Q : Option Value → Shared → Prop} (X : K.In s.heap) (I : PySem.W.InstAt s.heap x ox C od) (J : PySem.W.InstAt s.heap y oy D od2) (hxy : x ≠ y) (e : Eqo K C) (hu : A.units + 1 < cLine) (hq : Q (some .notImplemented) s) :
    wpAny (model prog w) A (callSpecialIfBound? (.ref x) "__ne__" [.ref y]) Q E s :=
  ifBound F.cmp_object.ne X I e.ne (wpAny_call (codeAny_call_builtin F.cmp_object.ne.plain F.cmpEntry_ne (PySem.W.check_slot F.cmpKind_ne F.cmpSplit_ne (I.type.andThen (PySem.W.looks_mroIn X e.mro)) (F.cmpArgs_ne _ _)
    (entryNe_other (A := A.in1) X I J hxy e hu hq))))
/-- a class that is another's, or of which it isn't -/
def SubNo (K : PySem.W.Frag) (C D : Addr) : Prop := C = D ∨ PySem.W.subIn K (.ref D) (.ref C) = some false
theorem rc_same (hu : A.units < cLine) (X : K.In s.heap) (I : PySem.W.InstAt s.heap x ox C od) (e : Eqo K C) {Q : Value → Shared → Prop} (hq : Q (.bool true) s) : wpAny (model prog w) A (richCompare .Eq (.ref x) (.ref x)) Q E s := by
  simp only [richCompare, cmpInfo_Eq, oneThing_ref]
  refine wpAny_holding (wpAny_bind (wpAny_cRoomFor hu ?_))
  refine wpAny_bind (I.type.here ?_)
  refine wpAny_bind (I.type.here ?_)
  rw [if_neg (by simp)]
  refine wpAny_bind (wpAny_pure ?_)
  unfold tryCompare
  repeat (first | with_reducible refine spEq_same X I e ?_ | wp_step)
  exact hq
theorem rc_other (hu : A.units < cLine) (X : K.In s.heap) (I : PySem.W.InstAt s.heap x ox C od) (J : PySem.W.InstAt s.heap y oy D od2) (hxy : x ≠ y) (e : Eqo K C) (e2 : Eqo K D) (sn : SubNo K C D) {Q : Value → Shared → Prop} (hq : Q (.bool false) s) :
    wpAny (model prog w) A (richCompare .Eq (.ref x) (.ref y)) Q E s := by
  have nt : ox.cls ≠ .type "tuple" := by rw [I.cls]; exact fun e => nomatch e
  simp only [richCompare, cmpInfo_Eq, oneThing_ref]
  refine wpAny_holding (wpAny_bind (wpAny_cRoomFor hu ?_))
  refine wpAny_bind (I.type.here ?_)
  refine wpAny_bind (J.type.here ?_)
  have go : ∀ {α : Type} {k : Bool → Sem α} {R : α → Shared → Prop}, wpAny (model prog w) A (k false) R E s → wpAny (model prog w) A (if Value.ref C != Value.ref D then isSubtype (.ref D) (.ref C) >>= k else pure false >>= k) R E s := by
    intro α k R h
    rcases sn with rfl | sn
    · rw [if_neg (by simp)]
      exact wpAny_bind (wpAny_pure h)
    · split
      · exact wpAny_bind ((PySem.W.looks_subIn X sn).here h)
      · exact wpAny_bind (wpAny_pure h)
  refine go ?_
  unfold tryCompare
  repeat (first | with_reducible refine spEq_other X I J hxy e ?_ | with_reducible refine spEq_other X J I hxy.symm e2 ?_ | with_reducible refine wpAny_isSame_ref_other hxy I.at_ J.at_ nt ?_ | wp_step)
  exact hq
theorem rcNe_other (hu : A.units + 1 < cLine) (X : K.In s.heap) (I : PySem.W.InstAt s.heap x ox C od) (J : PySem.W.InstAt s.heap y oy D od2) (hxy : x ≠ y) (e : Eqo K C) (e2 : Eqo K D) (sn : SubNo K C D) {Q : Value → Shared → Prop} (hq : Q (.bool true) s) :
    wpAny (model prog w) A (richCompare .NotEq (.ref x) (.ref y)) Q E s := by
  have nt : ox.cls ≠ .type "tuple" := by rw [I.cls]; exact fun e => nomatch e
  simp only [richCompare, cmpInfo_NotEq, oneThing_ref]
  refine wpAny_holding (wpAny_bind (wpAny_cRoomFor (Nat.lt_of_succ_lt hu) ?_))
  refine wpAny_bind (I.type.here ?_)
  refine wpAny_bind (J.type.here ?_)
  have go : ∀ {α : Type} {k : Bool → Sem α} {R : α → Shared → Prop}, wpAny (model prog w) A (k false) R E s → wpAny (model prog w) A (if Value.ref C != Value.ref D then isSubtype (.ref D) (.ref C) >>= k else pure false >>= k) R E s := by
    intro α k R h
    rcases sn with rfl | sn
    · rw [if_neg (by simp)]
      exact wpAny_bind (wpAny_pure h)
    · split
      · exact wpAny_bind ((PySem.W.looks_subIn X sn).here h)
      · exact wpAny_bind (wpAny_pure h)
  refine go ?_
  unfold tryCompare
  repeat (first | with_reducible refine spNe_other X I J hxy e hu ?_ | with_reducible refine spNe_other X J I hxy.symm e2 hu ?_ | with_reducible refine wpAny_isSame_ref_other hxy I.at_ J.at_ nt ?_ | wp_step)
  exact hq
end
/-- == of two instances that have no __eq__ of their own -/
def rEqI (K : PySem.W.Frag) : R2 := fun x y H Q => ∃ a b C D dx dy fs gs, x = .ref a ∧ y = .ref b ∧ H a = some (.ins C dx fs) ∧ H b = some (.ins D dy gs) ∧ Eqo K C ∧ Eqo K D ∧ SubNo K C D ∧ Q (.bl (decide (a = b))) H
/-- != of two unlike instances -/
def rNeI (K : PySem.W.Frag) : R2 := fun x y H Q => ∃ a b C D dx dy fs gs, x = .ref a ∧ y = .ref b ∧ H a = some (.ins C dx fs) ∧ H b = some (.ins D dy gs) ∧ Eqo K C ∧ Eqo K D ∧ SubNo K C D ∧ a ≠ b ∧ Q (.bl true) H
section
variable {X : Cx}
theorem op_eqI (hu : X.A.units + 1 < cLine) : OpR X (compareOp .Eq) (rEqI X.K) := by
  intro pins s σ H x y v u Q I rx ry h
  obtain ⟨a, b, C, D, dx, dy, fs, gs, rfl, rfl, ha, hb, e, e2, sn, q⟩ := h
  cases (show v = Value.ref a from rx)
  cases (show u = Value.ref b from ry)
  obtain ⟨mA, O, _⟩ := ins_get I.hok ha
  obtain ⟨od, J, _⟩ := O.look
  obtain ⟨mB, O2, _⟩ := ins_get I.hok hb
  obtain ⟨od2, J2, _⟩ := O2.look
  by_cases hab : a = b
  · subst hab
    rw [decide_eq_true rfl] at q
    exact rc_same (by omega) I.kIn J e ⟨.bl true, H, I, rfl, q⟩
  · rw [decide_eq_false hab] at q
    exact rc_other (by omega) I.kIn J J2 hab e e2 sn ⟨.bl false, H, I, rfl, q⟩
theorem op_neI (hu : X.A.units + 1 < cLine) : OpR X (compareOp .NotEq) (rNeI X.K) := by
  intro pins s σ H x y v u Q I rx ry h
  obtain ⟨a, b, C, D, dx, dy, fs, gs, rfl, rfl, ha, hb, e, e2, sn, hab, q⟩ := h
  cases (show v = Value.ref a from rx)
  cases (show u = Value.ref b from ry)
  obtain ⟨mA, O, _⟩ := ins_get I.hok ha
  obtain ⟨od, J, _⟩ := O.look
  obtain ⟨mB, O2, _⟩ := ins_get I.hok hb
  obtain ⟨od2, J2, _⟩ := O2.look
  exact rcNe_other hu I.kIn J J2 hab e e2 sn ⟨.bl true, H, I, rfl, q⟩
end
end Idn
namespace Gd
open PySem PySem.Spec PyProof.Rows L2
/-! a def's promise where no repr is under way -/
/-- as FnOk, told of a caller with no guard -/
structure FnG (P : Program) (w : World) (K : PySem.W.Frag) (mg : Str → Option Value) (base : Heap) (CX : CXT) (k : Nat) (f : Addr) (fd : FuncData) (ps : List Str) (sp : Sp) : Prop where
  len : ∀ vs H Q E, sp vs H Q E → vs.length = ps.length
  run : ∀ (A : Around) (outer : List Env) (s : Shared) (H : Hp) (args : Args) (us : List Value) (vs : List V) (Q : VK) (E : XK), Room k A → A.guards = some [] → Env0 P w K mg base A outer s H → BindsTo s fd args (ps.zip us) → Vals vs us → sp vs H Q E →
    codeAny (model P w) A (.call (.ref f) args) (CR CX outer P w H s Q E) s
section
variable {P : Program} {w : World} {K : PySem.W.Frag} {mg : Str → Option Value} {base : Heap} {CX : CXT} {k j : Nat} {f : Addr} {fd : FuncData} {ps N : List Str} {sp sp' : Sp} {x qual : Str} {params : Arguments} {body : List Stmt} {scope : Scope} {dvs : List V} {kws : List (Str × V)}
theorem FnG.of (F : FnOk P w K mg base CX k f fd ps sp) : FnG P w K mg base CX k f fd ps sp := ⟨F.len, fun A o s H a us vs Q E hr _ => F.run A o s H a us vs Q E hr⟩
theorem FnG.mono (F : FnG P w K mg base CX j f fd ps sp) (h : j ≤ k) : FnG P w K mg base CX k f fd ps sp := ⟨F.len, fun A o s H a us vs Q E hr => F.run A o s H a us vs Q E (hr.mono h)⟩
theorem FnG.imp (F : FnG P w K mg base CX k f fd ps sp) (h : ∀ vs H Q E, sp' vs H Q E → sp vs H Q E) : FnG P w K mg base CX k f fd ps sp' :=
  ⟨fun vs H Q E q => F.len vs H Q E (h _ _ _ _ q), fun A o s H a us vs Q E hr hg he hb hv hs => F.run A o s H a us vs Q E hr hg he hb hv (h _ _ _ _ hs)⟩
/-- by the body -/
theorem fnG_of (F : FunD K x qual params body scope dvs kws f fd) (S : FnScope N ps scope) (len : ∀ vs H Q E, sp vs H Q E → vs.length = ps.length)
    (hbody : ∀ (cdv : Value) (A : Around) (outer : List Env) (s : Shared) (H : Hp) (vs : List V) (Q : VK) (E : XK), Room k (A.deeper (envOfC qual scope s.heap.objs.size f cdv)) → A.guards = some [] → sp vs H Q E →
      ∃ t, PSs (cxOf CX P w K mg base N qual scope f cdv A outer s H E) body t ∧ t { nx := fun _ H' => Q .non H', rt := Q } (start N vs) H) : FnG P w K mg base CX (k + 1) f fd ps sp := by
  obtain ⟨oc, od, dV, kV, doc, pm, an, cdv, ct, osl, rfl, lk, hcd, _, _⟩ := F.ex
  exact ⟨len, fun A outer s H args us vs Q E hr hg e0 hb hv hs => LamX.run_ofS lk hcd S hr e0 hb hv (len _ _ _ _ hs) fun hr' => hbody cdv A outer s H vs Q E hr' hg hs⟩
end
section
variable {X : Cx} {CX : CXT} {k n : Nat} {f C : Addr} {fd : FuncData} {ps ks : List Str} {sp : Sp} {dvs : List V} {ds : List Value} {E : XK} {x : Str} {p pos : Pos} {e : Expr} {es : List Expr} {t : TA}
theorem run_fnG {pins : List (Addr × Obj)} {σ : L2.St} {H : Hp} {s : Shared} {Q : VK} {us : List Value} {vs : List V} (F : FnG X.prog X.w X.K X.mg X.base CX k f fd ps sp) (hr : Room k X.A) (hG : X.A.guards = some []) (hb : Binds X.K fd ps ds) (hd : Vals dvs ds) (hx : Passes CX X E)
    (I : Inv X pins σ H s) (r : Vals vs us) (h : sp (vs ++ dvs) H Q E) : wpAny (model X.prog X.w) X.A (call (.ref f) us) (EP X pins σ Q) X.xe s := by
  have r2 : Vals (vs ++ dvs) (us ++ ds) := r.append hd
  have hl : (us ++ ds).length = ps.length := r2.length.symm.trans (F.len _ _ _ _ h)
  refine wpAny_call (codeAny_mono (F.run X.A X.stack s H ⟨us, []⟩ (us ++ ds) (vs ++ dvs) Q E hr hG I.env0 (hb s us I.kIn hl) r2 h) fun r s' hq => ?_)
  match r, hq with
  | .error e, hq => exact hx pins σ H s e s' I hq
  | .ok (.ret u), hq => exact I.after hq
theorem pe_callG (F : FnG X.prog X.w X.K X.mg X.base CX k f fd ps sp) (hr : Room k X.A) (hG : X.A.guards = some []) (hg : Gl X x) (hm : X.mg x = some (.ref f)) (hk : PySem.W.keepIn X.K (.ref f) = true) (hb : Binds X.K fd ps ds) (hd : Vals dvs ds) (hx : Passes CX X E)
    (ha : PA X (e :: es) t) (hdb : (x == ("__debug__" : Str)) = false := by decide) (he : starEach (e :: es) X.env = (false, eval e X.env) :: starEach es X.env := by rfl) (hpl : (backTo pos (starEach es X.env)).any (·.1) = false := by rfl) :
    PE X (.Call (.Name x p) (e :: es) [] pos) (tCall sp dvs E t) := by
  refine ⟨fun pins s σ H Q I h => wpAny_Call_Name_kw (ld_glob I hg hm ?_ hdb)⟩
  exact PySem.W.callWith_K (h₀ := X.base) I.ok.mod.kin hk (thn (ha.run pos pins s σ H _ I h) fun us s1 ⟨vs, H1, I1, r, q⟩ => ⟨I1.kIn, run_fnG F hr hG hb hd hx I1 r q⟩) he hpl
end
/-! the law's call -/
theorem law_callG {P : Program} {w : World} {K : PySem.W.Frag} {mg mb : Str → Option Value} {CX : CXT} {k : Nat} {fa a : Addr} {fd : FuncData} {x : Str} {sp : Sp} {s₁ : Shared} {vs : List Value} {ns : List Int}
    (KX : K.In s₁.heap) (hns : s₁.heap.Ns mainGlobals mg) (hb : s₁.heap.Ns builtinsNs mb) (hbb : ∀ x : Str, x ≠ "__name__" → mb x = bootBuiltins x) (hlim : s₁.heap.NoLimit) (hg : s₁.gens = #[])
    (ha : s₁.heap.get? a = some { cls := .type "list", data := .seq vs.toArray }) (hi : IntsAre vs ns) (hl : ns.length ≤ sizeLine) (hr : Room k callerA)
    (F : ∀ base : Heap, K.In base → base.Ns mainGlobals mg → FnG P w K mg base CX k fa fd [x] sp) (hbind : ∀ (s : Shared) (u : Value), BindsTo s fd ⟨[u], []⟩ [(x, u)])
    (hsp : ∀ H : Hp, Only H → SqL K H a (ns.map V.int) → sp [.ref a] H (fun v _ => v = .bl true) fun _ _ _ => False)
    (hCX : ∀ H e s', CX [] H s₁ (fun _ _ _ => False) e s' → False) :
    codeAny (model P w) callerA (.call (.ref fa) ⟨[.ref a], []⟩) (fun r s' => r = .ok (.ret (.bool true)) ∧ OldK s₁.heap s'.heap ∧ s'.os = s₁.os ∧ AllBare s'.gens) s₁ := by
  have rv := vals_ints hi
  have sz : (ns.map V.int).length ≤ sizeLine := by rw [List.length_map]; exact hl
  -- where the script stands
  obtain ⟨H, hO, hS, hok, hA, hK⟩ : ∃ H : Hp, Only H ∧ SqL K H a (ns.map V.int) ∧ HOk P w H s₁.heap ∧ (∀ b, H b ≠ none → b = a) ∧ (H a ≠ none → K.lookup a = none) := by
    cases hk : K.lookup a with
    | some o =>
      have e := KX a o hk
      rw [ha] at e
      cases e
      exact ⟨fun _ => none, fun _ => .inl rfl, (.inr ⟨_, vs.toArray, _, hk, rfl, rfl, rfl, by rw [List.size_toArray, hi.length]; exact hl, by simpa using rv⟩ : SqL K (fun _ => none) a (ns.map V.int)), (fun b u z => nomatch (show (none : Option HO) = some u from z)), fun b z => absurd rfl z, fun z => absurd rfl z⟩
    | none =>
      refine ⟨fun b => if b = a then some (.frz { cls := .type "list", data := .seq vs.toArray } (.lst (ns.map V.int))) else none, fun b => ?_, .inl (.inr ⟨_, if_pos rfl⟩), fun b u z => ?_, fun b z => ?_, fun _ => rfl⟩
      · by_cases hb : b = a
        · exact .inr ⟨_, _, if_pos hb⟩
        · exact .inl (if_neg hb)
      · by_cases hb : b = a
        · have z' := (if_pos hb).symm.trans z
          cases z'
          subst hb
          exact ⟨ha, sz, vs, _, rv, ha⟩
        · have z' := (if_neg hb).symm.trans z
          cases z'
      · by_cases hb : b = a
        · exact hb
        · exact absurd (if_neg hb) z
  have only : ∀ {b : Addr}, H b ≠ none → s₁.heap.get? b = some { cls := .type "list", data := .seq vs.toArray } ∧ K.lookup b = none := fun {b} q => by
    have e := hA b q
    subst e
    exact ⟨ha, hK q⟩
  have noD : ∀ {b : Addr} {o : Obj} {es : Array DictEntry} {ep : Nat}, s₁.heap.get? b = some o → o.data = .dict es ep → H b = none := fun {b o es ep} e d => by
    cases q : H b with
    | none => rfl
    | some u =>
      have e2 := (only (b := b) (by rw [q]; exact fun z => nomatch z)).1
      rw [e] at e2
      cases e2
      cases d
  have nsK : ∀ {b : Addr} {m : Str → Option Value}, s₁.heap.Ns b m → (hidT s₁.heap H).Ns b m := fun {b m} ⟨o, es, ep, e, d, r⟩ => ⟨o, es, ep, hidT_get e (noD e d), d, r⟩
  have hKb : K.In (hidT s₁.heap H) := fun b o e => hidT_get (KX b o e) (by
    cases q : H b with
    | none => rfl
    | some u =>
      have e2 := (only (b := b) (by rw [q]; exact fun z => nomatch z)).2
      rw [e] at e2
      cases e2)
  have hM : Mod K mg (hidT s₁.heap H) := ⟨hKb, nsK hns, ⟨mb, nsK hb, hbb⟩, let ⟨mc, h1, h2⟩ := hlim; ⟨mc, nsK h1, h2⟩⟩
  have nil : ∀ b : Addr, b ∉ frs ([] : List Env) := fun b z => absurd (show b ∈ ([] : List Addr) from z) (by simp)
  have e0 : Env0 P w K mg (hidT s₁.heap H) callerA [] s₁ H := ⟨rfl, hM, fun b o e => of_hidT e, Nat.le_of_eq (hidT_size _ _), trivial, fun b hb => absurd hb (nil b), hok, .of_eq hg⟩
  refine codeAny_mono ((F _ hKb (nsK hns)).run callerA [] s₁ H ⟨[.ref a], []⟩ [.ref a] [.ref a] _ _ hr rfl e0 (hbind s₁ (.ref a)) (.cons rfl .nil) (hsp H hO hS)) fun r s' h => ?_
  match r, h with
  | .error e, h => exact (hCX H e s' h).elim
  | .ok (.ret u), ⟨v, H', os, bare, un, hok', r', q⟩ =>
    have q' : v = .bl true := q
    subst q'
    obtain rfl : u = Value.bool true := r'
    refine ⟨rfl, OldK.of_keep fun b o e => ?_, os, bare⟩
    cases q : H b with
    | none => exact un.keep b o e q (nil b) (by simp)
    | some u =>
      rcases hO b with z | ⟨ob, xs, z⟩
      · rw [q] at z; cases z
      · obtain ⟨e1, _⟩ := hok b _ z
        obtain ⟨e2, _⟩ := hok' b _ (un.frzs b ob _ z)
        rw [e] at e1; cases e1
        exact e2
/-- the end of a law's row: F gives the written part, the def's object, its promise -/
theorem walk_ofG {l : PySem.W.OpenLaw} {n k : Nat} {q : Program} {loose : List Str} {XP : (Str → Option Value) → Heap → Prop} {YP : World → Heap → Prop} {d : DefRec} {CX : CXT} {x : Str}
    (hn : l.most = some n) (hn2 : n ≤ sizeLine) (hdf : d.params.defaults = []) (hr : Room k callerA)
    (F : ∀ (w : World) (mg : Str → Option Value) (fa : Addr) (h : Heap), YP w h → h.Ns mainGlobals mg → mg d.name = some (.ref fa) →
      ∃ (K : PySem.W.Frag) (fd : FuncData) (sp : Sp), K.In h ∧ (∀ (s : Shared) (u : Value), BindsTo s fd ⟨[u], []⟩ [(x, u)]) ∧
        (∀ (H : Hp) (a : Addr) (ns : List Int), ns.length ≤ n → Only H → SqL K H a (ns.map V.int) → sp [.ref a] H (fun v _ => v = .bl true) fun _ _ _ => False) ∧
        ∀ base : Heap, K.In base → base.Ns mainGlobals mg → FnG l.prog w K mg base CX k fa fd [x] sp)
    (hCX : ∀ (H : Hp) (s : Shared) (e : Value) (s' : Shared), CX [] H s (fun _ _ _ => False) e s' → False) :
    PySem.W.WalkO q loose XP YP l.row.toRowW d [] (fun f vs => PySem.call f vs) := by
  refine Att.attach_call hn hdf fun w s₀ s₁ mg mb fa o pm cd doc a vs ns G Y ho hd hcd hmg hobj hints hlen hg => ?_
  obtain ⟨K, fd, sp, KX, hb, hsp, hF⟩ := F w mg fa _ Y G.T.g hmg
  exact law_callG KX G.T.g G.T.b G.T.builtins G.T.nolimit hg hobj hints (Nat.le_trans hlen hn2) hr hF hb (fun H hO hS => hsp H a ns hlen hO hS) fun H e s' => hCX H s₁ e s'
end Gd
namespace Dt
open PySem PySem.Spec PyProof.Rows L2
abbrev Ex (H H' : Hp) : Prop := ∀ b o, H b = some o → H' b = some o
theorem Ex.new {H : Hp} {p : Addr} {o : HO} (h : H p = none) : Ex H (upd H p o) := fun b u e => (upd_ne (ne_of_none e h)).trans e
theorem Ex.tr {H H1 H2 : Hp} (a : Ex H H1) (b : Ex H1 H2) : Ex H H2 := fun x o h => b x o (a x o h)
/-! data of any depth, dicts of data too -/
def kD : Key → PyData
  | .inl i => .int i
  | .inr x => .str x
mutual
inductive Vd (H : Hp) : V → PyData → Prop
  | non : Vd H .non .none
  | bl (b : Bool) : Vd H (.bl b) (.bool b)
  | int (i : Int) : Vd H (.int i) (.int i)
  | str (x : Str) : Vd H (.str x) (.str x)
  | lst {a : Addr} {xs : List V} {ds : List PyData} : H a = some (.lst xs) → Vds H xs ds → Vd H (.ref a) (.list ds)
  | tup {a : Addr} {xs : List V} {ds : List PyData} : H a = some (.tup xs) → Vds H xs ds → Vd H (.ref a) (.tuple ds)
  | dct {a : Addr} {ks : List Key} {xs : List V} {ds : List PyData} : H a = some (.dK (ks.zip xs)) → ks.length = xs.length → Vds H xs ds → Vd H (.ref a) (.dict ((ks.map kD).zip ds))
inductive Vds (H : Hp) : List V → List PyData → Prop
  | nil : Vds H [] []
  | cons {v : V} {vs : List V} {d : PyData} {ds : List PyData} : Vd H v d → Vds H vs ds → Vds H (v :: vs) (d :: ds)
end
mutual
theorem Vd.mono {H H' : Hp} (e : Ex H H') : ∀ {d : PyData} {v : V}, Vd H v d → Vd H' v d
  | _, _, .non => .non
  | _, _, .bl b => .bl b
  | _, _, .int i => .int i
  | _, _, .str x => .str x
  | _, _, .lst h t => .lst (e _ _ h) (Vds.mono e t)
  | _, _, .tup h t => .tup (e _ _ h) (Vds.mono e t)
  | _, _, .dct h l t => .dct (e _ _ h) l (Vds.mono e t)
theorem Vds.mono {H H' : Hp} (e : Ex H H') : ∀ {ds : List PyData} {vs : List V}, Vds H vs ds → Vds H' vs ds
  | _, _, .nil => .nil
  | _, _, .cons h t => .cons (Vd.mono e h) (Vds.mono e t)
end
theorem Vds.length {H : Hp} : ∀ {ds : List PyData} {vs : List V}, Vds H vs ds → vs.length = ds.length
  | _, _, .nil => rfl
  | _, _, .cons _ t => congrArg Nat.succ t.length
/-- what the text must have of the address of sys.modules -/
def Sys (K : PySem.W.Frag) : Prop := ∃ o, K.lookup sysModules = some o
section
variable {X : Cx} {pins : List (Addr × Obj)} {σ : L2.St} {H : Hp} {s : Shared}
theorem not_sys (Sy : Sys X.K) (I : Inv X pins σ H s) {a : Addr} {o : HO} (h : H a = some o) : sysModules ≠ a := by
  obtain ⟨u, hu⟩ := Sy
  have q := (I.bs _ _ (I.ok.mod.kin _ _ hu)).2
  intro e
  rw [e, h] at q
  cases q
theorem keys_read {h : Heap} {P : Program} {w : World} : ∀ (ks : List Key) (es : List DictEntry) (us : List Value), Pairs (mixKind P w) es (ks.zip us) → ks.length = us.length → ReadsAll h (es.map (·.key)) (ks.map kD) [] ∧ es.map (·.val) = us := by
  intro ks
  induction ks with
  | nil =>
    intro es us p hl
    cases us with
    | cons _ _ => cases hl
    | nil => cases p; exact ⟨.nil, rfl⟩
  | cons k ks ih =>
    intro es us p hl
    cases us with
    | nil => cases hl
    | cons u us =>
      cases p with
      | @cons e _ es _ h1 h2 h3 =>
        obtain ⟨q1, q2⟩ := ih _ _ h3 (Nat.succ.inj hl)
        refine ⟨?_, by rw [List.map_cons, q2, h2]⟩
        have r : Reads h e.key (kD k) [] := by
          rcases keyIs_shape h1 with ⟨i, t, e1, e2⟩ | ⟨x, t, e1, e2⟩
          · have e1' : k = .inl i := e1
            rw [e1', e2]
            exact Reads.int i t
          · have e1' : k = .inr x := e1
            rw [e1', e2]
            exact Reads.str x t
        exact ReadsAll.cons (as := []) (bs := []) r q1
theorem kv_zip : ∀ {ks : List Key} {xs : List V} {vs : List (Key × Value)}, KV (ks.zip xs) vs → ks.length = xs.length → ∃ us, Vals xs us ∧ vs = ks.zip us ∧ ks.length = us.length
  | [], [], _, .nil, _ => ⟨[], .nil, rfl, rfl⟩
  | k :: ks, x :: xs, (k', u) :: vs, .cons h t, hl => by
    obtain ⟨us, r, e, l⟩ := kv_zip t (Nat.succ.inj hl)
    obtain ⟨e1, e2⟩ := h
    have e1' : k = k' := e1
    exact ⟨u :: us, .cons e2 r, by rw [e, e1']; rfl, congrArg Nat.succ l⟩
mutual
theorem Vd.reads (Sy : Sys X.K) (I : Inv X pins σ H s) : ∀ {d : PyData} {v : V} {u : Value}, Vd H v d → RelV v u → ∃ as, Reads s.heap u d as ∧ sysModules ∉ as
  | _, _, _, .non, r => by
    cases r
    exact ⟨_, Reads.none, by simp⟩
  | _, _, _, .bl b, r => by
    cases r
    exact ⟨_, Reads.bool b, by simp⟩
  | _, _, _, .int i, r => by
    obtain ⟨t, rfl⟩ := r
    exact ⟨_, Reads.int i t, by simp⟩
  | _, _, _, .str x, r => by
    obtain ⟨t, rfl⟩ := r
    exact ⟨_, Reads.str x t, by simp⟩
  | _, _, _, .lst (a := a) (xs := xs) h t, r => by
    cases r
    obtain ⟨_, its, n, rv, e⟩ := (show ObjOk X.prog X.w H s.heap a (.lst xs) from I.hok a _ h)
    obtain ⟨as, q, ns⟩ := Vds.reads Sy I t rv
    exact ⟨_, Reads.list e rfl rfl q, by
      rw [List.mem_cons]
      rintro (z | z)
      · exact not_sys Sy I h z
      · exact ns z⟩
  | _, _, _, .tup (a := a) (xs := xs) h t, r => by
    cases r
    obtain ⟨_, its, rv, o, e, c, n, dd⟩ := (show ObjOk X.prog X.w H s.heap a (.tup xs) from I.hok a _ h)
    obtain ⟨as, q, ns⟩ := Vds.reads Sy I t rv
    exact ⟨_, Reads.tuple e c dd q, ns⟩
  | _, _, _, .dct (a := a) (ks := ks) (xs := xs) (ds := ds) h l t, r => by
    cases r
    obtain ⟨_, _, vs, kv, o, es, ep, e, ex, dd, _, ps, _⟩ := (show ObjOk X.prog X.w H s.heap a (.dK (ks.zip xs)) from I.hok a _ h)
    obtain ⟨us, rv, rfl, l2⟩ := kv_zip kv l
    obtain ⟨k1, k2⟩ := keys_read (h := s.heap) _ _ _ ps l2
    obtain ⟨as, q, ns⟩ := Vds.reads Sy I t rv
    have l3 := t.length
    have z1 : ∀ {A B : Type} (f : List A) (g : List B), f.length = g.length → (f.zip g).map (·.1) = f ∧ (f.zip g).map (·.2) = g := fun f g hl => ⟨List.map_fst_zip (by omega), List.map_snd_zip (by omega)⟩
    obtain ⟨e1, e2⟩ := z1 (ks.map kD) ds (by rw [List.length_map, l, l3])
    refine ⟨_, Reads.dict (as := []) e ex.1 dd (by rw [e1]; exact k1) (by rw [e2, k2]; exact q), ?_⟩
    rw [List.cons_append, List.mem_cons]
    rintro (z | z)
    · exact not_sys Sy I h z
    · exact ns z
theorem Vds.reads (Sy : Sys X.K) (I : Inv X pins σ H s) : ∀ {ds : List PyData} {vs : List V} {us : List Value}, Vds H vs ds → Vals vs us → ∃ as, ReadsAll s.heap us ds as ∧ sysModules ∉ as
  | _, _, _, .nil, r => by
    cases r
    exact ⟨_, ReadsAll.nil, by simp⟩
  | _, _, _, .cons h t, r => by
    cases r with
    | cons r1 r2 =>
      obtain ⟨as, q1, n1⟩ := Vd.reads Sy I h r1
      obtain ⟨bs, q2, n2⟩ := Vds.reads Sy I t r2
      exact ⟨_, ReadsAll.cons q1 q2, by rw [List.mem_append]; rintro (z | z); exact n1 z; exact n2 z⟩
end
end
/-- may be shown: sizes -/
structure Fit (d : PyData) : Prop where
  sh : d.showable = true
  dp : d.depth ≤ 50
  sz : d.shown.length ≤ sizeLine
/-- repr of data -/
def rRepr : List V → Hp → VK → Prop := fun xs H Q => ∃ v d, xs = [v] ∧ Vd H v d ∧ Fit d ∧ Q (.str d.shown) H
section
variable {X : Cx}
theorem call_repr (Sy : Sys X.K) (hG : X.A.guards = some []) (hu : X.A.units + 64 < cLine) : CallR X (.builtin "repr") rRepr := by
  intro pins s σ H xs us Q I r h
  obtain ⟨v, d, rfl, hv, ft, q⟩ := h
  obtain ⟨u, rfl, ru⟩ := r.one
  cases hv with
  | non => cases ru; exact PySem.P.repr_of_none ⟨.str _, H, I.tok _, ⟨_, rfl⟩, q⟩
  | bl b => cases ru; exact PySem.P.repr_of_bool ⟨.str _, H, I.tok _, ⟨_, rfl⟩, q⟩
  | int i =>
    obtain ⟨t, rfl⟩ := ru
    exact PySem.P.repr_of_int (of_decide_eq_true (show decide (i.natAbs.log2 < 1920) = true from ft.sh)) ⟨.str _, H, I.tok _, ⟨_, rfl⟩, q⟩
  | str x => obtain ⟨t, rfl⟩ := ru; exact PySem.P.repr_of_str ⟨.str _, H, I.tok _, ⟨_, rfl⟩, q⟩ ft.sz
  | lst h t =>
    obtain ⟨as, rd, ns⟩ := Vd.reads Sy I (.lst h t) ru
    cases ru
    exact repr_of_reads' rd ft.sh (fun _ => ns) hG (by have := ft.dp; omega) (fun _ _ e => e) (fun h' u tk k => ⟨.str _, H, I.kept k, ⟨_, rfl⟩, q⟩) ft.sz
  | tup h t =>
    obtain ⟨as, rd, ns⟩ := Vd.reads Sy I (.tup h t) ru
    cases ru
    exact repr_of_reads' rd ft.sh (fun _ => ns) hG (by have := ft.dp; omega) (fun _ _ e => e) (fun h' u tk k => ⟨.str _, H, I.kept k, ⟨_, rfl⟩, q⟩) ft.sz
  | dct h l t =>
    obtain ⟨as, rd, ns⟩ := Vd.reads Sy I (.dct h l t) ru
    cases ru
    exact repr_of_reads' rd ft.sh (fun _ => ns) hG (by have := ft.dp; omega) (fun _ _ e => e) (fun h' u tk k => ⟨.str _, H, I.kept k, ⟨_, rfl⟩, q⟩) ft.sz
end
end Dt
namespace K82
open PySem PySem.Spec PyProof.Rows L2 Dt
def top (i : Nat) : Stmt := PySem.Challenge.pw_webrooms_k82_classes_made_by_hand.main.body.getD i (.Pass ⟨0, 0, 0, 0⟩)
abbrev FnP (K : PySem.W.Frag) (x : Str) (st : Stmt) (f : Addr) (fd : FuncData) : Prop := FunD K x x (defArgs st) (defBody st) (defScope st) [] [] f fd
/-! ### the pen -/
def penL (L : Addr) (at_ dg cn fo : Int) : List (Key × V) := [(.inr "cells", .ref L), (.inr "at", .int at_), (.inr "digits", .int dg), (.inr "count", .int cn), (.inr "fold", .int fo)]
def PenAt (H : Hp) (p L : Addr) (c : Int) : Prop := ∃ (ns : List Int) (at_ dg cn fo : Int), H p = some (.dK (penL L at_ dg cn fo)) ∧ H L = some (.lst (ns.map V.int)) ∧ 0 ≤ at_ ∧ at_ ≤ ns.length ∧ ns.length ≤ 63 ∧ 0 ≤ dg ∧ 0 ≤ cn ∧ cn ≤ c ∧ 0 ≤ fo ∧ fo < 2147483477
/-- all but the pen stands -/
def Kp (p : Addr) (H H' : Hp) : Prop := ∀ b o, b ≠ p → H b = some o → H' b = some o
theorem Kp.refl (p : Addr) (H : Hp) : Kp p H H := fun _ _ _ e => e
theorem Kp.tr {p : Addr} {H H1 H2 : Hp} (a : Kp p H H1) (b : Kp p H1 H2) : Kp p H H2 := fun c o n e => b c o n (a c o n e)
theorem Kp.put {p : Addr} {H : Hp} {o : HO} : Kp p H (upd H p o) := fun b u n e => (upd_ne n).trans e
theorem Kp.of {p : Addr} {H H' : Hp} (e : Ex H H') : Kp p H H' := fun b o _ h => e b o h
def spDraw : Sp := fun vs H Q _ => ∃ (p L : Addr) (m c : Int), vs = [.ref p, .int m] ∧ 0 < m ∧ m < 1073741824 ∧ PenAt H p L c ∧ c < 1099511627776 ∧
  ∀ (r : Int) (H' : Hp), 0 ≤ r → r < m → PenAt H' p L (c + 1) → Kp p H H' → (∀ b, H b = none → H' b = none) → Q (.int r) H'
abbrev sDraw : Stmt := top 47
theorem scDraw : FnScope ["pen", "many", "cell", "digit", "blend"] ["pen", "many"] (defScope sDraw) := ⟨rfl, rfl, rfl, by decide +kernel, rfl, by decide +kernel, by decide +kernel⟩
theorem sq_put {K : PySem.W.Frag} {H : Hp} {p L : Addr} {kvs : List (Key × V)} {o : HO} {xs : List V} (hp : H p = some (.dK kvs)) (h : SqL K H L xs) : SqL K (upd H p o) L xs := by
  rcases h with h | h
  · have ne : L ≠ p := by
      intro e
      rcases h with h | ⟨u, h⟩
      · rw [e, hp] at h; cases h
      · rw [e, hp] at h; cases h
    rcases h with h | ⟨u, h⟩
    · exact .inl (.inl ((upd_ne ne).trans h))
    · exact .inl (.inr ⟨u, (upd_ne ne).trans h⟩)
  · exact .inr h
/-! what the pen's dict tells, what is put -/
section
variable {H : Hp} {p L : Addr} {a d c f v : Int} {K : PySem.W.Frag}
abbrev penO (L : Addr) (a d c f : Int) : HO := .dK (penL L a d c f)
theorem gC (h : H p = some (penO L a d c f)) : DGet H p (.str "cells") (some (.ref L)) := .inl ⟨_, .inr "cells", .inl h, rfl, rfl⟩
theorem gA (h : H p = some (penO L a d c f)) : DGet H p (.str "at") (some (.int a)) := .inl ⟨_, .inr "at", .inl h, rfl, rfl⟩
theorem gD (h : H p = some (penO L a d c f)) : DGet H p (.str "digits") (some (.int d)) := .inl ⟨_, .inr "digits", .inl h, rfl, rfl⟩
theorem gN (h : H p = some (penO L a d c f)) : DGet H p (.str "count") (some (.int c)) := .inl ⟨_, .inr "count", .inl h, rfl, rfl⟩
theorem gF (h : H p = some (penO L a d c f)) : DGet H p (.str "fold") (some (.int f)) := .inl ⟨_, .inr "fold", .inl h, rfl, rfl⟩
theorem five : (5 : Nat) < sizeLine := by decide
theorem pA (h : H p = some (penO L a d c f)) : DPut H p (.str "at") (.int v) (upd H p (penO L v d c f)) := .inl ⟨_, .inr "at", h, rfl, five, rfl⟩
theorem pD (h : H p = some (penO L a d c f)) : DPut H p (.str "digits") (.int v) (upd H p (penO L a v c f)) := .inl ⟨_, .inr "digits", h, rfl, five, rfl⟩
theorem pN (h : H p = some (penO L a d c f)) : DPut H p (.str "count") (.int v) (upd H p (penO L a d v f)) := .inl ⟨_, .inr "count", h, rfl, five, rfl⟩
theorem pF (h : H p = some (penO L a d c f)) : DPut H p (.str "fold") (.int v) (upd H p (penO L a d c v)) := .inl ⟨_, .inr "fold", h, rfl, five, rfl⟩
end
section
variable {P : Program} {w : World} {K : PySem.W.Frag} {mg : Str → Option Value} {base : Heap}
theorem ok_draw {f : Addr} {fd : FuncData} (F : FnP K "_law_draw" sDraw f fd) (mi : mg "int" = none) (ml : mg "len" = none) : FnOk P w K mg base CX0 1 f fd ["pen", "many"] spDraw := by
  refine F.ok scDraw (fun vs H Q E h => ?_) (fun cdv A outer s H vs Q E hr h => ?_)
  · obtain ⟨p, L, m, c, rfl, _⟩ := h
    rfl
  · obtain ⟨p, L, m, c, rfl, m0, m1, ⟨ns, at_, dg, cn, fo, hp, hLL, a0, a1, hn, d0, c0, c1, f0, f1⟩, hc, q⟩ := h
    have hL : SqL K H L (ns.map V.int) := .inl (.inl hLL)
    have Lp : L ≠ p := fun z => by rw [z, hp] at hLL; cases hLL
    have hu := hu_of hr
    refine ⟨_, PSs.nox (pss_cons (ps_dput hu (pv 0) pe_str (pe_op op_add (pe_dget hu (pv 0) pe_str (fun _ _ => rfl)) pe_int) rfl)
      (C8.pss_cut (ps_if (PW.pt (pw_and (pt_cmpR op_eq (pe_dget hu (pv 0) pe_str (fun _ _ => rfl)) pe_int (nomark _)) (pw_and1 (pt_cmpR op_lt (pe_dget hu (pv 0) pe_str (fun _ _ => rfl)) (pe_callB call_len_seq (by rfl) ml PySem.boot_len (pa_cons (pe_dget hu (pv 0) pe_str (fun _ _ => rfl)) pa_nil)) (nomark _)))))
        (pss_cons (ps_set (i := 2) scDraw.nd rfl (.inl rfl) (pe_ix ix_list (pe_dget hu (pv 0) pe_str (fun _ _ => rfl)) (pe_dget hu (pv 0) pe_str (fun _ _ => rfl)) (fun _ _ => rfl)))
        (pss_cons (ps_dput hu (pv 0) pe_str (pe_op op_add (pe_dget hu (pv 0) pe_str (fun _ _ => rfl)) pe_int) rfl)
        (pss_one (ps_if (pt_cmpR op_ge (pv 2) (pe_op op_pow pe_int pe_int) (nomark _))
          (pss_one (ps_dput hu (pv 0) pe_str (pe_op op_sub (pv 2) (pe_op op_pow pe_int pe_int)) rfl))
          (pss_one (ps_dput hu (pv 0) pe_str (pe_op op_mod (pe_callTy call_int1 (by rfl) mi (by decide +kernel) (pa_cons (pe_op op_add (pe_op op_mul (pe_dget hu (pv 0) pe_str (fun _ _ => rfl)) pe_int) (pv 2)) pa_nil)) pe_int) rfl))))))
        pss_nil)
      (pss_cons (ps_if (pt_cmpR op_gt (pe_dget hu (pv 0) pe_str (fun _ _ => rfl)) pe_int (nomark _))
        (pss_cons (ps_set (i := 3) scDraw.nd rfl (.inl rfl) (pe_op op_mod (pe_callTy call_int1 (by rfl) mi (by decide +kernel) (pa_cons (pe_dget hu (pv 0) pe_str (fun _ _ => rfl)) pa_nil)) (pv 1)))
        (pss_cons (ps_dput hu (pv 0) pe_str (pe_op op_fdiv (pe_dget hu (pv 0) pe_str (fun _ _ => rfl)) (pv 1)) rfl)
        (pss_one (ps_ret (pv 3)))))
        pss_nil)
      (pss_cons (ps_set (i := 4) scDraw.nd rfl (.inl rfl) (pe_op op_add (pe_op op_add (pe_dget hu (pv 0) pe_str (fun _ _ => rfl)) (pe_op op_mul (pe_dget hu (pv 0) pe_str (fun _ _ => rfl)) pe_int)) pe_int))
      (pss_one (ps_ret (pe_op op_mod (pe_op op_fdiv (pe_callTy call_int1 (by rfl) mi (by decide +kernel) (pa_cons (pe_op op_mod (pe_op op_pow (pv 4) pe_int) pe_int) pa_nil)) pe_int) (pv 1)))))))), ?_⟩
    -- count
    refine ⟨_, rfl, p, .int cn, rfl, gN hp, cn, 1, rfl, rfl, _, rfl, p, _, rfl, pN hp, ?_⟩
    refine ⟨fun σ H' => ∃ (a d f : Int) (y2 : Option V), σ = [some (.ref p), some (.int m), y2, none, none] ∧ H' = upd H p (penO L a d (cn + 1) f) ∧ 0 ≤ a ∧ a ≤ ns.length ∧ 0 ≤ d ∧ 0 ≤ f ∧ f < 2147483477, ?_, ?_⟩
    · -- if digits == 0 and at < len(cells)
      have h1 : (upd H p (penO L at_ dg (cn + 1) fo)) p = some (penO L at_ dg (cn + 1) fo) := upd_same
      refine ⟨_, rfl, p, _, rfl, gD h1, rfl, _, rfl, ite2 (fun _ => ?_) (fun _ => ?_)⟩
      · refine ⟨_, rfl, p, _, rfl, gA h1, _, rfl, p, _, rfl, gC h1, L, _, rfl, .inl (sq_put hp hL), at_, _, rfl, rfl, _, rfl, ite2 (fun hlt => ?_) (fun _ => ?_)⟩
        · have hlt : at_ < (ns.length : Int) := by
            have := of_decide_eq_true hlt
            rwa [List.length_map] at this
          obtain ⟨j, rfl⟩ : ∃ j : Nat, at_ = (j : Int) := ⟨at_.toNat, by omega⟩
          have hj : j < ns.length := by omega
          have g : (ns.map V.int)[j]? = some (.int ns[j]) := by
            rw [List.getElem?_map, List.getElem?_eq_getElem hj]
            rfl
          -- cell = cells[at]; at = at + 1
          refine ⟨_, rfl, p, _, rfl, gC h1, _, rfl, p, _, rfl, gA h1, L, _, _, _, rfl, rfl, sq_put hp hL, atI_nat g, ?_⟩
          refine ⟨_, rfl, p, _, rfl, gA h1, _, 1, rfl, rfl, _, rfl, p, _, rfl, pA h1, ?_⟩
          have h2 : (upd (upd H p (penO L j dg (cn + 1) fo)) p (penO L (j + 1) dg (cn + 1) fo)) p = some (penO L (j + 1) dg (cn + 1) fo) := upd_same
          refine ⟨_, rfl, 10, 18, rfl, rfl, ⟨by decide, by decide, by decide⟩, _, _, rfl, rfl, _, rfl, ite2 (fun hge => ?_) (fun _ => ?_)⟩
          · have hge := of_decide_eq_true hge
            refine ⟨_, rfl, 10, 18, rfl, rfl, ⟨by decide, by decide, by decide⟩, _, _, rfl, rfl, _, rfl, p, _, rfl, pD h2, ?_⟩
            exact ⟨_, _, _, _, rfl, by rw [upd_upd, upd_upd], by omega, by omega, by omega, f0, f1⟩
          · refine ⟨_, rfl, p, _, rfl, gF h2, _, 40993, rfl, rfl, .inl (by omega), _, rfl, _, _, rfl, rfl, .inl ⟨_, rfl, _, 2147483477, rfl, rfl, (by show (0 : Int) < 2147483477; decide), _, rfl, p, _, rfl, pF h2, ?_⟩⟩
            exact ⟨_, _, _, _, rfl, by rw [upd_upd, upd_upd], by omega, by omega, d0, Int.emod_nonneg _ (by decide), Int.emod_lt_of_pos _ (by decide)⟩
        · exact ⟨_, _, _, _, rfl, rfl, a0, a1, d0, f0, f1⟩
      · exact ⟨_, _, _, _, rfl, rfl, a0, a1, d0, f0, f1⟩
    · rintro σ' H' ⟨a, d, f, y2, rfl, rfl, b0, b1, e0, g0, g1⟩
      have h1 : (upd H p (penO L a d (cn + 1) f)) p = some (penO L a d (cn + 1) f) := upd_same
      have fr : ∀ {o : HO}, (∀ b, H b = none → (upd H p o) b = none) := fun {o} b hb => (upd_ne (fun e => by rw [e, hp] at hb; cases hb)).trans hb
      -- if digits > 0
      refine ⟨_, rfl, p, _, rfl, gD h1, _, 0, rfl, rfl, _, rfl, ite2 (fun _ => ?_) (fun _ => ?_)⟩
      · refine ⟨_, rfl, p, _, rfl, gD h1, .inl ⟨_, rfl, _, rfl, _, m, rfl, rfl, m0, ?_⟩⟩
        refine ⟨_, rfl, p, _, rfl, gD h1, _, rfl, _, m, rfl, rfl, ⟨m0, m1⟩, _, rfl, p, _, rfl, pD h1, _, rfl, ?_⟩
        refine q _ _ (Int.emod_nonneg _ (by omega)) (Int.emod_lt_of_pos _ m0) ⟨ns, a, _, _, f, upd_same, (upd_ne Lp).trans ((upd_ne Lp).trans hLL), b0, b1, hn, Int.ediv_nonneg e0 (by omega), by omega, by omega, g0, g1⟩ (Kp.put.tr Kp.put) ?_
        rw [upd_upd]
        exact fr
      · refine ⟨_, rfl, p, _, rfl, gF h1, _, rfl, p, _, rfl, gN h1, _, 7873, rfl, rfl, .inl (by omega), _, _, rfl, rfl, _, 71, rfl, rfl, ?_⟩
        refine ⟨_, rfl, _, 29, rfl, rfl, ⟨by decide, by decide, by omega⟩, _, 2305843009213693951, rfl, rfl, (by show (0 : Int) < 2305843009213693951; decide), .inl ⟨_, rfl, _, 128, rfl, rfl, ⟨by decide, by decide⟩, _, rfl, _, m, rfl, rfl, m0, ?_⟩⟩
        exact q _ _ (Int.emod_nonneg _ (by omega)) (Int.emod_lt_of_pos _ m0) ⟨ns, a, d, _, f, h1, (upd_ne Lp).trans hLL, b0, b1, hn, e0, by omega, by omega, g0, g1⟩ Kp.put fr
end
end K82
namespace K82
open PySem PySem.Spec PyProof.Rows L2 Dt
/-! ### what stands for good: G, a part of the heap -/
structure Gro (G H G' H' : Hp) : Prop where
  old : ∀ b, H b ≠ none → H' b = H b ∧ G' b = G b
  sub : Ex G' H'
theorem Gro.refl {G H : Hp} (e : Ex G H) : Gro G H G H := ⟨fun _ _ => ⟨rfl, rfl⟩, e⟩
theorem Gro.tr {G H G1 H1 G2 H2 : Hp} (a : Gro G H G1 H1) (b : Gro G1 H1 G2 H2) : Gro G H G2 H2 := ⟨fun x h => by
  obtain ⟨e1, e2⟩ := a.old x h
  obtain ⟨e3, e4⟩ := b.old x (by rw [e1]; exact h)
  exact ⟨e3.trans e1, e4.trans e2⟩, b.sub⟩
theorem Gro.ex {G H G' H' : Hp} (e : Ex G H) (a : Gro G H G' H') : Ex G G' := fun b o h => (a.old b (by rw [e b o h]; exact fun z => nomatch z)).2.trans h
theorem Gro.exH {G H G' H' : Hp} (a : Gro G H G' H') : Ex H H' := fun b o h => (a.old b (by rw [h]; exact fun z => nomatch z)).1.trans h
theorem ex_none {G H : Hp} (e : Ex G H) {p : Addr} (h : H p = none) : G p = none := by
  cases q : G p with
  | none => rfl
  | some o => rw [e p o q] at h; cases h
theorem upd_at {H : Hp} {p : Addr} {o : HO} : (upd H p o) p = some o := upd_same
theorem Gro.new {G H : Hp} (e : Ex G H) {p : Addr} {o : HO} (h : H p = none) : Gro G H (upd G p o) (upd H p o) := ⟨fun b hb => by
  have ne : b ≠ p := fun z => hb (by rw [z]; exact h)
  exact ⟨upd_ne ne, upd_ne ne⟩, fun b u q => by
  by_cases z : b = p
  · subst z
    rw [upd_at] at q ⊢
    exact q
  · rw [upd_ne z] at q ⊢
    exact e b u q⟩
/-- something laid that is not for good -/
theorem Gro.lay {G H : Hp} (e : Ex G H) {p : Addr} {o : HO} (h : H p = none) : Gro G H G (upd H p o) := ⟨fun b hb => ⟨upd_ne fun z => hb (by rw [z]; exact h), rfl⟩, fun b u q => (upd_ne fun z => by rw [z, ex_none e h] at q; cases q).trans (e b u q)⟩
theorem ex_put {G H : Hp} (e : Ex G H) {p : Addr} {o : HO} (h : G p = none) : Ex G (upd H p o) := fun b u q => (upd_ne fun z => by rw [z, h] at q; cases q).trans (e b u q)
/-- something that was laid is put for good -/
theorem ex_fix {G H : Hp} (e : Ex G H) {p : Addr} {o : HO} : Ex (upd G p o) (upd H p o) := fun b u q => by
  by_cases z : b = p
  · subst z
    rw [upd_at] at q ⊢
    exact q
  · rw [upd_ne z] at q ⊢
    exact e b u q
theorem ex_fix' {G H : Hp} (e : Ex G H) {p : Addr} {o : HO} (h : H p = some o) : Ex (upd G p o) H := fun b u q => by
  by_cases z : b = p
  · subst z
    rw [upd_at] at q
    rw [h]
    exact q
  · rw [upd_ne z] at q
    exact e b u q
theorem ex_new {G : Hp} {p : Addr} {o : HO} (h : G p = none) : Ex G (upd G p o) := fun b u e => (upd_ne fun z => by rw [z, h] at e; cases e).trans e
/-! ### copied -/
def cp : PyData → PyData
  | .list ds => .tuple ds
  | d => d
def spCp : Sp := fun vs H Q _ => ∃ (v : V) (d : PyData) (G : Hp), vs = [v] ∧ Ex G H ∧ Vd G v d ∧ ∀ v' G' H', Gro G H G' H' → Vd G' v' (cp d) → Q v' H'
def isL : PyData → Bool
  | .list _ => true
  | _ => false
theorem vd_isi {K : PySem.W.Frag} {H : Hp} {v : V} {d : PyData} (h : Vd H v d) : ∃ t, TyX K H v t ∧ PySem.W.kitOne K t (.type "list") = some (isL d) := by
  cases h with
  | non => exact ⟨_, .base .non, kit_ty (by decide +kernel : kitB "NoneType" "list" = some false)⟩
  | bl b => exact ⟨_, .base (.bl b), kit_ty (by decide +kernel : kitB "bool" "list" = some false)⟩
  | int i => exact ⟨_, .base (.int i), kit_ty (by decide +kernel : kitB "int" "list" = some false)⟩
  | str x => exact ⟨_, .base (.str x), kit_ty (by decide +kernel : kitB "str" "list" = some false)⟩
  | lst h t => exact ⟨_, .base (.lst h), kit_ty (by decide +kernel : kitB "list" "list" = some true)⟩
  | tup h t => exact ⟨_, .base (.tup h), kit_ty (by decide +kernel : kitB "tuple" "list" = some false)⟩
  | dct h l t => exact ⟨_, .base (.dK h), kit_ty (by decide +kernel : kitB "dict" "list" = some false)⟩
end K82
namespace K82
open PySem PySem.Spec PyProof.Rows L2 Dt
theorem boot_isi : bootBuiltins "isinstance" = some (.builtin "isinstance") := by decide +kernel
theorem boot_list : bootBuiltins "list" = some (.type "list") := by decide +kernel
theorem boot_tuple : bootBuiltins "tuple" = some (.type "tuple") := by decide +kernel
section
variable {P : Program} {w : World} {K : PySem.W.Frag} {mg : Str → Option Value} {base : Heap}
abbrev sCopied : Stmt := top 1
theorem scCopied : FnScope ["value"] ["value"] (defScope sCopied) := ⟨rfl, rfl, rfl, by decide +kernel, rfl, by decide +kernel, by decide +kernel⟩
theorem ok_copied {f : Addr} {fd : FuncData} (F : FnP K "copied" sCopied f fd) (mi : mg "isinstance" = none) (ml : mg "list" = none) (mt : mg "tuple" = none) : FnOk P w K mg base CX0 1 f fd ["value"] spCp := by
  refine F.ok scCopied (fun vs H Q E h => ?_) (fun cdv A outer s H vs Q E hr h => ?_)
  · obtain ⟨v, d, G, rfl, _⟩ := h
    rfl
  · obtain ⟨v, d, G, rfl, hG, hv, q⟩ := h
    refine ⟨_, PSs.nox (pss_one (ps_ret (pe_ifExp (pt_val (pe_callB call_isi (by rfl) mi boot_isi (pa_cons (pv 0) (pa_cons (pe_bltn (v := .ty "list") (by rfl) ml boot_list rfl) pa_nil)))) (pe_callTy call_tuple_of (by rfl) mt boot_tuple (pa_cons (pv 0) pa_nil)) (pv 0)))), ?_⟩
    obtain ⟨t, ty, k⟩ := vd_isi (K := K) (Vd.mono hG hv)
    refine ⟨_, rfl, _, _, t, _, _, rfl, .ty "list", ty, k, _, rfl, ?_⟩
    cases hv with
    | @lst a ys ds h t =>
      refine ⟨_, rfl, _, _, rfl, .inl ⟨.inl (.inl (hG _ _ h)), fun l hl => ?_⟩⟩
      have g := Gro.new (o := .tup ys) hG hl
      exact q _ _ _ g (.tup upd_at (Vds.mono (g.ex hG) t))
    | non => exact ⟨_, rfl, q _ _ _ (.refl hG) .non⟩
    | bl b => exact ⟨_, rfl, q _ _ _ (.refl hG) (.bl b)⟩
    | int i => exact ⟨_, rfl, q _ _ _ (.refl hG) (.int i)⟩
    | str x => exact ⟨_, rfl, q _ _ _ (.refl hG) (.str x)⟩
    | tup h t => exact ⟨_, rfl, q _ _ _ (.refl hG) (.tup h t)⟩
    | dct h l t => exact ⟨_, rfl, q _ _ _ (.refl hG) (.dct h l t)⟩

/-! ### the classes' __init__ -/
def ini (i : Nat) : Stmt := match top i with
  | .ClassDef _ _ _ b _ _ _ _ _ _ _ => b.getD 0 (.Pass ⟨0, 0, 0, 0⟩)
  | _ => .Pass ⟨0, 0, 0, 0⟩
abbrev FnI (K : PySem.W.Frag) (q : Str) (st : Stmt) (f : Addr) (fd : FuncData) : Prop := FunD K "__init__" q (defArgs st) (defBody st) (defScope st) [] [] f fd
structure Ini (G H : Hp) (o : Addr) (G' HF : Hp) : Prop where
  oldH : ∀ b, b ≠ o → H b ≠ none → HF b = H b
  oldG : ∀ b, H b ≠ none → G' b = G b
  sub : Ex G' HF
def spI1 (K : PySem.W.Frag) (fl : Str) : Sp := fun vs H Q _ => ∃ (o C dx : Addr) (v : V) (d : PyData) (G : Hp), vs = [.ref o, v] ∧ H o = some (.ins C dx []) ∧ Cls K C ∧ NoAttr K C fl ∧ Ex G H ∧ G o = none ∧ Vd G v d ∧
  ∀ v' G' HF, Ini G H o G' HF → HF o = some (.ins C dx [(fl, v')]) → Vd G' v' (cp d) → Q .non HF
def spI2 (K : PySem.W.Frag) (fl fm : Str) : Sp := fun vs H Q _ => ∃ (o C dx : Addr) (v u : V) (d e : PyData) (G : Hp), vs = [.ref o, v, u] ∧ H o = some (.ins C dx []) ∧ Cls K C ∧ NoAttr K C fl ∧ NoAttr K C fm ∧ Ex G H ∧ G o = none ∧ Vd G v d ∧ Vd G u e ∧
  ∀ v' u' G' HF, Ini G H o G' HF → HF o = some (.ins C dx [(fl, v'), (fm, u')]) → Vd G' v' (cp d) → Vd G' u' (cp e) → Q .non HF
theorem Ini.put {G H G' H' : Hp} {o : Addr} {z u : HO} (hn : G o = none) (ho : H o = some z) (g : Gro G H G' H') : Ini G H o G' (upd H' o u) :=
  ⟨fun b n hb => (upd_ne n).trans (g.old b hb).1, fun b hb => (g.old b hb).2, ex_put g.sub ((g.old o (by rw [ho]; exact fun z => nomatch z)).2.trans hn)⟩
theorem Ini.tr {G H G1 H1 G2 H2 : Hp} {o : Addr} {z : HO} (ho : H1 o = some z) (a : Ini G H o G1 H1) (b : Ini G1 H1 o G2 H2) : Ini G H o G2 H2 :=
  ⟨fun x n hx => (b.oldH x n (by rw [a.oldH x n hx]; exact hx)).trans (a.oldH x n hx), fun x hx => by
    refine (b.oldG x ?_).trans (a.oldG x hx)
    by_cases n : x = o
    · rw [n, ho]; exact fun z => nomatch z
    · rw [a.oldH x n hx]; exact hx, b.sub⟩
theorem sem1 {fl : Str} {vs : List V} {H : Hp} {Q : VK} {E : XK} (h : spI1 K fl vs H Q E) :
    sFld K (tVar 0) (tCall spCp [] E0 (tCons (tVar 1) tNil)) fl { nx := fun _ H' => Q .non H', rt := Q } (start ["self", fl] vs) H := by
  obtain ⟨o, C, dx, v, d, G, rfl, ho, cl, na, hG, hn, hv, q⟩ := h
  refine ⟨_, rfl, v, d, G, rfl, hG, hv, fun v' G' H' g hv' => ?_⟩
  have ho' : H' o = some (.ins C dx []) := g.exH _ _ ho
  exact ⟨_, rfl, o, C, dx, [], rfl, ho', cl, na, by decide, q v' G' _ (.put hn ho g) upd_at hv'⟩
theorem sem2 {fl fm : Str} (nf : fl ≠ fm) {vs : List V} {H : Hp} {Q : VK} {E : XK} (h : spI2 K fl fm vs H Q E) :
    tSeq (sFld K (tVar 0) (tCall spCp [] E0 (tCons (tVar 1) tNil)) fl) (sFld K (tVar 0) (tCall spCp [] E0 (tCons (tVar 2) tNil)) fm) { nx := fun _ H' => Q .non H', rt := Q } (start ["self", fl, fm] vs) H := by
  obtain ⟨o, C, dx, v, u, d, e, G, rfl, ho, cl, na, nb, hG, hn, hv, hu, q⟩ := h
  refine ⟨_, rfl, v, d, G, rfl, hG, hv, fun v' G' H' g hv' => ?_⟩
  have ho' : H' o = some (.ins C dx []) := g.exH _ _ ho
  refine ⟨_, rfl, o, C, dx, [], rfl, ho', cl, na, by decide, ?_⟩
  have i1 : Ini G H o G' (upd H' o (.ins C dx [(fl, v')])) := .put hn ho g
  have hn' : G' o = none := (i1.oldG o (by rw [ho]; exact fun z => nomatch z)).trans hn
  refine ⟨_, rfl, u, e, G', rfl, i1.sub, Vd.mono (g.ex hG) hu, fun u' G2 H2 g2 hu' => ?_⟩
  have ho2 : H2 o = some (.ins C dx [(fl, v')]) := g2.exH _ _ upd_at
  refine ⟨_, rfl, o, C, dx, _, rfl, ho2, cl, nb, by simp, ?_⟩
  have i2 : Ini G' (upd H' o (.ins C dx [(fl, v')])) o G2 (upd H2 o (.ins C dx (putF fm u' [(fl, v')]))) := .put hn' upd_at g2
  refine q v' u' G2 _ (i1.tr upd_at i2) ?_ (Vd.mono (g2.ex i1.sub) hv') hu'
  rw [upd_at]
  unfold putF
  rw [if_neg nf]
  rfl
end
end K82
namespace K82
open PySem PySem.Spec PyProof.Rows L2 Dt Idn
def mroP (K : PySem.W.Frag) (C : Addr) : Prop := ∃ cd, PySem.W.clsIn K C = some cd ∧ cd.mro = [.ref C, .type "object"]
theorem mroP.sub {K : PySem.W.Frag} {C : Addr} (h : mroP K C) (D : Addr) : SubNo K D C := by
  by_cases e : D = C
  · exact .inl e
  · refine .inr ?_
    obtain ⟨cd, h1, h2⟩ := h
    show PySem.W.mroIn K C (.ref D) = some false
    unfold PySem.W.mroIn
    rw [h1]
    show (if cd.mro.isEmpty then none else some (cd.mro.contains (.ref D))) = _
    rw [h2]
    have : ([Value.ref C, .type "object"] : List Value).contains (.ref D) = false := by
      rw [List.contains_eq_any_beq]
      simp [e]
    rw [this]
    rfl
structure Ck (K : PySem.W.Frag) (C : Addr) : Prop where
  ins : C8.InsC K C
  eqo : Eqo K C
  mro : mroP K C
/-- a row of _law_made -/
def RowAt (K : PySem.W.Frag) (da db : PyData) (G : Hp) (r : V) (o1 : Addr) : Prop := ∃ (a o2 f s h C dx dy : Addr) (fs gs : List (Str × V)) (xs ys zs : List V) (ds : List PyData), r = .ref a ∧ G a = some (.tup [.ref o1, .ref o2, .bl true, .ref f, .ref s, .ref h]) ∧ o1 ≠ o2 ∧
  G o1 = some (.ins C dx fs) ∧ G o2 = some (.ins C dy gs) ∧ Ck K C ∧ G f = some (.lst ys) ∧ Vds G ys (ds.map cp) ∧ G s = some (.lst zs) ∧ Vds G zs (ds.map cp) ∧ G h = some (.lst xs) ∧ Vds G xs ds ∧ (ds = [da] ∨ ds = [da, db])
theorem RowAt.mono {K : PySem.W.Frag} {da db : PyData} {G G' : Hp} {r : V} {o : Addr} (e : Ex G G') (h : RowAt K da db G r o) : RowAt K da db G' r o := by
  obtain ⟨a, o2, f, s, h, C, dx, dy, fs, gs, xs, ys, zs, ds, rfl, h1, h2, h3, h4, h5, h6, h7, h8, h9, h10, h11, h12⟩ := h
  exact ⟨a, o2, f, s, h, C, dx, dy, fs, gs, xs, ys, zs, ds, rfl, e _ _ h1, h2, e _ _ h3, e _ _ h4, h5, e _ _ h6, Vds.mono e h7, e _ _ h8, Vds.mono e h9, e _ _ h10, Vds.mono e h11, h12⟩
inductive Rws (K : PySem.W.Frag) (da db : PyData) (G : Hp) : List V → List Addr → Prop
  | nil : Rws K da db G [] []
  | cons {r : V} {rs : List V} {o : Addr} {os : List Addr} : RowAt K da db G r o → Rws K da db G rs os → Rws K da db G (r :: rs) (o :: os)
theorem Rws.mono {K : PySem.W.Frag} {da db : PyData} {G G' : Hp} (e : Ex G G') : ∀ {rs : List V} {os : List Addr}, Rws K da db G rs os → Rws K da db G' rs os
  | _, _, .nil => .nil
  | _, _, .cons h t => .cons (h.mono e) (t.mono e)
theorem Rws.append {K : PySem.W.Frag} {da db : PyData} {G : Hp} : ∀ {rs rs' : List V} {os os' : List Addr}, Rws K da db G rs os → Rws K da db G rs' os' → Rws K da db G (rs ++ rs') (os ++ os')
  | _, _, _, _, .nil, t => t
  | _, _, _, _, .cons h t, u => .cons h (t.append u)
theorem Rws.len {K : PySem.W.Frag} {da db : PyData} {G : Hp} : ∀ {rs : List V} {os : List Addr}, Rws K da db G rs os → rs.length = os.length
  | _, _, .nil => rfl
  | _, _, .cons _ t => congrArg Nat.succ t.len
theorem Rws.ne {K : PySem.W.Frag} {da db : PyData} {G : Hp} : ∀ {rs : List V} {os : List Addr}, Rws K da db G rs os → ∀ o ∈ os, G o ≠ none
  | _, _, .nil, _, h => nomatch h
  | _, _, .cons h t, o, hm => by
    rcases List.mem_cons.mp hm with rfl | hm
    · obtain ⟨a, o2, f, s, h, C, dx, dy, fs, gs, xs, ys, zs, ds, rfl, h1, h2, h3, _⟩ := h
      rw [h3]
      exact fun z => nomatch z
    · exact t.ne o hm
theorem Rws.get {K : PySem.W.Frag} {da db : PyData} {G : Hp} : ∀ {rs : List V} {os : List Addr}, Rws K da db G rs os → ∀ {i : Nat} {r : V}, rs[i]? = some r → ∃ o, os[i]? = some o ∧ RowAt K da db G r o
  | _, _, .nil, i, r, h => by cases h
  | _, _, .cons h t, 0, r, e => by
    cases e
    exact ⟨_, rfl, h⟩
  | _, _, .cons h t, i + 1, r, e => t.get (i := i) e
/-- between the blocks of _law_made -/
def MI (K : PySem.W.Frag) (va vb : V) (da db : PyData) (G0 H0 : Hp) (R : Addr) (n : Nat) (σ : L2.St) (H : Hp) : Prop := ∃ (G : Hp) (rs : List V) (os : List Addr) (y3 y4 y5 y6 : Option V), σ = [some va, some vb, some (.ref R), y3, y4, y5, y6] ∧ Gro G0 H0 G H ∧
  G R = none ∧ H R = some (.lst rs) ∧ Rws K da db G rs os ∧ os.Nodup ∧ (∀ o ∈ os, H0 o = none) ∧ rs.length = n
/-- a new instance -/
theorem madeA {C x dx : Addr} {G H : Hp} (e : Ex G H) (hx : H x = none) (hdx : H dx = none) (ne : dx ≠ x) : Ex G (upd (upd H dx (.own x)) x (.ins C dx [])) := by
  have hx1 : (upd H dx (.own x)) x = none := (upd_ne ne.symm).trans hx
  have g1 : Gro G H G (upd H dx (.own x)) := .lay e hdx
  exact (g1.tr (.lay g1.sub hx1)).sub
theorem madeB {C x dx : Addr} {G H G' HF : Hp} {I : HO} (e : Ex G H) (hx : H x = none) (hdx : H dx = none) (i : Ini G (upd (upd H dx (.own x)) x (.ins C dx [])) x G' HF) (hF : HF x = some I) :
    Gro G H (upd G' x I) HF ∧ Ex G' (upd G' x I) := by
  have gx : G' x = none := (i.oldG x (by rw [upd_at]; exact fun z => nomatch z)).trans (ex_none e hx)
  refine ⟨⟨fun b hb => ?_, ex_fix' i.sub hF⟩, ex_new gx⟩
  have bx : b ≠ x := fun z => hb (by rw [z]; exact hx)
  have bd : b ≠ dx := fun z => hb (by rw [z]; exact hdx)
  have e1 : (upd (upd H dx (.own x)) x (.ins C dx [])) b = H b := (upd_ne bx).trans (upd_ne bd)
  exact ⟨(i.oldH b bx (by rw [e1]; exact hb)).trans e1, (upd_ne bx).trans (i.oldG b (by rw [e1]; exact hb))⟩
end K82
namespace K82
open PySem PySem.Spec PyProof.Rows L2 Dt Idn
abbrev rIns (C : Addr) : List V → Hp → VK → Prop := fun xs H Q => ∃ a dx fs, xs = [.ref a, .ref C] ∧ H a = some (.ins C dx fs) ∧ Q (.bl true) H
abbrev tTwo (K : PySem.W.Frag) (i j : Nat) (t1 t2 : TE) : TS := tPar i j (tCons t1 (tCons t2 tNil))
abbrev tIsC (C : Addr) (i : Nat) : TE := tCB (rIns C) (tCons (tVar i) (tCons (tC (.ref C)) tNil))
abbrev gCat : List V → List V → List V := fun vs zs => vs ++ zs
abbrev gSwp : List V → List V → List V := fun vs zs => vs ++ zs.reverse
section
variable {K : PySem.W.Frag} {va vb : V} {da db : PyData} {G0 H0 : Hp} {R C : Addr} {n : Nat} {fl fm : Str} {σ : L2.St} {H : Hp} {D : Ends}
theorem mi_next {G H G1 H1 G2 Ga Gb Gc Gd Hz : Hp} {rs : List V} {os : List Addr} {o1 o2 f s h t dx dy : Addr} {fs gs : List (Str × V)} {xs ys zs : List V} {ds : List PyData} {I : HO} {y3 y4 y5 y6 : Option V} (g : Gro G0 H0 G H) (gR : G R = none) (hR0 : H0 R = none) (hR : H R = some (.lst rs)) (rw_ : Rws K da db G rs os) (nd : os.Nodup) (fr : ∀ o ∈ os, H0 o = none)
    (gz : Gro G H Gd Hz) (gRz : Gd R = none) (a1 : Ex G G1) (a2 : Ex G1 G2) (a3 : Ex G2 Ga) (a4 : Ex Ga Gb) (a5 : Ex Gb Gc) (a6 : Ex Gc Gd) (k : Ck K C) (f1 : H o1 = none) (f4 : H1 o2 = none) (k1 : H1 o1 = some I) (e1 : G1 o1 = some (.ins C dx fs)) (e2 : G2 o2 = some (.ins C dy gs))
    (e3 : Ga f = some (.lst ys)) (e4 : Gb s = some (.lst zs)) (e5 : Gc h = some (.lst xs)) (e6 : Gd t = some (.tup [.ref o1, .ref o2, .bl true, .ref f, .ref s, .ref h])) (v1 : Vds G2 ys (ds.map cp)) (v2 : Vds G2 zs (ds.map cp)) (v3 : Vds G2 xs ds) (hd : ds = [da] ∨ ds = [da, db]) :
    MI K va vb da db G0 H0 R (rs.length + 1) [some va, some vb, some (.ref R), y3, y4, y5, y6] (upd Hz R (.lst (rs ++ [.ref t]))) := by
  have hz := a3.tr (a4.tr (a5.tr a6))
  have all : Ex G Gd := gz.ex g.sub
  refine ⟨Gd, rs ++ [.ref t], os ++ [o1], y3, y4, y5, y6, rfl, ⟨fun b hb => ?_, ex_put gz.sub gRz⟩, gRz, upd_at, ?_, ?_, ?_, by simp⟩
  · have bR : b ≠ R := fun z => hb (by rw [z]; exact hR0)
    obtain ⟨q1, q2⟩ := (g.tr gz).old b hb
    exact ⟨(upd_ne bR).trans q1, q2⟩
  · refine (rw_.mono all).append (.cons ?_ .nil)
    refine ⟨t, o2, f, s, h, C, dx, dy, fs, gs, xs, ys, zs, ds, rfl, e6, fun z => ?_, hz _ _ (a2 _ _ e1), hz _ _ e2, k, a6 _ _ (a5 _ _ (a4 _ _ e3)), Vds.mono hz v1, a6 _ _ (a5 _ _ e4), Vds.mono hz v2, a6 _ _ e5, Vds.mono hz v3, hd⟩
    rw [z, f4] at k1
    cases k1
  · refine List.nodup_append.mpr ⟨nd, by simp, fun a ha b hb => ?_⟩
    rw [List.mem_singleton.mp hb]
    rintro rfl
    exact rw_.ne a ha (ex_none g.sub f1)
  · intro o ho
    rcases List.mem_append.mp ho with ho | ho
    · exact fr o ho
    · rw [List.mem_singleton.mp ho]
      cases q : H0 o1 with
      | none => rfl
      | some u =>
        have := (g.old o1 (by rw [q]; exact fun z => nomatch z)).1
        rw [f1, q] at this
        cases this
theorem blk1s (k : Ck K C) (na : NoAttr K C fl) (hE : Ex G0 H0) (hva : Vd G0 va da) (hvb : Vd G0 vb db) (hR0 : H0 R = none) (hn : n < 40) (h : MI K va vb da db G0 H0 R n σ H) (mid : ∀ σ' H', MI K va vb da db G0 H0 R (n + 1) σ' H' → D.nx σ' H') :
    tSeq (tTwo K 3 4 (tMake C (spI1 K fl) [] E0 (tCons (tVar 0) tNil)) (tMakeK C 0 1 (spI1 K fl) gCat E0 tNil (tCons (tVar 0) tNil)))
     (tSeq (tTwo K 5 6 (tAndV (tIsC C 3) (tIsC C 4)) (tLst (tCons (tFld K (tVar 3) fl) tNil)))
       (tDrop (tBM K "list" rAppend (tVar 2) (tCons (tTup (tCons (tVar 3) (tCons (tVar 4) (tCons (tVar 5) (tCons (tVar 6) (tCons (tLst (tCons (tFld K (tVar 4) fl) tNil)) (tCons (tLst (tCons (tVar 0) tNil)) tNil))))))) tNil)))) D σ H := by
  obtain ⟨G, rs, os, y3, y4, y5, y6, rfl, g, gR, hR, rw_, nd, fr, rfl⟩ := h
  have l2 : (2 : Nat) ≤ sizeLine := by decide
  have l6 : (6 : Nat) ≤ sizeLine := by decide
  have l1 : (1 : Nat) ≤ sizeLine := by decide
  have cl := k.ins.cl
  -- one, two
  have ea := Vd.mono (g.ex hE) hva
  refine ⟨_, rfl, fun o1 dx f1 f2 f3 => ⟨o1, C, dx, va, da, G, rfl, upd_at, cl, na, madeA g.sub f1 f2 f3, ex_none g.sub f1, ea, fun v1 G1 H1 i1 k1 hv1 => ⟨rfl, ?_⟩⟩⟩
  obtain ⟨g1, x1⟩ := madeB g.sub f1 f2 i1 k1
  have e1 : (upd G1 o1 (.ins C dx [(fl, v1)])) o1 = some (.ins C dx [(fl, v1)]) := upd_at
  replace hv1 := Vd.mono x1 hv1
  generalize hGG : upd G1 o1 (.ins C dx [(fl, v1)]) = G1' at g1 x1 e1 hv1
  clear hGG x1 i1
  have ea1 := Vd.mono (g1.ex g.sub) ea
  refine ⟨_, rfl, rfl, rfl, fun o2 dy f4 f5 f6 => ⟨o2, C, dy, va, da, G1', rfl, upd_at, cl, na, madeA g1.sub f4 f5 f6, ex_none g1.sub f4, ea1, fun v2 G2 H2 i2 k2 hv2 => ⟨rfl, ?_⟩⟩⟩
  obtain ⟨g2, x2⟩ := madeB g1.sub f4 f5 i2 k2
  have e2 : (upd G2 o2 (.ins C dy [(fl, v2)])) o2 = some (.ins C dy [(fl, v2)]) := upd_at
  replace hv2 := Vd.mono x2 hv2
  generalize hGG : upd G2 o2 (.ins C dy [(fl, v2)]) = G2' at g2 x2 e2 hv2
  clear hGG x2 i2
  refine ⟨_, _, rfl, ?_⟩
  -- kind, first
  have g3 := g1.tr g2
  have h1 : H2 o1 = some (.ins C dx [(fl, v1)]) := g3.sub _ _ (g2.ex g1.sub _ _ e1)
  have h2 : H2 o2 = some (.ins C dy [(fl, v2)]) := g3.sub _ _ e2
  refine ⟨_, rfl, o1, dx, _, rfl, h1, true, rfl, ?_⟩
  refine ⟨_, rfl, o2, dy, _, rfl, h2, ?_⟩
  refine ⟨_, rfl, o1, C, dx, _, v1, rfl, h1, cl, na, by simp, l1, fun q hq => ⟨_, _, rfl, ?_⟩⟩
  have g4 := g3.tr (.new g3.sub (o := .lst [v1]) hq)
  have g5 := g4
  -- rows.append
  have hR5 := (g5.old R (by rw [hR]; exact fun z => nomatch z)).1.trans hR
  have h5 := g5.sub _ _ ((upd_ne (ne_of_none (g3.sub _ _ e2) hq)).trans e2)
  refine ⟨_, rfl, .inl ⟨rfl, _, .inl (.inl hR5)⟩, _, rfl, _, rfl, _, rfl, _, rfl, _, rfl, o2, C, dy, _, v2, rfl, h5, cl, na, by simp, l1, fun q2 hq2 => ?_⟩
  have g6 := g5.tr (.new g5.sub (o := .lst [v2]) hq2)
  refine ⟨_, rfl, l1, fun q3 hq3 => ⟨l6, fun t ht => ?_⟩⟩
  have g7 := g6.tr (.new g6.sub (o := .lst [va]) hq3)
  have gz := g7.tr (.new g7.sub (o := .tup [.ref o1, .ref o2, .bl true, .ref q, .ref q2, .ref q3]) ht)
  have hRz := (gz.old R (by rw [hR]; exact fun z => nomatch z)).1.trans hR
  have gRz := (gz.old R (by rw [hR]; exact fun z => nomatch z)).2.trans gR
  refine ⟨R, rs, _, rfl, rfl, hRz, by rw [sizeLine_eq]; omega, mid _ _ ?_⟩
  exact mi_next (da := da) (db := db) g gR hR0 hR rw_ nd fr gz gRz (g1.ex g.sub) (g2.ex g1.sub) (ex_new (ex_none g3.sub hq)) (ex_new (ex_none g5.sub hq2)) (ex_new (ex_none g6.sub hq3)) (ex_new (ex_none g7.sub ht)) k (ds := [da]) (xs := [va]) (ys := [v1]) (zs := [v2]) f1 f4 k1 e1 e2 upd_at upd_at upd_at upd_at
    (.cons (Vd.mono (g2.ex g1.sub) hv1) .nil) (.cons hv2 .nil) (.cons (Vd.mono (g2.ex g1.sub) ea1) .nil) (.inl rfl)
theorem blk2s (k : Ck K C) (na : NoAttr K C fl) (nb : NoAttr K C fm) (nf : fl ≠ fm) (hE : Ex G0 H0) (hva : Vd G0 va da) (hvb : Vd G0 vb db) (hR0 : H0 R = none) (hn : n < 40) (h : MI K va vb da db G0 H0 R n σ H) (mid : ∀ σ' H', MI K va vb da db G0 H0 R (n + 1) σ' H' → D.nx σ' H') :
    tSeq (tTwo K 3 4 (tMake C (spI2 K fl fm) [] E0 (tCons (tVar 0) (tCons (tVar 1) tNil))) (tMakeK C 0 2 (spI2 K fl fm) gSwp E0 tNil (tCons (tVar 1) (tCons (tVar 0) tNil))))
     (tSeq (tTwo K 5 6 (tAndV (tIsC C 3) (tIsC C 4)) (tLst (tCons (tFld K (tVar 3) fl) (tCons (tFld K (tVar 3) fm) tNil))))
       (tDrop (tBM K "list" rAppend (tVar 2) (tCons (tTup (tCons (tVar 3) (tCons (tVar 4) (tCons (tVar 5) (tCons (tVar 6) (tCons (tLst (tCons (tFld K (tVar 4) fl) (tCons (tFld K (tVar 4) fm) tNil))) (tCons (tLst (tCons (tVar 0) (tCons (tVar 1) tNil))) tNil))))))) tNil)))) D σ H := by
  obtain ⟨G, rs, os, y3, y4, y5, y6, rfl, g, gR, hR, rw_, nd, fr, rfl⟩ := h
  have l2 : (2 : Nat) ≤ sizeLine := by decide
  have l6 : (6 : Nat) ≤ sizeLine := by decide
  have l1 : (1 : Nat) ≤ sizeLine := by decide
  have cl := k.ins.cl
  have lk : ∀ {x y : V}, List.lookup fm [(fl, x), (fm, y)] = some y := fun {x y} => by
    rw [List.lookup_cons, (by simpa using Ne.symm nf : (fm == fl) = false)]
    simp
  -- one, two
  have ea := Vd.mono (g.ex hE) hva
  have eb := Vd.mono (g.ex hE) hvb
  refine ⟨_, rfl, _, rfl, fun o1 dx f1 f2 f3 => ⟨o1, C, dx, va, vb, da, db, G, rfl, upd_at, cl, na, nb, madeA g.sub f1 f2 f3, ex_none g.sub f1, ea, eb, fun v1 u1 G1 H1 i1 k1 hv1 hu1 => ⟨rfl, ?_⟩⟩⟩
  obtain ⟨g1, x1⟩ := madeB g.sub f1 f2 i1 k1
  have e1 : (upd G1 o1 (.ins C dx [(fl, v1), (fm, u1)])) o1 = some (.ins C dx [(fl, v1), (fm, u1)]) := upd_at
  replace hv1 := Vd.mono x1 hv1
  replace hu1 := Vd.mono x1 hu1
  generalize hGG : upd G1 o1 (.ins C dx [(fl, v1), (fm, u1)]) = G1' at g1 x1 e1 hv1 hu1
  clear hGG x1 i1
  have ea1 := Vd.mono (g1.ex g.sub) ea
  have eb1 := Vd.mono (g1.ex g.sub) eb
  refine ⟨_, rfl, _, rfl, rfl, rfl, fun o2 dy f4 f5 f6 => ⟨o2, C, dy, va, vb, da, db, G1', rfl, upd_at, cl, na, nb, madeA g1.sub f4 f5 f6, ex_none g1.sub f4, ea1, eb1, fun v2 u2 G2 H2 i2 k2 hv2 hu2 => ⟨rfl, ?_⟩⟩⟩
  obtain ⟨g2, x2⟩ := madeB g1.sub f4 f5 i2 k2
  have e2 : (upd G2 o2 (.ins C dy [(fl, v2), (fm, u2)])) o2 = some (.ins C dy [(fl, v2), (fm, u2)]) := upd_at
  replace hv2 := Vd.mono x2 hv2
  replace hu2 := Vd.mono x2 hu2
  generalize hGG : upd G2 o2 (.ins C dy [(fl, v2), (fm, u2)]) = G2' at g2 x2 e2 hv2 hu2
  clear hGG x2 i2
  refine ⟨_, _, rfl, ?_⟩
  -- kind, first
  have g3 := g1.tr g2
  have h1 : H2 o1 = some (.ins C dx [(fl, v1), (fm, u1)]) := g3.sub _ _ (g2.ex g1.sub _ _ e1)
  have h2 : H2 o2 = some (.ins C dy [(fl, v2), (fm, u2)]) := g3.sub _ _ e2
  refine ⟨_, rfl, o1, dx, _, rfl, h1, true, rfl, ?_⟩
  refine ⟨_, rfl, o2, dy, _, rfl, h2, ?_⟩
  refine ⟨_, rfl, o1, C, dx, _, v1, rfl, h1, cl, na, by simp, _, rfl, o1, C, dx, _, u1, rfl, h1, cl, nb, lk, l2, fun q hq => ⟨_, _, rfl, ?_⟩⟩
  have g4 := g3.tr (.new g3.sub (o := .lst [v1, u1]) hq)
  have g5 := g4
  -- rows.append
  have hR5 := (g5.old R (by rw [hR]; exact fun z => nomatch z)).1.trans hR
  have h5 := g5.sub _ _ ((upd_ne (ne_of_none (g3.sub _ _ e2) hq)).trans e2)
  refine ⟨_, rfl, .inl ⟨rfl, _, .inl (.inl hR5)⟩, _, rfl, _, rfl, _, rfl, _, rfl, _, rfl, o2, C, dy, _, v2, rfl, h5, cl, na, by simp, _, rfl, o2, C, dy, _, u2, rfl, h5, cl, nb, lk, l2, fun q2 hq2 => ?_⟩
  have g6 := g5.tr (.new g5.sub (o := .lst [v2, u2]) hq2)
  refine ⟨_, rfl, _, rfl, l2, fun q3 hq3 => ⟨l6, fun t ht => ?_⟩⟩
  have g7 := g6.tr (.new g6.sub (o := .lst [va, vb]) hq3)
  have gz := g7.tr (.new g7.sub (o := .tup [.ref o1, .ref o2, .bl true, .ref q, .ref q2, .ref q3]) ht)
  have hRz := (gz.old R (by rw [hR]; exact fun z => nomatch z)).1.trans hR
  have gRz := (gz.old R (by rw [hR]; exact fun z => nomatch z)).2.trans gR
  refine ⟨R, rs, _, rfl, rfl, hRz, by rw [sizeLine_eq]; omega, mid _ _ ?_⟩
  exact mi_next (da := da) (db := db) g gR hR0 hR rw_ nd fr gz gRz (g1.ex g.sub) (g2.ex g1.sub) (ex_new (ex_none g3.sub hq)) (ex_new (ex_none g5.sub hq2)) (ex_new (ex_none g6.sub hq3)) (ex_new (ex_none g7.sub ht)) k (ds := [da, db]) (xs := [va, vb]) (ys := [v1, u1]) (zs := [v2, u2]) f1 f4 k1 e1 e2 upd_at upd_at upd_at upd_at
    (.cons (Vd.mono (g2.ex g1.sub) hv1) (.cons (Vd.mono (g2.ex g1.sub) hu1) .nil)) (.cons hv2 (.cons hu2 .nil)) (.cons (Vd.mono (g2.ex g1.sub) ea1) (.cons (Vd.mono (g2.ex g1.sub) eb1) .nil)) (.inr rfl)
end
end K82
namespace K82
open PySem PySem.Spec PyProof.Rows L2 Dt Idn
/-! ### the classes: written by gen82.py -/
structure Bs (K : PySem.W.Frag) (mg : Str → Option Value) : Prop where
  mi : mg "isinstance" = none
  ml : mg "list" = none
  mt : mg "tuple" = none
  mn : mg "int" = none
  me : mg "len" = none
  mr : mg "range" = none
  mp : mg "repr" = none
  cop : ∃ fc fdc, FnP K "copied" sCopied fc fdc ∧ mg "copied" = some (.ref fc)
structure CB (K : PySem.W.Frag) (mg : Str → Option Value) (x q : Str) (st : Stmt) (C f : Addr) (fd : FuncData) : Prop where
  gl : mg x = some (.ref C)
  k : Ck K C
  fn : FnI K q st f fd
  mkr : Mk K C f
def C1 (K : PySem.W.Frag) (mg : Str → Option Value) (x q : Str) (st : Stmt) (fl : Str) : Prop := ∃ C f fd, CB K mg x q st C f fd ∧ NoAttr K C fl
def C2 (K : PySem.W.Frag) (mg : Str → Option Value) (x q : Str) (st : Stmt) (fl fm : Str) : Prop := ∃ C f fd, CB K mg x q st C f fd ∧ NoAttr K C fl ∧ NoAttr K C fm
theorem kbn0 {K : PySem.W.Frag} {x qual : Str} {params : Arguments} {body : List Stmt} {scope : Scope} {f : Addr} {fd : FuncData} {ps : List Str} (F : FunD K x qual params body scope [] [] f fd) (n : Nat) (ks : List Str) (g : List Value → List Value → List Value) (gV : List V → List V → List V)
    (hrel : ∀ {vs zs : List V} {us ws : List Value}, Vals vs us → Vals zs ws → Vals (gV vs zs) (g us ws))
    (h : ∀ (kV doc pm : Value) (an : Option Addr) (cdv ct : Value) (us ws : List Value), us.length = n → ws.length = ks.length → bindArgs (PySem.W.fnOf x qual params body scope .none kV doc pm an cdv ct) ⟨us, ks.zip ws⟩ = pure (ps.zip (g us ws))) : KBn K fd ps n ks g gV := by
  obtain ⟨oc, od, dV, kV, doc, pm, an, cdv, ct, osl, rfl, lk, hcd, hD, hK⟩ := F.ex
  rcases hD with ⟨_, rfl⟩ | ⟨e, _⟩
  · exact ⟨fun s us ws _ l1 l2 => .of_eq (h kV doc pm an cdv ct us ws l1 l2), fun r1 r2 => hrel r1 r2⟩
  · exact absurd rfl e
theorem vals_rev : ∀ {vs : List V} {us : List Value}, Vals vs us → Vals vs.reverse us.reverse
  | _, _, .nil => .nil
  | _, _, .cons r t => by
    rw [List.reverse_cons, List.reverse_cons]
    exact (vals_rev t).append (.cons r .nil)
theorem pss_blk {X : Cx} {s1 s2 s3 : Stmt} {rest : List Stmt} {t1 t2 t3 u : TS} (h1 : PS X s1 t1) (h2 : PS X s2 t2) (h3 : PS X s3 t3) (hr : PSs X rest u) : PSs X (s1 :: s2 :: s3 :: rest) (C8.tCut (tSeq t1 (tSeq t2 t3)) u) := by
  refine ⟨fun pins s σ H D I h => ?_⟩
  obtain ⟨Mid, hm, hu⟩ := h
  refine wpAny_execs_cons (thn (h1.run pins s σ H _ I hm) fun f s1 q => ?_)
  cases f with
  | ret v => exact q
  | brk => exact q
  | cont => exact q
  | next =>
    obtain ⟨σ1, H1, I1, q1⟩ := q
    refine wpAny_execs_cons (thn (h2.run pins s1 σ1 H1 _ I1 q1) fun f s2 q => ?_)
    cases f with
    | ret v => exact q
    | brk => exact q
    | cont => exact q
    | next =>
      obtain ⟨σ2, H2, I2, q2⟩ := q
      refine wpAny_execs_cons (thn (h3.run pins s2 σ2 H2 _ I2 q2) fun f s3 q => ?_)
      cases f with
      | ret v => exact q
      | brk => exact q
      | cont => exact q
      | next =>
        obtain ⟨σ3, H3, I3, q3⟩ := q
        exact hr.run pins s3 σ3 H3 D I3 (hu σ3 H3 q3)
def spMade (K : PySem.W.Frag) (n : Nat) : Sp := fun vs H Q _ => ∃ (va vb : V) (da db : PyData) (G : Hp), vs = [va, vb] ∧ Ex G H ∧ Vd G va da ∧ Vd G vb db ∧
  ∀ (R : Addr) (rs : List V) (os : List Addr) (G' H' : Hp), Gro G H G' H' → G' R = some (.lst rs) → Rws K da db G' rs os → os.Nodup → (∀ o ∈ os, H o = none) → rs.length = n → Q (.ref R) H'
section
variable {P : Program} {w : World} {K : PySem.W.Frag} {mg : Str → Option Value} {base : Heap} {f : Addr} {fd : FuncData}

theorem sc_Solved : FnScope ["self", "row"] ["self", "row"] (defScope (ini 3)) := ⟨rfl, rfl, rfl, by decide +kernel, rfl, by decide +kernel, by decide +kernel⟩
theorem ok_Solved (B : Bs K mg) (F : FnI K "Solved.__init__" (ini 3) f fd) : FnOk P w K mg base CX0 2 f fd ["self", "row"] (spI1 K "row") := by
  obtain ⟨fc, fdc, FC, gc⟩ := B.cop
  refine F.ok sc_Solved (fun vs H Q E h => ?_) (fun cdv A outer s H vs Q E hr h => ⟨_, PSs.nox (pss_one (ps_fld (pv 0) (pe_call (ok_copied FC B.mi B.ml B.mt) hr (by rfl) gc FC.kp (FC.bindsN fun _ _ _ _ _ _ us hl => match us, hl with | [_], _ => rfl) .nil pass0 (pa_cons (pv 1) pa_nil)) (by rfl))), sem1 h⟩)
  obtain ⟨_, _, _, _, _, _, rfl, _⟩ := h
  rfl
theorem sc_Clash : FnScope ["self", "weights"] ["self", "weights"] (defScope (ini 4)) := ⟨rfl, rfl, rfl, by decide +kernel, rfl, by decide +kernel, by decide +kernel⟩
theorem ok_Clash (B : Bs K mg) (F : FnI K "Clash.__init__" (ini 4) f fd) : FnOk P w K mg base CX0 2 f fd ["self", "weights"] (spI1 K "weights") := by
  obtain ⟨fc, fdc, FC, gc⟩ := B.cop
  refine F.ok sc_Clash (fun vs H Q E h => ?_) (fun cdv A outer s H vs Q E hr h => ⟨_, PSs.nox (pss_one (ps_fld (pv 0) (pe_call (ok_copied FC B.mi B.ml B.mt) hr (by rfl) gc FC.kp (FC.bindsN fun _ _ _ _ _ _ us hl => match us, hl with | [_], _ => rfl) .nil pass0 (pa_cons (pv 1) pa_nil)) (by rfl))), sem1 h⟩)
  obtain ⟨_, _, _, _, _, _, rfl, _⟩ := h
  rfl
theorem sc_Filled : FnScope ["self", "rows"] ["self", "rows"] (defScope (ini 6)) := ⟨rfl, rfl, rfl, by decide +kernel, rfl, by decide +kernel, by decide +kernel⟩
theorem ok_Filled (B : Bs K mg) (F : FnI K "Filled.__init__" (ini 6) f fd) : FnOk P w K mg base CX0 2 f fd ["self", "rows"] (spI1 K "rows") := by
  obtain ⟨fc, fdc, FC, gc⟩ := B.cop
  refine F.ok sc_Filled (fun vs H Q E h => ?_) (fun cdv A outer s H vs Q E hr h => ⟨_, PSs.nox (pss_one (ps_fld (pv 0) (pe_call (ok_copied FC B.mi B.ml B.mt) hr (by rfl) gc FC.kp (FC.bindsN fun _ _ _ _ _ _ us hl => match us, hl with | [_], _ => rfl) .nil pass0 (pa_cons (pv 1) pa_nil)) (by rfl))), sem1 h⟩)
  obtain ⟨_, _, _, _, _, _, rfl, _⟩ := h
  rfl
theorem sc_Hole : FnScope ["self", "measure"] ["self", "measure"] (defScope (ini 7)) := ⟨rfl, rfl, rfl, by decide +kernel, rfl, by decide +kernel, by decide +kernel⟩
theorem ok_Hole (B : Bs K mg) (F : FnI K "Hole.__init__" (ini 7) f fd) : FnOk P w K mg base CX0 2 f fd ["self", "measure"] (spI1 K "measure") := by
  obtain ⟨fc, fdc, FC, gc⟩ := B.cop
  refine F.ok sc_Hole (fun vs H Q E h => ?_) (fun cdv A outer s H vs Q E hr h => ⟨_, PSs.nox (pss_one (ps_fld (pv 0) (pe_call (ok_copied FC B.mi B.ml B.mt) hr (by rfl) gc FC.kp (FC.bindsN fun _ _ _ _ _ _ us hl => match us, hl with | [_], _ => rfl) .nil pass0 (pa_cons (pv 1) pa_nil)) (by rfl))), sem1 h⟩)
  obtain ⟨_, _, _, _, _, _, rfl, _⟩ := h
  rfl
theorem sc_Carried : FnScope ["self", "reading"] ["self", "reading"] (defScope (ini 8)) := ⟨rfl, rfl, rfl, by decide +kernel, rfl, by decide +kernel, by decide +kernel⟩
theorem ok_Carried (B : Bs K mg) (F : FnI K "Carried.__init__" (ini 8) f fd) : FnOk P w K mg base CX0 2 f fd ["self", "reading"] (spI1 K "reading") := by
  obtain ⟨fc, fdc, FC, gc⟩ := B.cop
  refine F.ok sc_Carried (fun vs H Q E h => ?_) (fun cdv A outer s H vs Q E hr h => ⟨_, PSs.nox (pss_one (ps_fld (pv 0) (pe_call (ok_copied FC B.mi B.ml B.mt) hr (by rfl) gc FC.kp (FC.bindsN fun _ _ _ _ _ _ us hl => match us, hl with | [_], _ => rfl) .nil pass0 (pa_cons (pv 1) pa_nil)) (by rfl))), sem1 h⟩)
  obtain ⟨_, _, _, _, _, _, rfl, _⟩ := h
  rfl
theorem sc_Barred : FnScope ["self", "measure"] ["self", "measure"] (defScope (ini 9)) := ⟨rfl, rfl, rfl, by decide +kernel, rfl, by decide +kernel, by decide +kernel⟩
theorem ok_Barred (B : Bs K mg) (F : FnI K "Barred.__init__" (ini 9) f fd) : FnOk P w K mg base CX0 2 f fd ["self", "measure"] (spI1 K "measure") := by
  obtain ⟨fc, fdc, FC, gc⟩ := B.cop
  refine F.ok sc_Barred (fun vs H Q E h => ?_) (fun cdv A outer s H vs Q E hr h => ⟨_, PSs.nox (pss_one (ps_fld (pv 0) (pe_call (ok_copied FC B.mi B.ml B.mt) hr (by rfl) gc FC.kp (FC.bindsN fun _ _ _ _ _ _ us hl => match us, hl with | [_], _ => rfl) .nil pass0 (pa_cons (pv 1) pa_nil)) (by rfl))), sem1 h⟩)
  obtain ⟨_, _, _, _, _, _, rfl, _⟩ := h
  rfl
theorem sc_Nearest : FnScope ["self", "reading", "ends"] ["self", "reading", "ends"] (defScope (ini 11)) := ⟨rfl, rfl, rfl, by decide +kernel, rfl, by decide +kernel, by decide +kernel⟩
theorem ok_Nearest (B : Bs K mg) (F : FnI K "Nearest.__init__" (ini 11) f fd) : FnOk P w K mg base CX0 2 f fd ["self", "reading", "ends"] (spI2 K "reading" "ends") := by
  obtain ⟨fc, fdc, FC, gc⟩ := B.cop
  refine F.ok sc_Nearest (fun vs H Q E h => ?_) (fun cdv A outer s H vs Q E hr h => ⟨_, PSs.nox (pss_cons (ps_fld (pv 0) (pe_call (ok_copied FC B.mi B.ml B.mt) hr (by rfl) gc FC.kp (FC.bindsN fun _ _ _ _ _ _ us hl => match us, hl with | [_], _ => rfl) .nil pass0 (pa_cons (pv 1) pa_nil)) (by rfl)) (pss_one (ps_fld (pv 0) (pe_call (ok_copied FC B.mi B.ml B.mt) hr (by rfl) gc FC.kp (FC.bindsN fun _ _ _ _ _ _ us hl => match us, hl with | [_], _ => rfl) .nil pass0 (pa_cons (pv 2) pa_nil)) (by rfl)))), sem2 (by decide) h⟩)
  obtain ⟨_, _, _, _, _, _, _, _, rfl, _⟩ := h
  rfl
theorem sc_Settled : FnScope ["self", "rows"] ["self", "rows"] (defScope (ini 12)) := ⟨rfl, rfl, rfl, by decide +kernel, rfl, by decide +kernel, by decide +kernel⟩
theorem ok_Settled (B : Bs K mg) (F : FnI K "Settled.__init__" (ini 12) f fd) : FnOk P w K mg base CX0 2 f fd ["self", "rows"] (spI1 K "rows") := by
  obtain ⟨fc, fdc, FC, gc⟩ := B.cop
  refine F.ok sc_Settled (fun vs H Q E h => ?_) (fun cdv A outer s H vs Q E hr h => ⟨_, PSs.nox (pss_one (ps_fld (pv 0) (pe_call (ok_copied FC B.mi B.ml B.mt) hr (by rfl) gc FC.kp (FC.bindsN fun _ _ _ _ _ _ us hl => match us, hl with | [_], _ => rfl) .nil pass0 (pa_cons (pv 1) pa_nil)) (by rfl))), sem1 h⟩)
  obtain ⟨_, _, _, _, _, _, rfl, _⟩ := h
  rfl
theorem sc_Sent : FnScope ["self", "ends"] ["self", "ends"] (defScope (ini 14)) := ⟨rfl, rfl, rfl, by decide +kernel, rfl, by decide +kernel, by decide +kernel⟩
theorem ok_Sent (B : Bs K mg) (F : FnI K "Sent.__init__" (ini 14) f fd) : FnOk P w K mg base CX0 2 f fd ["self", "ends"] (spI1 K "ends") := by
  obtain ⟨fc, fdc, FC, gc⟩ := B.cop
  refine F.ok sc_Sent (fun vs H Q E h => ?_) (fun cdv A outer s H vs Q E hr h => ⟨_, PSs.nox (pss_one (ps_fld (pv 0) (pe_call (ok_copied FC B.mi B.ml B.mt) hr (by rfl) gc FC.kp (FC.bindsN fun _ _ _ _ _ _ us hl => match us, hl with | [_], _ => rfl) .nil pass0 (pa_cons (pv 1) pa_nil)) (by rfl))), sem1 h⟩)
  obtain ⟨_, _, _, _, _, _, rfl, _⟩ := h
  rfl
theorem sc_Kept : FnScope ["self", "reading"] ["self", "reading"] (defScope (ini 15)) := ⟨rfl, rfl, rfl, by decide +kernel, rfl, by decide +kernel, by decide +kernel⟩
theorem ok_Kept (B : Bs K mg) (F : FnI K "Kept.__init__" (ini 15) f fd) : FnOk P w K mg base CX0 2 f fd ["self", "reading"] (spI1 K "reading") := by
  obtain ⟨fc, fdc, FC, gc⟩ := B.cop
  refine F.ok sc_Kept (fun vs H Q E h => ?_) (fun cdv A outer s H vs Q E hr h => ⟨_, PSs.nox (pss_one (ps_fld (pv 0) (pe_call (ok_copied FC B.mi B.ml B.mt) hr (by rfl) gc FC.kp (FC.bindsN fun _ _ _ _ _ _ us hl => match us, hl with | [_], _ => rfl) .nil pass0 (pa_cons (pv 1) pa_nil)) (by rfl))), sem1 h⟩)
  obtain ⟨_, _, _, _, _, _, rfl, _⟩ := h
  rfl
theorem sc_Easiest : FnScope ["self", "ends", "heights"] ["self", "ends", "heights"] (defScope (ini 16)) := ⟨rfl, rfl, rfl, by decide +kernel, rfl, by decide +kernel, by decide +kernel⟩
theorem ok_Easiest (B : Bs K mg) (F : FnI K "Easiest.__init__" (ini 16) f fd) : FnOk P w K mg base CX0 2 f fd ["self", "ends", "heights"] (spI2 K "ends" "heights") := by
  obtain ⟨fc, fdc, FC, gc⟩ := B.cop
  refine F.ok sc_Easiest (fun vs H Q E h => ?_) (fun cdv A outer s H vs Q E hr h => ⟨_, PSs.nox (pss_cons (ps_fld (pv 0) (pe_call (ok_copied FC B.mi B.ml B.mt) hr (by rfl) gc FC.kp (FC.bindsN fun _ _ _ _ _ _ us hl => match us, hl with | [_], _ => rfl) .nil pass0 (pa_cons (pv 1) pa_nil)) (by rfl)) (pss_one (ps_fld (pv 0) (pe_call (ok_copied FC B.mi B.ml B.mt) hr (by rfl) gc FC.kp (FC.bindsN fun _ _ _ _ _ _ us hl => match us, hl with | [_], _ => rfl) .nil pass0 (pa_cons (pv 2) pa_nil)) (by rfl)))), sem2 (by decide) h⟩)
  obtain ⟨_, _, _, _, _, _, _, _, rfl, _⟩ := h
  rfl
theorem sc_Bars : FnScope ["self", "bars", "bases"] ["self", "bars", "bases"] (defScope (ini 18)) := ⟨rfl, rfl, rfl, by decide +kernel, rfl, by decide +kernel, by decide +kernel⟩
theorem ok_Bars (B : Bs K mg) (F : FnI K "Bars.__init__" (ini 18) f fd) : FnOk P w K mg base CX0 2 f fd ["self", "bars", "bases"] (spI2 K "bars" "bases") := by
  obtain ⟨fc, fdc, FC, gc⟩ := B.cop
  refine F.ok sc_Bars (fun vs H Q E h => ?_) (fun cdv A outer s H vs Q E hr h => ⟨_, PSs.nox (pss_cons (ps_fld (pv 0) (pe_call (ok_copied FC B.mi B.ml B.mt) hr (by rfl) gc FC.kp (FC.bindsN fun _ _ _ _ _ _ us hl => match us, hl with | [_], _ => rfl) .nil pass0 (pa_cons (pv 1) pa_nil)) (by rfl)) (pss_one (ps_fld (pv 0) (pe_call (ok_copied FC B.mi B.ml B.mt) hr (by rfl) gc FC.kp (FC.bindsN fun _ _ _ _ _ _ us hl => match us, hl with | [_], _ => rfl) .nil pass0 (pa_cons (pv 2) pa_nil)) (by rfl)))), sem2 (by decide) h⟩)
  obtain ⟨_, _, _, _, _, _, _, _, rfl, _⟩ := h
  rfl
theorem sc_Within : FnScope ["self", "weights"] ["self", "weights"] (defScope (ini 20)) := ⟨rfl, rfl, rfl, by decide +kernel, rfl, by decide +kernel, by decide +kernel⟩
theorem ok_Within (B : Bs K mg) (F : FnI K "Within.__init__" (ini 20) f fd) : FnOk P w K mg base CX0 2 f fd ["self", "weights"] (spI1 K "weights") := by
  obtain ⟨fc, fdc, FC, gc⟩ := B.cop
  refine F.ok sc_Within (fun vs H Q E h => ?_) (fun cdv A outer s H vs Q E hr h => ⟨_, PSs.nox (pss_one (ps_fld (pv 0) (pe_call (ok_copied FC B.mi B.ml B.mt) hr (by rfl) gc FC.kp (FC.bindsN fun _ _ _ _ _ _ us hl => match us, hl with | [_], _ => rfl) .nil pass0 (pa_cons (pv 1) pa_nil)) (by rfl))), sem1 h⟩)
  obtain ⟨_, _, _, _, _, _, rfl, _⟩ := h
  rfl
theorem sc_Outside : FnScope ["self", "measure"] ["self", "measure"] (defScope (ini 21)) := ⟨rfl, rfl, rfl, by decide +kernel, rfl, by decide +kernel, by decide +kernel⟩
theorem ok_Outside (B : Bs K mg) (F : FnI K "Outside.__init__" (ini 21) f fd) : FnOk P w K mg base CX0 2 f fd ["self", "measure"] (spI1 K "measure") := by
  obtain ⟨fc, fdc, FC, gc⟩ := B.cop
  refine F.ok sc_Outside (fun vs H Q E h => ?_) (fun cdv A outer s H vs Q E hr h => ⟨_, PSs.nox (pss_one (ps_fld (pv 0) (pe_call (ok_copied FC B.mi B.ml B.mt) hr (by rfl) gc FC.kp (FC.bindsN fun _ _ _ _ _ _ us hl => match us, hl with | [_], _ => rfl) .nil pass0 (pa_cons (pv 1) pa_nil)) (by rfl))), sem1 h⟩)
  obtain ⟨_, _, _, _, _, _, rfl, _⟩ := h
  rfl
theorem sc_Drives : FnScope ["self", "table"] ["self", "table"] (defScope (ini 22)) := ⟨rfl, rfl, rfl, by decide +kernel, rfl, by decide +kernel, by decide +kernel⟩
theorem ok_Drives (B : Bs K mg) (F : FnI K "Drives.__init__" (ini 22) f fd) : FnOk P w K mg base CX0 2 f fd ["self", "table"] (spI1 K "table") := by
  obtain ⟨fc, fdc, FC, gc⟩ := B.cop
  refine F.ok sc_Drives (fun vs H Q E h => ?_) (fun cdv A outer s H vs Q E hr h => ⟨_, PSs.nox (pss_one (ps_fld (pv 0) (pe_call (ok_copied FC B.mi B.ml B.mt) hr (by rfl) gc FC.kp (FC.bindsN fun _ _ _ _ _ _ us hl => match us, hl with | [_], _ => rfl) .nil pass0 (pa_cons (pv 1) pa_nil)) (by rfl))), sem1 h⟩)
  obtain ⟨_, _, _, _, _, _, rfl, _⟩ := h
  rfl
theorem sc_Loose : FnScope ["self", "reading"] ["self", "reading"] (defScope (ini 23)) := ⟨rfl, rfl, rfl, by decide +kernel, rfl, by decide +kernel, by decide +kernel⟩
theorem ok_Loose (B : Bs K mg) (F : FnI K "Loose.__init__" (ini 23) f fd) : FnOk P w K mg base CX0 2 f fd ["self", "reading"] (spI1 K "reading") := by
  obtain ⟨fc, fdc, FC, gc⟩ := B.cop
  refine F.ok sc_Loose (fun vs H Q E h => ?_) (fun cdv A outer s H vs Q E hr h => ⟨_, PSs.nox (pss_one (ps_fld (pv 0) (pe_call (ok_copied FC B.mi B.ml B.mt) hr (by rfl) gc FC.kp (FC.bindsN fun _ _ _ _ _ _ us hl => match us, hl with | [_], _ => rfl) .nil pass0 (pa_cons (pv 1) pa_nil)) (by rfl))), sem1 h⟩)
  obtain ⟨_, _, _, _, _, _, rfl, _⟩ := h
  rfl
theorem sc_Short : FnScope ["self", "measure"] ["self", "measure"] (defScope (ini 24)) := ⟨rfl, rfl, rfl, by decide +kernel, rfl, by decide +kernel, by decide +kernel⟩
theorem ok_Short (B : Bs K mg) (F : FnI K "Short.__init__" (ini 24) f fd) : FnOk P w K mg base CX0 2 f fd ["self", "measure"] (spI1 K "measure") := by
  obtain ⟨fc, fdc, FC, gc⟩ := B.cop
  refine F.ok sc_Short (fun vs H Q E h => ?_) (fun cdv A outer s H vs Q E hr h => ⟨_, PSs.nox (pss_one (ps_fld (pv 0) (pe_call (ok_copied FC B.mi B.ml B.mt) hr (by rfl) gc FC.kp (FC.bindsN fun _ _ _ _ _ _ us hl => match us, hl with | [_], _ => rfl) .nil pass0 (pa_cons (pv 1) pa_nil)) (by rfl))), sem1 h⟩)
  obtain ⟨_, _, _, _, _, _, rfl, _⟩ := h
  rfl
theorem sc_Framed : FnScope ["self", "tables"] ["self", "tables"] (defScope (ini 26)) := ⟨rfl, rfl, rfl, by decide +kernel, rfl, by decide +kernel, by decide +kernel⟩
theorem ok_Framed (B : Bs K mg) (F : FnI K "Framed.__init__" (ini 26) f fd) : FnOk P w K mg base CX0 2 f fd ["self", "tables"] (spI1 K "tables") := by
  obtain ⟨fc, fdc, FC, gc⟩ := B.cop
  refine F.ok sc_Framed (fun vs H Q E h => ?_) (fun cdv A outer s H vs Q E hr h => ⟨_, PSs.nox (pss_one (ps_fld (pv 0) (pe_call (ok_copied FC B.mi B.ml B.mt) hr (by rfl) gc FC.kp (FC.bindsN fun _ _ _ _ _ _ us hl => match us, hl with | [_], _ => rfl) .nil pass0 (pa_cons (pv 1) pa_nil)) (by rfl))), sem1 h⟩)
  obtain ⟨_, _, _, _, _, _, rfl, _⟩ := h
  rfl
theorem sc_Curved : FnScope ["self", "way"] ["self", "way"] (defScope (ini 27)) := ⟨rfl, rfl, rfl, by decide +kernel, rfl, by decide +kernel, by decide +kernel⟩
theorem ok_Curved (B : Bs K mg) (F : FnI K "Curved.__init__" (ini 27) f fd) : FnOk P w K mg base CX0 2 f fd ["self", "way"] (spI1 K "way") := by
  obtain ⟨fc, fdc, FC, gc⟩ := B.cop
  refine F.ok sc_Curved (fun vs H Q E h => ?_) (fun cdv A outer s H vs Q E hr h => ⟨_, PSs.nox (pss_one (ps_fld (pv 0) (pe_call (ok_copied FC B.mi B.ml B.mt) hr (by rfl) gc FC.kp (FC.bindsN fun _ _ _ _ _ _ us hl => match us, hl with | [_], _ => rfl) .nil pass0 (pa_cons (pv 1) pa_nil)) (by rfl))), sem1 h⟩)
  obtain ⟨_, _, _, _, _, _, rfl, _⟩ := h
  rfl
theorem sc_Change : FnScope ["self", "places", "ties"] ["self", "places", "ties"] (defScope (ini 28)) := ⟨rfl, rfl, rfl, by decide +kernel, rfl, by decide +kernel, by decide +kernel⟩
theorem ok_Change (B : Bs K mg) (F : FnI K "Change.__init__" (ini 28) f fd) : FnOk P w K mg base CX0 2 f fd ["self", "places", "ties"] (spI2 K "places" "ties") := by
  obtain ⟨fc, fdc, FC, gc⟩ := B.cop
  refine F.ok sc_Change (fun vs H Q E h => ?_) (fun cdv A outer s H vs Q E hr h => ⟨_, PSs.nox (pss_cons (ps_fld (pv 0) (pe_call (ok_copied FC B.mi B.ml B.mt) hr (by rfl) gc FC.kp (FC.bindsN fun _ _ _ _ _ _ us hl => match us, hl with | [_], _ => rfl) .nil pass0 (pa_cons (pv 1) pa_nil)) (by rfl)) (pss_one (ps_fld (pv 0) (pe_call (ok_copied FC B.mi B.ml B.mt) hr (by rfl) gc FC.kp (FC.bindsN fun _ _ _ _ _ _ us hl => match us, hl with | [_], _ => rfl) .nil pass0 (pa_cons (pv 2) pa_nil)) (by rfl)))), sem2 (by decide) h⟩)
  obtain ⟨_, _, _, _, _, _, _, _, rfl, _⟩ := h
  rfl
theorem sc_Differs : FnScope ["self", "rows"] ["self", "rows"] (defScope (ini 30)) := ⟨rfl, rfl, rfl, by decide +kernel, rfl, by decide +kernel, by decide +kernel⟩
theorem ok_Differs (B : Bs K mg) (F : FnI K "Differs.__init__" (ini 30) f fd) : FnOk P w K mg base CX0 2 f fd ["self", "rows"] (spI1 K "rows") := by
  obtain ⟨fc, fdc, FC, gc⟩ := B.cop
  refine F.ok sc_Differs (fun vs H Q E h => ?_) (fun cdv A outer s H vs Q E hr h => ⟨_, PSs.nox (pss_one (ps_fld (pv 0) (pe_call (ok_copied FC B.mi B.ml B.mt) hr (by rfl) gc FC.kp (FC.bindsN fun _ _ _ _ _ _ us hl => match us, hl with | [_], _ => rfl) .nil pass0 (pa_cons (pv 1) pa_nil)) (by rfl))), sem1 h⟩)
  obtain ⟨_, _, _, _, _, _, rfl, _⟩ := h
  rfl
theorem sc_Standing : FnScope ["self", "measure"] ["self", "measure"] (defScope (ini 31)) := ⟨rfl, rfl, rfl, by decide +kernel, rfl, by decide +kernel, by decide +kernel⟩
theorem ok_Standing (B : Bs K mg) (F : FnI K "Standing.__init__" (ini 31) f fd) : FnOk P w K mg base CX0 2 f fd ["self", "measure"] (spI1 K "measure") := by
  obtain ⟨fc, fdc, FC, gc⟩ := B.cop
  refine F.ok sc_Standing (fun vs H Q E h => ?_) (fun cdv A outer s H vs Q E hr h => ⟨_, PSs.nox (pss_one (ps_fld (pv 0) (pe_call (ok_copied FC B.mi B.ml B.mt) hr (by rfl) gc FC.kp (FC.bindsN fun _ _ _ _ _ _ us hl => match us, hl with | [_], _ => rfl) .nil pass0 (pa_cons (pv 1) pa_nil)) (by rfl))), sem1 h⟩)
  obtain ⟨_, _, _, _, _, _, rfl, _⟩ := h
  rfl
theorem sc_Opened : FnScope ["self", "face"] ["self", "face"] (defScope (ini 32)) := ⟨rfl, rfl, rfl, by decide +kernel, rfl, by decide +kernel, by decide +kernel⟩
theorem ok_Opened (B : Bs K mg) (F : FnI K "Opened.__init__" (ini 32) f fd) : FnOk P w K mg base CX0 2 f fd ["self", "face"] (spI1 K "face") := by
  obtain ⟨fc, fdc, FC, gc⟩ := B.cop
  refine F.ok sc_Opened (fun vs H Q E h => ?_) (fun cdv A outer s H vs Q E hr h => ⟨_, PSs.nox (pss_one (ps_fld (pv 0) (pe_call (ok_copied FC B.mi B.ml B.mt) hr (by rfl) gc FC.kp (FC.bindsN fun _ _ _ _ _ _ us hl => match us, hl with | [_], _ => rfl) .nil pass0 (pa_cons (pv 1) pa_nil)) (by rfl))), sem1 h⟩)
  obtain ⟨_, _, _, _, _, _, rfl, _⟩ := h
  rfl
theorem sc_Few : FnScope ["self", "roots"] ["self", "roots"] (defScope (ini 34)) := ⟨rfl, rfl, rfl, by decide +kernel, rfl, by decide +kernel, by decide +kernel⟩
theorem ok_Few (B : Bs K mg) (F : FnI K "Few.__init__" (ini 34) f fd) : FnOk P w K mg base CX0 2 f fd ["self", "roots"] (spI1 K "roots") := by
  obtain ⟨fc, fdc, FC, gc⟩ := B.cop
  refine F.ok sc_Few (fun vs H Q E h => ?_) (fun cdv A outer s H vs Q E hr h => ⟨_, PSs.nox (pss_one (ps_fld (pv 0) (pe_call (ok_copied FC B.mi B.ml B.mt) hr (by rfl) gc FC.kp (FC.bindsN fun _ _ _ _ _ _ us hl => match us, hl with | [_], _ => rfl) .nil pass0 (pa_cons (pv 1) pa_nil)) (by rfl))), sem1 h⟩)
  obtain ⟨_, _, _, _, _, _, rfl, _⟩ := h
  rfl
theorem sc_Endless : FnScope ["self", "row"] ["self", "row"] (defScope (ini 35)) := ⟨rfl, rfl, rfl, by decide +kernel, rfl, by decide +kernel, by decide +kernel⟩
theorem ok_Endless (B : Bs K mg) (F : FnI K "Endless.__init__" (ini 35) f fd) : FnOk P w K mg base CX0 2 f fd ["self", "row"] (spI1 K "row") := by
  obtain ⟨fc, fdc, FC, gc⟩ := B.cop
  refine F.ok sc_Endless (fun vs H Q E h => ?_) (fun cdv A outer s H vs Q E hr h => ⟨_, PSs.nox (pss_one (ps_fld (pv 0) (pe_call (ok_copied FC B.mi B.ml B.mt) hr (by rfl) gc FC.kp (FC.bindsN fun _ _ _ _ _ _ us hl => match us, hl with | [_], _ => rfl) .nil pass0 (pa_cons (pv 1) pa_nil)) (by rfl))), sem1 h⟩)
  obtain ⟨_, _, _, _, _, _, rfl, _⟩ := h
  rfl
theorem sc_LongRow : FnScope ["self", "widths", "tables"] ["self", "widths", "tables"] (defScope (ini 37)) := ⟨rfl, rfl, rfl, by decide +kernel, rfl, by decide +kernel, by decide +kernel⟩
theorem ok_LongRow (B : Bs K mg) (F : FnI K "LongRow.__init__" (ini 37) f fd) : FnOk P w K mg base CX0 2 f fd ["self", "widths", "tables"] (spI2 K "widths" "tables") := by
  obtain ⟨fc, fdc, FC, gc⟩ := B.cop
  refine F.ok sc_LongRow (fun vs H Q E h => ?_) (fun cdv A outer s H vs Q E hr h => ⟨_, PSs.nox (pss_cons (ps_fld (pv 0) (pe_call (ok_copied FC B.mi B.ml B.mt) hr (by rfl) gc FC.kp (FC.bindsN fun _ _ _ _ _ _ us hl => match us, hl with | [_], _ => rfl) .nil pass0 (pa_cons (pv 1) pa_nil)) (by rfl)) (pss_one (ps_fld (pv 0) (pe_call (ok_copied FC B.mi B.ml B.mt) hr (by rfl) gc FC.kp (FC.bindsN fun _ _ _ _ _ _ us hl => match us, hl with | [_], _ => rfl) .nil pass0 (pa_cons (pv 2) pa_nil)) (by rfl)))), sem2 (by decide) h⟩)
  obtain ⟨_, _, _, _, _, _, _, _, rfl, _⟩ := h
  rfl
theorem sc_Halves : FnScope ["self", "lot"] ["self", "lot"] (defScope (ini 39)) := ⟨rfl, rfl, rfl, by decide +kernel, rfl, by decide +kernel, by decide +kernel⟩
theorem ok_Halves (B : Bs K mg) (F : FnI K "Halves.__init__" (ini 39) f fd) : FnOk P w K mg base CX0 2 f fd ["self", "lot"] (spI1 K "lot") := by
  obtain ⟨fc, fdc, FC, gc⟩ := B.cop
  refine F.ok sc_Halves (fun vs H Q E h => ?_) (fun cdv A outer s H vs Q E hr h => ⟨_, PSs.nox (pss_one (ps_fld (pv 0) (pe_call (ok_copied FC B.mi B.ml B.mt) hr (by rfl) gc FC.kp (FC.bindsN fun _ _ _ _ _ _ us hl => match us, hl with | [_], _ => rfl) .nil pass0 (pa_cons (pv 1) pa_nil)) (by rfl))), sem1 h⟩)
  obtain ⟨_, _, _, _, _, _, rfl, _⟩ := h
  rfl
theorem sc_OddRound : FnScope ["self", "way"] ["self", "way"] (defScope (ini 40)) := ⟨rfl, rfl, rfl, by decide +kernel, rfl, by decide +kernel, by decide +kernel⟩
theorem ok_OddRound (B : Bs K mg) (F : FnI K "OddRound.__init__" (ini 40) f fd) : FnOk P w K mg base CX0 2 f fd ["self", "way"] (spI1 K "way") := by
  obtain ⟨fc, fdc, FC, gc⟩ := B.cop
  refine F.ok sc_OddRound (fun vs H Q E h => ?_) (fun cdv A outer s H vs Q E hr h => ⟨_, PSs.nox (pss_one (ps_fld (pv 0) (pe_call (ok_copied FC B.mi B.ml B.mt) hr (by rfl) gc FC.kp (FC.bindsN fun _ _ _ _ _ _ us hl => match us, hl with | [_], _ => rfl) .nil pass0 (pa_cons (pv 1) pa_nil)) (by rfl))), sem1 h⟩)
  obtain ⟨_, _, _, _, _, _, rfl, _⟩ := h
  rfl
theorem sc_Told : FnScope ["self", "table"] ["self", "table"] (defScope (ini 42)) := ⟨rfl, rfl, rfl, by decide +kernel, rfl, by decide +kernel, by decide +kernel⟩
theorem ok_Told (B : Bs K mg) (F : FnI K "Told.__init__" (ini 42) f fd) : FnOk P w K mg base CX0 2 f fd ["self", "table"] (spI1 K "table") := by
  obtain ⟨fc, fdc, FC, gc⟩ := B.cop
  refine F.ok sc_Told (fun vs H Q E h => ?_) (fun cdv A outer s H vs Q E hr h => ⟨_, PSs.nox (pss_one (ps_fld (pv 0) (pe_call (ok_copied FC B.mi B.ml B.mt) hr (by rfl) gc FC.kp (FC.bindsN fun _ _ _ _ _ _ us hl => match us, hl with | [_], _ => rfl) .nil pass0 (pa_cons (pv 1) pa_nil)) (by rfl))), sem1 h⟩)
  obtain ⟨_, _, _, _, _, _, rfl, _⟩ := h
  rfl
theorem sc_Untold : FnScope ["self", "reading"] ["self", "reading"] (defScope (ini 43)) := ⟨rfl, rfl, rfl, by decide +kernel, rfl, by decide +kernel, by decide +kernel⟩
theorem ok_Untold (B : Bs K mg) (F : FnI K "Untold.__init__" (ini 43) f fd) : FnOk P w K mg base CX0 2 f fd ["self", "reading"] (spI1 K "reading") := by
  obtain ⟨fc, fdc, FC, gc⟩ := B.cop
  refine F.ok sc_Untold (fun vs H Q E h => ?_) (fun cdv A outer s H vs Q E hr h => ⟨_, PSs.nox (pss_one (ps_fld (pv 0) (pe_call (ok_copied FC B.mi B.ml B.mt) hr (by rfl) gc FC.kp (FC.bindsN fun _ _ _ _ _ _ us hl => match us, hl with | [_], _ => rfl) .nil pass0 (pa_cons (pv 1) pa_nil)) (by rfl))), sem1 h⟩)
  obtain ⟨_, _, _, _, _, _, rfl, _⟩ := h
  rfl
theorem sc_Mended : FnScope ["self", "reading", "places"] ["self", "reading", "places"] (defScope (ini 44)) := ⟨rfl, rfl, rfl, by decide +kernel, rfl, by decide +kernel, by decide +kernel⟩
theorem ok_Mended (B : Bs K mg) (F : FnI K "Mended.__init__" (ini 44) f fd) : FnOk P w K mg base CX0 2 f fd ["self", "reading", "places"] (spI2 K "reading" "places") := by
  obtain ⟨fc, fdc, FC, gc⟩ := B.cop
  refine F.ok sc_Mended (fun vs H Q E h => ?_) (fun cdv A outer s H vs Q E hr h => ⟨_, PSs.nox (pss_cons (ps_fld (pv 0) (pe_call (ok_copied FC B.mi B.ml B.mt) hr (by rfl) gc FC.kp (FC.bindsN fun _ _ _ _ _ _ us hl => match us, hl with | [_], _ => rfl) .nil pass0 (pa_cons (pv 1) pa_nil)) (by rfl)) (pss_one (ps_fld (pv 0) (pe_call (ok_copied FC B.mi B.ml B.mt) hr (by rfl) gc FC.kp (FC.bindsN fun _ _ _ _ _ _ us hl => match us, hl with | [_], _ => rfl) .nil pass0 (pa_cons (pv 2) pa_nil)) (by rfl)))), sem2 (by decide) h⟩)
  obtain ⟨_, _, _, _, _, _, _, _, rfl, _⟩ := h
  rfl
end
/-! ### _law_made_a -/
abbrev sMade_a : Stmt := top 49
theorem scMade_a : FnScope ["a", "b", "rows", "one", "two", "kind", "first"] ["a", "b"] (defScope sMade_a) := ⟨rfl, rfl, rfl, by decide +kernel, rfl, by decide +kernel, by decide +kernel⟩
section
variable {P : Program} {w : World} {K : PySem.W.Frag} {mg : Str → Option Value} {base : Heap} {f : Addr} {fd : FuncData}
theorem ok_made_a (B : Bs K mg) (F : FnP K "_law_made_a" sMade_a f fd) (h_Bars : C2 K mg "Bars" "Bars.__init__" (ini 18) "bars" "bases") (h_Within : C1 K mg "Within" "Within.__init__" (ini 20) "weights") (h_Outside : C1 K mg "Outside" "Outside.__init__" (ini 21) "measure") (h_Drives : C1 K mg "Drives" "Drives.__init__" (ini 22) "table") (h_Loose : C1 K mg "Loose" "Loose.__init__" (ini 23) "reading") (h_Short : C1 K mg "Short" "Short.__init__" (ini 24) "measure") (h_Framed : C1 K mg "Framed" "Framed.__init__" (ini 26) "tables") (h_Curved : C1 K mg "Curved" "Curved.__init__" (ini 27) "way") (h_Change : C2 K mg "Change" "Change.__init__" (ini 28) "places" "ties") (h_Sent : C1 K mg "Sent" "Sent.__init__" (ini 14) "ends") (h_Kept : C1 K mg "Kept" "Kept.__init__" (ini 15) "reading") :
    FnOk P w K mg base CX0 4 f fd ["a", "b"] (spMade K 11) := by
  obtain ⟨C_Bars, f_Bars, fd_Bars, B_Bars, na_Bars, nb_Bars⟩ := h_Bars
  obtain ⟨C_Within, f_Within, fd_Within, B_Within, na_Within⟩ := h_Within
  obtain ⟨C_Outside, f_Outside, fd_Outside, B_Outside, na_Outside⟩ := h_Outside
  obtain ⟨C_Drives, f_Drives, fd_Drives, B_Drives, na_Drives⟩ := h_Drives
  obtain ⟨C_Loose, f_Loose, fd_Loose, B_Loose, na_Loose⟩ := h_Loose
  obtain ⟨C_Short, f_Short, fd_Short, B_Short, na_Short⟩ := h_Short
  obtain ⟨C_Framed, f_Framed, fd_Framed, B_Framed, na_Framed⟩ := h_Framed
  obtain ⟨C_Curved, f_Curved, fd_Curved, B_Curved, na_Curved⟩ := h_Curved
  obtain ⟨C_Change, f_Change, fd_Change, B_Change, na_Change, nb_Change⟩ := h_Change
  obtain ⟨C_Sent, f_Sent, fd_Sent, B_Sent, na_Sent⟩ := h_Sent
  obtain ⟨C_Kept, f_Kept, fd_Kept, B_Kept, na_Kept⟩ := h_Kept
  have S := scMade_a
  refine F.ok scMade_a (fun vs H Q E h => ?_) (fun cdv A outer s H vs Q E hr h => ?_)
  · obtain ⟨_, _, _, _, _, rfl, _⟩ := h
    rfl
  · obtain ⟨va, vb, da, db, G, rfl, hE, hva, hvb, q⟩ := h
    refine ⟨_, PSs.nox (pss_cons (ps_set (i := 2) S.nd rfl (.inl rfl) (pe_lst pa_nil))
      (pss_blk (ps_par (i := 3) (j := 4) rfl S.nd rfl rfl (by decide) rfl rfl (pa_cons (pe_make B_Bars.mkr (ok_Bars B B_Bars.fn) hr (by rfl) B_Bars.gl (B_Bars.fn.bindsN fun _ _ _ _ _ _ us hl => match us, hl with | [_, _, _], _ => rfl) .nil pass0 (pa_cons (pv 0) (pa_cons (pv 1) pa_nil))) (pa_cons (pe_makeK0 B_Bars.mkr (ok_Bars B B_Bars.fn) hr (by rfl) B_Bars.gl (kbn0 B_Bars.fn 1 ["bases", "bars"] (fun us ws => us ++ ws.reverse) gSwp (fun r1 r2 => r1.append (vals_rev r2)) fun _ _ _ _ _ _ us ws l1 l2 => match us, ws, l1, l2 with | [_], [_, _], _, _ => rfl) pass0 (pk_cons (pv 1) (pk_cons (pv 0) pk_nil))) pa_nil)) rfl)
      (ps_par (i := 5) (j := 6) rfl S.nd rfl rfl (by decide) rfl rfl (pa_cons (pe_and (pe_callB (C8.call_isC B_Bars.k.ins) (by rfl) B.mi boot_isi (pa_cons (pv 3) (pa_cons (pe_glob (v := .ref C_Bars) (by rfl) B_Bars.gl rfl) pa_nil))) (pe_one (pe_callB (C8.call_isC B_Bars.k.ins) (by rfl) B.mi boot_isi (pa_cons (pv 4) (pa_cons (pe_glob (v := .ref C_Bars) (by rfl) B_Bars.gl rfl) pa_nil))))) (pa_cons (pe_lst (pa_cons (pe_fld (pv 3) (by rfl)) (pa_cons (pe_fld (pv 3) (by rfl)) (pa_nil)))) pa_nil)) rfl)
      (ps_expr (pe_bm PySem.F.plainAttrs_list PySem.F.slot_list_append PySem.F.type_list_append mt_append (pv 2) (pa_cons (pe_tup (pa_cons (pv 3) (pa_cons (pv 4) (pa_cons (pv 5) (pa_cons (pv 6) (pa_cons (pe_lst (pa_cons (pe_fld (pv 4) (by rfl)) (pa_cons (pe_fld (pv 4) (by rfl)) (pa_nil)))) (pa_cons (pe_lst (pa_cons (pv 0) (pa_cons (pv 1) pa_nil))) pa_nil))))))) pa_nil)))
      (pss_blk (ps_par (i := 3) (j := 4) rfl S.nd rfl rfl (by decide) rfl rfl (pa_cons (pe_make B_Within.mkr (ok_Within B B_Within.fn) hr (by rfl) B_Within.gl (B_Within.fn.bindsN fun _ _ _ _ _ _ us hl => match us, hl with | [_, _], _ => rfl) .nil pass0 (pa_cons (pv 0) pa_nil)) (pa_cons (pe_makeK0 B_Within.mkr (ok_Within B B_Within.fn) hr (by rfl) B_Within.gl (kbn0 B_Within.fn 1 ["weights"] (fun us ws => us ++ ws) gCat (fun r1 r2 => r1.append r2) fun _ _ _ _ _ _ us ws l1 l2 => match us, ws, l1, l2 with | [_], [_], _, _ => rfl) pass0 (pk_cons (pv 0) pk_nil)) pa_nil)) rfl)
      (ps_par (i := 5) (j := 6) rfl S.nd rfl rfl (by decide) rfl rfl (pa_cons (pe_and (pe_callB (C8.call_isC B_Within.k.ins) (by rfl) B.mi boot_isi (pa_cons (pv 3) (pa_cons (pe_glob (v := .ref C_Within) (by rfl) B_Within.gl rfl) pa_nil))) (pe_one (pe_callB (C8.call_isC B_Within.k.ins) (by rfl) B.mi boot_isi (pa_cons (pv 4) (pa_cons (pe_glob (v := .ref C_Within) (by rfl) B_Within.gl rfl) pa_nil))))) (pa_cons (pe_lst (pa_cons (pe_fld (pv 3) (by rfl)) (pa_nil))) pa_nil)) rfl)
      (ps_expr (pe_bm PySem.F.plainAttrs_list PySem.F.slot_list_append PySem.F.type_list_append mt_append (pv 2) (pa_cons (pe_tup (pa_cons (pv 3) (pa_cons (pv 4) (pa_cons (pv 5) (pa_cons (pv 6) (pa_cons (pe_lst (pa_cons (pe_fld (pv 4) (by rfl)) (pa_nil))) (pa_cons (pe_lst (pa_cons (pv 0) pa_nil)) pa_nil))))))) pa_nil)))
      (pss_blk (ps_par (i := 3) (j := 4) rfl S.nd rfl rfl (by decide) rfl rfl (pa_cons (pe_make B_Outside.mkr (ok_Outside B B_Outside.fn) hr (by rfl) B_Outside.gl (B_Outside.fn.bindsN fun _ _ _ _ _ _ us hl => match us, hl with | [_, _], _ => rfl) .nil pass0 (pa_cons (pv 0) pa_nil)) (pa_cons (pe_makeK0 B_Outside.mkr (ok_Outside B B_Outside.fn) hr (by rfl) B_Outside.gl (kbn0 B_Outside.fn 1 ["measure"] (fun us ws => us ++ ws) gCat (fun r1 r2 => r1.append r2) fun _ _ _ _ _ _ us ws l1 l2 => match us, ws, l1, l2 with | [_], [_], _, _ => rfl) pass0 (pk_cons (pv 0) pk_nil)) pa_nil)) rfl)
      (ps_par (i := 5) (j := 6) rfl S.nd rfl rfl (by decide) rfl rfl (pa_cons (pe_and (pe_callB (C8.call_isC B_Outside.k.ins) (by rfl) B.mi boot_isi (pa_cons (pv 3) (pa_cons (pe_glob (v := .ref C_Outside) (by rfl) B_Outside.gl rfl) pa_nil))) (pe_one (pe_callB (C8.call_isC B_Outside.k.ins) (by rfl) B.mi boot_isi (pa_cons (pv 4) (pa_cons (pe_glob (v := .ref C_Outside) (by rfl) B_Outside.gl rfl) pa_nil))))) (pa_cons (pe_lst (pa_cons (pe_fld (pv 3) (by rfl)) (pa_nil))) pa_nil)) rfl)
      (ps_expr (pe_bm PySem.F.plainAttrs_list PySem.F.slot_list_append PySem.F.type_list_append mt_append (pv 2) (pa_cons (pe_tup (pa_cons (pv 3) (pa_cons (pv 4) (pa_cons (pv 5) (pa_cons (pv 6) (pa_cons (pe_lst (pa_cons (pe_fld (pv 4) (by rfl)) (pa_nil))) (pa_cons (pe_lst (pa_cons (pv 0) pa_nil)) pa_nil))))))) pa_nil)))
      (pss_blk (ps_par (i := 3) (j := 4) rfl S.nd rfl rfl (by decide) rfl rfl (pa_cons (pe_make B_Drives.mkr (ok_Drives B B_Drives.fn) hr (by rfl) B_Drives.gl (B_Drives.fn.bindsN fun _ _ _ _ _ _ us hl => match us, hl with | [_, _], _ => rfl) .nil pass0 (pa_cons (pv 0) pa_nil)) (pa_cons (pe_makeK0 B_Drives.mkr (ok_Drives B B_Drives.fn) hr (by rfl) B_Drives.gl (kbn0 B_Drives.fn 1 ["table"] (fun us ws => us ++ ws) gCat (fun r1 r2 => r1.append r2) fun _ _ _ _ _ _ us ws l1 l2 => match us, ws, l1, l2 with | [_], [_], _, _ => rfl) pass0 (pk_cons (pv 0) pk_nil)) pa_nil)) rfl)
      (ps_par (i := 5) (j := 6) rfl S.nd rfl rfl (by decide) rfl rfl (pa_cons (pe_and (pe_callB (C8.call_isC B_Drives.k.ins) (by rfl) B.mi boot_isi (pa_cons (pv 3) (pa_cons (pe_glob (v := .ref C_Drives) (by rfl) B_Drives.gl rfl) pa_nil))) (pe_one (pe_callB (C8.call_isC B_Drives.k.ins) (by rfl) B.mi boot_isi (pa_cons (pv 4) (pa_cons (pe_glob (v := .ref C_Drives) (by rfl) B_Drives.gl rfl) pa_nil))))) (pa_cons (pe_lst (pa_cons (pe_fld (pv 3) (by rfl)) (pa_nil))) pa_nil)) rfl)
      (ps_expr (pe_bm PySem.F.plainAttrs_list PySem.F.slot_list_append PySem.F.type_list_append mt_append (pv 2) (pa_cons (pe_tup (pa_cons (pv 3) (pa_cons (pv 4) (pa_cons (pv 5) (pa_cons (pv 6) (pa_cons (pe_lst (pa_cons (pe_fld (pv 4) (by rfl)) (pa_nil))) (pa_cons (pe_lst (pa_cons (pv 0) pa_nil)) pa_nil))))))) pa_nil)))
      (pss_blk (ps_par (i := 3) (j := 4) rfl S.nd rfl rfl (by decide) rfl rfl (pa_cons (pe_make B_Loose.mkr (ok_Loose B B_Loose.fn) hr (by rfl) B_Loose.gl (B_Loose.fn.bindsN fun _ _ _ _ _ _ us hl => match us, hl with | [_, _], _ => rfl) .nil pass0 (pa_cons (pv 0) pa_nil)) (pa_cons (pe_makeK0 B_Loose.mkr (ok_Loose B B_Loose.fn) hr (by rfl) B_Loose.gl (kbn0 B_Loose.fn 1 ["reading"] (fun us ws => us ++ ws) gCat (fun r1 r2 => r1.append r2) fun _ _ _ _ _ _ us ws l1 l2 => match us, ws, l1, l2 with | [_], [_], _, _ => rfl) pass0 (pk_cons (pv 0) pk_nil)) pa_nil)) rfl)
      (ps_par (i := 5) (j := 6) rfl S.nd rfl rfl (by decide) rfl rfl (pa_cons (pe_and (pe_callB (C8.call_isC B_Loose.k.ins) (by rfl) B.mi boot_isi (pa_cons (pv 3) (pa_cons (pe_glob (v := .ref C_Loose) (by rfl) B_Loose.gl rfl) pa_nil))) (pe_one (pe_callB (C8.call_isC B_Loose.k.ins) (by rfl) B.mi boot_isi (pa_cons (pv 4) (pa_cons (pe_glob (v := .ref C_Loose) (by rfl) B_Loose.gl rfl) pa_nil))))) (pa_cons (pe_lst (pa_cons (pe_fld (pv 3) (by rfl)) (pa_nil))) pa_nil)) rfl)
      (ps_expr (pe_bm PySem.F.plainAttrs_list PySem.F.slot_list_append PySem.F.type_list_append mt_append (pv 2) (pa_cons (pe_tup (pa_cons (pv 3) (pa_cons (pv 4) (pa_cons (pv 5) (pa_cons (pv 6) (pa_cons (pe_lst (pa_cons (pe_fld (pv 4) (by rfl)) (pa_nil))) (pa_cons (pe_lst (pa_cons (pv 0) pa_nil)) pa_nil))))))) pa_nil)))
      (pss_blk (ps_par (i := 3) (j := 4) rfl S.nd rfl rfl (by decide) rfl rfl (pa_cons (pe_make B_Short.mkr (ok_Short B B_Short.fn) hr (by rfl) B_Short.gl (B_Short.fn.bindsN fun _ _ _ _ _ _ us hl => match us, hl with | [_, _], _ => rfl) .nil pass0 (pa_cons (pv 0) pa_nil)) (pa_cons (pe_makeK0 B_Short.mkr (ok_Short B B_Short.fn) hr (by rfl) B_Short.gl (kbn0 B_Short.fn 1 ["measure"] (fun us ws => us ++ ws) gCat (fun r1 r2 => r1.append r2) fun _ _ _ _ _ _ us ws l1 l2 => match us, ws, l1, l2 with | [_], [_], _, _ => rfl) pass0 (pk_cons (pv 0) pk_nil)) pa_nil)) rfl)
      (ps_par (i := 5) (j := 6) rfl S.nd rfl rfl (by decide) rfl rfl (pa_cons (pe_and (pe_callB (C8.call_isC B_Short.k.ins) (by rfl) B.mi boot_isi (pa_cons (pv 3) (pa_cons (pe_glob (v := .ref C_Short) (by rfl) B_Short.gl rfl) pa_nil))) (pe_one (pe_callB (C8.call_isC B_Short.k.ins) (by rfl) B.mi boot_isi (pa_cons (pv 4) (pa_cons (pe_glob (v := .ref C_Short) (by rfl) B_Short.gl rfl) pa_nil))))) (pa_cons (pe_lst (pa_cons (pe_fld (pv 3) (by rfl)) (pa_nil))) pa_nil)) rfl)
      (ps_expr (pe_bm PySem.F.plainAttrs_list PySem.F.slot_list_append PySem.F.type_list_append mt_append (pv 2) (pa_cons (pe_tup (pa_cons (pv 3) (pa_cons (pv 4) (pa_cons (pv 5) (pa_cons (pv 6) (pa_cons (pe_lst (pa_cons (pe_fld (pv 4) (by rfl)) (pa_nil))) (pa_cons (pe_lst (pa_cons (pv 0) pa_nil)) pa_nil))))))) pa_nil)))
      (pss_blk (ps_par (i := 3) (j := 4) rfl S.nd rfl rfl (by decide) rfl rfl (pa_cons (pe_make B_Framed.mkr (ok_Framed B B_Framed.fn) hr (by rfl) B_Framed.gl (B_Framed.fn.bindsN fun _ _ _ _ _ _ us hl => match us, hl with | [_, _], _ => rfl) .nil pass0 (pa_cons (pv 0) pa_nil)) (pa_cons (pe_makeK0 B_Framed.mkr (ok_Framed B B_Framed.fn) hr (by rfl) B_Framed.gl (kbn0 B_Framed.fn 1 ["tables"] (fun us ws => us ++ ws) gCat (fun r1 r2 => r1.append r2) fun _ _ _ _ _ _ us ws l1 l2 => match us, ws, l1, l2 with | [_], [_], _, _ => rfl) pass0 (pk_cons (pv 0) pk_nil)) pa_nil)) rfl)
      (ps_par (i := 5) (j := 6) rfl S.nd rfl rfl (by decide) rfl rfl (pa_cons (pe_and (pe_callB (C8.call_isC B_Framed.k.ins) (by rfl) B.mi boot_isi (pa_cons (pv 3) (pa_cons (pe_glob (v := .ref C_Framed) (by rfl) B_Framed.gl rfl) pa_nil))) (pe_one (pe_callB (C8.call_isC B_Framed.k.ins) (by rfl) B.mi boot_isi (pa_cons (pv 4) (pa_cons (pe_glob (v := .ref C_Framed) (by rfl) B_Framed.gl rfl) pa_nil))))) (pa_cons (pe_lst (pa_cons (pe_fld (pv 3) (by rfl)) (pa_nil))) pa_nil)) rfl)
      (ps_expr (pe_bm PySem.F.plainAttrs_list PySem.F.slot_list_append PySem.F.type_list_append mt_append (pv 2) (pa_cons (pe_tup (pa_cons (pv 3) (pa_cons (pv 4) (pa_cons (pv 5) (pa_cons (pv 6) (pa_cons (pe_lst (pa_cons (pe_fld (pv 4) (by rfl)) (pa_nil))) (pa_cons (pe_lst (pa_cons (pv 0) pa_nil)) pa_nil))))))) pa_nil)))
      (pss_blk (ps_par (i := 3) (j := 4) rfl S.nd rfl rfl (by decide) rfl rfl (pa_cons (pe_make B_Curved.mkr (ok_Curved B B_Curved.fn) hr (by rfl) B_Curved.gl (B_Curved.fn.bindsN fun _ _ _ _ _ _ us hl => match us, hl with | [_, _], _ => rfl) .nil pass0 (pa_cons (pv 0) pa_nil)) (pa_cons (pe_makeK0 B_Curved.mkr (ok_Curved B B_Curved.fn) hr (by rfl) B_Curved.gl (kbn0 B_Curved.fn 1 ["way"] (fun us ws => us ++ ws) gCat (fun r1 r2 => r1.append r2) fun _ _ _ _ _ _ us ws l1 l2 => match us, ws, l1, l2 with | [_], [_], _, _ => rfl) pass0 (pk_cons (pv 0) pk_nil)) pa_nil)) rfl)
      (ps_par (i := 5) (j := 6) rfl S.nd rfl rfl (by decide) rfl rfl (pa_cons (pe_and (pe_callB (C8.call_isC B_Curved.k.ins) (by rfl) B.mi boot_isi (pa_cons (pv 3) (pa_cons (pe_glob (v := .ref C_Curved) (by rfl) B_Curved.gl rfl) pa_nil))) (pe_one (pe_callB (C8.call_isC B_Curved.k.ins) (by rfl) B.mi boot_isi (pa_cons (pv 4) (pa_cons (pe_glob (v := .ref C_Curved) (by rfl) B_Curved.gl rfl) pa_nil))))) (pa_cons (pe_lst (pa_cons (pe_fld (pv 3) (by rfl)) (pa_nil))) pa_nil)) rfl)
      (ps_expr (pe_bm PySem.F.plainAttrs_list PySem.F.slot_list_append PySem.F.type_list_append mt_append (pv 2) (pa_cons (pe_tup (pa_cons (pv 3) (pa_cons (pv 4) (pa_cons (pv 5) (pa_cons (pv 6) (pa_cons (pe_lst (pa_cons (pe_fld (pv 4) (by rfl)) (pa_nil))) (pa_cons (pe_lst (pa_cons (pv 0) pa_nil)) pa_nil))))))) pa_nil)))
      (pss_blk (ps_par (i := 3) (j := 4) rfl S.nd rfl rfl (by decide) rfl rfl (pa_cons (pe_make B_Change.mkr (ok_Change B B_Change.fn) hr (by rfl) B_Change.gl (B_Change.fn.bindsN fun _ _ _ _ _ _ us hl => match us, hl with | [_, _, _], _ => rfl) .nil pass0 (pa_cons (pv 0) (pa_cons (pv 1) pa_nil))) (pa_cons (pe_makeK0 B_Change.mkr (ok_Change B B_Change.fn) hr (by rfl) B_Change.gl (kbn0 B_Change.fn 1 ["ties", "places"] (fun us ws => us ++ ws.reverse) gSwp (fun r1 r2 => r1.append (vals_rev r2)) fun _ _ _ _ _ _ us ws l1 l2 => match us, ws, l1, l2 with | [_], [_, _], _, _ => rfl) pass0 (pk_cons (pv 1) (pk_cons (pv 0) pk_nil))) pa_nil)) rfl)
      (ps_par (i := 5) (j := 6) rfl S.nd rfl rfl (by decide) rfl rfl (pa_cons (pe_and (pe_callB (C8.call_isC B_Change.k.ins) (by rfl) B.mi boot_isi (pa_cons (pv 3) (pa_cons (pe_glob (v := .ref C_Change) (by rfl) B_Change.gl rfl) pa_nil))) (pe_one (pe_callB (C8.call_isC B_Change.k.ins) (by rfl) B.mi boot_isi (pa_cons (pv 4) (pa_cons (pe_glob (v := .ref C_Change) (by rfl) B_Change.gl rfl) pa_nil))))) (pa_cons (pe_lst (pa_cons (pe_fld (pv 3) (by rfl)) (pa_cons (pe_fld (pv 3) (by rfl)) (pa_nil)))) pa_nil)) rfl)
      (ps_expr (pe_bm PySem.F.plainAttrs_list PySem.F.slot_list_append PySem.F.type_list_append mt_append (pv 2) (pa_cons (pe_tup (pa_cons (pv 3) (pa_cons (pv 4) (pa_cons (pv 5) (pa_cons (pv 6) (pa_cons (pe_lst (pa_cons (pe_fld (pv 4) (by rfl)) (pa_cons (pe_fld (pv 4) (by rfl)) (pa_nil)))) (pa_cons (pe_lst (pa_cons (pv 0) (pa_cons (pv 1) pa_nil))) pa_nil))))))) pa_nil)))
      (pss_blk (ps_par (i := 3) (j := 4) rfl S.nd rfl rfl (by decide) rfl rfl (pa_cons (pe_make B_Sent.mkr (ok_Sent B B_Sent.fn) hr (by rfl) B_Sent.gl (B_Sent.fn.bindsN fun _ _ _ _ _ _ us hl => match us, hl with | [_, _], _ => rfl) .nil pass0 (pa_cons (pv 0) pa_nil)) (pa_cons (pe_makeK0 B_Sent.mkr (ok_Sent B B_Sent.fn) hr (by rfl) B_Sent.gl (kbn0 B_Sent.fn 1 ["ends"] (fun us ws => us ++ ws) gCat (fun r1 r2 => r1.append r2) fun _ _ _ _ _ _ us ws l1 l2 => match us, ws, l1, l2 with | [_], [_], _, _ => rfl) pass0 (pk_cons (pv 0) pk_nil)) pa_nil)) rfl)
      (ps_par (i := 5) (j := 6) rfl S.nd rfl rfl (by decide) rfl rfl (pa_cons (pe_and (pe_callB (C8.call_isC B_Sent.k.ins) (by rfl) B.mi boot_isi (pa_cons (pv 3) (pa_cons (pe_glob (v := .ref C_Sent) (by rfl) B_Sent.gl rfl) pa_nil))) (pe_one (pe_callB (C8.call_isC B_Sent.k.ins) (by rfl) B.mi boot_isi (pa_cons (pv 4) (pa_cons (pe_glob (v := .ref C_Sent) (by rfl) B_Sent.gl rfl) pa_nil))))) (pa_cons (pe_lst (pa_cons (pe_fld (pv 3) (by rfl)) (pa_nil))) pa_nil)) rfl)
      (ps_expr (pe_bm PySem.F.plainAttrs_list PySem.F.slot_list_append PySem.F.type_list_append mt_append (pv 2) (pa_cons (pe_tup (pa_cons (pv 3) (pa_cons (pv 4) (pa_cons (pv 5) (pa_cons (pv 6) (pa_cons (pe_lst (pa_cons (pe_fld (pv 4) (by rfl)) (pa_nil))) (pa_cons (pe_lst (pa_cons (pv 0) pa_nil)) pa_nil))))))) pa_nil)))
      (pss_blk (ps_par (i := 3) (j := 4) rfl S.nd rfl rfl (by decide) rfl rfl (pa_cons (pe_make B_Kept.mkr (ok_Kept B B_Kept.fn) hr (by rfl) B_Kept.gl (B_Kept.fn.bindsN fun _ _ _ _ _ _ us hl => match us, hl with | [_, _], _ => rfl) .nil pass0 (pa_cons (pv 0) pa_nil)) (pa_cons (pe_makeK0 B_Kept.mkr (ok_Kept B B_Kept.fn) hr (by rfl) B_Kept.gl (kbn0 B_Kept.fn 1 ["reading"] (fun us ws => us ++ ws) gCat (fun r1 r2 => r1.append r2) fun _ _ _ _ _ _ us ws l1 l2 => match us, ws, l1, l2 with | [_], [_], _, _ => rfl) pass0 (pk_cons (pv 0) pk_nil)) pa_nil)) rfl)
      (ps_par (i := 5) (j := 6) rfl S.nd rfl rfl (by decide) rfl rfl (pa_cons (pe_and (pe_callB (C8.call_isC B_Kept.k.ins) (by rfl) B.mi boot_isi (pa_cons (pv 3) (pa_cons (pe_glob (v := .ref C_Kept) (by rfl) B_Kept.gl rfl) pa_nil))) (pe_one (pe_callB (C8.call_isC B_Kept.k.ins) (by rfl) B.mi boot_isi (pa_cons (pv 4) (pa_cons (pe_glob (v := .ref C_Kept) (by rfl) B_Kept.gl rfl) pa_nil))))) (pa_cons (pe_lst (pa_cons (pe_fld (pv 3) (by rfl)) (pa_nil))) pa_nil)) rfl)
      (ps_expr (pe_bm PySem.F.plainAttrs_list PySem.F.slot_list_append PySem.F.type_list_append mt_append (pv 2) (pa_cons (pe_tup (pa_cons (pv 3) (pa_cons (pv 4) (pa_cons (pv 5) (pa_cons (pv 6) (pa_cons (pe_lst (pa_cons (pe_fld (pv 4) (by rfl)) (pa_nil))) (pa_cons (pe_lst (pa_cons (pv 0) pa_nil)) pa_nil))))))) pa_nil)))
      (pss_one (ps_ret (pv 2))))))))))))))), ?_⟩
    refine ⟨Nat.zero_le _, fun R hR => ?_⟩
    have start : MI K va vb da db G H R 0 [some va, some vb, some (.ref R), none, none, none, none] (upd H R (.lst [])) := ⟨G, [], [], none, none, none, none, rfl, .lay hE hR, ex_none hE hR, upd_at, .nil, .nil, (by simp), rfl⟩

    refine ⟨MI K va vb da db G H R 1, blk2s B_Bars.k na_Bars nb_Bars (by decide) hE hva hvb hR (by decide) start (fun _ _ z => z), fun σ1 H1 start => ?_⟩
    refine ⟨MI K va vb da db G H R 2, blk1s B_Within.k na_Within hE hva hvb hR (by decide) start (fun _ _ z => z), fun σ1 H1 start => ?_⟩
    refine ⟨MI K va vb da db G H R 3, blk1s B_Outside.k na_Outside hE hva hvb hR (by decide) start (fun _ _ z => z), fun σ1 H1 start => ?_⟩
    refine ⟨MI K va vb da db G H R 4, blk1s B_Drives.k na_Drives hE hva hvb hR (by decide) start (fun _ _ z => z), fun σ1 H1 start => ?_⟩
    refine ⟨MI K va vb da db G H R 5, blk1s B_Loose.k na_Loose hE hva hvb hR (by decide) start (fun _ _ z => z), fun σ1 H1 start => ?_⟩
    refine ⟨MI K va vb da db G H R 6, blk1s B_Short.k na_Short hE hva hvb hR (by decide) start (fun _ _ z => z), fun σ1 H1 start => ?_⟩
    refine ⟨MI K va vb da db G H R 7, blk1s B_Framed.k na_Framed hE hva hvb hR (by decide) start (fun _ _ z => z), fun σ1 H1 start => ?_⟩
    refine ⟨MI K va vb da db G H R 8, blk1s B_Curved.k na_Curved hE hva hvb hR (by decide) start (fun _ _ z => z), fun σ1 H1 start => ?_⟩
    refine ⟨MI K va vb da db G H R 9, blk2s B_Change.k na_Change nb_Change (by decide) hE hva hvb hR (by decide) start (fun _ _ z => z), fun σ1 H1 start => ?_⟩
    refine ⟨MI K va vb da db G H R 10, blk1s B_Sent.k na_Sent hE hva hvb hR (by decide) start (fun _ _ z => z), fun σ1 H1 start => ?_⟩
    refine ⟨MI K va vb da db G H R 11, blk1s B_Kept.k na_Kept hE hva hvb hR (by decide) start (fun _ _ z => z), fun σ1 H1 start => ?_⟩
    obtain ⟨G', rs, os, y3, y4, y5, y6, rfl, g, gR, hR', rw_, nd, fr, hn⟩ := start
    refine ⟨_, rfl, q R rs os (upd G' R (.lst rs)) _ ⟨fun b hb => ?_, ex_fix' g.sub hR'⟩ upd_at (rw_.mono (ex_new gR)) nd fr hn⟩
    have bR : b ≠ R := fun z => hb (by rw [z]; exact hR)
    exact ⟨(g.old b hb).1, (upd_ne bR).trans (g.old b hb).2⟩
end
/-! ### _law_made_b -/
abbrev sMade_b : Stmt := top 50
theorem scMade_b : FnScope ["a", "b", "rows", "one", "two", "kind", "first"] ["a", "b"] (defScope sMade_b) := ⟨rfl, rfl, rfl, by decide +kernel, rfl, by decide +kernel, by decide +kernel⟩
section
variable {P : Program} {w : World} {K : PySem.W.Frag} {mg : Str → Option Value} {base : Heap} {f : Addr} {fd : FuncData}
theorem ok_made_b (B : Bs K mg) (F : FnP K "_law_made_b" sMade_b f fd) (h_Easiest : C2 K mg "Easiest" "Easiest.__init__" (ini 16) "ends" "heights") (h_Differs : C1 K mg "Differs" "Differs.__init__" (ini 30) "rows") (h_Standing : C1 K mg "Standing" "Standing.__init__" (ini 31) "measure") (h_Opened : C1 K mg "Opened" "Opened.__init__" (ini 32) "face") (h_Few : C1 K mg "Few" "Few.__init__" (ini 34) "roots") (h_Endless : C1 K mg "Endless" "Endless.__init__" (ini 35) "row") (h_LongRow : C2 K mg "LongRow" "LongRow.__init__" (ini 37) "widths" "tables") (h_Nearest : C2 K mg "Nearest" "Nearest.__init__" (ini 11) "reading" "ends") (h_Settled : C1 K mg "Settled" "Settled.__init__" (ini 12) "rows") (h_Solved : C1 K mg "Solved" "Solved.__init__" (ini 3) "row") (h_Clash : C1 K mg "Clash" "Clash.__init__" (ini 4) "weights") :
    FnOk P w K mg base CX0 4 f fd ["a", "b"] (spMade K 11) := by
  obtain ⟨C_Easiest, f_Easiest, fd_Easiest, B_Easiest, na_Easiest, nb_Easiest⟩ := h_Easiest
  obtain ⟨C_Differs, f_Differs, fd_Differs, B_Differs, na_Differs⟩ := h_Differs
  obtain ⟨C_Standing, f_Standing, fd_Standing, B_Standing, na_Standing⟩ := h_Standing
  obtain ⟨C_Opened, f_Opened, fd_Opened, B_Opened, na_Opened⟩ := h_Opened
  obtain ⟨C_Few, f_Few, fd_Few, B_Few, na_Few⟩ := h_Few
  obtain ⟨C_Endless, f_Endless, fd_Endless, B_Endless, na_Endless⟩ := h_Endless
  obtain ⟨C_LongRow, f_LongRow, fd_LongRow, B_LongRow, na_LongRow, nb_LongRow⟩ := h_LongRow
  obtain ⟨C_Nearest, f_Nearest, fd_Nearest, B_Nearest, na_Nearest, nb_Nearest⟩ := h_Nearest
  obtain ⟨C_Settled, f_Settled, fd_Settled, B_Settled, na_Settled⟩ := h_Settled
  obtain ⟨C_Solved, f_Solved, fd_Solved, B_Solved, na_Solved⟩ := h_Solved
  obtain ⟨C_Clash, f_Clash, fd_Clash, B_Clash, na_Clash⟩ := h_Clash
  have S := scMade_b
  refine F.ok scMade_b (fun vs H Q E h => ?_) (fun cdv A outer s H vs Q E hr h => ?_)
  · obtain ⟨_, _, _, _, _, rfl, _⟩ := h
    rfl
  · obtain ⟨va, vb, da, db, G, rfl, hE, hva, hvb, q⟩ := h
    refine ⟨_, PSs.nox (pss_cons (ps_set (i := 2) S.nd rfl (.inl rfl) (pe_lst pa_nil))
      (pss_blk (ps_par (i := 3) (j := 4) rfl S.nd rfl rfl (by decide) rfl rfl (pa_cons (pe_make B_Easiest.mkr (ok_Easiest B B_Easiest.fn) hr (by rfl) B_Easiest.gl (B_Easiest.fn.bindsN fun _ _ _ _ _ _ us hl => match us, hl with | [_, _, _], _ => rfl) .nil pass0 (pa_cons (pv 0) (pa_cons (pv 1) pa_nil))) (pa_cons (pe_makeK0 B_Easiest.mkr (ok_Easiest B B_Easiest.fn) hr (by rfl) B_Easiest.gl (kbn0 B_Easiest.fn 1 ["heights", "ends"] (fun us ws => us ++ ws.reverse) gSwp (fun r1 r2 => r1.append (vals_rev r2)) fun _ _ _ _ _ _ us ws l1 l2 => match us, ws, l1, l2 with | [_], [_, _], _, _ => rfl) pass0 (pk_cons (pv 1) (pk_cons (pv 0) pk_nil))) pa_nil)) rfl)
      (ps_par (i := 5) (j := 6) rfl S.nd rfl rfl (by decide) rfl rfl (pa_cons (pe_and (pe_callB (C8.call_isC B_Easiest.k.ins) (by rfl) B.mi boot_isi (pa_cons (pv 3) (pa_cons (pe_glob (v := .ref C_Easiest) (by rfl) B_Easiest.gl rfl) pa_nil))) (pe_one (pe_callB (C8.call_isC B_Easiest.k.ins) (by rfl) B.mi boot_isi (pa_cons (pv 4) (pa_cons (pe_glob (v := .ref C_Easiest) (by rfl) B_Easiest.gl rfl) pa_nil))))) (pa_cons (pe_lst (pa_cons (pe_fld (pv 3) (by rfl)) (pa_cons (pe_fld (pv 3) (by rfl)) (pa_nil)))) pa_nil)) rfl)
      (ps_expr (pe_bm PySem.F.plainAttrs_list PySem.F.slot_list_append PySem.F.type_list_append mt_append (pv 2) (pa_cons (pe_tup (pa_cons (pv 3) (pa_cons (pv 4) (pa_cons (pv 5) (pa_cons (pv 6) (pa_cons (pe_lst (pa_cons (pe_fld (pv 4) (by rfl)) (pa_cons (pe_fld (pv 4) (by rfl)) (pa_nil)))) (pa_cons (pe_lst (pa_cons (pv 0) (pa_cons (pv 1) pa_nil))) pa_nil))))))) pa_nil)))
      (pss_blk (ps_par (i := 3) (j := 4) rfl S.nd rfl rfl (by decide) rfl rfl (pa_cons (pe_make B_Differs.mkr (ok_Differs B B_Differs.fn) hr (by rfl) B_Differs.gl (B_Differs.fn.bindsN fun _ _ _ _ _ _ us hl => match us, hl with | [_, _], _ => rfl) .nil pass0 (pa_cons (pv 0) pa_nil)) (pa_cons (pe_makeK0 B_Differs.mkr (ok_Differs B B_Differs.fn) hr (by rfl) B_Differs.gl (kbn0 B_Differs.fn 1 ["rows"] (fun us ws => us ++ ws) gCat (fun r1 r2 => r1.append r2) fun _ _ _ _ _ _ us ws l1 l2 => match us, ws, l1, l2 with | [_], [_], _, _ => rfl) pass0 (pk_cons (pv 0) pk_nil)) pa_nil)) rfl)
      (ps_par (i := 5) (j := 6) rfl S.nd rfl rfl (by decide) rfl rfl (pa_cons (pe_and (pe_callB (C8.call_isC B_Differs.k.ins) (by rfl) B.mi boot_isi (pa_cons (pv 3) (pa_cons (pe_glob (v := .ref C_Differs) (by rfl) B_Differs.gl rfl) pa_nil))) (pe_one (pe_callB (C8.call_isC B_Differs.k.ins) (by rfl) B.mi boot_isi (pa_cons (pv 4) (pa_cons (pe_glob (v := .ref C_Differs) (by rfl) B_Differs.gl rfl) pa_nil))))) (pa_cons (pe_lst (pa_cons (pe_fld (pv 3) (by rfl)) (pa_nil))) pa_nil)) rfl)
      (ps_expr (pe_bm PySem.F.plainAttrs_list PySem.F.slot_list_append PySem.F.type_list_append mt_append (pv 2) (pa_cons (pe_tup (pa_cons (pv 3) (pa_cons (pv 4) (pa_cons (pv 5) (pa_cons (pv 6) (pa_cons (pe_lst (pa_cons (pe_fld (pv 4) (by rfl)) (pa_nil))) (pa_cons (pe_lst (pa_cons (pv 0) pa_nil)) pa_nil))))))) pa_nil)))
      (pss_blk (ps_par (i := 3) (j := 4) rfl S.nd rfl rfl (by decide) rfl rfl (pa_cons (pe_make B_Standing.mkr (ok_Standing B B_Standing.fn) hr (by rfl) B_Standing.gl (B_Standing.fn.bindsN fun _ _ _ _ _ _ us hl => match us, hl with | [_, _], _ => rfl) .nil pass0 (pa_cons (pv 0) pa_nil)) (pa_cons (pe_makeK0 B_Standing.mkr (ok_Standing B B_Standing.fn) hr (by rfl) B_Standing.gl (kbn0 B_Standing.fn 1 ["measure"] (fun us ws => us ++ ws) gCat (fun r1 r2 => r1.append r2) fun _ _ _ _ _ _ us ws l1 l2 => match us, ws, l1, l2 with | [_], [_], _, _ => rfl) pass0 (pk_cons (pv 0) pk_nil)) pa_nil)) rfl)
      (ps_par (i := 5) (j := 6) rfl S.nd rfl rfl (by decide) rfl rfl (pa_cons (pe_and (pe_callB (C8.call_isC B_Standing.k.ins) (by rfl) B.mi boot_isi (pa_cons (pv 3) (pa_cons (pe_glob (v := .ref C_Standing) (by rfl) B_Standing.gl rfl) pa_nil))) (pe_one (pe_callB (C8.call_isC B_Standing.k.ins) (by rfl) B.mi boot_isi (pa_cons (pv 4) (pa_cons (pe_glob (v := .ref C_Standing) (by rfl) B_Standing.gl rfl) pa_nil))))) (pa_cons (pe_lst (pa_cons (pe_fld (pv 3) (by rfl)) (pa_nil))) pa_nil)) rfl)
      (ps_expr (pe_bm PySem.F.plainAttrs_list PySem.F.slot_list_append PySem.F.type_list_append mt_append (pv 2) (pa_cons (pe_tup (pa_cons (pv 3) (pa_cons (pv 4) (pa_cons (pv 5) (pa_cons (pv 6) (pa_cons (pe_lst (pa_cons (pe_fld (pv 4) (by rfl)) (pa_nil))) (pa_cons (pe_lst (pa_cons (pv 0) pa_nil)) pa_nil))))))) pa_nil)))
      (pss_blk (ps_par (i := 3) (j := 4) rfl S.nd rfl rfl (by decide) rfl rfl (pa_cons (pe_make B_Opened.mkr (ok_Opened B B_Opened.fn) hr (by rfl) B_Opened.gl (B_Opened.fn.bindsN fun _ _ _ _ _ _ us hl => match us, hl with | [_, _], _ => rfl) .nil pass0 (pa_cons (pv 0) pa_nil)) (pa_cons (pe_makeK0 B_Opened.mkr (ok_Opened B B_Opened.fn) hr (by rfl) B_Opened.gl (kbn0 B_Opened.fn 1 ["face"] (fun us ws => us ++ ws) gCat (fun r1 r2 => r1.append r2) fun _ _ _ _ _ _ us ws l1 l2 => match us, ws, l1, l2 with | [_], [_], _, _ => rfl) pass0 (pk_cons (pv 0) pk_nil)) pa_nil)) rfl)
      (ps_par (i := 5) (j := 6) rfl S.nd rfl rfl (by decide) rfl rfl (pa_cons (pe_and (pe_callB (C8.call_isC B_Opened.k.ins) (by rfl) B.mi boot_isi (pa_cons (pv 3) (pa_cons (pe_glob (v := .ref C_Opened) (by rfl) B_Opened.gl rfl) pa_nil))) (pe_one (pe_callB (C8.call_isC B_Opened.k.ins) (by rfl) B.mi boot_isi (pa_cons (pv 4) (pa_cons (pe_glob (v := .ref C_Opened) (by rfl) B_Opened.gl rfl) pa_nil))))) (pa_cons (pe_lst (pa_cons (pe_fld (pv 3) (by rfl)) (pa_nil))) pa_nil)) rfl)
      (ps_expr (pe_bm PySem.F.plainAttrs_list PySem.F.slot_list_append PySem.F.type_list_append mt_append (pv 2) (pa_cons (pe_tup (pa_cons (pv 3) (pa_cons (pv 4) (pa_cons (pv 5) (pa_cons (pv 6) (pa_cons (pe_lst (pa_cons (pe_fld (pv 4) (by rfl)) (pa_nil))) (pa_cons (pe_lst (pa_cons (pv 0) pa_nil)) pa_nil))))))) pa_nil)))
      (pss_blk (ps_par (i := 3) (j := 4) rfl S.nd rfl rfl (by decide) rfl rfl (pa_cons (pe_make B_Few.mkr (ok_Few B B_Few.fn) hr (by rfl) B_Few.gl (B_Few.fn.bindsN fun _ _ _ _ _ _ us hl => match us, hl with | [_, _], _ => rfl) .nil pass0 (pa_cons (pv 0) pa_nil)) (pa_cons (pe_makeK0 B_Few.mkr (ok_Few B B_Few.fn) hr (by rfl) B_Few.gl (kbn0 B_Few.fn 1 ["roots"] (fun us ws => us ++ ws) gCat (fun r1 r2 => r1.append r2) fun _ _ _ _ _ _ us ws l1 l2 => match us, ws, l1, l2 with | [_], [_], _, _ => rfl) pass0 (pk_cons (pv 0) pk_nil)) pa_nil)) rfl)
      (ps_par (i := 5) (j := 6) rfl S.nd rfl rfl (by decide) rfl rfl (pa_cons (pe_and (pe_callB (C8.call_isC B_Few.k.ins) (by rfl) B.mi boot_isi (pa_cons (pv 3) (pa_cons (pe_glob (v := .ref C_Few) (by rfl) B_Few.gl rfl) pa_nil))) (pe_one (pe_callB (C8.call_isC B_Few.k.ins) (by rfl) B.mi boot_isi (pa_cons (pv 4) (pa_cons (pe_glob (v := .ref C_Few) (by rfl) B_Few.gl rfl) pa_nil))))) (pa_cons (pe_lst (pa_cons (pe_fld (pv 3) (by rfl)) (pa_nil))) pa_nil)) rfl)
      (ps_expr (pe_bm PySem.F.plainAttrs_list PySem.F.slot_list_append PySem.F.type_list_append mt_append (pv 2) (pa_cons (pe_tup (pa_cons (pv 3) (pa_cons (pv 4) (pa_cons (pv 5) (pa_cons (pv 6) (pa_cons (pe_lst (pa_cons (pe_fld (pv 4) (by rfl)) (pa_nil))) (pa_cons (pe_lst (pa_cons (pv 0) pa_nil)) pa_nil))))))) pa_nil)))
      (pss_blk (ps_par (i := 3) (j := 4) rfl S.nd rfl rfl (by decide) rfl rfl (pa_cons (pe_make B_Endless.mkr (ok_Endless B B_Endless.fn) hr (by rfl) B_Endless.gl (B_Endless.fn.bindsN fun _ _ _ _ _ _ us hl => match us, hl with | [_, _], _ => rfl) .nil pass0 (pa_cons (pv 0) pa_nil)) (pa_cons (pe_makeK0 B_Endless.mkr (ok_Endless B B_Endless.fn) hr (by rfl) B_Endless.gl (kbn0 B_Endless.fn 1 ["row"] (fun us ws => us ++ ws) gCat (fun r1 r2 => r1.append r2) fun _ _ _ _ _ _ us ws l1 l2 => match us, ws, l1, l2 with | [_], [_], _, _ => rfl) pass0 (pk_cons (pv 0) pk_nil)) pa_nil)) rfl)
      (ps_par (i := 5) (j := 6) rfl S.nd rfl rfl (by decide) rfl rfl (pa_cons (pe_and (pe_callB (C8.call_isC B_Endless.k.ins) (by rfl) B.mi boot_isi (pa_cons (pv 3) (pa_cons (pe_glob (v := .ref C_Endless) (by rfl) B_Endless.gl rfl) pa_nil))) (pe_one (pe_callB (C8.call_isC B_Endless.k.ins) (by rfl) B.mi boot_isi (pa_cons (pv 4) (pa_cons (pe_glob (v := .ref C_Endless) (by rfl) B_Endless.gl rfl) pa_nil))))) (pa_cons (pe_lst (pa_cons (pe_fld (pv 3) (by rfl)) (pa_nil))) pa_nil)) rfl)
      (ps_expr (pe_bm PySem.F.plainAttrs_list PySem.F.slot_list_append PySem.F.type_list_append mt_append (pv 2) (pa_cons (pe_tup (pa_cons (pv 3) (pa_cons (pv 4) (pa_cons (pv 5) (pa_cons (pv 6) (pa_cons (pe_lst (pa_cons (pe_fld (pv 4) (by rfl)) (pa_nil))) (pa_cons (pe_lst (pa_cons (pv 0) pa_nil)) pa_nil))))))) pa_nil)))
      (pss_blk (ps_par (i := 3) (j := 4) rfl S.nd rfl rfl (by decide) rfl rfl (pa_cons (pe_make B_LongRow.mkr (ok_LongRow B B_LongRow.fn) hr (by rfl) B_LongRow.gl (B_LongRow.fn.bindsN fun _ _ _ _ _ _ us hl => match us, hl with | [_, _, _], _ => rfl) .nil pass0 (pa_cons (pv 0) (pa_cons (pv 1) pa_nil))) (pa_cons (pe_makeK0 B_LongRow.mkr (ok_LongRow B B_LongRow.fn) hr (by rfl) B_LongRow.gl (kbn0 B_LongRow.fn 1 ["tables", "widths"] (fun us ws => us ++ ws.reverse) gSwp (fun r1 r2 => r1.append (vals_rev r2)) fun _ _ _ _ _ _ us ws l1 l2 => match us, ws, l1, l2 with | [_], [_, _], _, _ => rfl) pass0 (pk_cons (pv 1) (pk_cons (pv 0) pk_nil))) pa_nil)) rfl)
      (ps_par (i := 5) (j := 6) rfl S.nd rfl rfl (by decide) rfl rfl (pa_cons (pe_and (pe_callB (C8.call_isC B_LongRow.k.ins) (by rfl) B.mi boot_isi (pa_cons (pv 3) (pa_cons (pe_glob (v := .ref C_LongRow) (by rfl) B_LongRow.gl rfl) pa_nil))) (pe_one (pe_callB (C8.call_isC B_LongRow.k.ins) (by rfl) B.mi boot_isi (pa_cons (pv 4) (pa_cons (pe_glob (v := .ref C_LongRow) (by rfl) B_LongRow.gl rfl) pa_nil))))) (pa_cons (pe_lst (pa_cons (pe_fld (pv 3) (by rfl)) (pa_cons (pe_fld (pv 3) (by rfl)) (pa_nil)))) pa_nil)) rfl)
      (ps_expr (pe_bm PySem.F.plainAttrs_list PySem.F.slot_list_append PySem.F.type_list_append mt_append (pv 2) (pa_cons (pe_tup (pa_cons (pv 3) (pa_cons (pv 4) (pa_cons (pv 5) (pa_cons (pv 6) (pa_cons (pe_lst (pa_cons (pe_fld (pv 4) (by rfl)) (pa_cons (pe_fld (pv 4) (by rfl)) (pa_nil)))) (pa_cons (pe_lst (pa_cons (pv 0) (pa_cons (pv 1) pa_nil))) pa_nil))))))) pa_nil)))
      (pss_blk (ps_par (i := 3) (j := 4) rfl S.nd rfl rfl (by decide) rfl rfl (pa_cons (pe_make B_Nearest.mkr (ok_Nearest B B_Nearest.fn) hr (by rfl) B_Nearest.gl (B_Nearest.fn.bindsN fun _ _ _ _ _ _ us hl => match us, hl with | [_, _, _], _ => rfl) .nil pass0 (pa_cons (pv 0) (pa_cons (pv 1) pa_nil))) (pa_cons (pe_makeK0 B_Nearest.mkr (ok_Nearest B B_Nearest.fn) hr (by rfl) B_Nearest.gl (kbn0 B_Nearest.fn 1 ["ends", "reading"] (fun us ws => us ++ ws.reverse) gSwp (fun r1 r2 => r1.append (vals_rev r2)) fun _ _ _ _ _ _ us ws l1 l2 => match us, ws, l1, l2 with | [_], [_, _], _, _ => rfl) pass0 (pk_cons (pv 1) (pk_cons (pv 0) pk_nil))) pa_nil)) rfl)
      (ps_par (i := 5) (j := 6) rfl S.nd rfl rfl (by decide) rfl rfl (pa_cons (pe_and (pe_callB (C8.call_isC B_Nearest.k.ins) (by rfl) B.mi boot_isi (pa_cons (pv 3) (pa_cons (pe_glob (v := .ref C_Nearest) (by rfl) B_Nearest.gl rfl) pa_nil))) (pe_one (pe_callB (C8.call_isC B_Nearest.k.ins) (by rfl) B.mi boot_isi (pa_cons (pv 4) (pa_cons (pe_glob (v := .ref C_Nearest) (by rfl) B_Nearest.gl rfl) pa_nil))))) (pa_cons (pe_lst (pa_cons (pe_fld (pv 3) (by rfl)) (pa_cons (pe_fld (pv 3) (by rfl)) (pa_nil)))) pa_nil)) rfl)
      (ps_expr (pe_bm PySem.F.plainAttrs_list PySem.F.slot_list_append PySem.F.type_list_append mt_append (pv 2) (pa_cons (pe_tup (pa_cons (pv 3) (pa_cons (pv 4) (pa_cons (pv 5) (pa_cons (pv 6) (pa_cons (pe_lst (pa_cons (pe_fld (pv 4) (by rfl)) (pa_cons (pe_fld (pv 4) (by rfl)) (pa_nil)))) (pa_cons (pe_lst (pa_cons (pv 0) (pa_cons (pv 1) pa_nil))) pa_nil))))))) pa_nil)))
      (pss_blk (ps_par (i := 3) (j := 4) rfl S.nd rfl rfl (by decide) rfl rfl (pa_cons (pe_make B_Settled.mkr (ok_Settled B B_Settled.fn) hr (by rfl) B_Settled.gl (B_Settled.fn.bindsN fun _ _ _ _ _ _ us hl => match us, hl with | [_, _], _ => rfl) .nil pass0 (pa_cons (pv 0) pa_nil)) (pa_cons (pe_makeK0 B_Settled.mkr (ok_Settled B B_Settled.fn) hr (by rfl) B_Settled.gl (kbn0 B_Settled.fn 1 ["rows"] (fun us ws => us ++ ws) gCat (fun r1 r2 => r1.append r2) fun _ _ _ _ _ _ us ws l1 l2 => match us, ws, l1, l2 with | [_], [_], _, _ => rfl) pass0 (pk_cons (pv 0) pk_nil)) pa_nil)) rfl)
      (ps_par (i := 5) (j := 6) rfl S.nd rfl rfl (by decide) rfl rfl (pa_cons (pe_and (pe_callB (C8.call_isC B_Settled.k.ins) (by rfl) B.mi boot_isi (pa_cons (pv 3) (pa_cons (pe_glob (v := .ref C_Settled) (by rfl) B_Settled.gl rfl) pa_nil))) (pe_one (pe_callB (C8.call_isC B_Settled.k.ins) (by rfl) B.mi boot_isi (pa_cons (pv 4) (pa_cons (pe_glob (v := .ref C_Settled) (by rfl) B_Settled.gl rfl) pa_nil))))) (pa_cons (pe_lst (pa_cons (pe_fld (pv 3) (by rfl)) (pa_nil))) pa_nil)) rfl)
      (ps_expr (pe_bm PySem.F.plainAttrs_list PySem.F.slot_list_append PySem.F.type_list_append mt_append (pv 2) (pa_cons (pe_tup (pa_cons (pv 3) (pa_cons (pv 4) (pa_cons (pv 5) (pa_cons (pv 6) (pa_cons (pe_lst (pa_cons (pe_fld (pv 4) (by rfl)) (pa_nil))) (pa_cons (pe_lst (pa_cons (pv 0) pa_nil)) pa_nil))))))) pa_nil)))
      (pss_blk (ps_par (i := 3) (j := 4) rfl S.nd rfl rfl (by decide) rfl rfl (pa_cons (pe_make B_Solved.mkr (ok_Solved B B_Solved.fn) hr (by rfl) B_Solved.gl (B_Solved.fn.bindsN fun _ _ _ _ _ _ us hl => match us, hl with | [_, _], _ => rfl) .nil pass0 (pa_cons (pv 0) pa_nil)) (pa_cons (pe_makeK0 B_Solved.mkr (ok_Solved B B_Solved.fn) hr (by rfl) B_Solved.gl (kbn0 B_Solved.fn 1 ["row"] (fun us ws => us ++ ws) gCat (fun r1 r2 => r1.append r2) fun _ _ _ _ _ _ us ws l1 l2 => match us, ws, l1, l2 with | [_], [_], _, _ => rfl) pass0 (pk_cons (pv 0) pk_nil)) pa_nil)) rfl)
      (ps_par (i := 5) (j := 6) rfl S.nd rfl rfl (by decide) rfl rfl (pa_cons (pe_and (pe_callB (C8.call_isC B_Solved.k.ins) (by rfl) B.mi boot_isi (pa_cons (pv 3) (pa_cons (pe_glob (v := .ref C_Solved) (by rfl) B_Solved.gl rfl) pa_nil))) (pe_one (pe_callB (C8.call_isC B_Solved.k.ins) (by rfl) B.mi boot_isi (pa_cons (pv 4) (pa_cons (pe_glob (v := .ref C_Solved) (by rfl) B_Solved.gl rfl) pa_nil))))) (pa_cons (pe_lst (pa_cons (pe_fld (pv 3) (by rfl)) (pa_nil))) pa_nil)) rfl)
      (ps_expr (pe_bm PySem.F.plainAttrs_list PySem.F.slot_list_append PySem.F.type_list_append mt_append (pv 2) (pa_cons (pe_tup (pa_cons (pv 3) (pa_cons (pv 4) (pa_cons (pv 5) (pa_cons (pv 6) (pa_cons (pe_lst (pa_cons (pe_fld (pv 4) (by rfl)) (pa_nil))) (pa_cons (pe_lst (pa_cons (pv 0) pa_nil)) pa_nil))))))) pa_nil)))
      (pss_blk (ps_par (i := 3) (j := 4) rfl S.nd rfl rfl (by decide) rfl rfl (pa_cons (pe_make B_Clash.mkr (ok_Clash B B_Clash.fn) hr (by rfl) B_Clash.gl (B_Clash.fn.bindsN fun _ _ _ _ _ _ us hl => match us, hl with | [_, _], _ => rfl) .nil pass0 (pa_cons (pv 0) pa_nil)) (pa_cons (pe_makeK0 B_Clash.mkr (ok_Clash B B_Clash.fn) hr (by rfl) B_Clash.gl (kbn0 B_Clash.fn 1 ["weights"] (fun us ws => us ++ ws) gCat (fun r1 r2 => r1.append r2) fun _ _ _ _ _ _ us ws l1 l2 => match us, ws, l1, l2 with | [_], [_], _, _ => rfl) pass0 (pk_cons (pv 0) pk_nil)) pa_nil)) rfl)
      (ps_par (i := 5) (j := 6) rfl S.nd rfl rfl (by decide) rfl rfl (pa_cons (pe_and (pe_callB (C8.call_isC B_Clash.k.ins) (by rfl) B.mi boot_isi (pa_cons (pv 3) (pa_cons (pe_glob (v := .ref C_Clash) (by rfl) B_Clash.gl rfl) pa_nil))) (pe_one (pe_callB (C8.call_isC B_Clash.k.ins) (by rfl) B.mi boot_isi (pa_cons (pv 4) (pa_cons (pe_glob (v := .ref C_Clash) (by rfl) B_Clash.gl rfl) pa_nil))))) (pa_cons (pe_lst (pa_cons (pe_fld (pv 3) (by rfl)) (pa_nil))) pa_nil)) rfl)
      (ps_expr (pe_bm PySem.F.plainAttrs_list PySem.F.slot_list_append PySem.F.type_list_append mt_append (pv 2) (pa_cons (pe_tup (pa_cons (pv 3) (pa_cons (pv 4) (pa_cons (pv 5) (pa_cons (pv 6) (pa_cons (pe_lst (pa_cons (pe_fld (pv 4) (by rfl)) (pa_nil))) (pa_cons (pe_lst (pa_cons (pv 0) pa_nil)) pa_nil))))))) pa_nil)))
      (pss_one (ps_ret (pv 2))))))))))))))), ?_⟩
    refine ⟨Nat.zero_le _, fun R hR => ?_⟩
    have start : MI K va vb da db G H R 0 [some va, some vb, some (.ref R), none, none, none, none] (upd H R (.lst [])) := ⟨G, [], [], none, none, none, none, rfl, .lay hE hR, ex_none hE hR, upd_at, .nil, .nil, (by simp), rfl⟩

    refine ⟨MI K va vb da db G H R 1, blk2s B_Easiest.k na_Easiest nb_Easiest (by decide) hE hva hvb hR (by decide) start (fun _ _ z => z), fun σ1 H1 start => ?_⟩
    refine ⟨MI K va vb da db G H R 2, blk1s B_Differs.k na_Differs hE hva hvb hR (by decide) start (fun _ _ z => z), fun σ1 H1 start => ?_⟩
    refine ⟨MI K va vb da db G H R 3, blk1s B_Standing.k na_Standing hE hva hvb hR (by decide) start (fun _ _ z => z), fun σ1 H1 start => ?_⟩
    refine ⟨MI K va vb da db G H R 4, blk1s B_Opened.k na_Opened hE hva hvb hR (by decide) start (fun _ _ z => z), fun σ1 H1 start => ?_⟩
    refine ⟨MI K va vb da db G H R 5, blk1s B_Few.k na_Few hE hva hvb hR (by decide) start (fun _ _ z => z), fun σ1 H1 start => ?_⟩
    refine ⟨MI K va vb da db G H R 6, blk1s B_Endless.k na_Endless hE hva hvb hR (by decide) start (fun _ _ z => z), fun σ1 H1 start => ?_⟩
    refine ⟨MI K va vb da db G H R 7, blk2s B_LongRow.k na_LongRow nb_LongRow (by decide) hE hva hvb hR (by decide) start (fun _ _ z => z), fun σ1 H1 start => ?_⟩
    refine ⟨MI K va vb da db G H R 8, blk2s B_Nearest.k na_Nearest nb_Nearest (by decide) hE hva hvb hR (by decide) start (fun _ _ z => z), fun σ1 H1 start => ?_⟩
    refine ⟨MI K va vb da db G H R 9, blk1s B_Settled.k na_Settled hE hva hvb hR (by decide) start (fun _ _ z => z), fun σ1 H1 start => ?_⟩
    refine ⟨MI K va vb da db G H R 10, blk1s B_Solved.k na_Solved hE hva hvb hR (by decide) start (fun _ _ z => z), fun σ1 H1 start => ?_⟩
    refine ⟨MI K va vb da db G H R 11, blk1s B_Clash.k na_Clash hE hva hvb hR (by decide) start (fun _ _ z => z), fun σ1 H1 start => ?_⟩
    obtain ⟨G', rs, os, y3, y4, y5, y6, rfl, g, gR, hR', rw_, nd, fr, hn⟩ := start
    refine ⟨_, rfl, q R rs os (upd G' R (.lst rs)) _ ⟨fun b hb => ?_, ex_fix' g.sub hR'⟩ upd_at (rw_.mono (ex_new gR)) nd fr hn⟩
    have bR : b ≠ R := fun z => hb (by rw [z]; exact hR)
    exact ⟨(g.old b hb).1, (upd_ne bR).trans (g.old b hb).2⟩
end
/-! ### _law_made_c -/
abbrev sMade_c : Stmt := top 51
theorem scMade_c : FnScope ["a", "b", "rows", "one", "two", "kind", "first"] ["a", "b"] (defScope sMade_c) := ⟨rfl, rfl, rfl, by decide +kernel, rfl, by decide +kernel, by decide +kernel⟩
section
variable {P : Program} {w : World} {K : PySem.W.Frag} {mg : Str → Option Value} {base : Heap} {f : Addr} {fd : FuncData}
theorem ok_made_c (B : Bs K mg) (F : FnP K "_law_made_c" sMade_c f fd) (h_Filled : C1 K mg "Filled" "Filled.__init__" (ini 6) "rows") (h_Hole : C1 K mg "Hole" "Hole.__init__" (ini 7) "measure") (h_Carried : C1 K mg "Carried" "Carried.__init__" (ini 8) "reading") (h_Barred : C1 K mg "Barred" "Barred.__init__" (ini 9) "measure") (h_Halves : C1 K mg "Halves" "Halves.__init__" (ini 39) "lot") (h_OddRound : C1 K mg "OddRound" "OddRound.__init__" (ini 40) "way") (h_Told : C1 K mg "Told" "Told.__init__" (ini 42) "table") (h_Untold : C1 K mg "Untold" "Untold.__init__" (ini 43) "reading") (h_Mended : C2 K mg "Mended" "Mended.__init__" (ini 44) "reading" "places") :
    FnOk P w K mg base CX0 4 f fd ["a", "b"] (spMade K 9) := by
  obtain ⟨C_Filled, f_Filled, fd_Filled, B_Filled, na_Filled⟩ := h_Filled
  obtain ⟨C_Hole, f_Hole, fd_Hole, B_Hole, na_Hole⟩ := h_Hole
  obtain ⟨C_Carried, f_Carried, fd_Carried, B_Carried, na_Carried⟩ := h_Carried
  obtain ⟨C_Barred, f_Barred, fd_Barred, B_Barred, na_Barred⟩ := h_Barred
  obtain ⟨C_Halves, f_Halves, fd_Halves, B_Halves, na_Halves⟩ := h_Halves
  obtain ⟨C_OddRound, f_OddRound, fd_OddRound, B_OddRound, na_OddRound⟩ := h_OddRound
  obtain ⟨C_Told, f_Told, fd_Told, B_Told, na_Told⟩ := h_Told
  obtain ⟨C_Untold, f_Untold, fd_Untold, B_Untold, na_Untold⟩ := h_Untold
  obtain ⟨C_Mended, f_Mended, fd_Mended, B_Mended, na_Mended, nb_Mended⟩ := h_Mended
  have S := scMade_c
  refine F.ok scMade_c (fun vs H Q E h => ?_) (fun cdv A outer s H vs Q E hr h => ?_)
  · obtain ⟨_, _, _, _, _, rfl, _⟩ := h
    rfl
  · obtain ⟨va, vb, da, db, G, rfl, hE, hva, hvb, q⟩ := h
    refine ⟨_, PSs.nox (pss_cons (ps_set (i := 2) S.nd rfl (.inl rfl) (pe_lst pa_nil))
      (pss_blk (ps_par (i := 3) (j := 4) rfl S.nd rfl rfl (by decide) rfl rfl (pa_cons (pe_make B_Filled.mkr (ok_Filled B B_Filled.fn) hr (by rfl) B_Filled.gl (B_Filled.fn.bindsN fun _ _ _ _ _ _ us hl => match us, hl with | [_, _], _ => rfl) .nil pass0 (pa_cons (pv 0) pa_nil)) (pa_cons (pe_makeK0 B_Filled.mkr (ok_Filled B B_Filled.fn) hr (by rfl) B_Filled.gl (kbn0 B_Filled.fn 1 ["rows"] (fun us ws => us ++ ws) gCat (fun r1 r2 => r1.append r2) fun _ _ _ _ _ _ us ws l1 l2 => match us, ws, l1, l2 with | [_], [_], _, _ => rfl) pass0 (pk_cons (pv 0) pk_nil)) pa_nil)) rfl)
      (ps_par (i := 5) (j := 6) rfl S.nd rfl rfl (by decide) rfl rfl (pa_cons (pe_and (pe_callB (C8.call_isC B_Filled.k.ins) (by rfl) B.mi boot_isi (pa_cons (pv 3) (pa_cons (pe_glob (v := .ref C_Filled) (by rfl) B_Filled.gl rfl) pa_nil))) (pe_one (pe_callB (C8.call_isC B_Filled.k.ins) (by rfl) B.mi boot_isi (pa_cons (pv 4) (pa_cons (pe_glob (v := .ref C_Filled) (by rfl) B_Filled.gl rfl) pa_nil))))) (pa_cons (pe_lst (pa_cons (pe_fld (pv 3) (by rfl)) (pa_nil))) pa_nil)) rfl)
      (ps_expr (pe_bm PySem.F.plainAttrs_list PySem.F.slot_list_append PySem.F.type_list_append mt_append (pv 2) (pa_cons (pe_tup (pa_cons (pv 3) (pa_cons (pv 4) (pa_cons (pv 5) (pa_cons (pv 6) (pa_cons (pe_lst (pa_cons (pe_fld (pv 4) (by rfl)) (pa_nil))) (pa_cons (pe_lst (pa_cons (pv 0) pa_nil)) pa_nil))))))) pa_nil)))
      (pss_blk (ps_par (i := 3) (j := 4) rfl S.nd rfl rfl (by decide) rfl rfl (pa_cons (pe_make B_Hole.mkr (ok_Hole B B_Hole.fn) hr (by rfl) B_Hole.gl (B_Hole.fn.bindsN fun _ _ _ _ _ _ us hl => match us, hl with | [_, _], _ => rfl) .nil pass0 (pa_cons (pv 0) pa_nil)) (pa_cons (pe_makeK0 B_Hole.mkr (ok_Hole B B_Hole.fn) hr (by rfl) B_Hole.gl (kbn0 B_Hole.fn 1 ["measure"] (fun us ws => us ++ ws) gCat (fun r1 r2 => r1.append r2) fun _ _ _ _ _ _ us ws l1 l2 => match us, ws, l1, l2 with | [_], [_], _, _ => rfl) pass0 (pk_cons (pv 0) pk_nil)) pa_nil)) rfl)
      (ps_par (i := 5) (j := 6) rfl S.nd rfl rfl (by decide) rfl rfl (pa_cons (pe_and (pe_callB (C8.call_isC B_Hole.k.ins) (by rfl) B.mi boot_isi (pa_cons (pv 3) (pa_cons (pe_glob (v := .ref C_Hole) (by rfl) B_Hole.gl rfl) pa_nil))) (pe_one (pe_callB (C8.call_isC B_Hole.k.ins) (by rfl) B.mi boot_isi (pa_cons (pv 4) (pa_cons (pe_glob (v := .ref C_Hole) (by rfl) B_Hole.gl rfl) pa_nil))))) (pa_cons (pe_lst (pa_cons (pe_fld (pv 3) (by rfl)) (pa_nil))) pa_nil)) rfl)
      (ps_expr (pe_bm PySem.F.plainAttrs_list PySem.F.slot_list_append PySem.F.type_list_append mt_append (pv 2) (pa_cons (pe_tup (pa_cons (pv 3) (pa_cons (pv 4) (pa_cons (pv 5) (pa_cons (pv 6) (pa_cons (pe_lst (pa_cons (pe_fld (pv 4) (by rfl)) (pa_nil))) (pa_cons (pe_lst (pa_cons (pv 0) pa_nil)) pa_nil))))))) pa_nil)))
      (pss_blk (ps_par (i := 3) (j := 4) rfl S.nd rfl rfl (by decide) rfl rfl (pa_cons (pe_make B_Carried.mkr (ok_Carried B B_Carried.fn) hr (by rfl) B_Carried.gl (B_Carried.fn.bindsN fun _ _ _ _ _ _ us hl => match us, hl with | [_, _], _ => rfl) .nil pass0 (pa_cons (pv 0) pa_nil)) (pa_cons (pe_makeK0 B_Carried.mkr (ok_Carried B B_Carried.fn) hr (by rfl) B_Carried.gl (kbn0 B_Carried.fn 1 ["reading"] (fun us ws => us ++ ws) gCat (fun r1 r2 => r1.append r2) fun _ _ _ _ _ _ us ws l1 l2 => match us, ws, l1, l2 with | [_], [_], _, _ => rfl) pass0 (pk_cons (pv 0) pk_nil)) pa_nil)) rfl)
      (ps_par (i := 5) (j := 6) rfl S.nd rfl rfl (by decide) rfl rfl (pa_cons (pe_and (pe_callB (C8.call_isC B_Carried.k.ins) (by rfl) B.mi boot_isi (pa_cons (pv 3) (pa_cons (pe_glob (v := .ref C_Carried) (by rfl) B_Carried.gl rfl) pa_nil))) (pe_one (pe_callB (C8.call_isC B_Carried.k.ins) (by rfl) B.mi boot_isi (pa_cons (pv 4) (pa_cons (pe_glob (v := .ref C_Carried) (by rfl) B_Carried.gl rfl) pa_nil))))) (pa_cons (pe_lst (pa_cons (pe_fld (pv 3) (by rfl)) (pa_nil))) pa_nil)) rfl)
      (ps_expr (pe_bm PySem.F.plainAttrs_list PySem.F.slot_list_append PySem.F.type_list_append mt_append (pv 2) (pa_cons (pe_tup (pa_cons (pv 3) (pa_cons (pv 4) (pa_cons (pv 5) (pa_cons (pv 6) (pa_cons (pe_lst (pa_cons (pe_fld (pv 4) (by rfl)) (pa_nil))) (pa_cons (pe_lst (pa_cons (pv 0) pa_nil)) pa_nil))))))) pa_nil)))
      (pss_blk (ps_par (i := 3) (j := 4) rfl S.nd rfl rfl (by decide) rfl rfl (pa_cons (pe_make B_Barred.mkr (ok_Barred B B_Barred.fn) hr (by rfl) B_Barred.gl (B_Barred.fn.bindsN fun _ _ _ _ _ _ us hl => match us, hl with | [_, _], _ => rfl) .nil pass0 (pa_cons (pv 0) pa_nil)) (pa_cons (pe_makeK0 B_Barred.mkr (ok_Barred B B_Barred.fn) hr (by rfl) B_Barred.gl (kbn0 B_Barred.fn 1 ["measure"] (fun us ws => us ++ ws) gCat (fun r1 r2 => r1.append r2) fun _ _ _ _ _ _ us ws l1 l2 => match us, ws, l1, l2 with | [_], [_], _, _ => rfl) pass0 (pk_cons (pv 0) pk_nil)) pa_nil)) rfl)
      (ps_par (i := 5) (j := 6) rfl S.nd rfl rfl (by decide) rfl rfl (pa_cons (pe_and (pe_callB (C8.call_isC B_Barred.k.ins) (by rfl) B.mi boot_isi (pa_cons (pv 3) (pa_cons (pe_glob (v := .ref C_Barred) (by rfl) B_Barred.gl rfl) pa_nil))) (pe_one (pe_callB (C8.call_isC B_Barred.k.ins) (by rfl) B.mi boot_isi (pa_cons (pv 4) (pa_cons (pe_glob (v := .ref C_Barred) (by rfl) B_Barred.gl rfl) pa_nil))))) (pa_cons (pe_lst (pa_cons (pe_fld (pv 3) (by rfl)) (pa_nil))) pa_nil)) rfl)
      (ps_expr (pe_bm PySem.F.plainAttrs_list PySem.F.slot_list_append PySem.F.type_list_append mt_append (pv 2) (pa_cons (pe_tup (pa_cons (pv 3) (pa_cons (pv 4) (pa_cons (pv 5) (pa_cons (pv 6) (pa_cons (pe_lst (pa_cons (pe_fld (pv 4) (by rfl)) (pa_nil))) (pa_cons (pe_lst (pa_cons (pv 0) pa_nil)) pa_nil))))))) pa_nil)))
      (pss_blk (ps_par (i := 3) (j := 4) rfl S.nd rfl rfl (by decide) rfl rfl (pa_cons (pe_make B_Halves.mkr (ok_Halves B B_Halves.fn) hr (by rfl) B_Halves.gl (B_Halves.fn.bindsN fun _ _ _ _ _ _ us hl => match us, hl with | [_, _], _ => rfl) .nil pass0 (pa_cons (pv 0) pa_nil)) (pa_cons (pe_makeK0 B_Halves.mkr (ok_Halves B B_Halves.fn) hr (by rfl) B_Halves.gl (kbn0 B_Halves.fn 1 ["lot"] (fun us ws => us ++ ws) gCat (fun r1 r2 => r1.append r2) fun _ _ _ _ _ _ us ws l1 l2 => match us, ws, l1, l2 with | [_], [_], _, _ => rfl) pass0 (pk_cons (pv 0) pk_nil)) pa_nil)) rfl)
      (ps_par (i := 5) (j := 6) rfl S.nd rfl rfl (by decide) rfl rfl (pa_cons (pe_and (pe_callB (C8.call_isC B_Halves.k.ins) (by rfl) B.mi boot_isi (pa_cons (pv 3) (pa_cons (pe_glob (v := .ref C_Halves) (by rfl) B_Halves.gl rfl) pa_nil))) (pe_one (pe_callB (C8.call_isC B_Halves.k.ins) (by rfl) B.mi boot_isi (pa_cons (pv 4) (pa_cons (pe_glob (v := .ref C_Halves) (by rfl) B_Halves.gl rfl) pa_nil))))) (pa_cons (pe_lst (pa_cons (pe_fld (pv 3) (by rfl)) (pa_nil))) pa_nil)) rfl)
      (ps_expr (pe_bm PySem.F.plainAttrs_list PySem.F.slot_list_append PySem.F.type_list_append mt_append (pv 2) (pa_cons (pe_tup (pa_cons (pv 3) (pa_cons (pv 4) (pa_cons (pv 5) (pa_cons (pv 6) (pa_cons (pe_lst (pa_cons (pe_fld (pv 4) (by rfl)) (pa_nil))) (pa_cons (pe_lst (pa_cons (pv 0) pa_nil)) pa_nil))))))) pa_nil)))
      (pss_blk (ps_par (i := 3) (j := 4) rfl S.nd rfl rfl (by decide) rfl rfl (pa_cons (pe_make B_OddRound.mkr (ok_OddRound B B_OddRound.fn) hr (by rfl) B_OddRound.gl (B_OddRound.fn.bindsN fun _ _ _ _ _ _ us hl => match us, hl with | [_, _], _ => rfl) .nil pass0 (pa_cons (pv 0) pa_nil)) (pa_cons (pe_makeK0 B_OddRound.mkr (ok_OddRound B B_OddRound.fn) hr (by rfl) B_OddRound.gl (kbn0 B_OddRound.fn 1 ["way"] (fun us ws => us ++ ws) gCat (fun r1 r2 => r1.append r2) fun _ _ _ _ _ _ us ws l1 l2 => match us, ws, l1, l2 with | [_], [_], _, _ => rfl) pass0 (pk_cons (pv 0) pk_nil)) pa_nil)) rfl)
      (ps_par (i := 5) (j := 6) rfl S.nd rfl rfl (by decide) rfl rfl (pa_cons (pe_and (pe_callB (C8.call_isC B_OddRound.k.ins) (by rfl) B.mi boot_isi (pa_cons (pv 3) (pa_cons (pe_glob (v := .ref C_OddRound) (by rfl) B_OddRound.gl rfl) pa_nil))) (pe_one (pe_callB (C8.call_isC B_OddRound.k.ins) (by rfl) B.mi boot_isi (pa_cons (pv 4) (pa_cons (pe_glob (v := .ref C_OddRound) (by rfl) B_OddRound.gl rfl) pa_nil))))) (pa_cons (pe_lst (pa_cons (pe_fld (pv 3) (by rfl)) (pa_nil))) pa_nil)) rfl)
      (ps_expr (pe_bm PySem.F.plainAttrs_list PySem.F.slot_list_append PySem.F.type_list_append mt_append (pv 2) (pa_cons (pe_tup (pa_cons (pv 3) (pa_cons (pv 4) (pa_cons (pv 5) (pa_cons (pv 6) (pa_cons (pe_lst (pa_cons (pe_fld (pv 4) (by rfl)) (pa_nil))) (pa_cons (pe_lst (pa_cons (pv 0) pa_nil)) pa_nil))))))) pa_nil)))
      (pss_blk (ps_par (i := 3) (j := 4) rfl S.nd rfl rfl (by decide) rfl rfl (pa_cons (pe_make B_Told.mkr (ok_Told B B_Told.fn) hr (by rfl) B_Told.gl (B_Told.fn.bindsN fun _ _ _ _ _ _ us hl => match us, hl with | [_, _], _ => rfl) .nil pass0 (pa_cons (pv 0) pa_nil)) (pa_cons (pe_makeK0 B_Told.mkr (ok_Told B B_Told.fn) hr (by rfl) B_Told.gl (kbn0 B_Told.fn 1 ["table"] (fun us ws => us ++ ws) gCat (fun r1 r2 => r1.append r2) fun _ _ _ _ _ _ us ws l1 l2 => match us, ws, l1, l2 with | [_], [_], _, _ => rfl) pass0 (pk_cons (pv 0) pk_nil)) pa_nil)) rfl)
      (ps_par (i := 5) (j := 6) rfl S.nd rfl rfl (by decide) rfl rfl (pa_cons (pe_and (pe_callB (C8.call_isC B_Told.k.ins) (by rfl) B.mi boot_isi (pa_cons (pv 3) (pa_cons (pe_glob (v := .ref C_Told) (by rfl) B_Told.gl rfl) pa_nil))) (pe_one (pe_callB (C8.call_isC B_Told.k.ins) (by rfl) B.mi boot_isi (pa_cons (pv 4) (pa_cons (pe_glob (v := .ref C_Told) (by rfl) B_Told.gl rfl) pa_nil))))) (pa_cons (pe_lst (pa_cons (pe_fld (pv 3) (by rfl)) (pa_nil))) pa_nil)) rfl)
      (ps_expr (pe_bm PySem.F.plainAttrs_list PySem.F.slot_list_append PySem.F.type_list_append mt_append (pv 2) (pa_cons (pe_tup (pa_cons (pv 3) (pa_cons (pv 4) (pa_cons (pv 5) (pa_cons (pv 6) (pa_cons (pe_lst (pa_cons (pe_fld (pv 4) (by rfl)) (pa_nil))) (pa_cons (pe_lst (pa_cons (pv 0) pa_nil)) pa_nil))))))) pa_nil)))
      (pss_blk (ps_par (i := 3) (j := 4) rfl S.nd rfl rfl (by decide) rfl rfl (pa_cons (pe_make B_Untold.mkr (ok_Untold B B_Untold.fn) hr (by rfl) B_Untold.gl (B_Untold.fn.bindsN fun _ _ _ _ _ _ us hl => match us, hl with | [_, _], _ => rfl) .nil pass0 (pa_cons (pv 0) pa_nil)) (pa_cons (pe_makeK0 B_Untold.mkr (ok_Untold B B_Untold.fn) hr (by rfl) B_Untold.gl (kbn0 B_Untold.fn 1 ["reading"] (fun us ws => us ++ ws) gCat (fun r1 r2 => r1.append r2) fun _ _ _ _ _ _ us ws l1 l2 => match us, ws, l1, l2 with | [_], [_], _, _ => rfl) pass0 (pk_cons (pv 0) pk_nil)) pa_nil)) rfl)
      (ps_par (i := 5) (j := 6) rfl S.nd rfl rfl (by decide) rfl rfl (pa_cons (pe_and (pe_callB (C8.call_isC B_Untold.k.ins) (by rfl) B.mi boot_isi (pa_cons (pv 3) (pa_cons (pe_glob (v := .ref C_Untold) (by rfl) B_Untold.gl rfl) pa_nil))) (pe_one (pe_callB (C8.call_isC B_Untold.k.ins) (by rfl) B.mi boot_isi (pa_cons (pv 4) (pa_cons (pe_glob (v := .ref C_Untold) (by rfl) B_Untold.gl rfl) pa_nil))))) (pa_cons (pe_lst (pa_cons (pe_fld (pv 3) (by rfl)) (pa_nil))) pa_nil)) rfl)
      (ps_expr (pe_bm PySem.F.plainAttrs_list PySem.F.slot_list_append PySem.F.type_list_append mt_append (pv 2) (pa_cons (pe_tup (pa_cons (pv 3) (pa_cons (pv 4) (pa_cons (pv 5) (pa_cons (pv 6) (pa_cons (pe_lst (pa_cons (pe_fld (pv 4) (by rfl)) (pa_nil))) (pa_cons (pe_lst (pa_cons (pv 0) pa_nil)) pa_nil))))))) pa_nil)))
      (pss_blk (ps_par (i := 3) (j := 4) rfl S.nd rfl rfl (by decide) rfl rfl (pa_cons (pe_make B_Mended.mkr (ok_Mended B B_Mended.fn) hr (by rfl) B_Mended.gl (B_Mended.fn.bindsN fun _ _ _ _ _ _ us hl => match us, hl with | [_, _, _], _ => rfl) .nil pass0 (pa_cons (pv 0) (pa_cons (pv 1) pa_nil))) (pa_cons (pe_makeK0 B_Mended.mkr (ok_Mended B B_Mended.fn) hr (by rfl) B_Mended.gl (kbn0 B_Mended.fn 1 ["places", "reading"] (fun us ws => us ++ ws.reverse) gSwp (fun r1 r2 => r1.append (vals_rev r2)) fun _ _ _ _ _ _ us ws l1 l2 => match us, ws, l1, l2 with | [_], [_, _], _, _ => rfl) pass0 (pk_cons (pv 1) (pk_cons (pv 0) pk_nil))) pa_nil)) rfl)
      (ps_par (i := 5) (j := 6) rfl S.nd rfl rfl (by decide) rfl rfl (pa_cons (pe_and (pe_callB (C8.call_isC B_Mended.k.ins) (by rfl) B.mi boot_isi (pa_cons (pv 3) (pa_cons (pe_glob (v := .ref C_Mended) (by rfl) B_Mended.gl rfl) pa_nil))) (pe_one (pe_callB (C8.call_isC B_Mended.k.ins) (by rfl) B.mi boot_isi (pa_cons (pv 4) (pa_cons (pe_glob (v := .ref C_Mended) (by rfl) B_Mended.gl rfl) pa_nil))))) (pa_cons (pe_lst (pa_cons (pe_fld (pv 3) (by rfl)) (pa_cons (pe_fld (pv 3) (by rfl)) (pa_nil)))) pa_nil)) rfl)
      (ps_expr (pe_bm PySem.F.plainAttrs_list PySem.F.slot_list_append PySem.F.type_list_append mt_append (pv 2) (pa_cons (pe_tup (pa_cons (pv 3) (pa_cons (pv 4) (pa_cons (pv 5) (pa_cons (pv 6) (pa_cons (pe_lst (pa_cons (pe_fld (pv 4) (by rfl)) (pa_cons (pe_fld (pv 4) (by rfl)) (pa_nil)))) (pa_cons (pe_lst (pa_cons (pv 0) (pa_cons (pv 1) pa_nil))) pa_nil))))))) pa_nil)))
      (pss_one (ps_ret (pv 2))))))))))))), ?_⟩
    refine ⟨Nat.zero_le _, fun R hR => ?_⟩
    have start : MI K va vb da db G H R 0 [some va, some vb, some (.ref R), none, none, none, none] (upd H R (.lst [])) := ⟨G, [], [], none, none, none, none, rfl, .lay hE hR, ex_none hE hR, upd_at, .nil, .nil, (by simp), rfl⟩

    refine ⟨MI K va vb da db G H R 1, blk1s B_Filled.k na_Filled hE hva hvb hR (by decide) start (fun _ _ z => z), fun σ1 H1 start => ?_⟩
    refine ⟨MI K va vb da db G H R 2, blk1s B_Hole.k na_Hole hE hva hvb hR (by decide) start (fun _ _ z => z), fun σ1 H1 start => ?_⟩
    refine ⟨MI K va vb da db G H R 3, blk1s B_Carried.k na_Carried hE hva hvb hR (by decide) start (fun _ _ z => z), fun σ1 H1 start => ?_⟩
    refine ⟨MI K va vb da db G H R 4, blk1s B_Barred.k na_Barred hE hva hvb hR (by decide) start (fun _ _ z => z), fun σ1 H1 start => ?_⟩
    refine ⟨MI K va vb da db G H R 5, blk1s B_Halves.k na_Halves hE hva hvb hR (by decide) start (fun _ _ z => z), fun σ1 H1 start => ?_⟩
    refine ⟨MI K va vb da db G H R 6, blk1s B_OddRound.k na_OddRound hE hva hvb hR (by decide) start (fun _ _ z => z), fun σ1 H1 start => ?_⟩
    refine ⟨MI K va vb da db G H R 7, blk1s B_Told.k na_Told hE hva hvb hR (by decide) start (fun _ _ z => z), fun σ1 H1 start => ?_⟩
    refine ⟨MI K va vb da db G H R 8, blk1s B_Untold.k na_Untold hE hva hvb hR (by decide) start (fun _ _ z => z), fun σ1 H1 start => ?_⟩
    refine ⟨MI K va vb da db G H R 9, blk2s B_Mended.k na_Mended nb_Mended (by decide) hE hva hvb hR (by decide) start (fun _ _ z => z), fun σ1 H1 start => ?_⟩
    obtain ⟨G', rs, os, y3, y4, y5, y6, rfl, g, gR, hR', rw_, nd, fr, hn⟩ := start
    refine ⟨_, rfl, q R rs os (upd G' R (.lst rs)) _ ⟨fun b hb => ?_, ex_fix' g.sub hR'⟩ upd_at (rw_.mono (ex_new gR)) nd fr hn⟩
    have bR : b ≠ R := fun z => hb (by rw [z]; exact hR)
    exact ⟨(g.old b hb).1, (upd_ne bR).trans (g.old b hb).2⟩
end
end K82
namespace K82
open PySem PySem.Spec PyProof.Rows L2 Dt Idn
section
variable {P : Program} {w : World} {K : PySem.W.Frag} {mg : Str → Option Value} {base : Heap} {f : Addr} {fd : FuncData}
abbrev sLCopy : Stmt := top 53
theorem scLCopy : FnScope ["value"] ["value"] (defScope sLCopy) := ⟨rfl, rfl, rfl, by decide +kernel, rfl, by decide +kernel, by decide +kernel⟩
theorem ok_lcopy (B : Bs K mg) (F : FnP K "_law_copy" sLCopy f fd) : FnOk P w K mg base CX0 1 f fd ["value"] spCp := by
  refine F.ok scLCopy (fun vs H Q E h => ?_) (fun cdv A outer s H vs Q E hr h => ?_)
  · obtain ⟨v, d, G, rfl, _⟩ := h
    rfl
  · obtain ⟨v, d, G, rfl, hG, hv, q⟩ := h
    refine ⟨_, PSs.nox (pss_one (ps_ret (pe_ifExp (pt_val (pe_callB call_isi (by rfl) B.mi boot_isi (pa_cons (pv 0) (pa_cons (pe_bltn (v := .ty "list") (by rfl) B.ml boot_list rfl) pa_nil)))) (pe_callTy call_tuple_of (by rfl) B.mt boot_tuple (pa_cons (pv 0) pa_nil)) (pv 0)))), ?_⟩
    obtain ⟨t, ty, k⟩ := vd_isi (K := K) (Vd.mono hG hv)
    refine ⟨_, rfl, _, _, t, _, _, rfl, .ty "list", ty, k, _, rfl, ?_⟩
    cases hv with
    | @lst a ys ds h t =>
      refine ⟨_, rfl, _, _, rfl, .inl ⟨.inl (.inl (hG _ _ h)), fun l hl => ?_⟩⟩
      have g := Gro.new (o := .tup ys) hG hl
      exact q _ _ _ g (.tup upd_at (Vds.mono (g.ex hG) t))
    | non => exact ⟨_, rfl, q _ _ _ (.refl hG) .non⟩
    | bl b => exact ⟨_, rfl, q _ _ _ (.refl hG) (.bl b)⟩
    | int i => exact ⟨_, rfl, q _ _ _ (.refl hG) (.int i)⟩
    | str x => exact ⟨_, rfl, q _ _ _ (.refl hG) (.str x)⟩
    | tup h t => exact ⟨_, rfl, q _ _ _ (.refl hG) (.tup h t)⟩
    | dct h l t => exact ⟨_, rfl, q _ _ _ (.refl hG) (.dct h l t)⟩
/-! ### _law_pen -/
theorem sqL_ex {K : PySem.W.Frag} {H H' : Hp} {L : Addr} {xs : List V} (e : Ex H H') (h : SqL K H L xs) : SqL K H' L xs := by
  rcases h with (h | ⟨u, h⟩) | h
  · exact .inl (.inl (e _ _ h))
  · exact .inl (.inr ⟨u, e _ _ h⟩)
  · exact .inr h
theorem sq_new {K : PySem.W.Frag} {H : Hp} {p L : Addr} {o : HO} {xs : List V} (hp : H p = none) (h : SqL K H L xs) : SqL K (upd H p o) L xs := sqL_ex (.new hp) h

abbrev sPen : Stmt := top 46
theorem scPen : FnScope ["script", "fold", "cell"] ["script"] (defScope sPen) := ⟨rfl, rfl, rfl, by decide +kernel, rfl, by decide +kernel, by decide +kernel⟩
def spPen (K : PySem.W.Frag) : Sp := fun vs H Q _ => ∃ (a : Addr) (ns : List Int), vs = [.ref a] ∧ SqL K H a (ns.map V.int) ∧ ns.length ≤ 63 ∧ ∀ p L H', H p = none → Ex H H' → PenAt H' p L 0 → Q (.ref p) H'
theorem ok_pen (B : Bs K mg) (F : FnP K "_law_pen" sPen f fd) : FnOk P w K mg base CX0 1 f fd ["script"] (spPen K) := by
  have S := scPen
  refine F.ok scPen (fun vs H Q E h => ?_) (fun cdv A outer s H vs Q E hr h => ?_)
  · obtain ⟨a, ns, rfl, _⟩ := h
    rfl
  · obtain ⟨a, ns, rfl, ha, hn, q⟩ := h
    refine ⟨_, PSs.nox (pss_cons (ps_set (i := 1) S.nd rfl (.inl rfl) pe_int)
      (pss_cons (ps_for PassesOwn.never rfl (pi_list (pv 0)) (pg_name (i := 2) S.nd rfl (.inl rfl))
        (pss_one (ps_set (i := 1) S.nd rfl (.inl rfl) (pe_op op_mod (pe_callTy call_int1 (by rfl) B.mn (by decide +kernel) (pa_cons (pe_op op_add (pe_op op_mul (pv 1) pe_int) (pv 2)) pa_nil)) pe_int))))
      (pss_one (ps_ret (pe_disp (pps_cons pe_str (pe_callTy call_list_of (by rfl) B.ml boot_list (pa_cons (pv 0) pa_nil)) (pps_cons pe_str pe_int (pps_cons pe_str pe_int (pps_cons pe_str pe_int (pps_cons pe_str (pv 1) pps_nil))))) rfl rfl (by simp) (by decide)))))), ?_⟩
    refine ⟨_, rfl, _, rfl, ⟨_, ha⟩, ?_⟩
    refine for_list (fun i σ H' => H' = H ∧ ∃ (m : Int) (y : Option V), σ = [some (.ref a), some (.int m), y] ∧ 0 ≤ m ∧ m < 2147483477) ⟨rfl, 0, none, rfl, by decide, by decide⟩ (fun _ _ _ _ e => by rw [e.1]; exact ha) ?_ ?_
    · rintro i x σ _ hx ⟨rfl, m, y, rfl, m0, m1⟩
      rw [List.getElem?_map] at hx
      obtain ⟨z, _, rfl⟩ := Option.map_eq_some_iff.mp hx
      refine ⟨_, rfl, _, 97, rfl, rfl, .inl (by omega), _, rfl, _, _, rfl, rfl, .inl ⟨_, rfl, _, 999999733, rfl, rfl, (by show (0 : Int) < 999999733; decide), ?_⟩⟩
      exact ⟨rfl, _, _, rfl, Int.emod_nonneg _ (by decide), by have := Int.emod_lt_of_pos ((m * 97 + z)) (show (0 : Int) < 999999733 by decide); omega⟩
    · rintro σ H2 ⟨e, m, y, rfl, m0, m1⟩
      subst e
      intro p hp
      refine ⟨_, rfl, _, _, rfl, .inl (sq_new hp ha), fun l hl => ?_⟩
      have lp : p ≠ l := fun z => by rw [z, upd_at] at hl; cases hl
      refine ⟨_, rfl, (upd_ne lp).trans upd_at, [(.inr "cells", .ref l), (.inr "at", .int 0), (.inr "digits", .int 0), (.inr "count", .int 0), (.inr "fold", .int m)], rfl, (by simp), ?_⟩
      have lh : H2 l = none := (upd_ne (Ne.symm lp)).symm.trans hl
      refine q p l _ hp ?_ ⟨ns, 0, 0, 0, m, upd_at, (upd_ne (Ne.symm lp)).trans upd_at, by decide, by omega, hn, by decide, by decide, by decide, m0, m1⟩
      intro b o e
      have b1 : b ≠ p := fun z => by rw [z, hp] at e; cases e
      have b2 : b ≠ l := fun z => by rw [z, lh] at e; cases e
      exact (upd_ne b1).trans ((upd_ne b2).trans ((upd_ne b1).trans e))

/-! ### _law_pick -/
theorem pen_ex {H H' : Hp} {p L : Addr} {c : Int} (e : Ex H H') (h : PenAt H p L c) : PenAt H' p L c := by
  obtain ⟨ns, at_, dg, cn, fo, hp, hL, r⟩ := h
  exact ⟨ns, at_, dg, cn, fo, e _ _ hp, e _ _ hL, r⟩
theorem pen_put {H : Hp} {p L D : Addr} {c : Int} {o : HO} (Dp : D ≠ p) (DL : D ≠ L) (h : PenAt H p L c) : PenAt (upd H D o) p L c := by
  obtain ⟨ns, at_, dg, cn, fo, hp, hL, r⟩ := h
  exact ⟨ns, at_, dg, cn, fo, (upd_ne Dp.symm).trans hp, (upd_ne DL.symm).trans hL, r⟩
theorem pen_ne {H : Hp} {p L D : Addr} {c : Int} (h : PenAt H p L c) (hD : H D = none) : D ≠ p ∧ D ≠ L := by
  obtain ⟨ns, at_, dg, cn, fo, hp, hL, r⟩ := h
  exact ⟨fun z => (by rw [z, hp] at hD; cases hD), fun z => (by rw [z, hL] at hD; cases hD)⟩
abbrev sPick : Stmt := top 48
theorem scPick : FnScope ["pen", "some"] ["pen", "some"] (defScope sPick) := ⟨rfl, rfl, rfl, by decide +kernel, rfl, by decide +kernel, by decide +kernel⟩
def Old (H H' : Hp) : Prop := ∀ b, H b = none → H' b = none
def spPick : Sp := fun vs H Q _ => ∃ (p C L : Addr) (xs : List V) (c : Int), vs = [.ref p, .ref L] ∧ H L = some (.lst xs) ∧ 0 < xs.length ∧ xs.length < 1000 ∧ PenAt H p C c ∧ c < 1099511627776 ∧
  ∀ (x : V) (H' : Hp), x ∈ xs → PenAt H' p C (c + 1) → Kp p H H' → Old H H' → Q x H'
def HasD (K : PySem.W.Frag) (mg : Str → Option Value) : Prop := ∃ fD fdD, FnP K "_law_draw" sDraw fD fdD ∧ mg "_law_draw" = some (.ref fD)
theorem pen_dct {H : Hp} {p L : Addr} {c : Int} (h : PenAt H p L c) : ∃ kvs, H p = some (.dK kvs) := by
  obtain ⟨ns, at_, dg, cn, fo, hp, _⟩ := h
  exact ⟨_, hp⟩
theorem ok_pick (B : Bs K mg) (D : HasD K mg) (F : FnP K "_law_pick" sPick f fd) : FnOk P w K mg base CX0 2 f fd ["pen", "some"] spPick := by
  have S := scPick
  obtain ⟨fD, fdD, FD, gD⟩ := D
  refine F.ok scPick (fun vs H Q E h => ?_) (fun cdv A outer s H vs Q E hr h => ?_)
  · obtain ⟨p, C, L, xs, c, rfl, _⟩ := h
    rfl
  · obtain ⟨p, C, L, xs, c, rfl, hL, x0, x1, hp, hc, q⟩ := h
    refine ⟨_, PSs.nox (pss_one (ps_ret (pe_ix ix_list (pv 1) (pe_call (ok_draw FD B.mn B.me) hr (by rfl) gD FD.kp (FD.bindsN fun _ _ _ _ _ _ us hl => match us, hl with | [_, _], _ => rfl) .nil pass0
      (pa_cons (pv 0) (pa_cons (pe_callB call_len_seq (by rfl) B.me PySem.boot_len (pa_cons (pv 1) pa_nil)) pa_nil))) (fun _ _ => rfl)))), ?_⟩
    have Lp : L ≠ p := fun z => by
      obtain ⟨kvs, e⟩ := pen_dct hp
      rw [z, e] at hL
      cases hL
    refine ⟨_, rfl, _, rfl, _, rfl, L, _, rfl, .inl (.inl (.inl hL)), p, C, xs.length, c, rfl, by omega, by omega, hp, hc, fun r H' r0 r1 hp' kp old => ?_⟩
    obtain ⟨j, rfl⟩ : ∃ j : Nat, r = (j : Int) := ⟨r.toNat, by omega⟩
    have hj : j < xs.length := by omega
    exact ⟨L, _, _, xs[j], rfl, rfl, .inl (.inl (kp L _ Lp hL)), atI_nat (List.getElem?_eq_getElem hj), q _ _ (List.getElem_mem hj) hp' kp old⟩
end
end K82
namespace K82
open PySem PySem.Spec PyProof.Rows L2 Dt Idn
/-! ### displays of data -/
def EvD (σ : L2.St) (t : TE) (d : PyData) : Prop := ∀ (G H : Hp) (Q : VK), Ex G H → (∀ v G' H', Gro G H G' H' → Vd G' v d → Q v H') → t σ H Q
def EvDs (σ : L2.St) (t : TA) (ds : List PyData) : Prop := ∀ (G H : Hp) (Q : List V → Hp → Prop), Ex G H → (∀ vs G' H', Gro G H G' H' → Vds G' vs ds → Q vs H') → t σ H Q
theorem EvD.c {σ : L2.St} {v : V} {d : PyData} (h : ∀ G, Vd G v d) : EvD σ (tC v) d := fun _ _ _ e q => q _ _ _ (.refl e) (h _)
theorem EvDs.nil {σ : L2.St} : EvDs σ tNil [] := fun _ _ _ e q => q _ _ _ (.refl e) .nil
theorem EvDs.cons {σ : L2.St} {t : TE} {u : TA} {d : PyData} {ds : List PyData} (h : EvD σ t d) (r : EvDs σ u ds) : EvDs σ (tCons t u) (d :: ds) := fun G H Q e q =>
  h G H _ e fun v G1 H1 g1 hv => r G1 H1 _ g1.sub fun vs G2 H2 g2 hvs => q _ _ _ (g1.tr g2) (.cons (Vd.mono (g2.ex g1.sub) hv) hvs)
theorem EvD.tup {σ : L2.St} {u : TA} {ds : List PyData} (r : EvDs σ u ds) (l : ds.length ≤ 20) : EvD σ (tTup u) (.tuple ds) := fun G H Q e q =>
  r G H _ e fun vs G1 H1 g1 hvs => ⟨by rw [hvs.length, sizeLine_eq]; omega, fun p hp => q _ _ _ (g1.tr (.new g1.sub hp)) (.tup upd_at (Vds.mono ((Gro.new g1.sub hp).ex g1.sub) hvs))⟩
theorem EvD.lst {σ : L2.St} {u : TA} {ds : List PyData} (r : EvDs σ u ds) (l : ds.length ≤ 20) : EvD σ (tLst u) (.list ds) := fun G H Q e q =>
  r G H _ e fun vs G1 H1 g1 hvs => ⟨by rw [hvs.length, sizeLine_eq]; omega, fun p hp => q _ _ _ (g1.tr (.new g1.sub hp)) (.lst upd_at (Vds.mono ((Gro.new g1.sub hp).ex g1.sub) hvs))⟩
theorem EvD.dic {σ : L2.St} : EvD σ (tDisp [(tC (.str "a"), tC (.int 1))]) (.dict [(.str "a", .int 1)]) := fun G H Q e q => fun p hp =>
  ⟨upd_at, [(.inr "a", .int 1)], rfl, by decide, by
    rw [upd_upd]
    exact q _ _ _ (.new e hp) (.dct (ks := [.inr "a"]) (xs := [.int 1]) (ds := [.int 1]) upd_at rfl (.cons (.int 1) .nil))⟩
theorem EvD.neg {σ : L2.St} {i : Int} : EvD σ (tUn (rU fun i => .int (-i)) (tC (.int i))) (.int (-i)) := fun G H Q e q => ⟨i, rfl, q _ _ _ (.refl e) (.int _)⟩
def menu : List PyData := [.tuple [.int 1, .int 2], .list [.int 1, .list [.int 2]], .list [], .tuple [], .str "web", .int 5, .none, .bool true, .tuple [.tuple [.int 0, .int 1]], .list [.list [.int 0], .list [.int 1]], .dict [(.str "a", .int 1)], .int (-3), .str "", .list [.none]]
def Mn (d : PyData) : Prop := d ∈ menu ∨ ∃ i j k : Int, 0 ≤ i ∧ i < 9 ∧ 0 ≤ j ∧ j < 9 ∧ 0 ≤ k ∧ k < 9 ∧ d = .list [.int i, .int j, .int k]
theorem vds_mem {H : Hp} : ∀ {ds : List PyData} {vs : List V}, Vds H vs ds → ∀ x ∈ vs, ∃ d ∈ ds, Vd H x d
  | _, _, .nil, x, h => nomatch h
  | _, _, .cons h t, x, hx => by
    rcases List.mem_cons.mp hx with rfl | hx
    · exact ⟨_, List.mem_cons_self, h⟩
    · obtain ⟨d, hd, q⟩ := vds_mem t x hx
      exact ⟨d, List.mem_cons_of_mem _ hd, q⟩
theorem pen_le {H : Hp} {p L : Addr} {c c' : Int} (e : c ≤ c') (h : PenAt H p L c) : PenAt H p L c' := by
  obtain ⟨ns, at_, dg, cn, fo, hp, hL, h1, h2, h3, h4, h5, h6, h7, h8⟩ := h
  exact ⟨ns, at_, dg, cn, fo, hp, hL, h1, h2, h3, h4, h5, by omega, h7, h8⟩
abbrev sValue : Stmt := top 52
theorem scValue : FnScope ["pen", "some", "k"] ["pen"] (defScope sValue) := ⟨rfl, rfl, rfl, by decide +kernel, rfl, by decide +kernel, by decide +kernel⟩
def spValue : Sp := fun vs H Q _ => ∃ (p L : Addr) (c : Int) (G : Hp), vs = [.ref p] ∧ PenAt H p L c ∧ c < 1000000000000 ∧ Ex G H ∧ G p = none ∧
  ∀ (v : V) (d : PyData) (G' H' : Hp), Ex G G' → (∀ b, H b ≠ none → G' b = G b) → Ex G' H' → G' p = none → PenAt H' p L (c + 4) → Kp p H H' → Mn d → Vd G' v d → Q v H'
def menuEs : List Expr := match defBody sValue with
  | .Assign _ (.List es _) _ :: _ => es
  | _ => []
section
variable {P : Program} {w : World} {K : PySem.W.Frag} {mg : Str → Option Value} {base : Heap} {f : Addr} {fd : FuncData}
theorem ok_value (B : Bs K mg) (D : HasD K mg) (PK : ∃ fP fdP, FnP K "_law_pick" sPick fP fdP ∧ mg "_law_pick" = some (.ref fP)) (F : FnP K "_law_value" sValue f fd) : FnOk P w K mg base CX0 3 f fd ["pen"] spValue := by
  have S := scValue
  obtain ⟨fP, fdP, FP, gP⟩ := PK
  have OP := ok_pick (P := P) (w := w) (base := base) B D FP
  obtain ⟨fD, fdD, FD, gD⟩ := D
  refine F.ok scValue (fun vs H Q E h => ?_) (fun cdv A outer s H vs Q E hr h => ?_)
  · obtain ⟨p, C, c, G, rfl, _⟩ := h
    rfl
  · obtain ⟨p, C, c, G, rfl, hp, hc, hG, gp, q⟩ := h
    obtain ⟨t, pt, ev⟩ : ∃ t, PA (cxOf CX0 P w K mg base ["pen", "some", "k"] "_law_value" (defScope sValue) f cdv A outer s H E).nox menuEs t ∧ EvDs [some (.ref p), none, none] t menu := ⟨_, pa_cons (pe_tup (pa_cons pe_int (pa_cons pe_int pa_nil))) (pa_cons (pe_lst (pa_cons pe_int (pa_cons (pe_lst (pa_cons pe_int pa_nil)) pa_nil))) (pa_cons (pe_lst pa_nil) (pa_cons (pe_tup pa_nil) (pa_cons pe_str (pa_cons pe_int (pa_cons pe_non (pa_cons pe_bl
        (pa_cons (pe_tup (pa_cons (pe_tup (pa_cons pe_int (pa_cons pe_int pa_nil))) pa_nil)) (pa_cons (pe_lst (pa_cons (pe_lst (pa_cons pe_int pa_nil)) (pa_cons (pe_lst (pa_cons pe_int pa_nil)) pa_nil))) (pa_cons (pe_disp (pps_cons pe_str pe_int pps_nil) rfl rfl (by simp) (by decide))
        (pa_cons (pe_un un_neg pe_int) (pa_cons pe_str (pa_cons (pe_lst (pa_cons pe_non pa_nil)) pa_nil))))))))))))),
      .cons (.tup (.cons (.c fun _ => .int 1) (.cons (.c fun _ => .int 2) .nil)) (by decide)) (.cons (.lst (.cons (.c fun _ => .int 1) (.cons (.lst (.cons (.c fun _ => .int 2) .nil) (by decide)) .nil)) (by decide)) (.cons (.lst .nil (by decide)) (.cons (.tup .nil (by decide)) (.cons (.c fun _ => .str "web") (.cons (.c fun _ => .int 5) (.cons (.c fun _ => .non) (.cons (.c fun _ => .bl true)
      (.cons (.tup (.cons (.tup (.cons (.c fun _ => .int 0) (.cons (.c fun _ => .int 1) .nil)) (by decide)) .nil) (by decide)) (.cons (.lst (.cons (.lst (.cons (.c fun _ => .int 0) .nil) (by decide)) (.cons (.lst (.cons (.c fun _ => .int 1) .nil) (by decide)) .nil)) (by decide)) (.cons .dic (.cons .neg (.cons (.c fun _ => .str "") (.cons (.lst (.cons (.c fun _ => .non) .nil) (by decide)) .nil)))))))))))))⟩
    refine ⟨_, PSs.nox (pss_cons (ps_set (i := 1) S.nd rfl (.inl rfl) (pe_lst pt))
      (pss_one (ps_ret (pe_call OP hr (by rfl) gP FP.kp (FP.bindsN fun _ _ _ _ _ _ us hl => match us, hl with | [_, _], _ => rfl) .nil pass0
        (pa_cons (pv 0) (pa_cons (pe_op op_cat (pv 1) (pe_lst (pa_cons (pe_lc (own := [("k", 2)]) (g := gName 2) (tt := tYes) rfl S.nd (pi_range1 (by rfl) B.mr (pa_cons pe_int pa_nil)) (blkOk_by (own := [("k", 2)]) (N := ["pen", "some", "k"]) (sc := defScope sValue) (by decide +kernel))
          (fun _ _ _ _ _ => pg_name (i := 2) S.nd rfl (.inl rfl)) (fun _ _ _ _ _ => pts_nil) (fun _ _ _ _ _ => pe_call (ok_draw FD B.mn B.me) (hr.mono (by decide)) (by rfl) gD FD.kp (FD.bindsN fun _ _ _ _ _ _ us hl => match us, hl with | [_, _], _ => rfl) .nil pass0 (pa_cons (pv 0) (pa_cons pe_int pa_nil)))) pa_nil))) pa_nil)))))), ?_⟩
    refine ev G H _ hG fun xs G1 H1 g1 hxs => ?_
    have hl := hxs.length
    refine ⟨by rw [hl]; decide, fun L hL => ?_⟩
    have n2 := Gro.new g1.sub (o := .lst xs) hL
    have hxs2 := Vds.mono (n2.ex g1.sub) hxs
    have eG2 := (n2.ex g1.sub)
    have x2 : (upd G1 L (.lst xs)) L = some (.lst xs) := upd_at
    have g2 := g1.tr n2
    generalize upd G1 L (.lst xs) = G2 at g2 hxs2 x2 eG2
    generalize upd H1 L (.lst xs) = H2 at g2
    clear n2 hL eG2
    have hp2 := pen_ex g2.exH hp
    have gp2 : G2 p = none := (g2.old p (by obtain ⟨_, e⟩ := pen_dct hp; rw [e]; exact fun z => nomatch z)).2.trans gp
    have kp2 : Kp p H H2 := .of g2.exH
    have eG := g2.ex hG
    have e2 := g2.sub
    clear g1 ev pt hxs
    refine ⟨_, rfl, _, rfl, 3, rfl, by decide, by decide, fun D hD => ?_⟩
    have gD : G2 D = none := ex_none e2 hD
    obtain ⟨Dp, DC⟩ := pen_ne hp2 hD
    refine lc_range (n := 3) (fun i H' => ∃ rs : List Int, rs.length = i ∧ (∀ r ∈ rs, 0 ≤ r ∧ r < 9) ∧ H' D = some (.lst (rs.map V.int)) ∧ PenAt H' p C (c + i) ∧ ∀ b o, b ≠ p → b ≠ D → H2 b = some o → H' b = some o)
      ⟨[], rfl, by simp, upd_at, pen_le (by omega) (pen_ex (.new hD) hp2), fun b o _ bD e => (upd_ne bD).trans e⟩ ?_ ?_
    · rintro i H3 hi ⟨rs, rfl, rb, h3, hp3, kp3⟩
      refine ⟨rfl, ?_⟩
      refine ⟨_, rfl, p, C, 9, c + rs.length, rfl, by decide, by decide, hp3, by omega, fun r H4 r0 r1 hp4 kp4 old => ?_⟩
      refine ⟨rs.map V.int, kp4 D _ Dp h3, by rw [sizeLine_eq, List.length_map]; omega, rs ++ [r], by simp, ?_, by rw [upd_at, List.map_append]; rfl, pen_put Dp DC (pen_le (by omega) hp4), ?_⟩
      · intro z hz
        rcases List.mem_append.mp hz with hz | hz
        · exact rb z hz
        · rw [List.mem_singleton.mp hz]; exact ⟨r0, r1⟩
      · intro b o bp bD e
        exact (upd_ne bD).trans (kp4 b o bp (kp3 b o bp bD e))
    · rintro H3 ⟨rs, rl, rb, h3, hp3, kp3⟩
      have exG : Ex (upd G2 D (.lst (rs.map V.int))) H3 := fun b o e => by
        by_cases z : b = D
        · rw [z, upd_at] at e
          rw [z, h3, e]
        · rw [upd_ne z] at e
          exact kp3 b o (fun y => by rw [y, gp2] at e; cases e) z (e2 _ _ e)
      have eG3 := ex_new (o := .lst (rs.map V.int)) gD
      have kpD : Kp p H2 H3 := fun b o bp e => kp3 b o bp (fun z => by rw [z, hD] at e; cases e) e
      refine ⟨show (1 : Nat) ≤ sizeLine by decide, fun M hM => ?_⟩
      have n3 := Gro.new exG (o := .lst [.ref D]) hM
      refine ⟨L, M, _, _, rfl, rfl, n3.sub _ _ (n3.ex exG _ _ (eG3 _ _ x2)), upd_at, by rw [hl]; exact show (15 : Nat) ≤ sizeLine by decide, fun N hN => ?_⟩
      have n4 := n3.tr (.new n3.sub (o := .lst (xs ++ [.ref D])) hN)
      refine ⟨p, C, N, _, c + 3, rfl, upd_at, by simp, by rw [List.length_append, hl]; exact show (15 : Nat) < 1000 by decide, pen_ex n4.exH hp3, by omega, fun x H6 hx hp6 kp6 old => ?_⟩
      have eG4 := n4.ex exG
      have gp4 : (upd G2 D (.lst (rs.map V.int))) p = none := (upd_ne Dp.symm).trans gp2
      have gp5 := (n4.old p (by obtain ⟨_, e⟩ := pen_dct hp3; rw [e]; exact fun z => nomatch z)).2.trans gp4
      have exF : Ex (upd (upd (upd G2 D (.lst (rs.map V.int))) M (.lst [.ref D])) N (.lst (xs ++ [.ref D]))) H6 := fun b o e => kp6 b o (fun y => by rw [y, gp5] at e; cases e) (n4.sub _ _ e)
      have kpF : Kp p H H6 := kp2.tr (kpD.tr ((Kp.of n4.exH).tr kp6))
      have oldG : ∀ b, H b ≠ none → (upd (upd (upd G2 D (.lst (rs.map V.int))) M (.lst [.ref D])) N (.lst (xs ++ [.ref D]))) b = G b := fun b hb => by
        obtain ⟨q1, q2⟩ := g2.old b hb
        have h2b : H2 b ≠ none := by rw [q1]; exact hb
        have bD : b ≠ D := fun z => h2b (by rw [z]; exact hD)
        have h3b : H3 b ≠ none := by
          by_cases z : b = p
          · obtain ⟨_, e⟩ := pen_dct hp3
            rw [z, e]
            exact fun z => nomatch z
          · cases q : H2 b with
            | none => exact absurd q h2b
            | some o =>
              rw [kpD b o z q]
              exact fun z => nomatch z
        exact (n4.old b h3b).2.trans ((upd_ne bD).trans q2)
      have go : ∀ d, Mn d → Vd (upd (upd (upd G2 D (.lst (rs.map V.int))) M (.lst [.ref D])) N (.lst (xs ++ [.ref D]))) x d → Q x H6 := fun d hd hv => q x d _ H6 (eG.tr (eG3.tr eG4)) oldG exF gp5 (pen_le (by omega) hp6) kpF hd hv
      rcases List.mem_append.mp hx with hx | hx
      · obtain ⟨d, hd, hv⟩ := vds_mem hxs2 x hx
        exact go d (.inl hd) (Vd.mono (eG3.tr eG4) hv)
      · rw [List.mem_singleton.mp hx] at go ⊢
        clear oldG
        match rs, rl, rb with
        | [i, j, k], _, rb =>
          have b1 := rb i (by simp)
          have b2 := rb j (by simp)
          have b3 := rb k (by simp)
          exact go (.list [.int i, .int j, .int k]) (.inr ⟨i, j, k, b1.1, b1.2, b2.1, b2.2, b3.1, b3.2, rfl⟩) (.lst (eG4 _ _ upd_at) (.cons (.int i) (.cons (.int j) (.cons (.int k) .nil))))
end
end K82
namespace K82
open PySem PySem.Spec PyProof.Rows L2 Dt Idn
/-! ### the sizes -/
def smB (d : PyData) : Bool := d.showable && (decide (d.depth ≤ 20) && decide (d.shown.length ≤ 1000))
theorem sm_menu : ∀ d ∈ menu, smB (cp d) = true := by decide +kernel
theorem sm_three : ∀ i j k : Fin 9, smB (cp (.list [.int (i : Nat), .int (j : Nat), .int (k : Nat)])) = true := by decide +kernel
theorem sm_of {d : PyData} (h : Mn d) : smB (cp d) = true := by
  rcases h with h | ⟨i, j, k, i0, i1, j0, j1, k0, k1, rfl⟩
  · exact sm_menu d h
  · obtain ⟨a, rfl⟩ : ∃ a : Nat, i = a := ⟨i.toNat, by omega⟩
    obtain ⟨b, rfl⟩ : ∃ a : Nat, j = a := ⟨j.toNat, by omega⟩
    obtain ⟨c, rfl⟩ : ∃ a : Nat, k = a := ⟨k.toNat, by omega⟩
    exact sm_three ⟨a, by omega⟩ ⟨b, by omega⟩ ⟨c, by omega⟩
theorem sm_un {d : PyData} (h : smB d = true) : d.showable = true ∧ d.depth ≤ 20 ∧ d.shown.length ≤ 1000 := by
  unfold smB at h
  rw [Bool.and_eq_true, Bool.and_eq_true] at h
  exact ⟨h.1, of_decide_eq_true h.2.1, of_decide_eq_true h.2.2⟩
theorem fit1 {d : PyData} (h : smB d = true) : Fit d := by
  obtain ⟨h1, h2, h3⟩ := sm_un h
  exact ⟨h1, by omega, by rw [sizeLine_eq]; omega⟩
theorem fitL1 {d : PyData} (h : smB d = true) : Fit (.list [d]) := by
  obtain ⟨h1, h2, h3⟩ := sm_un h
  refine ⟨?_, ?_, ?_⟩
  · simp only [PyData.showable, PyData.showableAll, h1, Bool.and_true]
  · simp only [PyData.depth, PyData.depthAll]
    omega
  · simp only [PyData.shown, PyData.shownAll, listText, textFrom, Str.length_append]
    have a1 : (("[" : Str)).length = 1 := by decide
    have a2 : (("]" : Str)).length = 1 := by decide
    have a3 : ((((if 0 > 0 then ", " else "" : String)) : Str)).length = 0 := by decide
    rw [sizeLine_eq]
    omega
theorem fitL2 {d e : PyData} (h : smB d = true) (h' : smB e = true) : Fit (.list [d, e]) := by
  obtain ⟨h1, h2, h3⟩ := sm_un h
  obtain ⟨k1, k2, k3⟩ := sm_un h'
  refine ⟨?_, ?_, ?_⟩
  · simp only [PyData.showable, PyData.showableAll, h1, k1, Bool.and_true]
  · simp only [PyData.depth, PyData.depthAll]
    omega
  · simp only [PyData.shown, PyData.shownAll, listText, textFrom, Str.length_append]
    have a1 : (("[" : Str)).length = 1 := by decide
    have a2 : (("]" : Str)).length = 1 := by decide
    have a3 : ((((if 0 > 0 then ", " else "" : String)) : Str)).length = 0 := by decide
    have a4 : ((((if 0 + 1 > 0 then ", " else "" : String)) : Str)).length = 2 := by decide
    rw [sizeLine_eq]
    omega
theorem fit_ds {d e : PyData} {ds : List PyData} (h : Mn d) (h' : Mn e) (hd : ds = [d] ∨ ds = [d, e]) : Fit (.list (ds.map cp)) := by
  rcases hd with rfl | rfl
  · exact fitL1 (sm_of h)
  · exact fitL2 (sm_of h) (sm_of h')
end K82
namespace K82
open PySem PySem.Spec PyProof.Rows L2 Dt Idn
abbrev sLaw : Stmt := top 54
def NL : List Str := ["script", "pen", "values", "a", "b", "rows", "more", "one", "two", "kind", "first", "second", "handed", "due", "k", "other", "kept", "before", "value"]
theorem scLaw : FnScope NL ["script"] (defScope sLaw) := ⟨rfl, rfl, rfl, by decide +kernel, rfl, by decide +kernel, by decide +kernel⟩
/-- what law names -/
structure Al (P : Program) (w : World) (K : PySem.W.Frag) (mg : Str → Option Value) (base : Heap) : Prop where
  b : Bs K mg
  d : HasD K mg
  pen : ∃ g gd, FnP K "_law_pen" sPen g gd ∧ mg "_law_pen" = some (.ref g)
  value : ∃ g gd, FnOk P w K mg base CX0 3 g gd ["pen"] spValue ∧ FnP K "_law_value" sValue g gd ∧ mg "_law_value" = some (.ref g)
  copy : ∃ g gd, FnP K "_law_copy" sLCopy g gd ∧ mg "_law_copy" = some (.ref g)
  ma : ∃ g gd, FnOk P w K mg base CX0 4 g gd ["a", "b"] (spMade K 11) ∧ FnP K "_law_made_a" sMade_a g gd ∧ mg "_law_made_a" = some (.ref g)
  mb : ∃ g gd, FnOk P w K mg base CX0 4 g gd ["a", "b"] (spMade K 11) ∧ FnP K "_law_made_b" sMade_b g gd ∧ mg "_law_made_b" = some (.ref g)
  mc : ∃ g gd, FnOk P w K mg base CX0 4 g gd ["a", "b"] (spMade K 9) ∧ FnP K "_law_made_c" sMade_c g gd ∧ mg "_law_made_c" = some (.ref g)
  sent : C1 K mg "Sent" "Sent.__init__" (ini 14) "ends"
  sys : Sys K
theorem boot_repr : bootBuiltins "repr" = some (.builtin "repr") := by decide +kernel
def rListOf (K : PySem.W.Frag) : List V → Hp → VK → Prop := fun xs H Q => ∃ p ys, xs = [.ref p] ∧ (SqL K H p ys ∨ SqT K H p ys) ∧ ∀ l, H l = none → Q (.ref l) (upd H l (.lst ys))
theorem call_listK {X : Cx} : CallR X (.type "list") (rListOf X.K) := call_list_of
def spLaw (K : PySem.W.Frag) : Sp := fun vs H Q _ => ∃ (a : Addr) (ns : List Int), vs = [.ref a] ∧ SqL K H a (ns.map V.int) ∧ ns.length ≤ 63 ∧ ∀ H', Q (.bl true) H'
theorem ite_no {c : Bool} {t e : Prop} (h : c = false) (he : e) : if c = true then t else e := by
  rw [h, if_neg (by decide)]
  exact he
theorem ite_yes {c : Bool} {t e : Prop} (h : c = true) (he : t) : if c = true then t else e := by
  rw [h, if_pos rfl]
  exact he
def fl0 : PyData → Bool
  | .none | .bool _ | .int _ | .str _ => true
  | _ => false
def fl1 (n : Nat) : PyData → Bool
  | .list es => decide (es.length ≠ n) && es.all fl0
  | d => fl0 d
def mOk : PyData → Bool
  | .list ds => decide (ds.length ≤ 3) && ds.all (fl1 ds.length)
  | _ => true
theorem mOk_menu : ∀ d ∈ menu, mOk d = true := by decide +kernel
theorem mOk_of {d : PyData} (h : Mn d) : mOk d = true := by
  rcases h with h | ⟨i, j, k, _, _, _, _, _, _, rfl⟩
  · exact mOk_menu d h
  · rfl
theorem vd_fl0 {H H' : Hp} {v : V} {d : PyData} (h : Vd H v d) (k : fl0 d = true) : Vd H' v d := by
  cases h with
  | non => exact .non
  | bl b => exact .bl b
  | int i => exact .int i
  | str x => exact .str x
  | lst h t => cases k
  | tup h t => cases k
  | dct h l t => cases k
theorem vds_fl0 {H H' : Hp} : ∀ {ds : List PyData} {vs : List V}, Vds H vs ds → ds.all fl0 = true → Vds H' vs ds
  | _, _, .nil, _ => .nil
  | _, _, .cons h t, k => by
    rw [List.all_cons, Bool.and_eq_true] at k
    exact .cons (vd_fl0 h k.1) (vds_fl0 t k.2)
theorem vd_fl1 {H : Hp} {v : V} {d : PyData} {z : Addr} {ys : List V} {o : HO} (h : Vd H v d) (hz : H z = some (.lst ys)) (k : fl1 ys.length d = true) : Vd (upd H z o) v d := by
  cases h with
  | non => exact .non
  | bl b => exact .bl b
  | int i => exact .int i
  | str x => exact .str x
  | @lst b xs es h t =>
    have k' : (decide (es.length ≠ ys.length) && es.all fl0) = true := k
    rw [Bool.and_eq_true] at k'
    have ne : b ≠ z := by
      rintro rfl
      rw [hz] at h
      cases h
      exact of_decide_eq_true k'.1 t.length.symm
    exact .lst ((upd_ne ne).trans h) (vds_fl0 t k'.2)
  | tup h t => cases k
  | dct h l t => cases k
theorem vds_fl1 {H : Hp} {z : Addr} {ys : List V} {o : HO} (hz : H z = some (.lst ys)) : ∀ {ds : List PyData} {vs : List V}, Vds H vs ds → ds.all (fl1 ys.length) = true → Vds (upd H z o) vs ds
  | _, _, .nil, _ => .nil
  | _, _, .cons h t, k => by
    rw [List.all_cons, Bool.and_eq_true] at k
    exact .cons (vd_fl1 h hz k.1) (vds_fl1 hz t k.2)
theorem vd_cpl {H : Hp} {v : V} {ds : List PyData} {z : Addr} {ys : List V} {o : HO} (hv : Vd H v (.tuple ds)) (h : H z = some (.lst ys)) (k : ds.all (fl1 ys.length) = true) : Vd (upd H z o) v (.tuple ds) := by
  cases hv with
  | @tup tt xt _ ht hvt =>
    have ne : tt ≠ z := fun e => by rw [e, h] at ht; cases ht
    exact .tup ((upd_ne ne).trans ht) (vds_fl1 h hvt k)
/-- the pen, the two values -/
structure Co (p L VL : Addr) (v1 v2 : V) (d1 d2 : PyData) (c : Int) (G H : Hp) : Prop where
  pen : PenAt H p L c
  ex : Ex G H
  gp : G p = none
  vl : G VL = some (.lst [v1, v2])
  e1 : Vd G v1 d1
  e2 : Vd G v2 d2
  m1 : Mn d1
  m2 : Mn d2
theorem pen_some {H : Hp} {p L : Addr} {c : Int} (h : PenAt H p L c) : H p ≠ none := by
  obtain ⟨_, e⟩ := pen_dct h
  rw [e]
  exact fun z => nomatch z
theorem Co.gro {p L VL : Addr} {v1 v2 : V} {d1 d2 : PyData} {c : Int} {G H G' H' : Hp} (h : Co p L VL v1 v2 d1 d2 c G H) (g : Gro G H G' H') : Co p L VL v1 v2 d1 d2 c G' H' :=
  ⟨pen_ex g.exH h.pen, g.sub, (g.old p (pen_some h.pen)).2.trans h.gp, g.ex h.ex _ _ h.vl, Vd.mono (g.ex h.ex) h.e1, Vd.mono (g.ex h.ex) h.e2, h.m1, h.m2⟩
theorem Co.put {p L VL D : Addr} {v1 v2 : V} {d1 d2 : PyData} {c : Int} {G H : Hp} {o : HO} (h : Co p L VL v1 v2 d1 d2 c G H) (Dn : D ≠ p ∧ D ≠ L) (gD : G D = none) : Co p L VL v1 v2 d1 d2 c G (upd H D o) :=
  ⟨pen_put Dn.1 Dn.2 h.pen, ex_put h.ex gD, h.gp, h.vl, h.e1, h.e2, h.m1, h.m2⟩
theorem vds_get {H : Hp} : ∀ {ds : List PyData} {vs : List V}, Vds H vs ds → ∀ {i : Nat} {x : V}, vs[i]? = some x → ∃ d, ds[i]? = some d ∧ Vd H x d
  | _, _, .nil, i, x, h => by cases h
  | _, _, .cons h t, 0, x, e => by
    cases e
    exact ⟨_, rfl, h⟩
  | _, _, .cons h t, i + 1, x, e => vds_get t (i := i) e
theorem vds_snoc {H : Hp} : ∀ {ds : List PyData} {vs : List V} {d : PyData} {v : V}, Vds H vs ds → Vd H v d → Vds H (vs ++ [v]) (ds ++ [d])
  | _, _, _, _, .nil, k => .cons k .nil
  | _, _, _, _, .cons h t, k => .cons h (vds_snoc t k)
section
variable {P : Program} {w : World} {K : PySem.W.Frag} {mg : Str → Option Value} {base : Heap} {f : Addr} {fd : FuncData}
theorem ok_law (W : Al P w K mg base) (F : FnP K "law" sLaw f fd) : Gd.FnG P w K mg base CX0 5 f fd ["script"] (spLaw K) := by
  have S := scLaw
  obtain ⟨B, ⟨fD, fdD, FD, gD⟩, ⟨fN, fdN, FN, gN⟩, ⟨fV, fdV, OV, FV, gV⟩, ⟨fY, fdY, FY, gY⟩, ⟨fA, fdA, OA, FA, gA⟩, ⟨fB, fdB, OB, FB, gB⟩, ⟨fC, fdC, OC, FC, gC⟩, ⟨cS, fS, fdS, BS, naS⟩, Sy⟩ := W
  refine Gd.fnG_of F scLaw (fun vs H Q E h => ?_) (fun cdv A outer s H vs Q E hr hG h => ?_)
  · obtain ⟨a, ns, rfl, _⟩ := h
    rfl
  · obtain ⟨a, ns, rfl, ha, hn, q⟩ := h
    have hu := hu_of hr
    have hu1 := hr.units
    refine ⟨_, PSs.nox (
      C8.pss_cut (ps_set (i := 1) S.nd rfl (.inr rfl) (pe_call (ok_pen B FN) (hr.mono (by decide)) (by rfl) gN FN.kp (FN.bindsN fun _ _ _ _ _ _ us hl => match us, hl with | [_], _ => rfl) .nil pass0 (pa_cons (pv 0) pa_nil)))
      (C8.pss_cut (ps_setLc (i := 2) (own := [("k", 14)]) (g := gName 14) (tt := tYes) (by rfl) S.nd rfl rfl (sw_true rfl rfl rfl (by decide +kernel)) (pi_range1 (by rfl) B.mr (pa_cons pe_int pa_nil)) (blkOk_by (own := [("k", 14)]) (N := NL) (sc := defScope sLaw) (by decide +kernel))
          (fun _ _ _ _ _ => pg_name (i := 14) S.nd rfl (.inl rfl)) (fun _ _ _ _ _ => pts_nil) (fun _ _ _ _ _ => pe_call OV (hr.mono (by decide)) (by rfl) gV FV.kp (FV.bindsN fun _ _ _ _ _ _ us hl => match us, hl with | [_], _ => rfl) .nil pass0 (pa_cons (pv 1) pa_nil)))
      (C8.pss_cut (ps_asg (pe_lc (own := [("value", 18)]) (g := gName 18) (tt := tYes) (by rfl) S.nd (pi_list (pv 2)) (blkOk_by (own := [("value", 18)]) (N := NL) (sc := defScope sLaw) (by decide +kernel))
          (fun _ _ _ _ _ => pg_name (i := 18) S.nd rfl (.inl rfl)) (fun _ _ _ _ _ => pts_nil) (fun _ _ _ _ _ => pe_ifExp (pt_val (pe_callB (r := rIsi K) call_isi (by rfl) B.mi boot_isi (pa_cons (pv 18) (pa_cons (pe_bltn (v := .ty "list") (by rfl) B.ml boot_list rfl) pa_nil)))) (pe_callTy (r := rListOf K) call_listK (by rfl) B.ml boot_list (pa_cons (pv 18) pa_nil)) (pv 18)))
          (pg_unl rfl (pgs_cons (pg_name (i := 3) S.nd rfl (.inl rfl)) (pgs_cons (pg_name (i := 4) S.nd rfl (.inl rfl)) pgs_nil))))
      (C8.pss_cut (ps_set (i := 5) S.nd rfl (.inl rfl) (pe_lst pa_nil))
      (C8.pss_cut (ps_for PassesOwn.never rfl (pi_list (pe_lst (pa_cons (pe_call OA hr (by rfl) gA FA.kp (FA.bindsN fun _ _ _ _ _ _ us hl => match us, hl with | [_, _], _ => rfl) .nil pass0 (pa_cons (pv 3) (pa_cons (pv 4) pa_nil))) (pa_cons (pe_call OB hr (by rfl) gB FB.kp (FB.bindsN fun _ _ _ _ _ _ us hl => match us, hl with | [_, _], _ => rfl) .nil pass0 (pa_cons (pv 3) (pa_cons (pv 4) pa_nil))) (pa_cons (pe_call OC hr (by rfl) gC FC.kp (FC.bindsN fun _ _ _ _ _ _ us hl => match us, hl with | [_, _], _ => rfl) .nil pass0 (pa_cons (pv 3) (pa_cons (pv 4) pa_nil))) pa_nil)))))
          (pg_name (i := 6) S.nd rfl (.inl rfl)) (pss_one (ps_set (i := 5) S.nd rfl (.inl rfl) (pe_op op_cat (pv 5) (pv 6)))))
      (C8.pss_cut (ps_for PassesOwn.never rfl (pi_list (pv 5)) (pg_tup rfl (pgs_cons (pg_name (i := 7) S.nd rfl (.inl rfl)) (pgs_cons (pg_name (i := 8) S.nd rfl (.inl rfl)) (pgs_cons (pg_name (i := 9) S.nd rfl (.inl rfl)) (pgs_cons (pg_name (i := 10) S.nd rfl (.inl rfl)) (pgs_cons (pg_name (i := 11) S.nd rfl (.inl rfl)) (pgs_cons (pg_name (i := 12) S.nd rfl (.inl rfl)) pgs_nil)))))))
          (pss_cons (ps_set (i := 13) S.nd rfl (.inl rfl) (pe_callB (call_repr Sy hG hu1) (by rfl) B.mp boot_repr (pa_cons (pe_lc (own := [("value", 18)]) (g := gName 18) (tt := tYes) (by rfl) S.nd (pi_list (pv 12)) (blkOk_by (own := [("value", 18)]) (N := NL) (sc := defScope sLaw) (by decide +kernel))
              (fun _ _ _ _ _ => pg_name (i := 18) S.nd rfl (.inl rfl)) (fun _ _ _ _ _ => pts_nil) (fun _ _ _ _ _ => pe_call (ok_lcopy B FY) (hr.mono (by decide)) (by rfl) gY FY.kp (FY.bindsN fun _ _ _ _ _ _ us hl => match us, hl with | [_], _ => rfl) .nil pass0 (pa_cons (pv 18) pa_nil))) pa_nil)))
            (pss_one (ps_if (PW.pt (pw_or (pt_cmpR op_isnot_bl (pv 9) pe_bl (nomark _)) (pw_or (pt_cmpR op_ne (pe_callB (call_repr Sy hG hu1) (by rfl) B.mp boot_repr (pa_cons (pv 10) pa_nil)) (pv 13) (nomark _)) (pw_or (pt_cmpR op_ne (pe_callB (call_repr Sy hG hu1) (by rfl) B.mp boot_repr (pa_cons (pv 11) pa_nil)) (pv 13) (nomark _))
              (pw_or (pt_not (pt_cmpR (op_eqI hu) (pv 7) (pv 7) (nomark _))) (pw_or1 (pt_cmpR (op_eqI hu) (pv 7) (pv 8) (nomark _)))))))) (pss_one (ps_ret pe_bl)) pss_nil))))
      (C8.pss_cut (ps_for PassesOwn.never rfl (pi_range1 (by rfl) B.mr (pa_cons (pe_callB call_len_seq (by rfl) B.me PySem.boot_len (pa_cons (pv 5) pa_nil)) pa_nil)) (pg_name (i := 14) S.nd rfl (.inl rfl))
          (pss_cons (ps_set (i := 15) S.nd rfl (.inl rfl) (pe_ix ix_tup (pe_ix ix_list (pv 5) (pe_op op_mod (pe_callTy call_int1 (by rfl) B.mn (by decide +kernel) (pa_cons (pe_op op_add (pe_op op_add (pv 14) pe_int) (pe_call (ok_draw FD B.mn B.me) (hr.mono (by decide)) (by rfl) gD FD.kp (FD.bindsN fun _ _ _ _ _ _ us hl => match us, hl with | [_, _], _ => rfl) .nil pass0
              (pa_cons (pv 1) (pa_cons (pe_op op_sub (pe_callB call_len_seq (by rfl) B.me PySem.boot_len (pa_cons (pv 5) pa_nil)) pe_int) pa_nil)))) pa_nil)) (pe_callB call_len_seq (by rfl) B.me PySem.boot_len (pa_cons (pv 5) pa_nil))) (fun _ _ => rfl)) pe_int (fun _ _ => rfl)))
            (pss_one (ps_if (PW.pt (pw_or (pt_cmpR (op_eqI hu) (pe_ix ix_tup (pe_ix ix_list (pv 5) (pv 14) (fun _ _ => rfl)) pe_int (fun _ _ => rfl)) (pv 15) (nomark _)) (pw_or (pt_cmpR (op_eqI hu) (pv 15) (pe_ix ix_tup (pe_ix ix_list (pv 5) (pv 14) (fun _ _ => rfl)) pe_int (fun _ _ => rfl)) (nomark _))
              (pw_or1 (pt_not (pt_cmpR (op_neI hu) (pe_ix ix_tup (pe_ix ix_list (pv 5) (pv 14) (fun _ _ => rfl)) pe_int (fun _ _ => rfl)) (pv 15) (nomark _))))))) (pss_one (ps_ret pe_bl)) pss_nil))))
      (C8.pss_cut (ps_set (i := 16) S.nd rfl (.inl rfl) (pe_make BS.mkr (ok_Sent B BS.fn) (hr.mono (by decide)) (by rfl) BS.gl (BS.fn.bindsN fun _ _ _ _ _ _ us hl => match us, hl with | [_, _], _ => rfl) .nil pass0 (pa_cons (pe_ix ix_list (pv 2) pe_int (fun _ _ => rfl)) pa_nil)))
      (C8.pss_cut (ps_set (i := 17) S.nd rfl (.inl rfl) (pe_callB (call_repr Sy hG hu1) (by rfl) B.mp boot_repr (pa_cons (pe_fld (pv 16) (by rfl)) pa_nil)))
      (C8.pss_cut (ps_if (pt_val (pe_callB call_isi (by rfl) B.mi boot_isi (pa_cons (pe_ix ix_list (pv 2) pe_int (fun _ _ => rfl)) (pa_cons (pe_bltn (v := .ty "list") (by rfl) B.ml boot_list rfl) pa_nil))))
          (pss_one (ps_expr (pe_bm PySem.F.plainAttrs_list PySem.F.slot_list_append PySem.F.type_list_append mt_append (pe_ix ix_list (pv 2) pe_int (fun _ _ => rfl)) (pa_cons pe_int pa_nil)))) pss_nil)
      (pss_one (ps_ret (pe_and (pe_cmpR op_eq (pe_callB (call_repr Sy hG hu1) (by rfl) B.mp boot_repr (pa_cons (pe_fld (pv 16) (by rfl)) pa_nil)) (pv 17) (nomark _)) (pe_one (pe_cmpR op_eq (pe_callB call_len_seq (by rfl) B.me PySem.boot_len (pa_cons (pv 5) pa_nil)) pe_int (nomark _)))))))))))))))), ?_⟩
    -- the pen
    refine ⟨fun σ H1 => ∃ p L, σ = [some (.ref a), some (.ref p), none, none, none, none, none, none, none, none, none, none, none, none, none, none, none, none, none] ∧ PenAt H1 p L 0, ?_, ?_⟩
    · exact ⟨_, rfl, a, ns, rfl, ha, hn, fun p L H' _ _ hp => ⟨p, L, rfl, hp⟩⟩
    rintro σ H1 ⟨p, L, rfl, hp⟩
    -- the two values
    refine ⟨fun σ H2 => ∃ VL v1 v2 d1 d2 G, σ = [some (.ref a), some (.ref p), some (.ref VL), none, none, none, none, none, none, none, none, none, none, none, none, none, none, none, none] ∧ Co p L VL v1 v2 d1 d2 8 G H2, ?_, ?_⟩
    · refine ⟨2, rfl, by decide, by decide, fun D hD => ?_⟩
      obtain ⟨Dp, DL⟩ := pen_ne hp hD
      refine lc_range (n := 2) (fun i H' => PenAt H' p L (4 * i) ∧ ∃ G vs ds, Ex G H' ∧ G p = none ∧ G D = none ∧ H' D = some (.lst vs) ∧ Vds G vs ds ∧ vs.length = i ∧ ∀ d ∈ ds, Mn d)
        ⟨pen_le (by omega) (pen_ex (.new hD) hp), fun _ => none, [], [], (fun _ _ e => by cases e), rfl, rfl, upd_at, .nil, rfl, (by simp)⟩ ?_ ?_
      · rintro i H3 hi ⟨hp3, G, vs, ds, eG, gp, gD, h3, hvs, rfl, hm⟩
        refine ⟨rfl, ?_⟩
        refine ⟨_, rfl, p, L, _, G, rfl, hp3, by omega, eG, gp, fun v d G' H' eG' old eH' gp' hp' kp hMn hv => ?_⟩
        have gD' : G' D = none := (old D (by rw [h3]; exact fun z => nomatch z)).trans gD
        refine ⟨vs, kp D _ Dp h3, by rw [sizeLine_eq]; omega, pen_put Dp DL (pen_le (by omega) hp'), G', vs ++ [v], ds ++ [d], ex_put eH' gD', gp', gD', upd_at, vds_snoc (Vds.mono eG' hvs) hv, by simp, ?_⟩
        intro z hz
        rcases List.mem_append.mp hz with hz | hz
        · exact hm z hz
        · rw [List.mem_singleton.mp hz]
          exact hMn
      · rintro H3 ⟨hp3, G, vs, ds, eG, gp, gD, h3, hvs, hl, hm⟩
        match vs, ds, hvs, hl, hm with
        | [v1, v2], [d1, d2], .cons e1 (.cons e2 .nil), _, hm =>
          exact ⟨D, v1, v2, d1, d2, upd G D (.lst [v1, v2]), rfl, hp3, ex_fix' eG h3, (upd_ne Dp.symm).trans gp, upd_at, Vd.mono (ex_new gD) e1, Vd.mono (ex_new gD) e2, hm _ (by simp), hm _ (by simp)⟩
    rintro σ H2 ⟨VL, v1, v2, d1, d2, G, rfl, co⟩
    -- a, b
    refine ⟨fun σ H3 => ∃ va vb G, σ = [some (.ref a), some (.ref p), some (.ref VL), some va, some vb, none, none, none, none, none, none, none, none, none, none, none, none, none, none] ∧ Co p L VL v1 v2 d1 d2 8 G H3 ∧ Vd G va d1 ∧ Vd G vb d2, ?_, ?_⟩
    · refine ⟨_, rfl, VL, rfl, ⟨_, .inl (.inl (co.ex _ _ co.vl))⟩, fun D hD => ?_⟩
      refine lc_list (xs := [v1, v2]) (fun i H' => ∃ G vs, Co p L VL v1 v2 d1 d2 8 G H' ∧ G D = none ∧ H' D = some (.lst vs) ∧ Vds G vs ([d1, d2].take i))
        ⟨G, [], co.gro (.lay co.ex hD), ex_none co.ex hD, upd_at, .nil⟩ (fun i H' _ ⟨G', vs, co', _⟩ => .inl (.inl (co'.ex _ _ co'.vl))) ?_ ?_
      · rintro i x H' hx ⟨G', vs, co', gD, hD', hvs⟩
        have go : ∀ d, ([d1, d2].take i) ++ [d] = [d1, d2].take (i + 1) → vs.length ≤ 1 → Vd G' x d → tIf (tB (tCB (rIsi K) (tCons (tVar 18) (tCons (tC (.ty "list")) tNil)))) (tCB (rListOf K) (tCons (tVar 18) tNil)) (tVar 18)
            [some (.ref a), some (.ref p), some (.ref VL), none, none, none, none, none, none, none, none, none, none, none, none, none, none, none, some x] H' fun y H4 => ∃ acc, H4 D = some (.lst acc) ∧ acc.length < sizeLine ∧ ∃ G vs, Co p L VL v1 v2 d1 d2 8 G (upd H4 D (.lst (acc ++ [y]))) ∧ G D = none ∧ (upd H4 D (.lst (acc ++ [y]))) D = some (.lst vs) ∧ Vds G vs ([d1, d2].take (i + 1)) := by
          intro d ed lv hv
          have fin : ∀ (y : V) (G4 H4 : Hp), Gro G' H' G4 H4 → Vd G4 y d → ∃ acc, H4 D = some (.lst acc) ∧ acc.length < sizeLine ∧ ∃ G vs, Co p L VL v1 v2 d1 d2 8 G (upd H4 D (.lst (acc ++ [y]))) ∧ G D = none ∧ (upd H4 D (.lst (acc ++ [y]))) D = some (.lst vs) ∧ Vds G vs ([d1, d2].take (i + 1)) := by
            intro y G4 H4 g4 hy
            have gD4 : G4 D = none := (g4.old D (by rw [hD']; exact fun z => nomatch z)).2.trans gD
            have co4 := co'.gro g4
            exact ⟨vs, g4.exH _ _ hD', by rw [sizeLine_eq]; omega, G4, vs ++ [y], co4.put (pen_ne co.pen hD) gD4, gD4, upd_at, by rw [← ed]; exact vds_snoc (Vds.mono (g4.ex co'.ex) hvs) hy⟩
          obtain ⟨t, ty, k⟩ := vd_isi (K := K) (Vd.mono co'.ex hv)
          refine ⟨_, rfl, _, _, t, _, _, rfl, .ty "list", ty, k, _, rfl, ?_⟩
          cases hv with
          | @lst z ys ds h t =>
            refine ⟨_, rfl, z, ys, rfl, .inl (.inl (.inl (co'.ex _ _ h))), fun l hl => ?_⟩
            have g := Gro.new (o := .lst ys) co'.ex hl
            exact fin _ _ _ g (.lst upd_at (Vds.mono (g.ex co'.ex) t))
          | non => exact ⟨_, rfl, fin _ _ _ (.refl co'.ex) .non⟩
          | bl b => exact ⟨_, rfl, fin _ _ _ (.refl co'.ex) (.bl b)⟩
          | int i => exact ⟨_, rfl, fin _ _ _ (.refl co'.ex) (.int i)⟩
          | str x => exact ⟨_, rfl, fin _ _ _ (.refl co'.ex) (.str x)⟩
          | tup h t => exact ⟨_, rfl, fin _ _ _ (.refl co'.ex) (.tup h t)⟩
          | dct h l t => exact ⟨_, rfl, fin _ _ _ (.refl co'.ex) (.dct h l t)⟩
        have lv := hvs.length
        match i, hx with
        | 0, e =>
          cases e
          exact ⟨rfl, go d1 rfl (by rw [lv]; exact (show (0 : Nat) ≤ 1 by decide)) co'.e1⟩
        | 1, e =>
          cases e
          exact ⟨rfl, go d2 rfl (by rw [lv]; exact (show (1 : Nat) ≤ 1 by decide)) co'.e2⟩
        | i + 2, e => cases e
      · rintro H' ⟨G', vs, co', gD, hD', hvs⟩
        match vs, hvs with
        | [va, vb], .cons e1 (.cons e2 .nil) =>
          refine ⟨D, _, rfl, .inl (.inl hD'), rfl, _, _, rfl, _, _, rfl, rfl, va, vb, G', rfl, co', e1, e2⟩
    rintro σ H3 ⟨va, vb, G, rfl, co, eva, evb⟩
    -- rows
    refine ⟨fun σ H4 => ∃ R0 G, σ = [some (.ref a), some (.ref p), some (.ref VL), some va, some vb, some (.ref R0), none, none, none, none, none, none, none, none, none, none, none, none, none] ∧ Co p L VL v1 v2 d1 d2 8 G H4 ∧ Vd G va d1 ∧ Vd G vb d2 ∧ G R0 = some (.lst []), ?_, ?_⟩
    · refine ⟨Nat.zero_le _, fun R0 hR => ?_⟩
      have g := Gro.new co.ex (o := .lst []) hR
      exact ⟨R0, _, rfl, co.gro g, Vd.mono (g.ex co.ex) eva, Vd.mono (g.ex co.ex) evb, upd_at⟩
    clear co eva evb G
    rintro σ H4 ⟨R0, G, rfl, co, eva, evb, hR0⟩
    refine ⟨fun σ H5 => ∃ RL y6 G rs os, σ = [some (.ref a), some (.ref p), some (.ref VL), some va, some vb, some (.ref RL), y6, none, none, none, none, none, none, none, none, none, none, none, none] ∧ Co p L VL v1 v2 d1 d2 8 G H5 ∧ G RL = some (.lst rs) ∧ Rws K d1 d2 G rs os ∧ os.Nodup ∧ rs.length = 31, ?_, ?_⟩
    · refine ⟨_, rfl, _, rfl, va, vb, d1, d2, G, rfl, co.ex, eva, evb, fun R1 rs1 os1 G1 H1 g1 r1 w1 n1 f1 l1 => ?_⟩
      have co1 := co.gro g1
      refine ⟨_, rfl, _, rfl, va, vb, d1, d2, G1, rfl, co1.ex, Vd.mono (g1.ex co.ex) eva, Vd.mono (g1.ex co.ex) evb, fun R2 rs2 os2 G2 H2 g2 r2 w2 n2 f2 l2 => ?_⟩
      have co2 := co1.gro g2
      refine ⟨_, rfl, _, rfl, va, vb, d1, d2, G2, rfl, co2.ex, Vd.mono (g2.ex co1.ex) (Vd.mono (g1.ex co.ex) eva), Vd.mono (g2.ex co1.ex) (Vd.mono (g1.ex co.ex) evb), fun R3 rs3 os3 G3 H3 g3 r3 w3 n3 f3 l3 => ?_⟩
      have co3 := co2.gro g3
      refine ⟨show (3 : Nat) ≤ sizeLine by decide, fun T hT => ?_⟩
      have g4 := Gro.new co3.ex (o := .lst [.ref R1, .ref R2, .ref R3]) hT
      have co4 := co3.gro g4
      have x1 := g1.ex co.ex
      have x2 := g2.ex co1.ex
      have x3 := g3.ex co2.ex
      have x4 := g4.ex co3.ex
      have hTl : (upd G3 T (.lst [.ref R1, .ref R2, .ref R3])) T = some (.lst [.ref R1, .ref R2, .ref R3]) := upd_at
      generalize upd G3 T (.lst [.ref R1, .ref R2, .ref R3]) = G4 at g4 co4 x4 hTl
      generalize upd H3 T (.lst [.ref R1, .ref R2, .ref R3]) = Hx at g4 co4
      have h0 := x4 _ _ (x3 _ _ (x2 _ _ (x1 _ _ hR0)))
      have h1 := x4 _ _ (x3 _ _ (x2 _ _ r1))
      have h2 := x4 _ _ (x3 _ _ r2)
      have h3 := x4 _ _ r3
      have wAll := ((w1.mono (x2.tr (x3.tr x4))).append (w2.mono (x3.tr x4))).append (w3.mono x4)
      have nd : (os1 ++ os2 ++ os3).Nodup := by
        refine List.nodup_append.mpr ⟨List.nodup_append.mpr ⟨n1, n2, fun o ho o' ho' => ?_⟩, n3, fun o ho o' ho' => ?_⟩
        · rintro rfl
          exact w1.ne o ho (ex_none co1.ex (f2 o ho'))
        · rintro rfl
          rcases List.mem_append.mp ho with ho | ho
          · exact (w1.mono x2).ne o ho (ex_none co2.ex (f3 o ho'))
          · exact w2.ne o ho (ex_none co2.ex (f3 o ho'))
      refine ⟨T, rfl, ⟨_, .inl (.inl (co4.ex _ _ hTl))⟩, ?_⟩
      refine for_list (xs := [.ref R1, .ref R2, .ref R3]) (fun i σ H' => ∃ R y6 G' , σ = [some (.ref a), some (.ref p), some (.ref VL), some va, some vb, some (.ref R), y6, none, none, none, none, none, none, none, none, none, none, none, none] ∧ Gro G4 Hx G' H' ∧ G' R = some (.lst (([rs1, rs2, rs3].take i).flatten)))
        ⟨R0, none, G4, rfl, .refl co4.ex, h0⟩ (fun i σ H' _ ⟨R, y6, G', _, g, _⟩ => .inl (.inl (g.exH _ _ (co4.ex _ _ hTl)))) ?_ ?_
      · rintro i x σ H' hx ⟨R, y6, G', rfl, g, hR⟩
        have go : ∀ (Ri : Addr) (ri : List V), G4 Ri = some (.lst ri) → x = .ref Ri → (([rs1, rs2, rs3].take i).flatten) ++ ri = ([rs1, rs2, rs3].take (i + 1)).flatten → (([rs1, rs2, rs3].take i).flatten).length + ri.length ≤ 40 →
            gName 6 x [some (.ref a), some (.ref p), some (.ref VL), some va, some vb, some (.ref R), y6, none, none, none, none, none, none, none, none, none, none, none, none] H' fun σ2 H2 => tAsg (tOp rCat (tVar 5) (tVar 6)) (gName 5) { nx := (fun σ H' => ∃ R y6 G' , σ = [some (.ref a), some (.ref p), some (.ref VL), some va, some vb, some (.ref R), y6, none, none, none, none, none, none, none, none, none, none, none, none] ∧ Gro G4 Hx G' H' ∧ G' R = some (.lst (([rs1, rs2, rs3].take (i + 1)).flatten))), ct := fun _ _ => True, bk := fun _ _ => True, rt := fun _ _ => True } σ2 H2 := by
          rintro Ri ri hri rfl e l
          have hb := g.ex co4.ex _ _ hri
          refine ⟨_, rfl, _, rfl, R, Ri, _, _, rfl, rfl, g.sub _ _ hR, g.sub _ _ hb, by rw [sizeLine_eq]; omega, fun q hq => ?_⟩
          exact ⟨q, _, _, rfl, g.tr (.new g.sub hq), by rw [e]; exact upd_at⟩
        match i, hx with
        | 0, e => cases e; exact go R1 rs1 h1 rfl (by simp) (by simp; omega)
        | 1, e => cases e; exact go R2 rs2 h2 rfl (by simp) (by simp; omega)
        | 2, e => cases e; exact go R3 rs3 h3 rfl (by simp) (by simp; omega)
        | i + 3, e => cases e
      · rintro σ H' ⟨R, y6, G', rfl, g, hR⟩
        have e : ([rs1, rs2, rs3].take 3).flatten = rs1 ++ rs2 ++ rs3 := by simp
        exact ⟨R, y6, G', rs1 ++ rs2 ++ rs3, os1 ++ os2 ++ os3, rfl, co4.gro g, by rw [← e]; exact hR, wAll.mono (g.ex co4.ex), nd, by simp; omega⟩
    clear co eva evb hR0 G
    rintro σ H5 ⟨RL, y6, G, rs, os, rfl, co, hRL, rw_, nd, hlen⟩
    -- each row
    refine ⟨fun σ H6 => ∃ y7 y8 y9 y10 y11 y12 y13 G', σ = [some (.ref a), some (.ref p), some (.ref VL), some va, some vb, some (.ref RL), y6, y7, y8, y9, y10, y11, y12, y13, none, none, none, none, none] ∧ Gro G H5 G' H6, ?_, ?_⟩
    · refine ⟨_, rfl, RL, rfl, ⟨_, .inl (.inl (co.ex _ _ hRL))⟩, ?_⟩
      refine for_list (xs := rs) (fun i σ H' => ∃ y7 y8 y9 y10 y11 y12 y13 G', σ = [some (.ref a), some (.ref p), some (.ref VL), some va, some vb, some (.ref RL), y6, y7, y8, y9, y10, y11, y12, y13, none, none, none, none, none] ∧ Gro G H5 G' H')
        ⟨_, _, _, _, _, _, _, G, rfl, .refl co.ex⟩ (fun i σ H' _ ⟨_, _, _, _, _, _, _, G', _, g⟩ => .inl (.inl (g.exH _ _ (co.ex _ _ hRL)))) ?_ (fun σ H' h => h)
      rintro i x σ H' hx ⟨y7, y8, y9, y10, y11, y12, y13, G', rfl, g⟩
      have co' := co.gro g
      obtain ⟨o, _, row⟩ := (rw_.mono (g.ex co.ex)).get hx
      obtain ⟨t, o2, f1, s1, h1, C, dx, dy, fs, gs, xs, ys, zs, ds, rfl, k1, k2, k3, k4, k5, k6, k7, k8, k9, k10, k11, k12⟩ := row
      have ft : Fit (.list (ds.map cp)) := fit_ds co.m1 co.m2 k12
      refine ⟨t, _, rfl, .inl (.inl (co'.ex _ _ k1)), rfl, _, _, rfl, _, _, rfl, _, _, rfl, _, _, rfl, _, _, rfl, _, _, rfl, rfl, ?_⟩
      -- due
      refine ⟨_, rfl, h1, rfl, ⟨_, .inl (.inl (co'.ex _ _ k10))⟩, fun D hD => ?_⟩
      have hDk := ex_none co'.ex hD
      refine lc_list (xs := xs) (fun i H6 => ∃ G6 vs, Ex G' G6 ∧ (∀ b, H' b ≠ none → b ≠ D → H6 b = H' b ∧ G6 b = G' b) ∧ Ex G6 H6 ∧ G6 D = none ∧ H6 D = some (.lst vs) ∧ Vds G6 vs ((ds.map cp).take i) ∧ vs.length = i)
        ⟨G', [], fun _ _ e => e, fun b hb bD => ⟨upd_ne bD, rfl⟩, ex_put co'.ex hDk, hDk, upd_at, .nil, rfl⟩ (fun i H6 _ ⟨G6, vs, e6, _, s6, _⟩ => .inl (.inl (s6 _ _ (e6 _ _ k10)))) ?_ ?_
      · rintro i x H6 hx ⟨G6, vs, e6, o6, s6, gD, hD6, hvs, lv⟩
        obtain ⟨d, hd, hv⟩ := vds_get k11 hx
        refine ⟨rfl, _, rfl, x, d, G6, rfl, s6, Vd.mono e6 hv, fun v' G7 H7 g7 hv' => ?_⟩
        have D7 := g7.old D (by rw [hD6]; exact fun z => nomatch z)
        have hxl : i < xs.length := (List.getElem?_eq_some_iff.mp hx).1
        have hl2 : xs.length ≤ 2 := by
          rw [k11.length]
          rcases k12 with rfl | rfl
          · exact show (1 : Nat) ≤ 2 by decide
          · exact show (2 : Nat) ≤ 2 by decide
        refine ⟨vs, D7.1.trans hD6, by rw [sizeLine_eq]; omega, G7, vs ++ [v'], e6.tr (g7.ex s6), fun b hb bD => ?_, ex_put g7.sub (D7.2.trans gD), D7.2.trans gD, upd_at, ?_, by simp [lv]⟩
        · obtain ⟨q1, q2⟩ := o6 b hb bD
          obtain ⟨q3, q4⟩ := g7.old b (by rw [q1]; exact hb)
          exact ⟨(upd_ne bD).trans (q3.trans q1), q4.trans q2⟩
        · rw [List.take_succ, List.getElem?_map, hd]
          exact vds_snoc (Vds.mono (g7.ex s6) hvs) hv'
      · rintro H6 ⟨G6, vs, e6, o6, s6, gD, hD6, hvs, lv⟩
        rw [k11.length, ← List.length_map (f := cp), List.take_length] at hvs
        have g6 : Gro G' H' G6 H6 := ⟨fun b hb => o6 b hb fun z => hb (by rw [z]; exact hD), s6⟩
        refine ⟨.ref D, .list (ds.map cp), rfl, .lst hD6 (Vds.mono s6 hvs), ft, ?_⟩
        have e16 := e6.tr s6
        refine ⟨_, rfl, true, true, rfl, rfl, _, rfl, ite_no rfl ?_⟩
        refine ⟨_, rfl, .ref f1, .list (ds.map cp), rfl, .lst (e16 _ _ k6) (Vds.mono e16 k7), ft, _, rfl, rfl, _, rfl, ite_no (by simp) ?_⟩
        refine ⟨_, rfl, .ref s1, .list (ds.map cp), rfl, .lst (e16 _ _ k8) (Vds.mono e16 k9), ft, _, rfl, rfl, _, rfl, ite_no (by simp) ?_⟩
        refine ⟨_, rfl, _, rfl, o, o, C, C, dx, dx, fs, fs, rfl, rfl, e16 _ _ k3, e16 _ _ k3, k5.eqo, k5.eqo, .inl rfl, _, rfl, ite_no (by simp) ?_⟩
        refine ⟨_, rfl, _, rfl, o, o2, C, C, dx, dy, fs, gs, rfl, rfl, e16 _ _ k3, e16 _ _ k4, k5.eqo, k5.eqo, .inl rfl, _, rfl, ite_no (by simp [k2]) ?_⟩
        exact ⟨_, _, _, _, _, _, _, G6, rfl, g.tr g6⟩
    rintro σ H6 ⟨y7, y8, y9, y10, y11, y12, y13, G', rfl, g⟩
    have exG := g.ex co.ex
    replace co := co.gro g
    replace hRL := exG _ _ hRL
    replace rw_ := rw_.mono exG
    clear g exG G
    have gRL : RL ≠ p := fun z => by rw [z, co.gp] at hRL; cases hRL
    refine ⟨fun σ H7 => ∃ y7 y8 y9 y10 y11 y12 y13 y14 y15, σ = [some (.ref a), some (.ref p), some (.ref VL), some va, some vb, some (.ref RL), y6, y7, y8, y9, y10, y11, y12, y13, y14, y15, none, none, none] ∧ Ex G' H7, ?_, ?_⟩
    · refine ⟨_, rfl, RL, _, rfl, .inl (.inl (.inl (co.ex _ _ hRL))), (rs.length : Int), rfl, by omega, by omega, ?_⟩
      refine for_range (lo := 0) (n := rs.length) (fun i σ H' => ∃ y7 y8 y9 y10 y11 y12 y13 y14 y15, σ = [some (.ref a), some (.ref p), some (.ref VL), some va, some vb, some (.ref RL), y6, y7, y8, y9, y10, y11, y12, y13, y14, y15, none, none, none] ∧ Ex G' H' ∧ PenAt H' p L (8 + i))
        ⟨_, _, _, _, _, _, _, _, _, rfl, co.ex, pen_le (by omega) co.pen⟩ ?_ (fun σ H' ⟨y7, y8, y9, y10, y11, y12, y13, y14, y15, e, x, _⟩ => ⟨y7, y8, y9, y10, y11, y12, y13, y14, y15, e, x⟩)
      rintro i σ H' hi ⟨y7, y8, y9, y10, y11, y12, y13, y14, y15, rfl, ex, pen⟩
      have hRL' : ∀ {H9 : Hp}, Ex G' H9 → SqL K H9 RL rs := fun e => .inl (.inl (e _ _ hRL))
      refine ⟨_, rfl, _, rfl, _, 1, rfl, rfl, _, rfl, _, rfl, RL, _, rfl, .inl (hRL' ex), _, 1, rfl, rfl, p, L, _, _, rfl, by omega, by omega, pen, by omega, fun r H8 r0 r1 pen8 kp8 old8 => ?_⟩
      have ex8 : Ex G' H8 := fun b o e => kp8 b o (fun z => by rw [z, co.gp] at e; cases e) (ex _ _ e)
      obtain ⟨j, hj⟩ : ∃ j : Nat, (0 + (i : Int) + 1 + r) % (rs.length : Int) = (j : Int) := ⟨((0 + (i : Int) + 1 + r) % (rs.length : Int)).toNat, by have := Int.emod_nonneg (0 + (i : Int) + 1 + r) (show (rs.length : Int) ≠ 0 by omega); omega⟩
      have hjl : j < rs.length := by
        have := Int.emod_lt_of_pos (0 + (i : Int) + 1 + r) (show (0 : Int) < rs.length by omega)
        omega
      have hij : j ≠ i := by
        rintro rfl
        rw [hlen] at hj r1
        omega
      obtain ⟨oj, hoj, rowj⟩ := rw_.get (List.getElem?_eq_getElem hjl)
      obtain ⟨oi, hoi, rowi⟩ := rw_.get (List.getElem?_eq_getElem hi)
      have hne : oi ≠ oj := by
        rintro rfl
        exact hij ((List.getElem?_inj (by rw [← rw_.len]; exact hjl) nd).mp (hoj.trans hoi.symm))
      obtain ⟨t, o2, f1, s1, h1, C, dx, dy, fs, gs, xs, ys, zs, ds, ej, k1, k2, k3, k4, k5, _⟩ := rowj
      obtain ⟨t', o2', f1', s1', h1', C', dx', dy', fs', gs', xs', ys', zs', ds', ei, m1, m2, m3, m4, m5, _⟩ := rowi
      refine ⟨_, _, rfl, rfl, .inl ⟨_, rfl, _, rfl, RL, _, rfl, .inl (hRL' ex8), _, _, rfl, rfl, by omega, ?_⟩⟩
      refine ⟨RL, rs, _, rs[j], rfl, rfl, hRL' ex8, by rw [hj]; exact atI_nat (List.getElem?_eq_getElem hjl), ?_⟩
      rw [ej]
      refine ⟨t, _, 0, .ref oj, rfl, rfl, .inl (.inl (ex8 _ _ k1)), rfl, ?_⟩
      have getI : atI rs (0 + (i : Int)) = some (.ref t') := by
        have e0 : (0 + (i : Int)) = (i : Int) := by omega
        rw [e0, ← ei]
        exact atI_nat (List.getElem?_eq_getElem hi)
      have qi := ex8 _ _ m3
      have qj := ex8 _ _ k3
      have ti : SqT K H8 t' _ := .inl (.inl (ex8 _ _ m1))
      refine ⟨_, rfl, _, rfl, RL, rs, _, _, rfl, rfl, hRL' ex8, getI, t', _, 0, .ref oi, rfl, rfl, ti, rfl, _, rfl, oi, oj, C', C, dx', dx, fs', fs, rfl, rfl, qi, qj, m5.eqo, k5.eqo, k5.mro.sub _, _, rfl, ite_no (by simp [hne]) ?_⟩
      refine ⟨_, rfl, _, rfl, _, rfl, RL, rs, _, _, rfl, rfl, hRL' ex8, getI, t', _, 0, .ref oi, rfl, rfl, ti, rfl, oj, oi, C, C', dx, dx', fs, fs', rfl, rfl, qj, qi, k5.eqo, m5.eqo, m5.mro.sub _, _, rfl, ite_no (by simp [Ne.symm hne]) ?_⟩
      refine ⟨_, rfl, _, rfl, RL, rs, _, _, rfl, rfl, hRL' ex8, getI, t', _, 0, .ref oi, rfl, rfl, ti, rfl, _, rfl, oi, oj, C', C, dx', dx, fs', fs, rfl, rfl, qi, qj, m5.eqo, k5.eqo, k5.mro.sub _, hne, _, rfl, ite_no rfl ?_⟩
      exact ⟨_, _, _, _, _, _, _, _, _, rfl, ex8, pen_le (by omega) pen8⟩
    rintro σ H7 ⟨y7', y8', y9', y10', y11', y12', y13', y14', y15', rfl, ex7⟩
    -- the last one
    have sm1 := fit1 (sm_of co.m1)
    refine ⟨fun σ H8 => ∃ o dx v' G8, σ = [some (.ref a), some (.ref p), some (.ref VL), some va, some vb, some (.ref RL), y6, y7', y8', y9', y10', y11', y12', y13', y14', y15', some (.ref o), none, none] ∧ Ex G' G8 ∧ Ex G8 H8 ∧ G8 o = some (.ins cS dx [("ends", v')]) ∧ Vd G8 v' (cp d1), ?_, ?_⟩
    · refine ⟨_, rfl, VL, _, 0, v1, rfl, rfl, .inl (.inl (ex7 _ _ co.vl)), rfl, fun o dx f1 f2 f3 => ⟨o, cS, dx, v1, d1, G', rfl, upd_at, BS.k.ins.cl, naS, madeA ex7 f1 f2 f3, ex_none ex7 f1, co.e1, fun v' G1 H8 i1 k1 hv => ⟨rfl, ?_⟩⟩⟩
      obtain ⟨g1, x1⟩ := madeB ex7 f1 f2 i1 k1
      exact ⟨o, dx, v', _, rfl, g1.ex ex7, g1.sub, upd_at, Vd.mono x1 hv⟩
    rintro σ H8 ⟨o, dx, v', G8, rfl, e8, x8, ko, hv⟩
    refine ⟨fun σ H9 => H9 = H8 ∧ σ = [some (.ref a), some (.ref p), some (.ref VL), some va, some vb, some (.ref RL), y6, y7', y8', y9', y10', y11', y12', y13', y14', y15', some (.ref o), some (.str (cp d1).shown), none], ?_, ?_⟩
    · exact ⟨_, rfl, o, cS, dx, _, v', rfl, x8 _ _ ko, BS.k.ins.cl, naS, by simp, v', cp d1, rfl, Vd.mono x8 hv, sm1, rfl, rfl⟩
    rintro σ _ ⟨rfl, rfl⟩
    refine ⟨fun σ H9 => σ = [some (.ref a), some (.ref p), some (.ref VL), some va, some vb, some (.ref RL), y6, y7', y8', y9', y10', y11', y12', y13', y14', y15', some (.ref o), some (.str (cp d1).shown), none] ∧ H9 o = some (.ins cS dx [("ends", v')]) ∧ H9 RL = some (.lst rs) ∧ Vd H9 v' (cp d1), ?_, ?_⟩
    · have hv1 := Vd.mono (e8.tr x8) co.e1
      have hVL : SqL K _ VL [v1, v2] := .inl (.inl (x8 _ _ (e8 _ _ co.vl)))
      obtain ⟨t, ty, k⟩ := vd_isi (K := K) hv1
      refine ⟨_, rfl, VL, _, 0, v1, rfl, rfl, hVL, rfl, _, _, t, _, _, rfl, .ty "list", ty, k, _, rfl, ?_⟩
      have keep := x8 _ _ ko
      have keepR := x8 _ _ (e8 _ _ hRL)
      have hvv := Vd.mono x8 hv
      have mo := mOk_of co.m1
      clear ty k
      cases hv1 with
      | @lst z ys ds h tv =>
        have mo' : (decide (ds.length ≤ 3) && ds.all (fl1 ds.length)) = true := mo
        rw [Bool.and_eq_true] at mo'
        have l3 : ds.length ≤ 3 := of_decide_eq_true mo'.1
        have ly := tv.length
        refine ite_yes rfl ⟨_, rfl, VL, _, 0, .ref z, rfl, rfl, hVL, rfl, .inl ⟨rfl, _, .inl (.inl h)⟩, z, ys, _, rfl, rfl, h, by rw [sizeLine_eq]; omega, rfl, ?_, ?_, ?_⟩
        · exact (upd_ne (fun e => by rw [e, h] at keep; cases keep)).trans keep
        · by_cases e : RL = z
          · rw [e, h] at keepR
            cases keepR
            omega
          · exact (upd_ne e).trans keepR
        · exact vd_cpl hvv h (by rw [ly]; exact mo'.2)
      | non => exact ite_no rfl ⟨rfl, keep, keepR, hvv⟩
      | bl b => exact ite_no rfl ⟨rfl, keep, keepR, hvv⟩
      | int i => exact ite_no rfl ⟨rfl, keep, keepR, hvv⟩
      | str x => exact ite_no rfl ⟨rfl, keep, keepR, hvv⟩
      | tup h t => exact ite_no rfl ⟨rfl, keep, keepR, hvv⟩
      | dct h l t => exact ite_no rfl ⟨rfl, keep, keepR, hvv⟩
    rintro σ H9 ⟨rfl, ho, hR, hv9⟩
    refine ⟨_, rfl, o, cS, dx, _, v', rfl, ho, BS.k.ins.cl, naS, by simp, v', cp d1, rfl, hv9, sm1, _, rfl, rfl, _, rfl, ite_yes (by simp) ?_⟩
    refine ⟨_, rfl, RL, rs, rfl, .inl (.inl (.inl hR)), rfl, ?_⟩
    have e31 : decide (V.int (rs.length : Int) = V.int 31) = true := by rw [hlen]; exact decide_eq_true rfl
    rw [e31]
    exact q _
end
end K82
/-! ### a head with sys.modules in sight and more facts -/
namespace Hx
open PySem PySem.Spec PyProof.Rows L2 He
def obsE (fa : List Fa) (fn : List DefD) (ex : PySem.W.Frag → Bool) (K : PySem.W.Frag) : AlD := (((fa.all fun f => f.ok K) && fn.all fun d => d.ok K) && ex K, fn.map fun d => fnW K d.at_)
def obsEG (n : Nat) (fa : List Fa) (fn : List DefD) (ex : PySem.W.Frag → Bool) (g : Addr → Option Obj) : AlD := obsE fa fn ex (frG g (sysModules :: asD g n))
theorem says_of {fa : List Fa} {fn : List DefD} {ex : PySem.W.Frag → Bool} {K : PySem.W.Frag} (h : obsE fa fn ex K = valD fn) : SaysD fa fn K ∧ ex K = true := by
  have h1 : (((fa.all fun f => f.ok K) && fn.all fun d => d.ok K) && ex K) = true := congrArg (fun z : AlD => z.1) h
  have h2 : fn.map (fun d => fnW K d.at_) = fn.map DefD.val := congrArg (fun z : AlD => z.2) h
  obtain ⟨h3, h4⟩ := ba h1
  refine ⟨?_, h4⟩
  show ((fa.all fun f => f.ok K) && fn.all fun d => d.ok K, fn.map fun d => fnW K d.at_) = (true, fn.map DefD.val)
  rw [h3, h2]
def hookE (n : Nat) (fa : List Fa) (fn : List DefD) (ex : PySem.W.Frag → Bool) : PySem.W.Hook where
  α := AlD
  obs := fun s => obsEG n fa fn ex s.heap.get?
  val := fun _ => valD fn
  says := fun _ h => ∃ K : PySem.W.Frag, K.In h ∧ SaysD fa fn K ∧ ex K = true
  of := fun _ _ e => ⟨_, frG_in, says_of e⟩
  keeps := fun _ _ _ ⟨K, hK, c⟩ k => ⟨K, PySem.W.Frag.In.keeps hK k, c⟩
theorem obsEG_eq {n : Nat} {fa : List Fa} {fn : List DefD} {ex : PySem.W.Frag → Bool} {g : Addr → Option Obj} {s : Shared} (h : ∀ a, g a = s.heap.get? a) : obsEG n fa fn ex g = (hookE n fa fn ex).obs s := by
  have e : g = s.heap.get? := funext h
  rw [e] <;> rfl
end Hx
namespace K82
open PySem PySem.Spec PyProof.Rows L2 Dt Idn He
/-! ### the head -/
def ckB (K : PySem.W.Frag) (x : Str) : Bool := (match PySem.W.clsIn K (ga K x) with
  | some cd => decide (cd.mro = [.ref (ga K x), .type "object"])
  | none => false) && (eqO (PySem.W.findIn K (.ref (ga K x)) "__eq__") (some (some (.builtin "object.__eq__"))) && (eqO (PySem.W.findIn K (.ref (ga K x)) "__ne__") (some (some (.builtin "object.__ne__"))) &&
  (eqO (PySem.W.findIn K (.ref (ga K x)) "__class__") (some (some (.builtin "object.__class__"))) && (eqO (PySem.W.specialIn K (.builtin "object.__class__") "__get__") (some (some (.builtin "getset_descriptor.__get__"))) && decide (PySem.W.takesIn K (.builtin "object.__class__") = some true)))))
theorem ck_ok {K : PySem.W.Frag} {x : Str} (h : ckB K x = true) (c : Cls K (ga K x)) : Ck K (ga K x) := by
  obtain ⟨h1, h⟩ := ba h
  obtain ⟨h2, h⟩ := ba h
  obtain ⟨h3, h⟩ := ba h
  obtain ⟨h4, h⟩ := ba h
  obtain ⟨h5, h6⟩ := ba h
  have mp : mroP K (ga K x) := by
    cases e : PySem.W.clsIn K (ga K x) with
    | none =>
      rw [e] at h1
      cases h1
    | some cd =>
      rw [e] at h1
      exact ⟨cd, e, of_decide_eq_true h1⟩
  have hm : PySem.W.mroIn K (ga K x) (.type "object") = some true := by
    obtain ⟨cd, e1, e2⟩ := mp
    unfold PySem.W.mroIn
    rw [e1]
    show (if cd.mro.isEmpty then none else some (cd.mro.contains (.type "object"))) = _
    rw [e2]
    simp
  refine ⟨⟨c, eqO_ok h4, eqO_ok h5, of_decide_eq_true h6, hm, ?_⟩, ⟨hm, eqO_ok h2, eqO_ok h3⟩, mp⟩
  unfold PySem.W.kitOne
  rw [if_pos (by simp)]
def clsNames : List Str := ["Solved", "Clash", "Filled", "Hole", "Carried", "Barred", "Nearest", "Settled", "Sent", "Kept", "Easiest", "Bars", "Within", "Outside", "Drives", "Loose", "Short", "Framed", "Curved", "Change", "Differs", "Standing", "Opened", "Few", "Endless", "LongRow", "Halves", "OddRound", "Told", "Untold", "Mended"]
def exB (K : PySem.W.Frag) : Bool := (K.lookup sysModules).isSome && clsNames.all (ckB K)
def fa : List Fa := [.glo "copied", .glo "_law_pen", .glo "_law_draw", .glo "_law_pick", .glo "_law_made_a", .glo "_law_made_b", .glo "_law_made_c", .glo "_law_value", .glo "_law_copy", .glo "law", .free "isinstance", .free "list", .free "tuple", .free "int", .free "len", .free "range", .free "repr", .glo "Solved", .cls "Solved", .mkr "Solved", .noat "Solved" "row", .glo "Clash", .cls "Clash", .mkr "Clash", .noat "Clash" "weights", .glo "Filled", .cls "Filled", .mkr "Filled", .noat "Filled" "rows", .glo "Hole", .cls "Hole", .mkr "Hole", .noat "Hole" "measure", .glo "Carried", .cls "Carried", .mkr "Carried", .noat "Carried" "reading", .glo "Barred", .cls "Barred", .mkr "Barred", .noat "Barred" "measure", .glo "Nearest", .cls "Nearest", .mkr "Nearest", .noat "Nearest" "reading", .noat "Nearest" "ends", .glo "Settled", .cls "Settled", .mkr "Settled", .noat "Settled" "rows", .glo "Sent", .cls "Sent", .mkr "Sent", .noat "Sent" "ends", .glo "Kept", .cls "Kept", .mkr "Kept", .noat "Kept" "reading", .glo "Easiest", .cls "Easiest", .mkr "Easiest", .noat "Easiest" "ends", .noat "Easiest" "heights", .glo "Bars", .cls "Bars", .mkr "Bars", .noat "Bars" "bars", .noat "Bars" "bases", .glo "Within", .cls "Within", .mkr "Within", .noat "Within" "weights", .glo "Outside", .cls "Outside", .mkr "Outside", .noat "Outside" "measure", .glo "Drives", .cls "Drives", .mkr "Drives", .noat "Drives" "table", .glo "Loose", .cls "Loose", .mkr "Loose", .noat "Loose" "reading", .glo "Short", .cls "Short", .mkr "Short", .noat "Short" "measure", .glo "Framed", .cls "Framed", .mkr "Framed", .noat "Framed" "tables", .glo "Curved", .cls "Curved", .mkr "Curved", .noat "Curved" "way", .glo "Change", .cls "Change", .mkr "Change", .noat "Change" "places", .noat "Change" "ties", .glo "Differs", .cls "Differs", .mkr "Differs", .noat "Differs" "rows", .glo "Standing", .cls "Standing", .mkr "Standing", .noat "Standing" "measure", .glo "Opened", .cls "Opened", .mkr "Opened", .noat "Opened" "face", .glo "Few", .cls "Few", .mkr "Few", .noat "Few" "roots", .glo "Endless", .cls "Endless", .mkr "Endless", .noat "Endless" "row", .glo "LongRow", .cls "LongRow", .mkr "LongRow", .noat "LongRow" "widths", .noat "LongRow" "tables", .glo "Halves", .cls "Halves", .mkr "Halves", .noat "Halves" "lot", .glo "OddRound", .cls "OddRound", .mkr "OddRound", .noat "OddRound" "way", .glo "Told", .cls "Told", .mkr "Told", .noat "Told" "table", .glo "Untold", .cls "Untold", .mkr "Untold", .noat "Untold" "reading", .glo "Mended", .cls "Mended", .mkr "Mended", .noat "Mended" "reading", .noat "Mended" "places"]
def fn : List DefD := [⟨("copied", none), "copied", "copied", defArgs (top 1), defBody (top 1), defScope (top 1), [], []⟩, ⟨("_law_pen", none), "_law_pen", "_law_pen", defArgs (top 46), defBody (top 46), defScope (top 46), [], []⟩, ⟨("_law_draw", none), "_law_draw", "_law_draw", defArgs (top 47), defBody (top 47), defScope (top 47), [], []⟩, ⟨("_law_pick", none), "_law_pick", "_law_pick", defArgs (top 48), defBody (top 48), defScope (top 48), [], []⟩, ⟨("_law_made_a", none), "_law_made_a", "_law_made_a", defArgs (top 49), defBody (top 49), defScope (top 49), [], []⟩, ⟨("_law_made_b", none), "_law_made_b", "_law_made_b", defArgs (top 50), defBody (top 50), defScope (top 50), [], []⟩, ⟨("_law_made_c", none), "_law_made_c", "_law_made_c", defArgs (top 51), defBody (top 51), defScope (top 51), [], []⟩, ⟨("_law_value", none), "_law_value", "_law_value", defArgs (top 52), defBody (top 52), defScope (top 52), [], []⟩, ⟨("_law_copy", none), "_law_copy", "_law_copy", defArgs (top 53), defBody (top 53), defScope (top 53), [], []⟩, ⟨("law", none), "law", "law", defArgs (top 54), defBody (top 54), defScope (top 54), [], []⟩, ⟨("Solved", some "__init__"), "__init__", "Solved.__init__", defArgs (ini 3), defBody (ini 3), defScope (ini 3), [], []⟩, ⟨("Clash", some "__init__"), "__init__", "Clash.__init__", defArgs (ini 4), defBody (ini 4), defScope (ini 4), [], []⟩, ⟨("Filled", some "__init__"), "__init__", "Filled.__init__", defArgs (ini 6), defBody (ini 6), defScope (ini 6), [], []⟩, ⟨("Hole", some "__init__"), "__init__", "Hole.__init__", defArgs (ini 7), defBody (ini 7), defScope (ini 7), [], []⟩, ⟨("Carried", some "__init__"), "__init__", "Carried.__init__", defArgs (ini 8), defBody (ini 8), defScope (ini 8), [], []⟩, ⟨("Barred", some "__init__"), "__init__", "Barred.__init__", defArgs (ini 9), defBody (ini 9), defScope (ini 9), [], []⟩, ⟨("Nearest", some "__init__"), "__init__", "Nearest.__init__", defArgs (ini 11), defBody (ini 11), defScope (ini 11), [], []⟩, ⟨("Settled", some "__init__"), "__init__", "Settled.__init__", defArgs (ini 12), defBody (ini 12), defScope (ini 12), [], []⟩, ⟨("Sent", some "__init__"), "__init__", "Sent.__init__", defArgs (ini 14), defBody (ini 14), defScope (ini 14), [], []⟩, ⟨("Kept", some "__init__"), "__init__", "Kept.__init__", defArgs (ini 15), defBody (ini 15), defScope (ini 15), [], []⟩, ⟨("Easiest", some "__init__"), "__init__", "Easiest.__init__", defArgs (ini 16), defBody (ini 16), defScope (ini 16), [], []⟩, ⟨("Bars", some "__init__"), "__init__", "Bars.__init__", defArgs (ini 18), defBody (ini 18), defScope (ini 18), [], []⟩, ⟨("Within", some "__init__"), "__init__", "Within.__init__", defArgs (ini 20), defBody (ini 20), defScope (ini 20), [], []⟩, ⟨("Outside", some "__init__"), "__init__", "Outside.__init__", defArgs (ini 21), defBody (ini 21), defScope (ini 21), [], []⟩, ⟨("Drives", some "__init__"), "__init__", "Drives.__init__", defArgs (ini 22), defBody (ini 22), defScope (ini 22), [], []⟩, ⟨("Loose", some "__init__"), "__init__", "Loose.__init__", defArgs (ini 23), defBody (ini 23), defScope (ini 23), [], []⟩, ⟨("Short", some "__init__"), "__init__", "Short.__init__", defArgs (ini 24), defBody (ini 24), defScope (ini 24), [], []⟩, ⟨("Framed", some "__init__"), "__init__", "Framed.__init__", defArgs (ini 26), defBody (ini 26), defScope (ini 26), [], []⟩, ⟨("Curved", some "__init__"), "__init__", "Curved.__init__", defArgs (ini 27), defBody (ini 27), defScope (ini 27), [], []⟩, ⟨("Change", some "__init__"), "__init__", "Change.__init__", defArgs (ini 28), defBody (ini 28), defScope (ini 28), [], []⟩, ⟨("Differs", some "__init__"), "__init__", "Differs.__init__", defArgs (ini 30), defBody (ini 30), defScope (ini 30), [], []⟩, ⟨("Standing", some "__init__"), "__init__", "Standing.__init__", defArgs (ini 31), defBody (ini 31), defScope (ini 31), [], []⟩, ⟨("Opened", some "__init__"), "__init__", "Opened.__init__", defArgs (ini 32), defBody (ini 32), defScope (ini 32), [], []⟩, ⟨("Few", some "__init__"), "__init__", "Few.__init__", defArgs (ini 34), defBody (ini 34), defScope (ini 34), [], []⟩, ⟨("Endless", some "__init__"), "__init__", "Endless.__init__", defArgs (ini 35), defBody (ini 35), defScope (ini 35), [], []⟩, ⟨("LongRow", some "__init__"), "__init__", "LongRow.__init__", defArgs (ini 37), defBody (ini 37), defScope (ini 37), [], []⟩, ⟨("Halves", some "__init__"), "__init__", "Halves.__init__", defArgs (ini 39), defBody (ini 39), defScope (ini 39), [], []⟩, ⟨("OddRound", some "__init__"), "__init__", "OddRound.__init__", defArgs (ini 40), defBody (ini 40), defScope (ini 40), [], []⟩, ⟨("Told", some "__init__"), "__init__", "Told.__init__", defArgs (ini 42), defBody (ini 42), defScope (ini 42), [], []⟩, ⟨("Untold", some "__init__"), "__init__", "Untold.__init__", defArgs (ini 43), defBody (ini 43), defScope (ini 43), [], []⟩, ⟨("Mended", some "__init__"), "__init__", "Mended.__init__", defArgs (ini 44), defBody (ini 44), defScope (ini 44), [], []⟩]
theorem exB_ck {K : PySem.W.Frag} (h : exB K = true) {x : Str} (i : Nat) (hx : clsNames[i]? = some x) : ckB K x = true := List.all_eq_true.mp (ba h).2 x (List.mem_of_getElem? hx)
theorem exB_sys {K : PySem.W.Frag} (h : exB K = true) : Sys K := Option.isSome_iff_exists.mp (ba h).1
abbrev hk : PySem.W.Hook := Hx.hookE 5 fa fn exB
def ob (s : PySem.W.SharedT) : AlD := Hx.obsEG 5 fa fn exB (HandSHeadRun.getT s)
theorem ob_eq (s : PySem.W.SharedT) : ob s = hk.obs s.abs := Hx.obsEG_eq (HandSHeadRun.getT_eq s)
abbrev R : PySem.W.OpenRow := PySem.W.OpenLaw.row PySem.Challenge.rw_webrooms_k82_classes_made_by_hand
def loose : List Str := [("copied" : Str), ("_law_pen" : Str), ("_law_draw" : Str), ("_law_pick" : Str), ("_law_made_a" : Str), ("_law_made_b" : Str), ("_law_made_c" : Str), ("_law_value" : Str), ("_law_copy" : Str), ("Solved" : Str), ("Clash" : Str), ("Filled" : Str), ("Hole" : Str), ("Carried" : Str), ("Barred" : Str), ("Nearest" : Str), ("Settled" : Str), ("Sent" : Str), ("Kept" : Str), ("Easiest" : Str), ("Bars" : Str), ("Within" : Str), ("Outside" : Str), ("Drives" : Str), ("Loose" : Str), ("Short" : Str), ("Framed" : Str), ("Curved" : Str), ("Change" : Str), ("Differs" : Str), ("Standing" : Str), ("Opened" : Str), ("Few" : Str), ("Endless" : Str), ("LongRow" : Str), ("Halves" : Str), ("OddRound" : Str), ("Told" : Str), ("Untold" : Str), ("Mended" : Str)]
theorem run (w : World) : HandSHeadRun.RunEq R (PySem.W.view R.prog [54]) hk ob 60000 loose w := by
  intro os
  kernel_rfl
section
variable {P : Program} {w : World} {K : PySem.W.Frag} {h : Heap} {mg : Str → Option Value} {base : Heap}
theorem al_of (X : K.In h) (G : h.Ns mainGlobals mg) (c : SaysD fa fn K) (x : exB K = true) : Al P w K mg base := by
  obtain ⟨fd_copied, F_copied⟩ := c.def_ 0 rfl
  obtain ⟨fd__law_pen, F__law_pen⟩ := c.def_ 1 rfl
  obtain ⟨fd__law_draw, F__law_draw⟩ := c.def_ 2 rfl
  obtain ⟨fd__law_pick, F__law_pick⟩ := c.def_ 3 rfl
  obtain ⟨fd__law_made_a, F__law_made_a⟩ := c.def_ 4 rfl
  obtain ⟨fd__law_made_b, F__law_made_b⟩ := c.def_ 5 rfl
  obtain ⟨fd__law_made_c, F__law_made_c⟩ := c.def_ 6 rfl
  obtain ⟨fd__law_value, F__law_value⟩ := c.def_ 7 rfl
  obtain ⟨fd__law_copy, F__law_copy⟩ := c.def_ 8 rfl
  obtain ⟨fd_Solved, F_Solved⟩ := c.def_ 10 rfl
  have c_Solved : C1 K mg "Solved" "Solved.__init__" (ini 3) "row" := ⟨_, _, fd_Solved, ⟨glo_ok X G (c.fact 17 rfl), ck_ok (exB_ck x 0 rfl) (cls_ok (c.fact 18 rfl)), F_Solved, mkr_ok (c.fact 19 rfl)⟩, noat_ok (c.fact 20 rfl)⟩
  obtain ⟨fd_Clash, F_Clash⟩ := c.def_ 11 rfl
  have c_Clash : C1 K mg "Clash" "Clash.__init__" (ini 4) "weights" := ⟨_, _, fd_Clash, ⟨glo_ok X G (c.fact 21 rfl), ck_ok (exB_ck x 1 rfl) (cls_ok (c.fact 22 rfl)), F_Clash, mkr_ok (c.fact 23 rfl)⟩, noat_ok (c.fact 24 rfl)⟩
  obtain ⟨fd_Filled, F_Filled⟩ := c.def_ 12 rfl
  have c_Filled : C1 K mg "Filled" "Filled.__init__" (ini 6) "rows" := ⟨_, _, fd_Filled, ⟨glo_ok X G (c.fact 25 rfl), ck_ok (exB_ck x 2 rfl) (cls_ok (c.fact 26 rfl)), F_Filled, mkr_ok (c.fact 27 rfl)⟩, noat_ok (c.fact 28 rfl)⟩
  obtain ⟨fd_Hole, F_Hole⟩ := c.def_ 13 rfl
  have c_Hole : C1 K mg "Hole" "Hole.__init__" (ini 7) "measure" := ⟨_, _, fd_Hole, ⟨glo_ok X G (c.fact 29 rfl), ck_ok (exB_ck x 3 rfl) (cls_ok (c.fact 30 rfl)), F_Hole, mkr_ok (c.fact 31 rfl)⟩, noat_ok (c.fact 32 rfl)⟩
  obtain ⟨fd_Carried, F_Carried⟩ := c.def_ 14 rfl
  have c_Carried : C1 K mg "Carried" "Carried.__init__" (ini 8) "reading" := ⟨_, _, fd_Carried, ⟨glo_ok X G (c.fact 33 rfl), ck_ok (exB_ck x 4 rfl) (cls_ok (c.fact 34 rfl)), F_Carried, mkr_ok (c.fact 35 rfl)⟩, noat_ok (c.fact 36 rfl)⟩
  obtain ⟨fd_Barred, F_Barred⟩ := c.def_ 15 rfl
  have c_Barred : C1 K mg "Barred" "Barred.__init__" (ini 9) "measure" := ⟨_, _, fd_Barred, ⟨glo_ok X G (c.fact 37 rfl), ck_ok (exB_ck x 5 rfl) (cls_ok (c.fact 38 rfl)), F_Barred, mkr_ok (c.fact 39 rfl)⟩, noat_ok (c.fact 40 rfl)⟩
  obtain ⟨fd_Nearest, F_Nearest⟩ := c.def_ 16 rfl
  have c_Nearest : C2 K mg "Nearest" "Nearest.__init__" (ini 11) "reading" "ends" := ⟨_, _, fd_Nearest, ⟨glo_ok X G (c.fact 41 rfl), ck_ok (exB_ck x 6 rfl) (cls_ok (c.fact 42 rfl)), F_Nearest, mkr_ok (c.fact 43 rfl)⟩, noat_ok (c.fact 44 rfl), noat_ok (c.fact 45 rfl)⟩
  obtain ⟨fd_Settled, F_Settled⟩ := c.def_ 17 rfl
  have c_Settled : C1 K mg "Settled" "Settled.__init__" (ini 12) "rows" := ⟨_, _, fd_Settled, ⟨glo_ok X G (c.fact 46 rfl), ck_ok (exB_ck x 7 rfl) (cls_ok (c.fact 47 rfl)), F_Settled, mkr_ok (c.fact 48 rfl)⟩, noat_ok (c.fact 49 rfl)⟩
  obtain ⟨fd_Sent, F_Sent⟩ := c.def_ 18 rfl
  have c_Sent : C1 K mg "Sent" "Sent.__init__" (ini 14) "ends" := ⟨_, _, fd_Sent, ⟨glo_ok X G (c.fact 50 rfl), ck_ok (exB_ck x 8 rfl) (cls_ok (c.fact 51 rfl)), F_Sent, mkr_ok (c.fact 52 rfl)⟩, noat_ok (c.fact 53 rfl)⟩
  obtain ⟨fd_Kept, F_Kept⟩ := c.def_ 19 rfl
  have c_Kept : C1 K mg "Kept" "Kept.__init__" (ini 15) "reading" := ⟨_, _, fd_Kept, ⟨glo_ok X G (c.fact 54 rfl), ck_ok (exB_ck x 9 rfl) (cls_ok (c.fact 55 rfl)), F_Kept, mkr_ok (c.fact 56 rfl)⟩, noat_ok (c.fact 57 rfl)⟩
  obtain ⟨fd_Easiest, F_Easiest⟩ := c.def_ 20 rfl
  have c_Easiest : C2 K mg "Easiest" "Easiest.__init__" (ini 16) "ends" "heights" := ⟨_, _, fd_Easiest, ⟨glo_ok X G (c.fact 58 rfl), ck_ok (exB_ck x 10 rfl) (cls_ok (c.fact 59 rfl)), F_Easiest, mkr_ok (c.fact 60 rfl)⟩, noat_ok (c.fact 61 rfl), noat_ok (c.fact 62 rfl)⟩
  obtain ⟨fd_Bars, F_Bars⟩ := c.def_ 21 rfl
  have c_Bars : C2 K mg "Bars" "Bars.__init__" (ini 18) "bars" "bases" := ⟨_, _, fd_Bars, ⟨glo_ok X G (c.fact 63 rfl), ck_ok (exB_ck x 11 rfl) (cls_ok (c.fact 64 rfl)), F_Bars, mkr_ok (c.fact 65 rfl)⟩, noat_ok (c.fact 66 rfl), noat_ok (c.fact 67 rfl)⟩
  obtain ⟨fd_Within, F_Within⟩ := c.def_ 22 rfl
  have c_Within : C1 K mg "Within" "Within.__init__" (ini 20) "weights" := ⟨_, _, fd_Within, ⟨glo_ok X G (c.fact 68 rfl), ck_ok (exB_ck x 12 rfl) (cls_ok (c.fact 69 rfl)), F_Within, mkr_ok (c.fact 70 rfl)⟩, noat_ok (c.fact 71 rfl)⟩
  obtain ⟨fd_Outside, F_Outside⟩ := c.def_ 23 rfl
  have c_Outside : C1 K mg "Outside" "Outside.__init__" (ini 21) "measure" := ⟨_, _, fd_Outside, ⟨glo_ok X G (c.fact 72 rfl), ck_ok (exB_ck x 13 rfl) (cls_ok (c.fact 73 rfl)), F_Outside, mkr_ok (c.fact 74 rfl)⟩, noat_ok (c.fact 75 rfl)⟩
  obtain ⟨fd_Drives, F_Drives⟩ := c.def_ 24 rfl
  have c_Drives : C1 K mg "Drives" "Drives.__init__" (ini 22) "table" := ⟨_, _, fd_Drives, ⟨glo_ok X G (c.fact 76 rfl), ck_ok (exB_ck x 14 rfl) (cls_ok (c.fact 77 rfl)), F_Drives, mkr_ok (c.fact 78 rfl)⟩, noat_ok (c.fact 79 rfl)⟩
  obtain ⟨fd_Loose, F_Loose⟩ := c.def_ 25 rfl
  have c_Loose : C1 K mg "Loose" "Loose.__init__" (ini 23) "reading" := ⟨_, _, fd_Loose, ⟨glo_ok X G (c.fact 80 rfl), ck_ok (exB_ck x 15 rfl) (cls_ok (c.fact 81 rfl)), F_Loose, mkr_ok (c.fact 82 rfl)⟩, noat_ok (c.fact 83 rfl)⟩
  obtain ⟨fd_Short, F_Short⟩ := c.def_ 26 rfl
  have c_Short : C1 K mg "Short" "Short.__init__" (ini 24) "measure" := ⟨_, _, fd_Short, ⟨glo_ok X G (c.fact 84 rfl), ck_ok (exB_ck x 16 rfl) (cls_ok (c.fact 85 rfl)), F_Short, mkr_ok (c.fact 86 rfl)⟩, noat_ok (c.fact 87 rfl)⟩
  obtain ⟨fd_Framed, F_Framed⟩ := c.def_ 27 rfl
  have c_Framed : C1 K mg "Framed" "Framed.__init__" (ini 26) "tables" := ⟨_, _, fd_Framed, ⟨glo_ok X G (c.fact 88 rfl), ck_ok (exB_ck x 17 rfl) (cls_ok (c.fact 89 rfl)), F_Framed, mkr_ok (c.fact 90 rfl)⟩, noat_ok (c.fact 91 rfl)⟩
  obtain ⟨fd_Curved, F_Curved⟩ := c.def_ 28 rfl
  have c_Curved : C1 K mg "Curved" "Curved.__init__" (ini 27) "way" := ⟨_, _, fd_Curved, ⟨glo_ok X G (c.fact 92 rfl), ck_ok (exB_ck x 18 rfl) (cls_ok (c.fact 93 rfl)), F_Curved, mkr_ok (c.fact 94 rfl)⟩, noat_ok (c.fact 95 rfl)⟩
  obtain ⟨fd_Change, F_Change⟩ := c.def_ 29 rfl
  have c_Change : C2 K mg "Change" "Change.__init__" (ini 28) "places" "ties" := ⟨_, _, fd_Change, ⟨glo_ok X G (c.fact 96 rfl), ck_ok (exB_ck x 19 rfl) (cls_ok (c.fact 97 rfl)), F_Change, mkr_ok (c.fact 98 rfl)⟩, noat_ok (c.fact 99 rfl), noat_ok (c.fact 100 rfl)⟩
  obtain ⟨fd_Differs, F_Differs⟩ := c.def_ 30 rfl
  have c_Differs : C1 K mg "Differs" "Differs.__init__" (ini 30) "rows" := ⟨_, _, fd_Differs, ⟨glo_ok X G (c.fact 101 rfl), ck_ok (exB_ck x 20 rfl) (cls_ok (c.fact 102 rfl)), F_Differs, mkr_ok (c.fact 103 rfl)⟩, noat_ok (c.fact 104 rfl)⟩
  obtain ⟨fd_Standing, F_Standing⟩ := c.def_ 31 rfl
  have c_Standing : C1 K mg "Standing" "Standing.__init__" (ini 31) "measure" := ⟨_, _, fd_Standing, ⟨glo_ok X G (c.fact 105 rfl), ck_ok (exB_ck x 21 rfl) (cls_ok (c.fact 106 rfl)), F_Standing, mkr_ok (c.fact 107 rfl)⟩, noat_ok (c.fact 108 rfl)⟩
  obtain ⟨fd_Opened, F_Opened⟩ := c.def_ 32 rfl
  have c_Opened : C1 K mg "Opened" "Opened.__init__" (ini 32) "face" := ⟨_, _, fd_Opened, ⟨glo_ok X G (c.fact 109 rfl), ck_ok (exB_ck x 22 rfl) (cls_ok (c.fact 110 rfl)), F_Opened, mkr_ok (c.fact 111 rfl)⟩, noat_ok (c.fact 112 rfl)⟩
  obtain ⟨fd_Few, F_Few⟩ := c.def_ 33 rfl
  have c_Few : C1 K mg "Few" "Few.__init__" (ini 34) "roots" := ⟨_, _, fd_Few, ⟨glo_ok X G (c.fact 113 rfl), ck_ok (exB_ck x 23 rfl) (cls_ok (c.fact 114 rfl)), F_Few, mkr_ok (c.fact 115 rfl)⟩, noat_ok (c.fact 116 rfl)⟩
  obtain ⟨fd_Endless, F_Endless⟩ := c.def_ 34 rfl
  have c_Endless : C1 K mg "Endless" "Endless.__init__" (ini 35) "row" := ⟨_, _, fd_Endless, ⟨glo_ok X G (c.fact 117 rfl), ck_ok (exB_ck x 24 rfl) (cls_ok (c.fact 118 rfl)), F_Endless, mkr_ok (c.fact 119 rfl)⟩, noat_ok (c.fact 120 rfl)⟩
  obtain ⟨fd_LongRow, F_LongRow⟩ := c.def_ 35 rfl
  have c_LongRow : C2 K mg "LongRow" "LongRow.__init__" (ini 37) "widths" "tables" := ⟨_, _, fd_LongRow, ⟨glo_ok X G (c.fact 121 rfl), ck_ok (exB_ck x 25 rfl) (cls_ok (c.fact 122 rfl)), F_LongRow, mkr_ok (c.fact 123 rfl)⟩, noat_ok (c.fact 124 rfl), noat_ok (c.fact 125 rfl)⟩
  obtain ⟨fd_Halves, F_Halves⟩ := c.def_ 36 rfl
  have c_Halves : C1 K mg "Halves" "Halves.__init__" (ini 39) "lot" := ⟨_, _, fd_Halves, ⟨glo_ok X G (c.fact 126 rfl), ck_ok (exB_ck x 26 rfl) (cls_ok (c.fact 127 rfl)), F_Halves, mkr_ok (c.fact 128 rfl)⟩, noat_ok (c.fact 129 rfl)⟩
  obtain ⟨fd_OddRound, F_OddRound⟩ := c.def_ 37 rfl
  have c_OddRound : C1 K mg "OddRound" "OddRound.__init__" (ini 40) "way" := ⟨_, _, fd_OddRound, ⟨glo_ok X G (c.fact 130 rfl), ck_ok (exB_ck x 27 rfl) (cls_ok (c.fact 131 rfl)), F_OddRound, mkr_ok (c.fact 132 rfl)⟩, noat_ok (c.fact 133 rfl)⟩
  obtain ⟨fd_Told, F_Told⟩ := c.def_ 38 rfl
  have c_Told : C1 K mg "Told" "Told.__init__" (ini 42) "table" := ⟨_, _, fd_Told, ⟨glo_ok X G (c.fact 134 rfl), ck_ok (exB_ck x 28 rfl) (cls_ok (c.fact 135 rfl)), F_Told, mkr_ok (c.fact 136 rfl)⟩, noat_ok (c.fact 137 rfl)⟩
  obtain ⟨fd_Untold, F_Untold⟩ := c.def_ 39 rfl
  have c_Untold : C1 K mg "Untold" "Untold.__init__" (ini 43) "reading" := ⟨_, _, fd_Untold, ⟨glo_ok X G (c.fact 138 rfl), ck_ok (exB_ck x 29 rfl) (cls_ok (c.fact 139 rfl)), F_Untold, mkr_ok (c.fact 140 rfl)⟩, noat_ok (c.fact 141 rfl)⟩
  obtain ⟨fd_Mended, F_Mended⟩ := c.def_ 40 rfl
  have c_Mended : C2 K mg "Mended" "Mended.__init__" (ini 44) "reading" "places" := ⟨_, _, fd_Mended, ⟨glo_ok X G (c.fact 142 rfl), ck_ok (exB_ck x 30 rfl) (cls_ok (c.fact 143 rfl)), F_Mended, mkr_ok (c.fact 144 rfl)⟩, noat_ok (c.fact 145 rfl), noat_ok (c.fact 146 rfl)⟩
  have B : Bs K mg := ⟨free_ok X G (c.fact 10 rfl), free_ok X G (c.fact 11 rfl), free_ok X G (c.fact 12 rfl), free_ok X G (c.fact 13 rfl), free_ok X G (c.fact 14 rfl), free_ok X G (c.fact 15 rfl), free_ok X G (c.fact 16 rfl), ⟨_, _, F_copied, glo_ok X G (c.fact 0 rfl)⟩⟩
  have D : HasD K mg := ⟨_, _, F__law_draw, glo_ok X G (c.fact 2 rfl)⟩
  have Oa := ok_made_a (P := P) (w := w) (base := base) B F__law_made_a c_Bars c_Within c_Outside c_Drives c_Loose c_Short c_Framed c_Curved c_Change c_Sent c_Kept
  have Ob := ok_made_b (P := P) (w := w) (base := base) B F__law_made_b c_Easiest c_Differs c_Standing c_Opened c_Few c_Endless c_LongRow c_Nearest c_Settled c_Solved c_Clash
  have Oc := ok_made_c (P := P) (w := w) (base := base) B F__law_made_c c_Filled c_Hole c_Carried c_Barred c_Halves c_OddRound c_Told c_Untold c_Mended
  exact ⟨B, D, ⟨_, _, F__law_pen, glo_ok X G (c.fact 1 rfl)⟩, ⟨_, _, ok_value B D ⟨_, _, F__law_pick, glo_ok X G (c.fact 3 rfl)⟩ F__law_value, F__law_value, glo_ok X G (c.fact 7 rfl)⟩, ⟨_, _, F__law_copy, glo_ok X G (c.fact 8 rfl)⟩, ⟨_, _, Oa, F__law_made_a, glo_ok X G (c.fact 4 rfl)⟩, ⟨_, _, Ob, F__law_made_b, glo_ok X G (c.fact 5 rfl)⟩, ⟨_, _, Oc, F__law_made_c, glo_ok X G (c.fact 6 rfl)⟩, c_Sent, exB_sys x⟩
end
theorem facts {P : Program} {w : World} {K : PySem.W.Frag} {h : Heap} {mg : Str → Option Value} {f : Addr} (X : K.In h) (G : h.Ns mainGlobals mg) (hfa : mg ("law" : Str) = some (.ref f)) (c : SaysD fa fn K) (x : exB K = true) :
    ∃ fd : FuncData, (∀ (s : Shared) (v : Value), BindsTo s fd ⟨[v], []⟩ [("script", v)]) ∧ ∀ base : Heap, K.In base → base.Ns mainGlobals mg → Gd.FnG P w K mg base CX0 5 f fd ["script"] (spLaw K) := by
  obtain ⟨fd, F⟩ := c.def_ 9 rfl
  have e := hfa.symm.trans (glo_ok X G (c.fact 9 rfl))
  cases e
  have b := FunD.bindsA (ps := ["script"]) F fun _ _ _ _ _ _ us hl => match us, hl with | [_], _ => rfl
  exact ⟨fd, fun s v => b s [v] rfl, fun base KB GB => ok_law (al_of KB GB c x) F⟩
end K82
open PySem PySem.W PySem.Calls PyProof.Rows
theorem PySem.Challenge.cw_webrooms_k82_classes_made_by_hand_holds : PySem.Challenge.rw_webrooms_k82_classes_made_by_hand.Holds := by
  w_on; o_law
  refine HandSHeadRun.head_any (r := OpenLaw.row PySem.Challenge.rw_webrooms_k82_classes_made_by_hand) (q := view (OpenLaw.row PySem.Challenge.rw_webrooms_k82_classes_made_by_hand).prog [54]) (H := K82.hk) (ob := K82.ob) (M := 60000) (loose := K82.loose) (d := HandSHeadRun.topDef (OpenLaw.row PySem.Challenge.rw_webrooms_k82_classes_made_by_hand).prog 54) (kwd := []) K82.ob_eq
    (by kernel_rfl) (fun s => by kernel_rfl) K82.run (by kernel_rfl) (by kernel_rfl) (by kernel_rfl) (by rfl) (by first | assumption | decide +kernel) (by decide +kernel) ⟨rfl, rfl, rfl, rfl, rfl, by decide +kernel⟩ ?hw ?hc
  case hw => w_witness2
  case hc =>
    refine Gd.walk_ofG (l := PySem.Challenge.rw_webrooms_k82_classes_made_by_hand) (n := 63) (k := 5) (x := "script") (CX := L2.CX0) rfl (by decide) (by kernel_rfl) ⟨rfl, by decide, by decide⟩ ?F (fun _ _ _ _ z => z)
    intro w mg fa h Y G hmg0
    obtain ⟨K, KX, c, x⟩ := Y
    have hmg : mg ("law" : PySem.Str) = some (.ref fa) := by
      have e : (HandSHeadRun.topDef (OpenLaw.row PySem.Challenge.rw_webrooms_k82_classes_made_by_hand).prog 54).name = ("law" : PySem.Str) := by kernel_rfl
      rw [← e]
      exact hmg0
    obtain ⟨fd, hb, hF⟩ := K82.facts (P := (PySem.Challenge.rw_webrooms_k82_classes_made_by_hand).prog) (w := w) KX G hmg c x
    exact ⟨K, fd, K82.spLaw K, KX, hb, fun H a ns hl _ hS => ⟨a, ns, rfl, hS, by omega, fun _ => rfl⟩, hF⟩
